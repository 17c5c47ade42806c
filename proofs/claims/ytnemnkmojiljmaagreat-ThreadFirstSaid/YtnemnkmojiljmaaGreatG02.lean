/- Part 2. -/
import Derived.Conc.MuSpec
import Derived.Test.YtnemnkmojiljmaaGreatG01
set_option maxRecDepth 100000
set_option maxHeartbeats 0
set_option linter.all false
namespace Par
open Go
section
variable [Sh]
section
variable {P:Program} {F:Fit} {f:Nat->Nat} {α β γ δ:Type}
theorem NZ {op:BinOp} (ho:arith op=false) (t:TypeId) {a b:Value} (ha:vs F a=true) (hs:dM P F f Eq (Op.equal t a b) (Op.equal t (rv f a) (rv f b))):
 dM P F f (VR F f) (binOp op t a b) (binOp op t (rv f a) (rv f b)):=by
 have e:dM P F f (VR F f) (do pure (.bool (<-Op.equal t a b))) (do pure (.bool (<-Op.equal t (rv f a) (rv f b)))):=hs.dX λ_=>.ret VR.bool
 have n:dM P F f (VR F f) (do pure (.bool (!(<-Op.equal t a b)))) (do pure (.bool (!(<-Op.equal t (rv f a) (rv f b))))):=hs.dX λ_=>.ret VR.bool
 have ii:= λk x k' y=>AY (P:=P) (F:=F) (f:=f) op t k k' x y
 cases op<;>first |(cases ho;done)|skip
 all_goals
  cases a with
  |int k x=>
   cases b with
   |int k' y=>simp only [jM];exact ii k x k' y
   |_=>first |exact e|exact n
  |string x=>
   cases b with
   |string y=>simp only [gT];first |exact tV .eql x y|exact tV .neq x y
   |_=>first |exact e|exact n
  |float _ _=>simp at ha
  |complex _ _ _=>simp at ha
  |_=>first |exact e|exact n
theorem Uk (h:Rn P f) {op:BinOp} {t:TypeId} {x y:Operand} (ho:Uj P op t x y=true) {a b a' b':Value} (ha:VR F f a a') (hb:VR F f b b')
 (hx:∀v,x= .const v->a=v) (hy:∀v,y= .const v->b=v):dM P F f (VR F f) (do eqGuard op t x y a b;binOp op t a b) (do eqGuard op t x y a' b';binOp op t a' b'):=by
 obtain ⟨rfl,hsa⟩:=ha;obtain ⟨rfl,hsb⟩:=hb;refine (NY ho a b).dX λ_=>?_
 by_cases hop:arith op=true
 ·exact Kq h hop t ⟨rfl,hsa⟩ ⟨rfl,hsb⟩
 ·have hop':arith op=false:=by simpa using hop
  have he:Ui P t x y=true:=by cases op<;>first |exact ho|(cases hop';done)
  refine NZ hop' t hsa ?_
  unfold Ui at he;rw [Bool.or_eq_true] at he;rcases he with he|he
  ·rw [bD] at he;exact Gi h 8 _ t he.1 ⟨rfl,hsa⟩ ⟨rfl,hsb⟩
  ·rw [bD,Bool.or_eq_true] at he
   have hn:a= .pointer none∨a= .nilIface∨b= .pointer none∨b= .nilIface:=by
    rcases he.1 with h1|h1
    ·cases x with
     |const v=>
      have :=hx v rfl;subst this;cases a with
      |pointer p=>cases p<;>first |exact .inl rfl|cases h1
      |nilIface=>exact .inr (.inl rfl)
      |_=>cases h1
     |_=>cases h1
    ·cases y with
     |const v=>
      have :=hy v rfl;subst this;cases b with
      |pointer p=>cases p<;>first |exact .inr (.inr (.inl rfl))|cases h1
      |nilIface=>exact .inr (.inr (.inr rfl))
      |_=>cases h1
     |_=>cases h1
   cases hu:P.underlying t with
   |none=>rw [hu] at he;exact absurd he.2 (by simp)
   |some u=>
    rw [hu] at he;cases u with
    |pointer e=>exact Cw hu (.inl ⟨e,rfl⟩) hn
    |interface ms=>exact Cw hu (.inr ⟨ms,rfl⟩) hn
    |_=>exact absurd he.2 (by simp)
def N7 (P:Program) (src dst:TypeId):Bool:=
 match P.underlying src,P.underlying dst with
 |some (.int _),some (.int _)=>true
 |some .string,some .string=>true
 |some .string,some (.slice e)=>match P.underlying e with |some (.int .u8)=>true|_=>false
 |_,_=>false
theorem DZ (e:TypeId) (s:ByteArray):dM P F f (VR F f) (Conv.stringToBytes e s) (Conv.stringToBytes e s):=by
 unfold Conv.stringToBytes;refine (oQ _).dX λcap=>?_
 have hc:∀(n:Nat),lH F f (s.data.map (λb=>Value.int .u8 b.toNat)++Array.replicate n (.int .u8 0)) (s.data.map (λb=>Value.int .u8 b.toNat)++Array.replicate n (.int .u8 0)):=by
  intro n;refine ⟨?_, λx hx=>?_⟩
  ·rw [Array.map_append,Array.map_map,Array.map_replicate,jM];rw [show (rv f ∘ λb:UInt8=>Value.int .u8 b.toNat)= λb:UInt8=>Value.int .u8 b.toNat from funext λb=>by simp]
  ·rcases Array.mem_append.1 hx with hx|hx
   ·obtain ⟨b,_,rfl⟩:=Array.mem_map.1 hx;simp
   ·rw [(Array.mem_replicate.1 hx).2];simp
 have h1:=hc (cap - s.size)
 have x:=dM.sI (P:=P) (F:=F) (f:=f) (R:=VR F f) (e:=e)
  (k0:= λr z=>Sem.bind (match z with |some (_,n)=>freeze { block:=r,off:=n } 1|none=>Pure.pure ()) λ_=>Pure.pure (Value.slice (some ⟨r,0,none⟩) s.size cap))
  (k0':= λr z=>Sem.bind (match z with |some (_,n)=>freeze { block:=r,off:=n } 1|none=>Pure.pure ()) λ_=>Pure.pure (Value.slice (some ⟨r,0,none⟩) s.size cap))
  (k:= λr=>Pure.pure (Value.slice (some ⟨r,0,none⟩) s.size cap)) (k':= λr=>Pure.pure (Value.slice (some ⟨r,0,none⟩) s.size cap)) h1.2 (λr=>rfl) (λr=>rfl) (λr hr hl=>.pure ⟨by simp [F4 hl],by rw [jC];exact wI (by simpa using hr)⟩)
 rw [<-h1.1] at x
 have hm:∀C:Array Value,(newRow e C >>= λa=>markStringish a >>= λ_=>Pure.pure (Value.slice (some a) s.size cap))=Sem.new (.cells C e (0,0)) (λr=>Sem.shape r λz=>
  Sem.bind (match z with |some (_,n)=>freeze { block:=r,off:=n } 1|none=>Pure.pure ()) λ_=>Pure.pure (Value.slice (some ⟨r,0,none⟩) s.size cap)):=by
  intro C;show Sem.new _ _=Sem.new _ _;congr 1;funext r;show Sem.shape _ _=Sem.shape _ _;congr 1;funext z;cases z<;>rfl
 dsimp only;rw [hm];exact x
theorem N8 {src dst:TypeId} (ho:N7 P src dst=true) {v v':Value} (hv:VR F f v v'):dM P F f (VR F f) (convert src dst v) (convert src dst v'):=by
 obtain ⟨rfl,hs⟩:=hv;unfold convert;refine (fF src).bind ?_
 rintro u _ ⟨rfl,hu⟩;refine (fF dst).bind ?_
 rintro d _ ⟨rfl,hd⟩;unfold N7 at ho;rw [hu,hd] at ho;cases u with
 |int k=>
  cases d with
  |int k'=>
   cases v with
   |int k2 n=>simp only [jM];exact .ret VR.int
   |pointer a=>cases a<;>exact .bad trivial
   |float _ _=>simp at hs
   |complex _ _ _=>simp at hs
   |_=>exact .bad trivial
  |_=>cases ho
 |string=>
  cases d with
  |string=>
   cases v with
   |int k2 n=>simp only [jM];exact .ret VR.str
   |string s=>simp only [gT];exact .ret VR.str
   |float _ _=>simp at hs
   |complex _ _ _=>simp at hs
   |_=>exact .bad trivial
  |slice e=>
   cases v with
   |string s=>
    simp only [gT];refine (fF e).bind ?_
    rintro w _ ⟨rfl,hw⟩;dsimp only at ho;rw [hw] at ho;cases w with
    |int k=>cases k<;>first |(cases ho;done)|exact DZ e s
    |_=>cases ho
   |float _ _=>simp at hs
   |complex _ _ _=>simp at hs
   |slice a _ _=>cases a<;>exact .bad trivial
   |pointer a=>cases a<;>exact .bad trivial
   |_=>exact .bad trivial
  |_=>cases ho
 |_=>cases ho
theorem LV (kd:TypeDesc) (a b:Value):Instr.sameNow kd (rv f a) (rv f b)=Instr.sameNow kd a b:=by
 cases a with
 |int k n=>cases b<;>simp only [jM,nL,gT,wW,sH,eZ,fV,um,xY,uy,oH,lJ,uN,uo,wX]<;>cases kd<;>rfl
 |bool x=>cases b<;>simp only [jM,nL,gT,wW,sH,eZ,fV,um,xY,uy,oH,lJ,uN,uo,wX]<;>cases kd<;>rfl
 |string x=>cases b<;>simp only [jM,nL,gT,wW,sH,eZ,fV,um,xY,uy,oH,lJ,uN,uo,wX]<;>cases kd<;>rfl
 |_=>simp only [wW,sH,eZ,fV,um,xY,uy,oH,lJ,uN,uo,wX]<;>cases kd<;>rfl
def D5 (F:Fit) (f:Nat->Nat) (k:Value) (es:List MapEntry) (n:Nat) (x y:Option (Nat×Value)):Prop:=(x=none∧y=none)∨∃i v,x=some (n+i,v)∧y=some (n+i,rv f v)∧vs F v=true∧∃e,es[i]?=some e∧SB f e.key k
theorem D5.later {k:Value} {e:MapEntry} {es:List MapEntry} {n:Nat} {x y:Option (Nat×Value)} (h:D5 F f k es (n+1) x y):D5 F f k (e::es) n x y:=by
 rcases h with h|⟨i,v,h1,h2,h3,e',h4,h5⟩
 ·exact .inl h
 ·exact .inr ⟨i+1,v,by rw [h1];congr 2;omega,by rw [h2];congr 2;omega,h3,e',h4,h5⟩
theorem N9 {kd:TypeDesc} {a b:Value} (h:Instr.sameNow kd a b=some true):SB f b a:=by
 cases a<;>cases b<;>first |(simp [SB,Instr.sameBits];done)|(cases kd<;>cases h)
theorem EJ (kd:TypeDesc) (k:Value):∀(es:List MapEntry) (i:Nat),(∀e∈es,vs F e.val=true)->
 (Instr.findNow kd k es i=none∧Instr.findNow kd (rv f k) (es.map (re f)) i=none)∨∃x y,Instr.findNow kd k es i=some x∧Instr.findNow kd (rv f k) (es.map (re f)) i=some y∧D5 F f k es i x y
 | [],i,_=>.inr ⟨none,none,rfl,rfl,.inl ⟨rfl,rfl⟩⟩
 |e::es,i,h=>by
  simp only [aC,Instr.findNow,re,LV];cases hn:Instr.sameNow kd k e.key with
  |none=>exact .inl ⟨rfl,rfl⟩
  |some b=>
   cases b with
   |true=>exact .inr ⟨_,_,rfl,rfl,.inr ⟨0,_,rfl,rfl,h e (aQ ..),e,rfl,N9 hn⟩⟩
   |false=>exact (EJ kd k es (i+1) λe he=>h e (aR _ he)).imp id λ⟨x,y,h1,h2,h3⟩=>⟨x,y,h1,h2,h3.later⟩
def Oa (P:Program) (t:TypeId):Bool:=match P.underlying t with |some .bool|some (.int _)|some .string=>true|_=>false
theorem LX (h:Rn P f) {kt:TypeId} (ht:Oa P kt=true) (d:Nat) {x x' y y':Value} (hx:VR F f x x') (hy:VR F f y y'):dM P F f (λb b'=>b=b'∧(b=true->SB f y x)) (Op.equalIn (d+1) kt x y) (Op.equalIn (d+1) kt x' y'):=by
 unfold Oa at ht;cases hu:P.underlying kt with
 |none=>rw [hu] at ht;cases ht
 |some u=>
  rw [hu] at ht;cases u<;>first |(cases ht;done)|exact EI d hu hx hy|exact AX d hu hx hy|exact Gg h d hu hx hy
theorem Gp {kt:TypeId} (ht:Oa P kt=true):ZK P 8 kt=true:=by
 unfold Oa at ht;unfold ZK;cases hu:P.underlying kt with
 |none=>rw [hu] at ht;cases ht
 |some u=>
  rw [hu] at ht;cases u<;>first |(cases ht;done)|rfl
theorem AZ (h:Rn P f) {kt:TypeId} (ht:Oa P kt=true) {k:Value} (hk:vs F k=true):∀(es:List MapEntry) (i:Nat),(∀e∈es,vs F e.key=true∧vs F e.val=true)->
 dM P F f (D5 F f k es i) (Instr.findAsking kt k es i) (Instr.findAsking kt (rv f k) (es.map (re f)) i)
 | [],i,_=>.ret (.inl ⟨rfl,rfl⟩)
 |e::es,i,he=>by
  simp only [aC];unfold Instr.findAsking;refine (LX h ht 9999 ⟨rfl,hk⟩ ⟨rfl,(he e (aQ ..)).1⟩).bind ?_
  rintro b _ ⟨rfl,hb⟩;cases b with
  |true=>exact .ret (.inr ⟨0,_,rfl,rfl,(he e (aQ ..)).2,e,rfl,hb rfl⟩)
  |false=>exact (AZ h ht hk es (i+1) λe' he'=>he e' (aR _ he')).mono λ_ _ h=>h.later
theorem Bt (h:Rn P f) {kt:TypeId} (ht:Oa P kt=true) {k:Value} (hk:vs F k=true) (es:List MapEntry) (he:∀e∈es,vs F e.key=true∧vs F e.val=true):
 dM P F f (D5 F f k es 0) (Instr.findKey kt k es) (Instr.findKey kt (rv f k) (es.map (re f))):=by
 unfold Instr.findKey;refine (eG kt).dX λd=>?_
 rcases EJ (F:=F) (f:=f) d k es 0 (λe h=>(he e h).2) with ⟨h1,h2⟩|⟨x,y,h1,h2,h3⟩
 ·rw [h1,h2];exact AZ h ht hk es 0 he
 ·rw [h1,h2];exact .ret h3
theorem vQ (empty:Bool):∀(n d:Nat) (t:TypeId),ZK P n t=true->∀{v:Value},vs F v=true->dM P F f Eq (Instr.checkKey empty d t v) (Instr.checkKey empty d t (rv f v))
 |0,_,_,h0,_,_=>by cases h0
 |n+1,0,_,_,_,_=>.bad trivial
 |n+1,d+1,t,ht,v,hv=>by
  unfold Instr.checkKey;refine (fF t).bind ?_
  rintro u _ ⟨rfl,hu⟩;unfold ZK at ht;rw [hu] at ht;cases u with
  |struct fs=>
   rw [bD] at ht;cases v with
   |agg cs=>
    simp only [uo];refine dM.dX ?_ λr=>.ret rfl
    rw [<-Array.forIn_toList, <-Array.forIn_toList];refine Gf fs.toList _ λfl hfl s=>?_
    split
    ·refine (Cu fl.type ⟨rfl,pM.1 hv⟩ _).bind ?_
     rintro p _ ⟨rfl,hp⟩;exact (vQ empty n d fl.type (aV.1 ht.2 fl (by simpa using hfl)) hp).dX λ_=>.ret rfl
    ·exact .ret rfl
   |_=>exact .bad trivial
  |bool=>exact .ret rfl
  |int k=>exact .ret rfl
  |string=>exact .ret rfl
  |slice e=>exact .ret rfl
  |map k e=>exact .ret rfl
  |func a b c=>exact .ret rfl
  |_=>cases ht
def Cx (P:Program) (t:TypeId):Bool:=
 match P.underlying t with
 |some (.map k _)=>Oa P k
 |_=>false
theorem Ob (t:TypeId) {r r':Option Value} (hr:TJ F f r r'):dM P F f (VR F f) (Instr.makeMap t r) (Instr.makeMap t r'):=by
 unfold Instr.makeMap
 have fin:dM P F f (VR F f) (do pure (.map (some (<-newObj (.map #[] 0))))) (do pure (.map (some (<-newObj (.map #[] 0))))):=by
  refine dM.bind (by have :=uI (P:=P) (F:=F) (f:=f) (o:=.map #[] 0) (by intro e he;simp at he);simpa [ro] using this) ?_
  rintro r _ ⟨rfl,hr,_⟩;exact .ret ⟨by simp,by simpa using hr⟩
 rcases hr with ⟨rfl,rfl⟩|⟨v,rfl,rfl,hv⟩
 ·exact fin
 ·refine (eG t).dX λd=>?_
  cases d with
  |map k e=>exact (xk ⟨rfl,hv⟩).dX λ_=>fin
  |_=>exact .bad trivial
theorem Oc {es:Array MapEntry} (h:∀e∈es,vs F e.key=true∧vs F e.val=true):∀e∈es.toList,vs F e.key=true∧vs F e.val=true:= λe he=>h e (by simpa using he)
theorem Rj (h:Rn P f) {t:TypeId} (ho:Cx P t=true) {m m' k k':Value} (hm:VR F f m m') (hk:VR F f k k') (ok:Bool):dM P F f (VR F f) (Instr.lookup t m k ok) (Instr.lookup t m' k' ok):=by
 obtain ⟨rfl,hms⟩:=hm;obtain ⟨rfl,hks⟩:=hk;unfold Instr.lookup;refine (fF t).bind ?_
 rintro u _ ⟨rfl,hu⟩;unfold Cx at ho;rw [hu] at ho;cases u with
 |map kt e=>
  dsimp only at ho;dsimp -zeta only
  extract_lets j1 j2 j2'
  have hj1:∀{v v':Value} (b:Bool),VR F f v v'->dM P F f (VR F f) (j1 (v,b)) (j1 (v',b)):=by
   intro v v' b hv;dsimp only [j1];cases ok
   ·exact .ret hv
   ·exact .ret (VR.tuple ((lH.nil.push hv).push VR.bool))
  have hj2:∀es:Array MapEntry,(∀e∈es,vs F e.key=true∧vs F e.val=true)->dM P F f (VR F f) (j2 es) (j2' (es.map (re f))):=by
   intro es hes;dsimp only [j2,j2'];rw [show (es.map (re f)).isEmpty=es.isEmpty from by simp [Array.isEmpty],Array.toList_map];refine (vQ es.isEmpty 8 _ kt (Gp ho) hks).dX λ_=>?_
   refine (Bt h ho hks es.toList (Oc hes)).bind ?_
   rintro x y (⟨rfl,rfl⟩|⟨i,v,rfl,rfl,hv,e0,he0,hsb⟩)
   ·refine (F5 h.gQ e).bind ?_
    intro z z' hz;exact hj1 false hz
   ·exact hj1 true ⟨rfl,hv⟩
  cases m with
  |map r=>
   rw [um];cases r with
   |none=>
    have :=hj2 #[] (by intro e he;simp at he);rw [Array.map_empty] at this;exact this
   |some r=>
    refine (lD r (by simpa using hms)).bind ?_
    rintro o _ ⟨rfl,h1,h2⟩;cases o with
    |map es clock=>exact hj2 es h1
    |_=>exact .bad trivial
  |_=>exact .bad trivial
 |_=>cases ho
theorem yZ {a b:Value} (hab:SB f a b) (ha:vs F a=true) (hb:vs F b=true):dM P F f (VR F f) (Instr.keyThatStays a b) (Instr.keyThatStays (rv f a) (rv f b)):=by
 unfold Instr.keyThatStays;rw [show Instr.sameBits 10000 (rv f a) (rv f b)=_ from hab];split
 ·exact .ret ⟨rfl,hb⟩
 ·refine (oQ _).dX λn=>?_
  split
  ·exact .ret ⟨rfl,hb⟩
  ·exact .ret ⟨rfl,ha⟩
theorem lF (es:Array MapEntry) (i:Nat) (k:Value):(((es.map (re f))[i]?).map (·.key)).getD (rv f k)=rv f (((es[i]?).map (·.key)).getD k):=by
 rw [aG];cases es[i]?<;>rfl
theorem PW {es:Array MapEntry} (hes:∀e∈es,vs F e.key=true∧vs F e.val=true) (i:Nat) {k:Value} (hk:vs F k=true):vs F (((es[i]?).map (·.key)).getD k)=true:=by
 cases h:es[i]? with
 |none=>exact hk
 |some e=>exact (hes e (bn h)).1
theorem Bu {g g':MapEntry->MapEntry} (hg:∀e,re f (g e)=g' (re f e)) (es:Array MapEntry) (i:Nat):(es.modify i g).map (re f)=(es.map (re f)).modify i g':=by
 apply Array.ext
 ·simp
 ·intro j h1 h2;simp only [Array.getElem_map,Array.getElem_modify];split
  ·rw [hg]
  ·rfl
theorem D6 {g:MapEntry->MapEntry} {es:Array MapEntry} (hes:∀e∈es,vs F e.key=true∧vs F e.val=true) (hg:∀e,vs F e.key=true∧vs F e.val=true->vs F (g e).key=true∧vs F (g e).val=true) (i:Nat):
 ∀e∈es.modify i g,vs F e.key=true∧vs F e.val=true:=by
 intro e he;obtain ⟨j,hj⟩:=Array.getElem?_of_mem he;rw [bC] at hj;split at hj
 ·obtain ⟨x,hx,rfl⟩:=Option.map_eq_some_iff.1 hj;exact hg x (hes x (bn hx))
 ·exact hes e (bn hj)
theorem PX {es:Array MapEntry} (hes:∀e∈es,vs F e.key=true∧vs F e.val=true) {x:MapEntry} (hx:vs F x.key=true∧vs F x.val=true):∀e∈es.push x,vs F e.key=true∧vs F e.val=true:=
 λe he=>(Array.mem_push.1 he).elim (hes e) λh=>h ▸ hx
theorem xq (r:Nat) (hA:F.A r=true) {es es':Array MapEntry} (c:Nat) (hes:∀e∈es,vs F e.key=true∧vs F e.val=true) (e:es'=es.map (re f)):
 dM P F f Eq (setObj r (.map es c)) (setObj (f r) (.map es' c)):=by subst e;exact sK r hA (o:=.map es c) hes rfl
theorem Cy (h:Rn P f) {t:TypeId} (ho:Cx P t=true) {m m' k k' v v':Value} (hm:VR F f m m') (hk:VR F f k k') (hv:VR F f v v'):dM P F f Eq (Instr.mapUpdate t m k v) (Instr.mapUpdate t m' k' v'):=by
 obtain ⟨rfl,hms⟩:=hm;obtain ⟨rfl,hks⟩:=hk;obtain ⟨rfl,hvs⟩:=hv;unfold Instr.mapUpdate;refine (fF t).bind ?_
 rintro u _ ⟨rfl,hu⟩;unfold Cx at ho;rw [hu] at ho;cases u with
 |map kt e=>
  dsimp only at ho ⊢;cases m with
  |map r=>
   rw [um];cases r with
   |none=>exact fK _ _
   |some r=>
    have hA:F.A r=true:=by simpa using hms
    refine (lD r hA).bind ?_
    rintro o _ ⟨rfl,h1,h2⟩;cases o with
    |map es clock=>
     dsimp only [ro];rw [Array.toList_map];refine (vQ false 8 _ kt (Gp ho) hks).dX λ_=>?_
     refine (Bt h ho hks es.toList (Oc h1)).bind ?_
     rintro x y (⟨rfl,rfl⟩|⟨i,v0,rfl,rfl,hv0,e0,he0,hsb⟩)
     ·exact xq r hA _ (PX h1 ⟨hks,hvs⟩) (by rw [Array.map_push];rfl)
     ·simp only [Nat.zero_add];rw [lF];refine (yZ (show SB f (((es[i]?).map (·.key)).getD k) k by rw [show es[i]?=some e0 by simpa using he0];exact hsb) (PW h1 i hks) hks).bind ?_
      rintro k2 _ ⟨rfl,hk2⟩;exact xq r hA _ (D6 (g:= λe=>{ key:=k2,val:=v,born:=e.born }) h1 (λe _=>⟨hk2,hvs⟩) i) (Bu (g:= λe=>{ key:=k2,val:=v,born:=e.born }) (g':= λe=>{ key:=rv f k2,val:=rv f v,born:=e.born }) (λe=>rfl) es i).symm
    |_=>exact .bad trivial
  |_=>exact .bad trivial
 |_=>cases ho
theorem LY (h:Rn P f) {t:TypeId} (ho:Cx P t=true) {m m' k k':Value} (hm:VR F f m m') (hk:VR F f k k'):dM P F f (VR F f) (Instr.mapEntry t m k) (Instr.mapEntry t m' k'):=by
 obtain ⟨rfl,hms⟩:=hm;obtain ⟨rfl,hks⟩:=hk;unfold Instr.mapEntry;refine (fF t).bind ?_
 rintro u _ ⟨rfl,hu⟩;unfold Cx at ho;rw [hu] at ho;cases u with
 |map kt e=>
  dsimp only at ho ⊢;cases m with
  |map r=>
   rw [um];cases r with
   |none=>exact fK _ _
   |some r=>
    have hA:F.A r=true:=by simpa using hms
    refine (lD r hA).bind ?_
    rintro o _ ⟨rfl,h1,h2⟩;cases o with
    |map es clock=>
     dsimp only [ro];rw [Array.toList_map];refine (vQ false 8 _ kt (Gp ho) hks).dX λ_=>?_
     refine (Bt h ho hks es.toList (Oc h1)).bind ?_
     rintro x y (⟨rfl,rfl⟩|⟨i,v,rfl,rfl,hv,e0,he0,hsb⟩)
     ·refine (F5 h.gQ e).bind ?_
      rintro z _ ⟨rfl,hz⟩;refine (xq r hA _ (PX h1 ⟨hks,hz⟩) (by rw [Array.map_push];rfl)).dX λ_=>?_
      exact .ret (VR.tuple ((lH.nil.push ⟨rfl,hz⟩).push VR.goInt))
     ·simp only [Nat.zero_add];rw [lF];refine (yZ (show SB f (((es[i]?).map (·.key)).getD k) k by rw [show es[i]?=some e0 by simpa using he0];exact hsb) (PW h1 i hks) hks).bind ?_
      rintro k2 _ ⟨rfl,hk2⟩;refine (xq r hA _ (D6 (g:= λe=>{ key:=k2,val:=e.val,born:=e.born }) h1 (λe he=>⟨hk2,he.2⟩) i) (Bu (g:= λe=>{ key:=k2,val:=e.val,born:=e.born }) (g':= λe=>{ key:=rv f k2,val:=e.val,born:=e.born }) (λe=>rfl) es i).symm).dX λ_=>?_
      have eb:(((es.map (re f))[i]?).map (λe=>(e.born:Int))).getD 0=((es[i]?).map (λe=>(e.born:Int))).getD 0:=by
       rw [aG];cases es[i]?<;>rfl
      rw [eb];exact .ret (VR.tuple ((lH.nil.push ⟨rfl,hv⟩).push VR.goInt))
    |_=>exact .bad trivial
  |_=>exact .bad trivial
 |_=>cases ho
theorem I8 (t:TypeId) {m m' k k' v v':Value} (hm:VR F f m m') (hk:VR F f k k') (hv:VR F f v v'):dM P F f Eq (Instr.entryStore t m k v) (Instr.entryStore t m' k' v'):=by
 obtain ⟨rfl,hms⟩:=hm;obtain ⟨rfl,hvs⟩:=hv;unfold Instr.entryStore;cases m with
 |map r=>
  rw [um];cases r with
  |none=>exact .bad trivial
  |some r=>
   have hA:F.A r=true:=by simpa using hms
   refine (lD r hA).bind ?_
   rintro o _ ⟨rfl,h1,h2⟩;cases o with
   |map es clock=>
    dsimp only [ro];refine (xk hk).dX λborn=>?_
    have e1:(es.map (re f)).findIdx? (λe=>(e.born:Int)==born)=es.findIdx? (λe=>(e.born:Int)==born):=by
     rw [Array.findIdx?_map];rfl
    rw [e1];cases es.findIdx? (λe=>(e.born:Int)==born) with
    |none=>exact .bad trivial
    |some i=>exact xq r hA _ (D6 (g:= λe=>{ key:=e.key,val:=v,born:=e.born }) h1 (λe he=>⟨he.1,hvs⟩) i) (Bu (g:= λe=>{ key:=e.key,val:=v,born:=e.born }) (g':= λe=>{ key:=e.key,val:=rv f v,born:=e.born }) (λe=>rfl) es i).symm
   |_=>exact .bad trivial
 |_=>exact .bad trivial
end
end
section
variable [Sh]
section
variable {P:Program} {F:Fit} {f:Nat->Nat} {α β γ δ:Type}
theorem Ul (t:TypeId) {v v':Value} (hv:VR F f v v'):dM P F f (VR F f) (Instr.range t v) (Instr.range t v'):=by
 obtain ⟨rfl,hs⟩:=hv;unfold Instr.range;refine (eG t).dX λd=>?_
 have fin:∀o:Obj,oS F o->dM P F f (VR F f) (do pure (.pointer (some ⟨<-newObj o,0,none⟩))) (do pure (.pointer (some ⟨<-newObj (ro f o),0,none⟩))):=by
  intro o ho;refine (uI ho).bind ?_
  rintro r _ ⟨rfl,hr,hl⟩;exact .ret (VR.ptr ⟨(F4 hl).symm,hr⟩)
 cases d with
 |string=>
  cases v with
  |string s=>simp only [gT];exact fin (.stringIter s 0) trivial
  |_=>exact .bad trivial
 |map k e=>
  cases v with
  |map r=>
   rw [um];cases r with
   |none=>exact fin (.mapIter none 0 #[] 0) rfl
   |some r=>
    have hA:F.A r=true:=by simpa using hs
    refine (lD r hA).bind ?_
    rintro o _ ⟨rfl,h1,h2⟩;cases o with
    |map es clock=>exact fin (.mapIter (some r) clock #[] clock) hA
    |_=>exact .bad trivial
  |_=>exact .bad trivial
 |_=>cases v<;>exact .bad trivial
theorem Bv (es:Array MapEntry) (p:Nat->Bool):(es.map (re f)).filter (λe=>p e.born)=(es.filter λe=>p e.born).map (re f):=by
 rw [Array.filter_map];rfl
theorem Rk (old new:Array MapEntry):((if old.isEmpty then #[none] else #[])++((old++new).map (re f)).map some:Array (Option MapEntry))=((if old.isEmpty then #[none] else #[])++(old++new).map some:Array (Option MapEntry)).map (Option.map (re f)):=by
 split<;>simp [Function.comp_def]
theorem XO (t:TypeId) (ZI:Bool) {v v':Value} (hv:VR F f v v'):dM P F f (VR F f) (Instr.next v ZI t) (Instr.next v' ZI t):=by
 obtain ⟨rfl,hs⟩:=hv;unfold Instr.next;have over:dM P F f (VR F f) (Pure.pure (.tuple #[.bool false])) (Pure.pure (.tuple #[.bool false])):=.ret (VR.tuple (lH.nil.push VR.bool));cases v with
 |pointer a=>
  cases a with
  |none=>exact .bad trivial
  |some a=>
   obtain ⟨r,off,sp⟩:=a;cases off with
   |succ n=>exact .bad trivial
   |zero=>
    rw [eZ];have hA:F.A r=true:=by simpa using hs
    cases hl:Sh.lk r with
    |true=>exact dM.FX hA hl
    |false=>
    simp only [ay,F4 hl];refine (lD r hA).bind ?_
    rintro o _ ⟨rfl,h1,h2⟩;cases o with
    |stringIter s pos=>
     cases ZI with
     |false=>exact .bad trivial
     |true=>
      dsimp only [ro];split
      ·refine (sK r hA (o:=.stringIter s _) trivial rfl).dX λ_=>?_
       exact .ret (VR.tuple (((lH.nil.push VR.bool).push VR.goInt).push VR.int))
      ·exact over
    |mapIter m since seen last=>
     cases ZI with
     |true=>cases m<;>exact .bad trivial
     |false=>
      cases m with
      |none=>exact over
      |some m=>
       dsimp only [ro,ay];refine (lD m h1).bind ?_
       rintro o _ ⟨rfl,h3,_⟩;cases o with
       |map es clock=>
        dsimp only [ro]
        have e1:(!seen.isEmpty&&!(es.map (re f)).isEmpty&&(es.map (re f)).all (·.born ≥ last))=(!seen.isEmpty&&!es.isEmpty&&es.all (·.born ≥ last)):=by
         rw [Array.all_map,show (es.map (re f)).isEmpty=es.isEmpty from by simp [Array.isEmpty]];rfl
        have e2:(es.map (re f)).filter (λe=>!seen.contains e.born)=(es.filter λe=>!seen.contains e.born).map (re f):=Bv es λb=>!seen.contains b
        rw [e1,e2];split
        ·exact .bad trivial
        ·generalize hl:es.filter (λe=>!seen.contains e.born)=left;have hlm:∀e∈left,vs F e.key=true∧vs F e.val=true:= λe he=>h3 e (by rw [<-hl] at he;exact (Array.mem_filter.1 he).1)
         have e3:(left.map (re f)).filter (λe=>decide (e.born<since))=(left.filter λe=>decide (e.born<since)).map (re f):=Bv left λb=>decide (b<since)
         have e4:(left.map (re f)).filter (λe=>decide (e.born ≥ since))=(left.filter λe=>decide (e.born ≥ since)).map (re f):=Bv left λb=>decide (b ≥ since)
         rw [e3,e4];generalize ho:left.filter (λe=>decide (e.born<since))=old;generalize hn:left.filter (λe=>decide (e.born ≥ since))=new
         have hom:∀e∈old++new,vs F e.key=true∧vs F e.val=true:= λe he=>by
          rcases Array.mem_append.1 he with he|he
          ·rw [<-ho] at he;exact hlm e (Array.mem_filter.1 he).1
          ·rw [<-hn] at he;exact hlm e (Array.mem_filter.1 he).1
         rw [<-Array.map_append,show (old.map (re f)).isEmpty=old.isEmpty from by simp [Array.isEmpty]]
         have e5:((if old.isEmpty then #[none] else #[])++((old++new).map (re f)).map some:Array (Option MapEntry))=((if old.isEmpty then #[none] else #[])++(old++new).map some:Array (Option MapEntry)).map (Option.map (re f)):=by
          exact Rk old new
         rw [e5,Array.size_map];generalize hc:((if old.isEmpty then #[none] else #[])++(old++new).map some:Array (Option MapEntry))=ZL
         have hcm:∀e,some e∈ZL->vs F e.key=true∧vs F e.val=true:= λe he=>by
          rw [<-hc] at he;rcases Array.mem_append.1 he with he|he
          ·split at he<;>simp at he
          ·obtain ⟨x,hx,hxe⟩:=Array.mem_map.1 he;cases hxe;exact hom _ hx
         refine (oQ _).dX λn=>?_
         rw [aG];cases hg:ZL[n]? with
         |none=>exact .bad trivial
         |some c=>
          cases c with
          |none=>exact over
          |some e=>
           have he:=hcm e (bn hg);refine (sK r hA (o:=.mapIter (some m) since (seen.push e.born) clock) h1 rfl).dX λ_=>?_
           exact .ret (VR.tuple (((lH.nil.push VR.bool).push ⟨rfl,he.1⟩).push ⟨rfl,he.2⟩))
       |_=>exact .bad trivial
    |_=>cases ZI<;>exact .bad trivial
 |_=>exact .bad trivial
theorem Od {v v':Value} (hv:VR F f v v') (i:Nat):dM P F f (VR F f) (Instr.extract v i) (Instr.extract v' i):=by
 obtain ⟨rfl,hs⟩:=hv;unfold Instr.extract;cases v with
 |tuple vs=>
  rw [wX];have hv:lH F f vs (vs.map (rv f)):=⟨rfl,wZ.1 hs⟩;rcases hv.get i with ⟨h1,h2⟩|⟨v,h1,h2,h3⟩
  ·dsimp only;rw [h1];exact .bad trivial
  ·dsimp only;rw [h1,h2];exact .ret ⟨rfl,h3⟩
 |_=>exact .bad trivial
def NR (F:Fit) (f:Nat->Nat) (a b:Next):Prop:=
 match a with
 | .value v=>b= .value (rv f v)∧vs F v=true
 | .skip=>b= .skip
 | .enter g args=>b= .enter g (args.map (rv f))∧F.S g=true∧VS F args∧(F.V g=true∨args= #[])
 | .round l g t x y=>b= .round (f l) g (t.map (rv f)) x y∧F.A l=true∧F.S g=true∧VS F t∧F.code x=true∧F.code y=true
 |_=>False
structure LZ (P:Program) (F:Fit):Prop where
 body:∀g,F.S g=true->∃fn c,P.funcs[g]?=some fn∧fn.body=some c∧(fn.name== "runtime.NumGoroutine")=false∧F.code c=true
 sub:∀g,F.V g=true->F.S g=true
theorem EK (h:LZ P F) {g:FuncId} (hg:F.S g=true) {aS as':Array Value} (hv:F.V g=true∨aS= #[]) (ha:lH F f aS as'):dM P F f (NR F f) (callFunc g aS) (callFunc g as'):=by
 obtain ⟨fn,c,h1,h2,h3,_⟩:=h.body g hg;unfold callFunc
 refine .xe ?_ (λQ hQ=>by
  obtain ⟨hh,e1,e2⟩:=hQ.get g;obtain ⟨b,e3,e4⟩:=e2 fn;obtain ⟨c',hc'⟩:=Option.isSome_iff_exists.1 (e4 (by rw [h2];rfl));subst hc';rw [e1,h1];simp only [ay,e3,h3,h2];rfl)
 rw [h1];dsimp only;rw [h3];simp only [bE,if_false,h2,Option.isNone_some];exact .ret ⟨by rw [ha.1],hg,ha.2,hv⟩
theorem Oe {ps:List (Tmp×Value)}:∀{t t':Array Value},lH F f t t'->(∀x∈ps,vs F x.2=true)->
 lH F f (ps.foldl (λtmps (x:Tmp×Value)=>tmps.setIfInBounds x.1 x.2) t) ((ps.map λx=>(x.1,rv f x.2)).foldl (λtmps (x:Tmp×Value)=>tmps.setIfInBounds x.1 x.2) t'):=by
 induction ps with
 |nil=>intro t t' h _;exact h
 |cons p ps ih=>
  intro t t' h hp;simp only [aC,List.foldl_cons];refine ih ⟨by rw [h.1,Array.map_setIfInBounds], λy hy=>?_⟩ λx hx=>hp x (aR _ hx)
  rcases bI hy with hy|rfl
  ·exact h.2 y hy
  ·exact hp p (aQ ..)
theorem uR (l:Nat) (hA:F.A l=true):dM P F f (λa b=>b= { a with tmps:=a.tmps.map (rv f),defers:=f a.defers }∧oS F (.loop a)) (Instr.getLoop l) (Instr.getLoop (f l)):=by
 unfold Instr.getLoop;refine (lD l hA).bind ?_
 rintro o _ ⟨rfl,h1,h2⟩;cases o with
 |loop a=>exact .ret ⟨rfl,h1⟩
 |_=>exact .bad trivial
theorem Um (l:Nat) (hA:F.A l=true) {aS as':Array Value} (ha:lH F f aS as'):dM P F f (NR F f) (Instr.yield l aS) (Instr.yield (f l) as'):=by
 unfold Instr.yield;refine (uR l hA).bind ?_
 rintro r _ ⟨rfl,h1,h2,h3,h4,h5,h6⟩;dsimp only;rw [ha.size];split
 ·exact .bad trivial
 ·refine .ret ⟨?_,hA,h2,?_,h4,h5⟩
  all_goals
   have key:=Oe (F:=F) (f:=f) (ps:=(r.params.zip aS).toList) (t:=r.tmps) (t':=r.tmps.map (rv f)) ⟨rfl,h1⟩ (λx hx=>ha.2 x.2 (by
    have h7:(x.1,x.2)∈r.params.toList.zip aS.toList:=by simpa using hx
    simpa using (List.of_mem_zip h7).2))
  ·have e:(r.params.zip as').toList=(r.params.zip aS).toList.map λx=>(x.1,rv f x.2):=by
    rw [ha.1];simp [List.zip_map_right]
   have k1:=key.1;rw [<-Array.foldl_toList, <-Array.foldl_toList,e];exact congrArg (λt=>Next.round (f l) r.fn t r.assign r.body) k1
  ·rw [<-Array.foldl_toList];exact key.2
end
end
section
variable [Sh]
def cOk (F:Fit):Value->Bool
 | .func (.func g) a b=>F.V g&&a.isEmpty&&b.isEmpty
 |v=>uQ v
def fE (P:Program) (F:Fit):Operand->Bool
 | .tmp _=>true
 | .const v=>cOk F v
 | .global _=>false
 | .func g=>F.V g
def Gq (F:Fit):Operand->Bool
 | .func g=>F.S g
 | .const (.func (.func g) a b)=>F.S g&&a.isEmpty&&b.isEmpty
 |_=>false
def Jo:Builtin->Bool
 | .append| .cap| .copy| .len| .max| .min=>true
 |_=>false
def yg (P:Program) (F:Fit) (c:Call):Bool:=
 c.args.all (fE P F)&&match c.callee with
  | .value x=>fE P F x||(c.args.isEmpty&&Gq F x)
  | .builtin b=>Jo b
  | .invoke .. =>false
def lI (P:Program) (F:Fit):Op->Bool
 | .move x| .assign x| .nilCheck x| .unOp _ _ x| .box _ x| .load _ x| .field _ x _| .extract x _| .makeInterface _ x| .range _ x| .next x _=>fE P F x
 | .pick c a b=>fE P F c&&fE P F a&&fE P F b
 | .alloc _=>true
 | .build _ ps| .buildSlice _ _ ps=>ps.all λx=>fE P F x.2
 | .store _ a x| .makeSlice _ a x| .indexAddr _ a x| .index _ a x=>fE P F a&&fE P F x
 | .binOp op t x y _=>fE P F x&&fE P F y&&Uj P op t x y
 | .convert s d x=>fE P F x&&N7 P s d
 | .makeFunc fn a b=>ZF F fn&&(match fn with | .yield _=>false|_=>true)&&a.all (fE P F)&&b.all (fE P F)
 | .makeMap _ r=>r.all (fE P F)
 | .slice _ x l h m=>fE P F x&&l.all (fE P F)&&h.all (fE P F)&&m.all (fE P F)
 | .fieldAddr t x i=>fE P F x&&Kk P t i
 | .lookup t x k _=>fE P F x&&fE P F k&&Cx P t
 | .mapUpdate t m k v| .insert t m k v=>fE P F m&&fE P F k&&fE P F v&&Cx P t
 | .mapEntry t m k=>fE P F m&&fE P F k&&Cx P t
 | .entryStore _ m k v=>fE P F m&&fE P F k&&fE P F v
 | .call c=>yg P F c
 | .panic _=>true
 |_=>false
section
variable {P:Program} {F:Fit} {f:Nat->Nat} {α β γ δ:Type}
theorem ac1 {v:Value} (h:cOk F v=true):VR F f v v:=by
 have pl:uQ v=true->VR F f v v:= λh=>⟨(DV (F:=F) (f:=f) h).1.symm,(DV (F:=F) (f:=f) h).2⟩
 cases v with
 |func fn a b=>
  cases fn with
  |func g=>
   simp only [cOk,bD] at h;obtain ⟨⟨h1,h2⟩,h3⟩:=h;have ea:a= #[]:=by simpa [Array.isEmpty] using h2
   have eb:b= #[]:=by simpa [Array.isEmpty] using h3
   subst ea;subst eb;exact ⟨by simp [Xy],x8.2 ⟨h1,by intro x hx;simp at hx,by intro x hx;simp at hx⟩⟩
  |_=>exact pl h
 |_=>exact pl h
theorem uA (hR:Rn P f) {fr fr':Frame} (ht:lH F f fr.tmps fr'.tmps) {x:Operand} (hx:fE P F x=true):VR F f (fr.eval x) (fr'.eval x):=by
 cases x with
 |tmp t=>
  show VR F f (fr.tmps.getD t undef) (fr'.tmps.getD t undef);rw [aA,aA];rcases ht.get t with ⟨h1,h2⟩|⟨v,h1,h2,h3⟩
  ·rw [h1,h2];exact ⟨by simp,by simp⟩
  ·rw [h1,h2];exact ⟨rfl,h3⟩
 |const v=>exact ac1 hx
 |global g=>exact absurd hx (by simp [fE])
 |func g=>exact ⟨by show Value.func (.func g) #[] #[]=rv f (.func (.func g) #[] #[]);simp [Xy],x8.2 ⟨hx,by intro x hx;simp at hx,by intro x hx;simp at hx⟩⟩
theorem Gs (hR:Rn P f) {fr fr':Frame} (ht:lH F f fr.tmps fr'.tmps) {xs:Array Operand} (hx:xs.all (fE P F)=true):lH F f (xs.map fr.eval) (xs.map fr'.eval):=by
 refine ⟨?_, λv hv=>?_⟩
 ·rw [Array.map_map];exact Array.map_congr_left λx h=>(uA hR ht (aV.1 hx x h)).1
 ·obtain ⟨x,h,rfl⟩:=Array.mem_map.1 hv;exact (uA hR ht (aV.1 hx x h)).2
theorem Cz (hR:Rn P f) {fr fr':Frame} (ht:lH F f fr.tmps fr'.tmps) {x:Option Operand} (hx:x.all (fE P F)=true):TJ F f (x.map fr.eval) (x.map fr'.eval):=by
 cases x with
 |none=>exact .inl ⟨rfl,rfl⟩
 |some x=>
  have :=uA hR ht (by simpa using hx:fE P F x=true);exact .inr ⟨_,rfl,by rw [ay,this.1],this.2⟩
theorem L6 (hR:Rn P f) {fr fr':Frame} (ht:lH F f fr.tmps fr'.tmps) {ps:Array (Nat×Operand)} (hx:(ps.all λx=>fE P F x.2)=true):
 (ps.map λ(i,x)=>(i,fr'.eval x))=(ps.map λ(i,x)=>(i,fr.eval x)).map (λx=>(x.1,rv f x.2))∧∀x∈ps.map (λ(i,x)=>(i,fr.eval x)),vs F x.2=true:=by
 have key:∀x∈ps,VR F f (fr.eval x.2) (fr'.eval x.2):= λx h=>uA hR ht (aV.1 hx x h)
 refine ⟨?_, λx hx=>?_⟩
 ·rw [Array.map_map]
  exact Array.map_congr_left λx h=>by
   obtain ⟨i,y⟩:=x;exact congrArg (Prod.mk i) (key _ h).1
 ·obtain ⟨y,hy,rfl⟩:=Array.mem_map.1 hx;exact (key y hy).2
theorem fT {m m':Sem Value} (h:dM P F f (VR F f) m m'):dM P F f (NR F f) (do pure (.value (<-m))) (do pure (.value (<-m'))):=
 h.bind λa b hab=>.ret ⟨by rw [hab.1],hab.2⟩
theorem FE {m m':Sem Unit} (h:dM P F f Eq m m'):dM P F f (NR F f) (do m;pure .skip) (do m';pure .skip):=
 h.dX λ_=>.ret rfl
theorem Fj:∀(w:World) (es:Array Event),(∃x w' es',Sem.runT P Instr.panicnil w es=(.halt x w',es')∧LC x∧DK w w')∨∃a w' es',Sem.runT P Instr.panicnil w es=(.ok a w',es')∧DK w w':=by
 intro w es;have hk:DK w (w.sys .env).2:= λr ds h=>by rw [LA] at h;exact h
 unfold Instr.panicnil sys;simp only [Go.program,Bind.bind,Sem.bind,Sem.runT];cases (w.sys .env).1 with
 |strings env=>exact .inr ⟨_,_,_,rfl,hk⟩
 |_=>exact .inl ⟨_,_,_,rfl,trivial,hk⟩
theorem Un (v v':Value):dM P F f (VR F f) (Instr.panic v) (Instr.panic v'):=.pO λw es=>by
 cases v with
 |iface t x=>exact ⟨_,_,_,rfl,trivial,DK.refl⟩
 |nilIface=>
  unfold Instr.panic;refine mZ Fj (λa w es=>?_) w es
  by_cases h:(a==1)=true
  ·rw [aj h];exact ⟨_,_,_,rfl,trivial,DK.refl⟩
  ·rw [aa h];exact uz _ w es
 |_=>exact ⟨_,_,_,rfl,trivial,DK.refl⟩
theorem yh (hF:LZ P F) {v v':Value} (hv:VR F f v v') {aS as':Array Value} (ha:lH F f aS as'):
 dM P F f (NR F f) (do let d <-Deferred.ofValue v aS;invoke d.target d.args) (do let d <-Deferred.ofValue v' as';invoke d.target d.args):=by
 obtain ⟨rfl,hs⟩:=hv;cases v with
 |func fn first cap=>
  obtain ⟨h1,h2,h3⟩:=x8.1 hs;rw [uy];have happ:lH F f (first ++aS) (first.map (rv f)++as'):=lH.append ⟨rfl,h2⟩ ha;cases fn with
  |func g=>exact EK hF (hF.sub g h1) (.inl h1) (happ.append ⟨rfl,h3⟩)
  |yield l=>exact Um l h1 happ
  |_=>cases h1
 |nilFunc=>rw [oH];exact fK (α:=Next) .nilDeref _
 |_=>exact .bad trivial
theorem Og (hR:Rn P f) {b:Builtin} (hb:Jo b=true) (ts:Array TypeId) (t:TypeId) (cs:Array Bool) {aS as':Array Value} (ha:lH F f aS as'):
 dM P F f (NR F f) (builtin b ts t cs aS) (builtin b ts t cs as'):=by
 cases b<;>first
  |(cases hb;done)
  |exact fT (Rb hR.gQ ts t ha)
  |exact fT (ab8 ts t ha)
  |exact fT (XL ts t ha)
  |exact fT (ab7 ts t ha)
  |exact fT (ab9 ts t ha)
  |exact fT (ac0 ts t ha)
theorem XP (hR:Rn P f) (hF:LZ P F) {fr fr':Frame} (ht:lH F f fr.tmps fr'.tmps) {c:Call} (hc:yg P F c=true) (t:TypeId):
 dM P F f (NR F f) (do let d <-resolve fr.eval c t;invoke d.target d.args) (do let d <-resolve fr'.eval c t;invoke d.target d.args):=by
 unfold yg at hc;rw [bD] at hc;have ha:=Gs hR ht hc.1;have h2:=hc.2;unfold resolve;cases hcl:c.callee with
 |value x=>
  rw [hcl] at h2;rcases Bool.or_eq_true_iff.1 h2 with h2|h2
  ·exact yh hF (uA hR ht h2) ha
  ·rw [bD] at h2;have ea:c.args= #[]:=by simpa [Array.isEmpty] using h2.1
   obtain ⟨g,hg,e1⟩:∃g,F.S g=true∧∀fr:Frame,fr.eval x= .func (.func g) #[] #[]:=by
    have h3:=h2.2;cases x with
    |func g=>exact ⟨g,h3, λ_=>rfl⟩
    |const v=>
     cases v with
     |func fn a b=>
      cases fn with
      |func g=>
       simp only [Gq,bD] at h3;obtain ⟨⟨h3,h4⟩,h5⟩:=h3;have e4:a= #[]:=by simpa [Array.isEmpty] using h4
       have e5:b= #[]:=by simpa [Array.isEmpty] using h5
       subst e4 e5;exact ⟨g,h3, λ_=>rfl⟩
      |_=>cases h3
     |_=>cases h3
    |_=>cases h3
   simp only [e1,ea,List.map_toArray,List.map_nil];exact EK (aS:= #[]) (as':= #[]) hF hg (.inr rfl) ⟨by simp,by intro v hv;simp at hv⟩
 |builtin b=>rw [hcl] at h2;exact Og hR h2 _ _ _ ha
 |invoke r n=>rw [hcl] at h2;cases h2
theorem Jp (hR:Rn P f) (hF:LZ P F) {fr fr':Frame} (ht:lH F f fr.tmps fr'.tmps) {o:Oper} (ho:lI P F o.op=true):dM P F f (NR F f) (execOp fr.eval o) (execOp fr'.eval o):=by
 unfold execOp;have ev:∀{x:Operand},fE P F x=true->VR F f (fr.eval x) (fr'.eval x):= λh=>uA hR ht h
 have av:∀{x:Operand},fE P F x=true->dM P F f (NR F f) (Pure.pure (.value (fr.eval x))) (Pure.pure (.value (fr'.eval x))):= λh=>.ret ⟨by rw [(ev h).1],(ev h).2⟩
 cases hop:o.op with
 |move x=>rw [hop] at ho;exact av ho
 |assign x=>rw [hop] at ho;exact av ho
 |pick c a b=>
  rw [hop] at ho;simp only [lI,bD] at ho;refine (DX (ev ho.1.1)).dX λt=>?_
  cases t
  ·exact av ho.2
  ·exact av ho.1.2
 |alloc t=>exact fT (T9 hR.gQ t)
 |box t x=>rw [hop] at ho;exact fT (ab6 t (ev ho))
 |build t ps=>
  rw [hop] at ho;have :=L6 hR ht ho;exact fT (Ud hR.gQ t this.1 this.2)
 |buildSlice t n ps=>
  rw [hop] at ho;have :=L6 hR ht ho;exact fT (I7 hR.gQ t n this.1 this.2)
 |load t a=>rw [hop] at ho;exact fT (Q9 t (ev ho))
 |store t a x=>
  rw [hop] at ho;simp only [lI,bD] at ho;exact FE (NN t (ev ho.1) (ev ho.2))
 |nilCheck x=>
  rw [hop] at ho;obtain ⟨e,hs⟩:=ev (x:=x) ho;dsimp only;rw [e];generalize fr.eval x=v at hs;cases v with
  |pointer a=>
   rw [eZ];cases a with
   |none=>exact fK (α:=Next) .nilDeref _
   |some a=>exact .ret ⟨by simp,hs⟩
  |nilIface=>exact fK (α:=Next) .nilDeref _
  |nilFunc=>exact fK (α:=Next) .nilDeref _
  |func fn a b=>
   have h1:=(x8.1 hs).1;rw [uy];cases fn with
   |func g=>exact .ret ⟨by simp,hs⟩
   |yield l=>exact .ret ⟨by simp,hs⟩
   |_=>cases h1
  |_=>exact .ret ⟨rfl,hs⟩
 |binOp op t x y yt=>
  rw [hop] at ho;simp only [lI,bD] at ho;exact fT (Uk hR ho.2 (ev ho.1.1) (ev ho.1.2) (λv e=>by subst e;rfl) (λv e=>by subst e;rfl))
 |unOp op t x=>rw [hop] at ho;exact fT (Uf op (ev ho))
 |convert s d x=>
  rw [hop] at ho;simp only [lI,bD] at ho;exact fT (N8 ho.2 (ev ho.1))
 |makeInterface t x=>
  rw [hop] at ho;refine fT ?_
  unfold Instr.makeInterface;refine (eG t).dX λd=>?_
  cases d<;>first |exact .bad trivial|exact .ret (VR.iface (ev ho))
 |makeFunc fn a b=>
  rw [hop] at ho;simp only [lI,bD] at ho;obtain ⟨⟨⟨h1,h2⟩,h3⟩,h4⟩:=ho;have ha:=Gs hR ht h3;have hb:=Gs hR ht h4;refine fT (.ret ⟨?_,x8.2 ⟨h1,ha.2,hb.2⟩⟩);rw [uy,ha.1,hb.1];cases fn<;>first |rfl|cases h2
 |makeMap t r=>rw [hop] at ho;exact fT (Ob t (Cz hR ht ho))
 |makeSlice t l c=>
  rw [hop] at ho;simp only [lI,bD] at ho;exact fT (Kl hR.gQ t (ev ho.1) (ev ho.2))
 |slice t x l h m=>
  rw [hop] at ho;simp only [lI,bD] at ho;exact fT (NS t (ev ho.1.1.1) (Cz hR ht ho.1.1.2) (Cz hR ht ho.1.2) (Cz hR ht ho.2))
 |fieldAddr t x i=>
  rw [hop] at ho;simp only [lI,bD] at ho;exact fT (NP ho.2 (ev ho.1))
 |field t x i=>rw [hop] at ho;exact fT (Ua t (ev ho) i)
 |indexAddr t x i=>
  rw [hop] at ho;simp only [lI,bD] at ho;exact fT (NQ t (ev ho.1) (ev ho.2))
 |index t x i=>
  rw [hop] at ho;simp only [lI,bD] at ho;exact fT (Ub t (ev ho.1) (ev ho.2))
 |lookup t x k ok=>
  rw [hop] at ho;simp only [lI,bD] at ho;exact fT (Rj hR ho.2 (ev ho.1.1) (ev ho.1.2) ok)
 |mapUpdate t m k v=>
  rw [hop] at ho;simp only [lI,bD] at ho;exact FE (Cy hR ho.2 (ev ho.1.1.1) (ev ho.1.1.2) (ev ho.1.2))
 |insert t m k v=>
  rw [hop] at ho;simp only [lI,bD] at ho;exact FE (Cy hR ho.2 (ev ho.1.1.1) (ev ho.1.1.2) (ev ho.1.2))
 |mapEntry t m k=>
  rw [hop] at ho;simp only [lI,bD] at ho;exact fT (LY hR ho.2 (ev ho.1.1) (ev ho.1.2))
 |entryStore t m k v=>
  rw [hop] at ho;simp only [lI,bD] at ho;exact FE (I8 t (ev ho.1.1) (ev ho.1.2) (ev ho.2))
 |range t x=>rw [hop] at ho;exact fT (Ul t (ev ho))
 |next x s=>rw [hop] at ho;exact fT (XO _ s (ev ho))
 |extract x i=>rw [hop] at ho;exact fT (Od (ev ho) i)
 |call c=>rw [hop] at ho;exact XP hR hF ht ho _
 |panic x=>exact fT (Un _ _)
 |_=>rw [hop] at ho;cases ho
end
end
end Par
namespace Par
open Go Go.Conc
section
variable [Sh]
def codeOk (P:Program) (F:Fit):Code->Bool
 | .skip| .exit _| .ret| .refuse _| .label _=>true
 | .goto _=>false
 | .region _ ops _=>ops.all λo=>lI P F o.op
 | .seq a b=>codeOk P F a&&codeOk P F b
 | .cond c a b=>fE P F c&&codeOk P F a&&codeOk P F b
 | .block _ c| .loop c| .scope c=>codeOk P F c
 | .rangeFunc x _ a b=>fE P F x&&codeOk P F a&&codeOk P F b
structure nX (P:Program) (F:Fit):Prop where
 fit:LZ P F
 code:∀c,F.code c=codeOk P F c
def vR (f:Nat->Nat):Item->Item
 | .inRangeFunc l=>.inRangeFunc (f l)
 | .endRangeFunc l=>.endRangeFunc (f l)
 |x=>x
def D7 (P:Program) (F:Fit):Item->Prop
 | .code c=>F.code c=true
 | .inBlock _=>True
 | .inLoop c=>F.code c=true
 | .inScope c=>F.code c=true
 | .inRegion ops _=>(ops.all λo=>lI P F o.op)=true
 | .inRangeFunc l=>F.A l=true
 | .endRangeFunc l=>F.A l=true
 | .beginRound=>True
 | .call .. =>False
 | .extern .. =>False
def L8 (r:Nat):Deferred:={ target:=.collected r,args:= #[] }
structure nk (P:Program) (F:Fit) (fr:Frame):Prop where
 fn:F.S fr.fn=true
 tmps:VS F fr.tmps
 todo:∀i∈fr.todo,D7 P F i
 defers:∀d∈fr.defers,∃r,d=L8 r∧F.A r=true
 kind:fr.kind= .normal
 round:∀l,fr.roundOf=some l->F.A l=true
def jE (f:Nat->Nat) (fr:Frame):Frame:=
 { fr with tmps:=fr.tmps.map (rv f),todo:=fr.todo.map (vR f),defers:=fr.defers.map (rd f),roundOf:=fr.roundOf.map f }
section
variable {P:Program} {F:Fit} {f:Nat->Nat} {w W:World}
theorem nk.vsr {fr:Frame} (h:nk P F fr):lH F f fr.tmps (jE f fr).tmps:=⟨rfl,h.tmps⟩
theorem L9 (ops:Array Oper) (tmps:Array Value):yielded ops (tmps.map (rv f))=yielded ops tmps:=by
 funext j;unfold yielded;cases h:(ops[j]?).bind (·.dst) with
 |none=>rfl
 |some d=>
  simp only [Option.bind_some,aG];cases ht:tmps[d]? with
  |none=>rfl
  |some v=>cases v<;>simp
theorem uS (fr:Frame) (v:Value) (hno:∀i∈fr.todo,D7 P F i):(jE f fr).finish (rv f v)=jE f (fr.finish v):=by
 cases ht:fr.todo with
 |nil=>simp [Frame.finish,jE,ht]
 |cons i k=>
  have hi:D7 P F i:=hno i (by simp [ht]);cases i with
  |inRegion ops l=>
   cases l with
   |nil=>simp [Frame.finish,jE,ht,vR]
   |cons x rest=>
    simp only [Frame.finish,jE,ht,aC,vR];cases (ops[x]?).bind (·.dst) with
    |none=>rfl
    |some d=>simp [Array.map_setIfInBounds]
  |call _ _ _ _=>exact hi.elim
  |extern _ _=>exact hi.elim
  |_=>simp [Frame.finish,jE,ht,vR]
theorem nk.finish {fr:Frame} (h:nk P F fr) {v:Value} (hv:vs F v=true):nk P F (fr.finish v):=by
 obtain ⟨h1,h2,h3,h4,h5,h6⟩:=h;unfold Frame.finish;split
 ·rename_i ops i rest k ht;rw [ht] at h3;refine ⟨h1,?_,?_,h4,h5,h6⟩
  ·dsimp only;split
   ·intro x hx;rcases bI hx with hx|rfl
    ·exact h2 x hx
    ·exact hv
   ·exact h2
  ·intro x hx;rcases bF.1 hx with rfl|hx
   ·exact h3 (.inRegion ops (i::rest)) (by simp)
   ·exact h3 x (by simp [hx])
 ·rename_i l k ht;rw [ht] at h3;refine ⟨h1,h2, λx hx=>?_,h4,h5,h6⟩;rcases bF.1 hx with rfl|hx
  ·exact h3 (.inRangeFunc l) (by simp)
  ·exact h3 x (by simp [hx])
 ·rename_i k ht;rw [ht] at h3;exact ⟨h1,h2, λx hx=>h3 x (by simp [hx]),h4,h5,h6⟩
 ·rename_i ht;rw [ht] at h3;exact az (h3 (.call _ _ _ _) (aQ ..))
 ·rename_i ht;rw [ht] at h3;exact az (h3 (.extern _ _) (aQ ..))
 ·exact ⟨h1,h2,h3,h4,h5,h6⟩
theorem nk.enter (hF:nX P F) {g:FuncId} (hg:F.S g=true) {aS:Array Value} (ha:VS F aS):nk P F (Frame.enter P g aS .normal):=by
 obtain ⟨fn,c,h1,h2,_,h4⟩:=hF.fit.body g hg;refine ⟨hg, λx hx=>?_, λi hi=>?_,by simp [Frame.enter],rfl,by simp [Frame.enter]⟩
 ·rcases Array.mem_append.1 hx with hx|hx
  ·exact ha x hx
  ·rw [(Array.mem_replicate.1 hx).2];exact uO
 ·simp [Frame.enter,h1,h2] at hi;subst hi;exact h4
theorem D8 (hF:nX P F) {g:FuncId} (hg:F.S g=true) (aS:Array Value):Frame.enter P g (aS.map (rv f)) .normal=jE f (Frame.enter P g aS .normal):=by
 obtain ⟨fn,c,h1,h2,_,h4⟩:=hF.fit.body g hg;simp [Frame.enter,jE,h1,h2,vR,Array.map_append,Array.map_replicate]
theorem nk.rnd {l:Nat} {g:FuncId} {t:Array Value} {a b:Code} (hl:F.A l=true) (hg:F.S g=true) (ht:VS F t) (ha:F.code a=true) (hb:F.code b=true):nk P F (Frame.round l g t a b .normal):=
 ⟨hg,ht, λi hi=>by simp [Frame.round] at hi;rcases hi with rfl|rfl|rfl<;>first |exact ha|exact trivial|exact hb,by simp [Frame.round],rfl, λl' hl'=>by simp [Frame.round] at hl';subst hl';exact hl⟩
theorem Rl (l:Nat) (g:FuncId) (t:Array Value) (a b:Code):Frame.round (f l) g (t.map (rv f)) a b .normal=jE f (Frame.round l g t a b .normal):=by
 simp [Frame.round,jE,vR]
theorem Ma (P:Program) (fn:FuncId) (u:Array Event):seen P fn (u.map (rev f))=(seen P fn u).map (rev f):=by
 have step:∀(quiet:FuncId->Bool) (x:Bool×Array Event) (e:Event),seenStep quiet (x.1,x.2.map (rev f)) (rev f e)=((seenStep quiet x e).1,(seenStep quiet x e).2.map (rev f)):=by
  intro quiet x e;obtain ⟨q,a⟩:=x;obtain ⟨loc,wr,sy⟩:=e
  have plain:∀s:Bool,(rev f ⟨loc,wr,sy⟩).sync=s->(if (q&&!s)=true then a.map (rev f) else (a.map (rev f)).push (rev f ⟨loc,wr,sy⟩))=(if (q&&!s)=true then a else a.push ⟨loc,wr,sy⟩).map (rev f):=by
   intro s _;split
   ·rfl
   ·rw [Array.map_push]
  have hs:(rev f ⟨loc,wr,sy⟩).sync=sy:=by rfl
  cases loc with
  |mark m=>cases m<;>first |rfl|exact congrArg (Prod.mk q) (plain sy hs)
  |_=>exact congrArg (Prod.mk q) (plain sy hs)
 have key:∀(quiet:FuncId->Bool) (l:List Event) (x:Bool×Array Event),(l.map (rev f)).foldl (seenStep quiet) (x.1,x.2.map (rev f))=((l.foldl (seenStep quiet) x).1,(l.foldl (seenStep quiet) x).2.map (rev f)):=by
  intro quiet l
  induction l with
  |nil=>intro x;rfl
  |cons e l ih=>
   intro x;simp only [aC,List.foldl_cons];rw [step,ih]
 rw [seen_def,seen_def,Array.toList_map];have :=key (λf=>(P.funcs[f]?).any (·.norace)) u.toList ((P.funcs[fn]?).any (·.norace),#[]);rw [Array.map_empty] at this;rw [this]
end
end
section
variable [Sh]
def y7 (P:Program) (F:Fit):Frame->List Frame->Prop
 |fr,[]=>nk P F fr∧fr.roundOf=none
 |fr,g::up=>nk P F fr∧g.mode= .run∧y7 P F g up
def coll (F:Fit) (fr:Frame):Prop:=∀d∈fr.defers,∃r,d=L8 r∧F.A r=true
def PS (F:Fit) (cs:List Frame) (g:Goroutine) (w:World):Prop:=
 ∃fr up chain,g=G fr (up++cs)∧fr.mode= .panicking chain∧(∀x∈fr::up,coll F x)∧FW F w
def gw:GStep->World
 | .go _ w _| .comm _ _ _ _ w _| .spawn _ _ w _| .count _ w _| .timer _ _ w _| .alone _ _ w _| .newcoro _ _ _ w _| .coroswitch _ _ _ w _| .collect _ w _| .watch _ w _| .ended _ w _=>w
def Top (P Q:Program) (F:Fit) (f:Nat->Nat) (fr:Frame) (up:List Frame) (X:Frame):Prop:=
 X=jE f fr∨∃g aS,F.S g=true∧VS F aS∧(F.V g=true∨aS= #[])∧up≠ []∧fr=Frame.enter P g aS .normal∧X=Frame.enter Q g (aS.map (rv f)) .normal
def SR (P Q:Program) (F:Fit) (f:Nat->Nat) (cs K:List Frame) (w W:World) (s S:GStep):Prop:=
 Out F w (gw s)∨match s with
 | .ended .. =>True
 | .go g w1 es=>PS F cs g w1∨∃vO Bw X W1 es',g=G vO (Bw++cs)∧y7 P F vO Bw∧(vO.mode= .run∨vO.mode= .returning)∧Top P Q F f vO Bw X∧
     S= .go (G X (Bw.map (jE f)++K)) W1 es'∧Mv F f w W w1 W1∧DU F f w1 #[] #[] es es'
 |_=>False
section
variable {P Q:Program} {F:Fit} {f:Nat->Nat} {w W:World} {cs K:List Frame}
theorem y7.top {fr:Frame} {up:List Frame} (h:y7 P F fr up):nk P F fr:=by
 cases up with
 |nil=>exact h.1
 |cons g up=>exact h.1
theorem y7.set {fr fr':Frame} {up:List Frame} (h:y7 P F fr up) (h1:nk P F fr') (h2:fr'.roundOf=fr.roundOf):y7 P F fr' up:=by
 cases up with
 |nil=>exact ⟨h1,h2.trans h.2⟩
 |cons g up=>exact ⟨h1,h.2⟩
theorem y7.push {fr fr':Frame} {up:List Frame} (h:y7 P F fr up) (h1:nk P F fr') (hm:fr.mode= .run):y7 P F fr' (fr::up):=⟨h1,hm,h⟩
theorem y7.coll:∀{fr:Frame} {up:List Frame},y7 P F fr up->∀x∈fr::up,coll F x
 |fr,[],h=>by intro x hx;simp at hx;subst hx;exact h.1.defers
 |fr,g::up,h=>by
  intro x hx;rcases bF.1 hx with rfl|hx
  ·exact h.1.defers
  ·exact y7.coll h.2.2 x hx
theorem nk.todo' {fr:Frame} (h:nk P F fr) {t:List Item} (ht:∀i∈t,D7 P F i):nk P F { fr with todo:=t }:=
 ⟨h.fn,h.tmps,ht,h.defers,h.kind,h.round⟩
theorem pV (fr:Frame) (v:Value):(fr.finish v).roundOf=fr.roundOf:=by
 unfold Frame.finish;split<;>rfl
theorem tX (fr:Frame) (v:Value):(fr.finish v).mode=fr.mode:=by
 unfold Frame.finish;split<;>rfl
theorem PY (w1:World):DU F f w1 #[] #[] #[] #[]:=⟨#[],by simp,by simp,by simp⟩
theorem Alike.quiet (hQ:Alike P Q):(λf:FuncId=>(Q.funcs[f]?).any (·.norace))= λf=>(P.funcs[f]?).any (·.norace):=by
 funext g;obtain ⟨h,h1,h2⟩:=hQ.get g;rw [h1];cases P.funcs[g]? with
 |none=>rfl
 |some fn=>
  obtain ⟨b,hb,_⟩:=h2 fn;simp [hb]
theorem Alike.seen (hQ:Alike P Q) (fn:FuncId) (es:Array Event):Go.seen Q fn es=Go.seen P fn es:=by
 rw [seen_def,seen_def,hQ.quiet];have :=congrFun hQ.quiet fn;simp only at this;rw [this]
theorem Mc (hQ:Alike P Q) {w1:World} {fn:FuncId} {es es':Array Event} (h:DU F f w1 #[] #[] es es'):DU F f w1 #[] #[] (seen P fn es++ #[]) (seen Q fn es'++ #[]):=by
 rw [hQ.seen];obtain ⟨u,rfl,rfl,hu⟩:=h;refine ⟨seen P fn u,by simp,by simp [Ma], λe he=>hu e (mem_seen he)⟩
theorem SR.quiet (ha:Ag F f w W) {vO:Frame} {Bw:List Frame} (hs:y7 P F vO Bw) (hm:vO.mode= .run∨vO.mode= .returning):
 SR P Q F f cs K w W (.go (G vO (Bw++cs)) w #[]) (.go (G (jE f vO) (Bw.map (jE f)++K)) W #[]):=
 .inr (.inr ⟨vO,Bw,_,W,#[],rfl,hs,hm,.inl rfl,rfl,Mv.refl ha,PY w⟩)
theorem SR.acts (hQ:Alike P Q) {w1 W1:World} {fn:FuncId} {es es':Array Event} {vO:Frame} {Bw:List Frame} (hs:y7 P F vO Bw) (hm:vO.mode= .run∨vO.mode= .returning) (hv:Mv F f w W w1 W1) (he:DU F f w1 #[] #[] es es'):
 SR P Q F f cs K w W (GStep.after (seen P fn es) (.go (G vO (Bw++cs)) w1 #[])) (GStep.after (seen Q fn es') (.go (G (jE f vO) (Bw.map (jE f)++K)) W1 #[])):=
 .inr (.inr ⟨vO,Bw,_,W1,_,rfl,hs,hm,.inl rfl,rfl,hv,Mc hQ he⟩)
theorem SR.falls {w1:World} {es:Array Event} {fr:Frame} {up:List Frame} {S:GStep} (v:List PanicEntry) (hs:y7 P F fr up) (hd:FW F w1):
 SR P Q F f cs K w W (GStep.after es (.go (G (fr.raise v) (up++cs)) w1 #[])) S:=by
 refine .inr (.inl ?_);have hc:=hs.coll
 have hm:∃ch,(fr.raise v).mode= .panicking ch:=by
  unfold Frame.raise;cases fr.mode with
  |panicking ch=>exact ⟨_,rfl⟩
  |_=>exact ⟨_,rfl⟩
 obtain ⟨ch,hm⟩:=hm;refine ⟨fr.raise v,up,ch,rfl,hm, λx hx=>?_,hd⟩;rcases bF.1 hx with rfl|hx
 ·have :=hc fr (aQ ..);intro d Uo;refine this d ?_
  unfold Frame.raise at Uo;cases hmm:fr.mode<;>(rw [hmm] at Uo;exact Uo)
 ·exact hc x (aR _ hx)
theorem nY (es:Array Event) (s:GStep):gw (GStep.after es s)=gw s:=by cases s<;>rfl
theorem CB {α:Type} (m:Sem α) (w:World):w.heap.size<=(rw' (m.run P w)).heap.size:=by
 have :=runT_size (P:=P) m w #[];rw [Sem.runT_fst] at this;exact this
theorem D9 {α:Type} {m:Sem α} {w:World} {r:Result α} (h:m.run P w=r):w.heap.size<=(rw' r).heap.size:=h ▸ CB (P:=P) m w
theorem I9 (fr:Frame) (k:List Frame) (d:Option Dying) (m:String) (w:World):w.heap.size<=(gw (endFatal P fr k d m w)).heap.size:=by
 unfold endFatal;dsimp only;split
 ·rename_i h;exact D9 h
 ·rename_i h;exact D9 h
 ·rename_i h;exact D9 h
theorem Oh (fr:Frame) (k:List Frame) (d:Option Dying) (g:Nat) (w:World):w.heap.size<=(gw (early P fr k d g w)).heap.size:=by
 have ny:∀w0 w:World,w0.heap.size<=w.heap.size->w0.heap.size<=(gw (match w.heap[g]? with
  |some (.pending c elem)=>GStep.go { frame:=fr,callers:=k,status:=.running,dying:=d } { w with heap:=w.heap.setIfInBounds g (.cells c elem) }
  |_=>.ended (.stuck "early: the variable does not wait" (fr.pos P)) w)).heap.size:=by
  intro w0 w h;split
  ·simpa [gw] using h
  ·exact h
 unfold early;dsimp only;split
 ·exact ny w w (aJ _)
 ·split
  ·exact aJ _
  ·split
   ·exact ny w w (aJ _)
   ·split
    ·exact ny w w (aJ _)
    ·split
     ·exact aJ _
     ·exact aJ _
     ·exact aJ _
     ·exact ny w w (aJ _)
     ·split
      ·exact aJ _
      ·split
       ·exact ny w w (aJ _)
       ·split
        ·rename_i h;have :=CB (P:=P) (choose (.early g)) w;rw [h] at this;exact ny _ _ this
        ·rename_i h;have :=CB (P:=P) (choose (.early g)) w;rw [h] at this;exact this
        ·rename_i h;have :=CB (P:=P) (choose (.early g)) w;rw [h] at this;exact this
theorem Md {fr:Frame} {k:List Frame} (hk:(fr.kind==CallKind.early)=false) (m:Sem Next) (w:World):
 (rw' (m.runT P w #[]).1).heap.size<=(gw (stepG.apply P true fr k none m w)).heap.size:=by
 unfold stepG.apply;simp only [if_true,hk];generalize m.runT P w #[]=x;obtain ⟨x1,x2⟩:=x;rw [nY];cases x1 with
 |ok a w1=>
  cases a<;>first
   |exact aJ _
   |(dsimp only;split<;>exact aJ _)
   |(dsimp only;split<;>split<;>exact aJ _)
 |halt h w1=>
  cases h<;>first
   |exact aJ _
   |exact I9 ..
   |(rename_i u;cases u<;>first |exact aJ _|exact Oh ..)
theorem Ea (hQ:Alike P Q) (hF:nX P F) (hi:∀a b,Sh.lk a=false->Sh.hol b=false->f a=f b->a=b) (ha:Ag F f w W) {fr:Frame} {up:List Frame} (hs:y7 P F fr up) (hm:fr.mode= .run) {m m':Sem Next} (h:dM P F f (NR F f) m m'):
 SR P Q F f cs K w W (stepG.apply P true fr (up++cs) none m w) (stepG.apply Q true (jE f fr) (up.map (jE f)++K) none m' W):=by
 have hfr:=hs.top;have hr:=h.FZ hQ hi w W #[] #[] ha;have hk:(fr.kind==CallKind.early)=false:=by rw [hfr.kind];rfl
 have hk':((jE f fr).kind==CallKind.early)=false:=hk;have hfn:(jE f fr).fn=fr.fn:=rfl;have hgw:=Md (P:=P) (k:=up++cs) hk m w;rcases hr with ho|hr
 ·obtain ⟨b,b1,b2,b3⟩:=ho;exact .inl ⟨b,b1,by omega,b3⟩
 clear hgw;unfold stepG.apply;simp only [if_true,hk,hk',hfn];generalize m.runT P w #[]=x at hr;generalize m'.runT Q W #[]=y at hr;obtain ⟨x1,x2⟩:=x;obtain ⟨y1,y2⟩:=y;cases x1 with
 |ok a w1=>
  obtain ⟨b,W1,h1,h2,h3,h4⟩:=hr;simp only at h1 h4;subst h1;simp only [bE,if_false];cases a with
  |value v=>
   obtain ⟨rfl,hv⟩:=h2;have :=SR.acts (P:=P) (Q:=Q) (cs:=cs) (K:=K) (fn:=fr.fn) hQ (hs.set (hfr.finish hv) (pV fr v)) (.inl ((tX fr v).trans hm)) h3 h4;rw [<-uS (f:=f) fr v hfr.todo] at this;exact this
  |skip=>
   have h2':b= .skip:=h2
   subst h2';have :=SR.acts (P:=P) (Q:=Q) (cs:=cs) (K:=K) (fn:=fr.fn) hQ (hs.set (hfr.finish (v:=undef) uO) (pV fr _)) (.inl ((tX fr _).trans hm)) h3 h4;rw [<-uS (f:=f) fr undef hfr.todo,Lx] at this;exact this
  |enter g aS=>
   obtain ⟨rfl,hg,has,hv⟩:=h2
   have this:SR P Q F f cs K w W (GStep.after (seen P fr.fn x2) (.go (G (Frame.enter P g aS .normal) ((fr::up)++cs)) w1 #[])) (GStep.after (seen Q fr.fn y2) (.go (G (Frame.enter Q g (aS.map (rv f)) .normal) ((fr::up).map (jE f)++K)) W1 #[])):=
    .inr (.inr ⟨_,fr::up,_,W1,_,rfl,hs.push (nk.enter hF hg has) hm,.inl rfl,.inr ⟨g,aS,hg,has,hv,by simp,rfl,rfl⟩,rfl,h3,Mc hQ h4⟩)
   have hT:(jE f fr).todo=fr.todo.map (vR f):=rfl;cases ht:fr.todo with
   |nil=>simp only [hT,ht,List.map_nil];exact this
   |cons i k=>
    have hi:=hfr.todo i (by rw [ht];exact aQ ..);simp only [hT,ht,aC];cases i<;>first |exact this|exact az hi
  |round l g t x y=>
   obtain ⟨rfl,hl,hg,ht,hx,hy⟩:=h2;have :=SR.acts (P:=P) (Q:=Q) (cs:=cs) (K:=K) (fn:=fr.fn) hQ (hs.push (nk.rnd hl hg ht hx hy) hm) (.inl rfl) h3 h4;rw [<-Rl (f:=f) l g t x y] at this;exact this
  |_=>exact h2.elim
 |halt hh w1=>
  obtain ⟨hb,hd⟩:=hr;cases hh with
  |panic v=>exact SR.falls _ hs hd
  |stuck s=>exact .inr trivial
  |unsupported u=>
   cases u<;>first |exact hb.elim|exact .inr trivial
  |_=>exact hb.elim
end
end
section
variable [Sh]
section
variable {P:Program} {F:Fit} {f:Nat->Nat} {w W:World} {cs K:List Frame}
theorem Gt (id:Nat):∀(k:List Item),exitTo id (k.map (vR f))=(exitTo id k).map (List.map (vR f))
 | []=>rfl
 |i::k=>by
  have ih:=Gt id k;cases i<;>first |exact ih|(simp only [aC,vR,exitTo];split<;>first |rfl|exact ih)
theorem Gv {id:Nat}:∀{k k':List Item},exitTo id k=some k'->∀i∈k',i∈k
 | [],k',h=>by cases h
 |i::k,k',h=>by
  intro j hj;have ih:∀k',exitTo id k=some k'->∀i∈k',i∈k:= λk'=>Gv
  cases i<;>first
   |exact aR _ (ih _ h j hj)
   |(simp only [exitTo] at h;split at h
     ·cases h;exact aR _ hj
     ·exact aR _ (ih _ h j hj))
theorem oU (l:Nat) (hA:F.A l=true) {jump:Option Code} (hj:∀c,jump=some c->F.code c=true):dM P F f (VR F f) (Instr.endRound l jump) (Instr.endRound (f l) jump):=by
 unfold Instr.endRound;refine (uR l hA).bind ?_
 rintro r _ ⟨rfl,h1,h2,h3,h4,h5,h6⟩;refine (sK l hA (o:=.loop { r with state:=if jump.isNone then .ready else .done,pending:=jump }) ⟨h1,h2,h3,h4,h5,hj⟩ rfl).bind λ_ _ _=>.ret VR.bool
theorem A7 (l:Nat) (hA:F.A l=true):dM P F f Eq (Instr.beginRound l) (Instr.beginRound (f l)):=by
 unfold Instr.beginRound;refine (uR l hA).bind ?_
 rintro r _ ⟨rfl,h1,h2,h3,h4,h5,h6⟩;refine (sK l hA (o:=.loop { r with state:=.busy }) ⟨h1,h2,h3,h4,h5,h6⟩ rfl).bind λ_ _ _=>?_
 cases r.state with
 |ready=>exact .ret rfl
 |_=>exact fK _ _
theorem Gx (l:Nat) (hA:F.A l=true):dM P F f (λa b=>a=b∧∀c,a=some c->F.code c=true) (Instr.endLoop l) (Instr.endLoop (f l)):=by
 unfold Instr.endLoop;refine (uR l hA).bind ?_
 rintro r _ ⟨rfl,h1,h2,h3,h4,h5,h6⟩;dsimp only;split
 ·exact dM.bind (R:= λ_ _=>False) (fK _ _) λ_ _ x=>x.elim
 ·exact (sK l hA (o:=.loop { r with state:=.exhausted }) ⟨h1,h2,h3,h4,h5,h6⟩ rfl).bind λ_ _ _=>.ret ⟨rfl,h6⟩
theorem y8 (l:Nat) (hA:F.A l=true):dM P F f (λa b=>a= []∧b= []) (Instr.takeDeferred l) (Instr.takeDeferred (f l)):=by
 unfold Instr.takeDeferred;refine (lD l hA).bind ?_
 rintro o _ ⟨rfl,h1,h2⟩;cases o with
 |deferred ds=>
  rcases h1 with rfl|rfl
  ·exact (sK l hA (o:=.deferred none) (.inr rfl) rfl).bind λ_ _ _=>.ret ⟨rfl,rfl⟩
  ·exact .bad trivial
 |_=>exact .bad trivial
theorem CE {fn:FuncId} (hfn:F.S fn=true) {t:Array Value} (ht:VS F t) (ps:Array Tmp) {a b:Code} (ha:F.code a=true) (hb:F.code b=true) {ar:Option Nat} (har:∀l,ar=some l->F.A l=true):
 dM P F f (λ(x y:Nat×List Deferred)=>y=(f x.1,x.2.map (rd f))∧F.A x.1=true∧∀d∈x.2,∃r,d=L8 r∧F.A r=true) (Instr.enterLoop fn t ps a b ar) (Instr.enterLoop fn (t.map (rv f)) ps a b (ar.map f)):=by
 unfold Instr.enterLoop
 have fin:∀(d:Nat) (mk:List Deferred),F.A d=true->(∀x∈mk,∃r,x=L8 r∧F.A r=true)->
  dM P F f (λ(x y:Nat×List Deferred)=>y=(f x.1,x.2.map (rd f))∧F.A x.1=true∧∀d∈x.2,∃r,d=L8 r∧F.A r=true)
   (do let r <-newObj (Obj.loop { state:=.ready,pending:=none,fn:=fn,tmps:=t,params:=ps,assign:=a,body:=b,defers:=d });pure (r,mk))
   (do let r <-newObj (Obj.loop { state:=.ready,pending:=none,fn:=fn,tmps:=t.map (rv f),params:=ps,assign:=a,body:=b,defers:=f d });pure (r,mk.map (rd f))):=by
  intro d mk h1 h2;refine (uI (o:=.loop { state:=.ready,pending:=none,fn:=fn,tmps:=t,params:=ps,assign:=a,body:=b,defers:=d }) ⟨ht,hfn,h1,ha,hb,by intro c hc;cases hc⟩).bind ?_
  rintro r _ ⟨rfl,hr,_⟩;exact .ret ⟨rfl,hr,h2⟩
 cases ar with
 |none=>
  refine (uI (o:=.deferred (some [])) (.inl rfl)).bind ?_
  rintro r _ ⟨rfl,hr,_⟩;have h0: [L8 r].map (rd f)= [L8 (f r)]:=by simp [L8,rd]
  have h1:=fin r [L8 r] hr (by intro d hd;simp at hd;subst hd;exact ⟨r,rfl,hr⟩);rw [h0] at h1;exact h1
 |some l=>
  refine (uR l (har l rfl)).bind ?_
  rintro r _ ⟨rfl,h1,h2,h3,h4,h5,h6⟩;exact fin r.defers [] h3 (by intro d hd;cases hd)
end
end
section
variable [Sh]
section
variable {P Q:Program} {F:Fit} {f:Nat->Nat} {w W:World} {cs K:List Frame}
theorem SR.out {w2:World} {s S:GStep} (ho:Out F w w2) (hs:w2.heap.size<=(gw s).heap.size):SR P Q F f cs K w W s S:=
 let ⟨b,h1,h2,h3⟩:=ho; .inl ⟨b,h1,aK h2 hs,h3⟩
theorem nA (ma:Bool) (fr:Frame) (k:List Frame) (d:Option Dying) (v:Value) (w:World):w.heap.size<=(gw (doReturn P ma fr k d v w)).heap.size:=by
 unfold doReturn;split
 ·split<;>exact aJ _
 ·split
  ·exact aJ _
  ·exact aJ _
  ·split
   ·exact aJ _
   ·split<;>exact aJ _
theorem uB (hQ:Alike P Q) (ma mb:Bool) {fr g:Frame} {up:List Frame} {w1 W1:World} {fn:FuncId} {es es':Array Event} {v v':Value} (hfr:nk P F fr) (hg:g.mode= .run) (hs:y7 P F g up) (hv:VR F f v v') (hm:Mv F f w W w1 W1) (he:DU F f w1 #[] #[] es es'):
 SR P Q F f cs K w W (GStep.after (seen P fn es) (doReturn P ma fr (g::(up++cs)) none v w1)) (GStep.after (seen Q fn es') (doReturn Q mb (jE f fr) (jE f g::(up.map (jE f)++K)) none v' W1)):=by
 obtain ⟨rfl,hv⟩:=hv;have :=SR.acts (P:=P) (Q:=Q) (cs:=cs) (K:=K) (fn:=fn) hQ (hs.set (hs.top.finish hv) (pV g v)) (.inl ((tX g v).trans hg)) hm he;rw [<-uS (f:=f) g v hs.top.todo] at this;unfold doReturn;have hk:(jE f fr).kind= .normal:=hfr.kind;simp only [hfr.kind,hk];exact this
theorem SR.after (hQ:Alike P Q) {w1 W1:World} {fn:FuncId} {es es':Array Event} {s S:GStep} (ha:Ag F f w W) (hm:Mv F f w W w1 W1) (he:DU F f w1 #[] #[] es es') (h:SR P Q F f cs K w1 W1 s S):
 SR P Q F f cs K w W (GStep.after (seen P fn es) s) (GStep.after (seen Q fn es') S):=by
 rcases h with ho|h
 ·obtain ⟨k,hk,_⟩:=hm.size;exact SR.out (ho.mono (by omega)) (by rw [nY];exact aJ _)
 refine .inr ?_
 cases s with
 |go g w2 u=>
  rcases h with h|⟨vO,Bw,X,W2,u',rfl,h1,h2,h5,rfl,h3,h4⟩
  ·exact .inl h
  ·refine .inr ⟨vO,Bw,X,W2,_,rfl,h1,h2,h5,rfl,hm.trans ha h3,?_⟩;rw [hQ.seen];obtain ⟨z,rfl,rfl,hz⟩:=h4;obtain ⟨y,rfl,rfl,hy⟩:=he;refine ⟨seen P fn y++z,by simp,by simp [Ma], λe he=>?_⟩;rcases Array.mem_append.1 he with he|he
   ·exact (hy e (mem_seen he)).mono h3
   ·exact hz e he
 |ended _ _ _=>exact trivial
 |_=>exact h.elim
theorem Uq (hQ:Alike P Q) (hF:nX P F) (hR:Rn P f) (ha:Ag F f w W) (ma mb:Bool) {fr:Frame} {up:List Frame} (hs:y7 P F fr up) (hm:fr.mode= .run):
 SR P Q F f cs K w W (stepG.exec P ma true fr (up++cs) none w) (stepG.exec Q mb true (jE f fr) (up.map (jE f)++K) none W):=by
 have hfr:=hs.top;have hT:(jE f fr).todo=fr.todo.map (vR f):=rfl
 have to:∀t:List Item,(∀i∈t,D7 P F i)->SR P Q F f cs K w W (.go (G { fr with todo:=t } (up++cs)) w #[]) (.go (G { jE f fr with todo:=t.map (vR f) } (up.map (jE f)++K)) W #[]):=
  λt ht=>SR.quiet ha (hs.set (hfr.todo' ht) rfl) (.inl hm)
 cases ht:fr.todo with
 |nil=>
  unfold stepG.exec;simp only [hT,ht,List.map_nil];cases hro:fr.roundOf with
  |none=>
   have Bz:(jE f fr).roundOf=none:=by show fr.roundOf.map f=none;rw [hro];rfl
   simp only [hro,Bz,if_true];have h1:=SR.quiet (P:=P) (Q:=Q) (cs:=cs) (K:=K) ha (hs.set (fr':={ fr with todo:=[],mode:=.returning,roundOf:=none }) ⟨hfr.fn,hfr.tmps,(by intro i hi;cases hi),hfr.defers,hfr.kind,(by intro l hl;cases hl)⟩ hro.symm) (.inr rfl);exact h1
  |some l=>
   have Bz:(jE f fr).roundOf=some (f l):=by show fr.roundOf.map f=_;rw [hro];rfl
   simp only [hro,Bz];have hr:=(oU (P:=P) (F:=F) (f:=f) l (hfr.round l hro) (jump:=none) (by intro c hc;cases hc)).FZ hQ hR.inj w W #[] #[] ha;generalize Sem.runT P (Instr.endRound l none) w #[]=x at hr;generalize Sem.runT Q (Instr.endRound (f l) none) W #[]=y at hr;obtain ⟨x1,x2⟩:=x;obtain ⟨y1,y2⟩:=y;rcases hr with ho|hr
   ·refine SR.out ho ?_
    try rw [nY]
    cases x1<;>first |exact aJ _|exact nA .. |(rename_i hh _;cases hh<;>exact aJ _)|(dsimp only;split<;>exact aJ _)
   cases x1 with
   |ok v w1=>
    obtain ⟨v',W1,h1,h2,h3,h4⟩:=hr;simp only at h1 h4;subst h1;cases up with
    |nil=>exact absurd (hs.2.symm.trans hro) (by simp)
    |cons g up=>exact uB hQ ma mb hfr hs.2.1 hs.2.2 h2 h3 h4
   |halt _ _=>exact .inr trivial
 |cons i k=>
  have hall:=hfr.todo;rw [ht] at hall;have hi:=hall i (aQ ..);have hk:∀j∈k,D7 P F j:= λj hj=>hall j (aR _ hj)
  have cons:∀{x:Item} {k:List Item},D7 P F x->(∀j∈k,D7 P F j)->∀j∈x::k,D7 P F j:=by
   intro x k h1 h2 j hj;rcases bF.1 hj with rfl|hj
   ·exact h1
   ·exact h2 j hj
  cases i with
  |inBlock _=>
   unfold stepG.exec;simp only [hT,ht,aC,vR];exact to k hk
  |inScope _=>
   unfold stepG.exec;simp only [hT,ht,aC,vR];exact to k hk
  |inLoop c=>
   unfold stepG.exec;simp only [hT,ht,aC,vR];exact to (.code c:: .inLoop c::k) (cons hi (cons hi hk))
  |inRegion ops l=>
   cases l with
   |nil=>
    unfold stepG.exec;simp only [hT,ht,aC,vR];exact to k hk
   |cons n rest=>
    have hy:yielded ops (jE f fr).tmps=yielded ops fr.tmps:=L9 ops fr.tmps;unfold stepG.exec;simp only [hT,ht,aC,vR,hy];cases hw:((ops[n]?).map (λx=>Region.wanted x (yielded ops fr.tmps))).getD false with
    |false=>
     simp only [bE,if_false];have h1:=SR.quiet (P:=P) (Q:=Q) (cs:=cs) (K:=K) ha (hs.set (hfr.finish (v:=undef) uO) (pV fr undef)) (.inl ((tX fr _).trans hm));rw [<-uS (f:=f) fr undef hfr.todo,Lx] at h1;simp only [Frame.finish,hT,ht,aC,vR] at h1 ⊢;exact h1
    |true=>
     simp only [if_true]
     have ho:∃o,ops[n]?=some o:=by
      cases h:ops[n]? with
      |none=>rw [h] at hw;cases hw
      |some o=>exact ⟨o,rfl⟩
     obtain ⟨o,ho⟩:=ho
     have hop:lI P F o.op=true:=by
      have :=aV.1 hi o (bn ho);exact this
     have e1:fr.oper?=some o:=by unfold Frame.oper?;rw [ht];exact ho
     have e2:(jE f fr).oper?=some o:=by unfold Frame.oper?;rw [hT,ht];exact ho
     have key:=Ea (P:=P) (Q:=Q) (cs:=cs) (K:=K) hQ hF hR.inj ha hs hm (Jp hR hF.fit hfr.vsr hop);unfold stepG.oper;simp only [e1,e2]
     cases hx:o.op<;>first
      |(rw [hx] at hop;cases hop;done)
      |(cases fr.roundOf<;>cases (jE f fr).roundOf<;>exact key)
  |inRangeFunc l=>
   unfold stepG.exec;simp only [hT,ht,aC,vR];exact .inr trivial
  |endRangeFunc l=>
   unfold stepG.exec;simp only [hT,ht,aC,vR];have hr:=(Gx (P:=P) (F:=F) (f:=f) l hi).FZ hQ hR.inj w W #[] #[] ha;generalize Sem.runT P (Instr.endLoop l) w #[]=x at hr;generalize Sem.runT Q (Instr.endLoop (f l)) W #[]=y at hr;obtain ⟨x1,x2⟩:=x;obtain ⟨y1,y2⟩:=y;rcases hr with ho|hr
   ·refine SR.out ho ?_
    try rw [nY]
    cases x1<;>first |exact aJ _|exact nA .. |(rename_i hh _;cases hh<;>exact aJ _)|(dsimp only;split<;>exact aJ _)
   cases x1 with
   |ok v w1=>
    obtain ⟨v',W1,h1,⟨rfl,h2⟩,h3,h4⟩:=hr;simp only at h1 h4;subst h1
    have h5:=SR.acts (P:=P) (Q:=Q) (cs:=cs) (K:=K) (fn:=fr.fn) hQ (hs.set (hfr.todo' (t:=(v.map Item.code).toList++k) (by
     intro i hi;rcases List.mem_append.1 hi with hi|hi
     ·cases v with
      |none=>cases hi
      |some c=>simp at hi;subst hi;exact h2 c rfl
     ·exact hk i hi)) rfl) (.inl hm) h3 h4
    have e:((v.map Item.code).toList++k).map (vR f)=(v.map Item.code).toList++k.map (vR f):=by
     cases v<;>simp [vR]
    have e2:jE f { fr with todo:=(v.map Item.code).toList++k }= { jE f fr with todo:=(v.map Item.code).toList++k.map (vR f) }:=by
     rw [<-e];rfl
    rw [e2] at h5;exact h5
   |halt hh w1=>
    obtain ⟨hb,hd⟩:=hr;cases hh with
    |panic v=>exact SR.falls _ hs hd
    |_=>exact .inr trivial
  |beginRound=>
   unfold stepG.exec;simp only [hT,ht,aC,vR];refine Ea hQ hF hR.inj ha hs hm ?_
   cases hro:fr.roundOf with
   |none=>exact .bad trivial
   |some l=>
    have Bz:(jE f fr).roundOf=some (f l):=by show fr.roundOf.map f=_;rw [hro];rfl
    rw [Bz];exact (A7 l (hfr.round l hro)).dX λ_=>.ret rfl
  |call _ _ _ _=>exact hi.elim
  |extern _ _=>exact hi.elim
  |code c=>
   have hc:codeOk P F c=true:=(hF.code c).symm.trans hi;cases c with
   |skip=>
    unfold stepG.exec;simp only [hT,ht,aC,vR];exact to k hk
   |label _=>
    unfold stepG.exec;simp only [hT,ht,aC,vR];exact to k hk
   |seq a b=>
    unfold stepG.exec;simp only [hT,ht,aC,vR];simp only [codeOk,bD, <-hF.code] at hc;exact to (.code a:: .code b::k) (cons hc.1 (cons hc.2 hk))
   |block id b=>
    unfold stepG.exec;simp only [hT,ht,aC,vR];simp only [codeOk, <-hF.code] at hc;exact to (.code b:: .inBlock id::k) (cons hc (cons trivial hk))
   |loop b=>
    unfold stepG.exec;simp only [hT,ht,aC,vR];simp only [codeOk, <-hF.code] at hc;exact to (.code b:: .inLoop b::k) (cons hc (cons hc hk))
   |scope b=>
    unfold stepG.exec;simp only [hT,ht,aC,vR];simp only [codeOk, <-hF.code] at hc;exact to (.code b:: .inScope b::k) (cons hc (cons hc hk))
   |goto l=>cases hc
   |refuse s=>
    unfold stepG.exec;simp only [hT,ht,aC,vR];exact .inr trivial
   |cond c a b=>
    unfold stepG.exec;simp only [hT,ht,aC,vR];simp only [codeOk,bD, <-hF.code] at hc;obtain ⟨e1,e2⟩:=uA hR hfr.vsr hc.1.1;rw [e1];cases fr.eval c with
    |bool t=>
     rw [nL];exact to (.code (if t then a else b)::k) (cons (by cases t;exact hc.2;exact hc.1.2) hk)
    |_=>exact .inr trivial
   |ret=>
    unfold stepG.exec;simp only [hT,ht,aC,vR];cases hro:fr.roundOf with
    |none=>
     have Bz:(jE f fr).roundOf=none:=by show fr.roundOf.map f=none;rw [hro];rfl
     simp only [hro,Bz,if_true];have h1:=SR.quiet (P:=P) (Q:=Q) (cs:=cs) (K:=K) ha (hs.set (fr':={ fr with todo:=.code .ret::k,mode:=.returning,roundOf:=none }) ⟨hfr.fn,hfr.tmps,hall,hfr.defers,hfr.kind,(by intro l hl;cases hl)⟩ hro.symm) (.inr rfl);exact h1
    |some l=>
     have Bz:(jE f fr).roundOf=some (f l):=by show fr.roundOf.map f=_;rw [hro];rfl
     simp only [hro,Bz];have hr:=(oU (P:=P) (F:=F) (f:=f) l (hfr.round l hro) (jump:=some .ret) (by intro c hc;cases hc;exact hi)).FZ hQ hR.inj w W #[] #[] ha;generalize Sem.runT P (Instr.endRound l (some .ret)) w #[]=x at hr;generalize Sem.runT Q (Instr.endRound (f l) (some .ret)) W #[]=y at hr;obtain ⟨x1,x2⟩:=x;obtain ⟨y1,y2⟩:=y;rcases hr with ho|hr
     ·refine SR.out ho ?_
      try rw [nY]
      cases x1<;>first |exact aJ _|exact nA .. |(rename_i hh _;cases hh<;>exact aJ _)|(dsimp only;split<;>exact aJ _)
     cases x1 with
     |ok v w1=>
      obtain ⟨v',W1,h1,h2,h3,h4⟩:=hr;simp only at h1 h4;subst h1;cases up with
      |nil=>exact absurd (hs.2.symm.trans hro) (by simp)
      |cons g up=>exact uB hQ ma mb hfr hs.2.1 hs.2.2 h2 h3 h4
     |halt _ _=>exact .inr trivial
   |exit id=>
    unfold stepG.exec;simp only [hT,ht,aC,vR];rw [Gt];cases he:exitTo id k with
    |some k'=>
     simp only [ay,Option.elim_some];exact to k' λj hj=>hk j (Gv he j hj)
    |none=>
     simp only [Option.map_none,Option.elim_none];cases hro:fr.roundOf with
     |none=>
      have Bz:(jE f fr).roundOf=none:=by show fr.roundOf.map f=none;rw [hro];rfl
      simp only [hro,Bz,if_true];exact .inr trivial
     |some l=>
      have Bz:(jE f fr).roundOf=some (f l):=by show fr.roundOf.map f=_;rw [hro];rfl
      simp only [hro,Bz];have hr:=(oU (P:=P) (F:=F) (f:=f) l (hfr.round l hro) (jump:=some (.exit id)) (by intro c hc;cases hc;exact hi)).FZ hQ hR.inj w W #[] #[] ha;generalize Sem.runT P (Instr.endRound l (some (.exit id))) w #[]=x at hr;generalize Sem.runT Q (Instr.endRound (f l) (some (.exit id))) W #[]=y at hr;obtain ⟨x1,x2⟩:=x;obtain ⟨y1,y2⟩:=y;rcases hr with ho|hr
      ·refine SR.out ho ?_
       try rw [nY]
       cases x1<;>first |exact aJ _|exact nA .. |(rename_i hh _;cases hh<;>exact aJ _)|(dsimp only;split<;>exact aJ _)
      cases x1 with
      |ok v w1=>
       obtain ⟨v',W1,h1,h2,h3,h4⟩:=hr;simp only at h1 h4;subst h1;cases up with
       |nil=>exact absurd (hs.2.symm.trans hro) (by simp)
       |cons g up=>exact uB hQ ma mb hfr hs.2.1 hs.2.2 h2 h3 h4
      |halt _ _=>exact .inr trivial
   |region id ops draw=>
    unfold stepG.exec;simp only [hT,ht,aC,vR];simp only [codeOk] at hc;cases draw with
    |false=>exact to (.inRegion ops (List.range ops.size)::k) (cons hc hk)
    |true=>
     simp only [Bool.not_true,bE,if_false];have hr:=(oQ (P:=P) (F:=F) (f:=f) (.order fr.fn id)).FZ hQ hR.inj w W #[] #[] ha;rw [<-Sem.runT_fst P _ w #[], <-Sem.runT_fst Q _ W #[]];have hfn:(jE f fr).fn=fr.fn:=rfl;rw [hfn];generalize Sem.runT P (choose (.order fr.fn id)) w #[]=x at hr;generalize Sem.runT Q (choose (.order fr.fn id)) W #[]=y at hr;obtain ⟨x1,x2⟩:=x;obtain ⟨y1,y2⟩:=y;rcases hr with ho|hr
     ·refine SR.out ho ?_
      try rw [nY]
      cases x1<;>first |exact aJ _|exact nA .. |(rename_i hh _;cases hh<;>exact aJ _)|(dsimp only;split<;>exact aJ _)
     cases x1 with
     |ok v w1=>
      obtain ⟨v',W1,h1,rfl,h3,h4⟩:=hr;simp only at h1 h4;subst h1;refine .inr <| .inr ⟨_,up,_,W1,#[],rfl,hs.set (hfr.todo' (t:=.inRegion ops (Region.schedule (P.follows .mixedOrders) ops v)::k) (cons hc hk)) rfl,.inl hm,.inl rfl,?_,h3,PY w1⟩;have hfo:Q.follows .mixedOrders=P.follows .mixedOrders:=by rcases hQ with rfl|⟨_,_,_,_,_,_,rfl⟩<;>rfl
      rw [hfo];rfl
     |halt _ _=>exact .inr trivial
   |rangeFunc x ps a b=>
    unfold stepG.exec;simp only [hT,ht,aC,vR];simp only [codeOk,bD, <-hF.code] at hc;have hr:=(CE (P:=P) (F:=F) (f:=f) hfr.fn hfr.tmps ps hc.1.2 hc.2 (ar:=fr.roundOf) hfr.round).FZ hQ hR.inj w W #[] #[] ha;have hfn:(jE f fr).fn=fr.fn:=rfl;have htm:(jE f fr).tmps=fr.tmps.map (rv f):=rfl;have hro:(jE f fr).roundOf=fr.roundOf.map f:=rfl;rw [hfn,htm,hro];generalize Sem.runT P (Instr.enterLoop fr.fn fr.tmps ps a b fr.roundOf) w #[]=x at hr;generalize Sem.runT Q (Instr.enterLoop fr.fn (fr.tmps.map (rv f)) ps a b (fr.roundOf.map f)) W #[]=y at hr;obtain ⟨x1,x2⟩:=x;obtain ⟨y1,y2⟩:=y;rcases hr with ho|hr
    ·refine SR.out ho ?_
     try rw [nY]
     cases x1 with
     |ok a w2=>
      refine aT (runT_size (P:=P) _ w2 #[]) (Md (P:=P) (fr:={ fr with todo:=.inRangeFunc a.1::k,defers:=a.2++fr.defers }) (k:=up++cs) ?_ _ w2);show (fr.kind==CallKind.early)=false;rw [hfr.kind];rfl
     |halt hh _=>exact aJ _
    cases x1 with
    |ok v w1=>
     obtain ⟨v',W1,h1,⟨h2a,h2b,h2c⟩,h3,h4⟩:=hr;obtain ⟨l,mk⟩:=v;simp only at h1 h4 h2a h2b h2c;subst h2a;subst h1;refine SR.after hQ ha h3 h4 ?_
     have hd:List.map (rd f) (mk++fr.defers)=List.map (rd f) mk++(jE f fr).defers:=by rw [List.map_append];rfl
     dsimp only;rw [<-hd]
     have hfr2:nk P F { fr with todo:=.inRangeFunc l::k,defers:=mk++fr.defers }:=
      ⟨hfr.fn,hfr.tmps,cons h2b hk, λd hd=>(List.mem_append.1 hd).elim (h2c d) (hfr.defers d),hfr.kind,hfr.round⟩
     have hv:=uA (P:=P) (F:=F) (f:=f) hR hfr2.vsr hc.1.1;refine Ea (fr:={ fr with todo:=.inRangeFunc l::k,defers:=mk++fr.defers }) hQ hF hR.inj h3.ag (hs.set hfr2 rfl) hm ?_
     refine yh hF.fit hv ?_
     refine ⟨?_, λy hy=>?_⟩
     ·simp [Frame.eval,Xy]
     ·simp [Frame.eval] at hy;subst hy;exact x8.2 ⟨h2b,by intro y hy;simp at hy,by intro y hy;simp at hy⟩
    |halt _ _=>exact .inr trivial
theorem EL {γ:Type} {k k':γ->Sem Value}:∀(l:List γ),(∀x∈l,dM P F f (VR F f) (k x) (k' x))->dM P F f (λaS bs=>bs=aS.map (rv f)∧∀a∈aS,vs F a=true) (l.mapM k) (l.mapM k')
 | [],_=>by rw [List.mapM_nil,List.mapM_nil];exact .ret ⟨rfl,by simp⟩
 |x::l,h=>by
  rw [List.mapM_cons,List.mapM_cons];refine (h x (aQ ..)).bind λa b hab=>?_
  refine (EL l λy hy=>h y (aR _ hy)).bind λaS bs hs=>?_
  refine .ret ⟨by rw [hab.1,hs.1];rfl, λy hy=>?_⟩;rcases bF.1 hy with rfl|hy
  ·exact hab.2
  ·exact hs.2 y hy
theorem PZ {t:Array Value} (ht:VS F t) (i:Nat):VR F f (t.getD i undef) ((t.map (rv f)).getD i undef):=by
 rw [aA,aA,aG];cases h:t[i]? with
 |none=>exact ⟨by simp,uO⟩
 |some v=>exact ⟨rfl,ht v (bn h)⟩
theorem BB (hR:Rn P f) (fn:Func) {t:Array Value} (ht:VS F t):dM P F f (VR F f) (results fn t) (results fn (t.map (rv f))):=by
 unfold results;refine dM.bind (R:=lH F f) ?_ ?_
 ·rw [Array.mapM_eq_mapM_toList,Array.mapM_eq_mapM_toList];refine dM.TV (EL _ λr _=>?_) λaS bs h=>?_
  ·cases r with
   |tmp i=>exact .ret (PZ ht i)
   |cell a i=>exact (Jl (PZ ht a)).bind λx y hxy=>by obtain ⟨rfl,hx⟩:=hxy;exact F6 i x hx
  ·obtain ⟨h1,h2⟩:=h;refine .ret ⟨by rw [h1];simp, λx hx=>h2 x (by simpa using hx)⟩
 ·intro aS bs h;refine .ret ?_
  obtain ⟨rfl,h2⟩:=h
  by_cases hz:aS.size=1
  ·rw [dif_pos hz,dif_pos (by simpa using hz)];exact ⟨by simp,h2 _ (Array.getElem_mem _)⟩
  ·rw [dif_neg hz,dif_neg (by simpa using hz)];exact VR.tuple ⟨rfl,h2⟩
theorem Oi (hQ:Alike P Q) (hF:nX P F) (hR:Rn P f) (ha:Ag F f w W) (ma mb:Bool) {fr:Frame} {up:List Frame} (hs:y7 P F fr up) (hm:fr.mode= .returning) (hnl:up= []->fr.defers≠ []):
 SR P Q F f cs K w W (unwind P ma fr (up++cs) none w) (unwind Q mb (jE f fr) (up.map (jE f)++K) none W):=by
 have hfr:=hs.top;have hD:(jE f fr).defers=fr.defers.map (rd f):=rfl;have hM:(jE f fr).mode=fr.mode:=rfl;have hfn:(jE f fr).fn=fr.fn:=rfl;have htm:(jE f fr).tmps=fr.tmps.map (rv f):=rfl;cases hd:fr.defers with
 |cons d ds=>
  obtain ⟨r,rfl,hr⟩:=hfr.defers d (by rw [hd];exact aQ ..);have hds:∀d∈ds,∃r,d=L8 r∧F.A r=true:= λx hx=>hfr.defers x (by rw [hd];exact aR _ hx)
  unfold unwind;have e0:rd f (L8 r)=L8 (f r):=by simp [L8,rd]
  simp only [hD,hd,aC,e0,hfn];simp only [L8];have h:=(y8 (P:=P) (F:=F) (f:=f) r hr).FZ hQ hR.inj w W #[] #[] ha;generalize Sem.runT P (Instr.takeDeferred r) w #[]=x at h;generalize Sem.runT Q (Instr.takeDeferred (f r)) W #[]=y at h;obtain ⟨x1,x2⟩:=x;obtain ⟨y1,y2⟩:=y;rcases h with ho|h
  ·refine SR.out ho ?_
   try rw [nY]
   cases x1<;>first |exact aJ _|exact nA .. |(rename_i hh _;cases hh<;>exact aJ _)|(dsimp only;split<;>exact aJ _)
  cases x1 with
  |ok v w1=>
   obtain ⟨v',W1,h1,⟨rfl,rfl⟩,h3,h4⟩:=h;simp only at h1 h4;subst h1;exact SR.acts (P:=P) (Q:=Q) (cs:=cs) (K:=K) (fn:=fr.fn) hQ (hs.set (fr':={ fr with defers:=ds }) ⟨hfr.fn,hfr.tmps,hfr.todo,hds,hfr.kind,hfr.round⟩ rfl) (.inr hm) h3 h4
  |halt _ _=>exact .inr trivial
 |nil=>
  cases up with
  |nil=>exact absurd hd (hnl rfl)
  |cons g up=>
   obtain ⟨fn,c,XQ,_⟩:=hF.fit.body fr.fn hfr.fn;unfold unwind;obtain ⟨hh,hg1,hg2⟩:=hQ.get fr.fn;obtain ⟨bb,hb2,_⟩:=hg2 fn;have hfq:Q.funcs[fr.fn]?=some { fn with body:=bb }:=by rw [hg1,XQ];simp [hb2]
   have hrs:∀t,results { fn with body:=bb } t=results fn t:= λ_=>rfl
   simp only [hD,hd,List.map_nil,hM,hm,hfn,htm,XQ,hfq,hrs];have h:=(BB (P:=P) (F:=F) (f:=f) hR fn hfr.tmps).FZ hQ hR.inj w W #[] #[] ha;generalize Sem.runT P (results fn fr.tmps) w #[]=x at h;generalize Sem.runT Q (results fn (fr.tmps.map (rv f))) W #[]=y at h;obtain ⟨x1,x2⟩:=x;obtain ⟨y1,y2⟩:=y;rcases h with ho|h
   ·refine SR.out ho ?_
    try rw [nY]
    cases x1<;>first |exact aJ _|exact nA .. |(rename_i hh _;cases hh<;>exact aJ _)|(dsimp only;split<;>exact aJ _)
   cases x1 with
   |ok v w1=>
    obtain ⟨v',W1,h1,h2,h3,h4⟩:=h;simp only at h1 h4;subst h1;exact uB hQ ma mb hfr hs.2.1 hs.2.2 h2 h3 h4
   |halt hh w1=>
    cases hh<;>exact .inr trivial
theorem Ur (hQ:Alike P Q) (hF:nX P F) (hR:Rn P f) (ha:Ag F f w W) (ma mb:Bool) {fr:Frame} {up:List Frame} (hs:y7 P F fr up) (hm:fr.mode= .run∨fr.mode= .returning∧(up= []->fr.defers≠ [])):
 SR P Q F f cs K w W (stepG P ma (G fr (up++cs)) w) (stepG Q mb (G (jE f fr) (up.map (jE f)++K)) W):=by
 unfold stepG G;have h1:(jE f fr).mode=fr.mode:=rfl;rcases hm with hm|⟨hm,hn⟩
 ·simp only [hm,h1];exact Uq hQ hF hR ha ma mb hs hm
 ·simp only [hm,h1];exact Oi hQ hF hR ha ma mb hs hm hn
def SR1 (P:Program) (F:Fit) (f:Nat->Nat) (cs K:List Frame) (w W:World) (s S:GStep):Prop:=
 Out F w (gw s)∨match s with
 | .ended .. =>True
 | .go g w1 es=>PS F cs g w1∨∃vO Bw W1 es',g=G vO (Bw++cs)∧y7 P F vO Bw∧(vO.mode= .run∨vO.mode= .returning)∧
     S= .go (G (jE f vO) (Bw.map (jE f)++K)) W1 es'∧Mv F f w W w1 W1∧DU F f w1 #[] #[] es es'
 |_=>False
theorem SR.one (hF:nX P F) {s S:GStep} (h:SR P P F f cs K w W s S):SR1 P F f cs K w W s S:=by
 rcases h with h|h
 ·exact .inl h
 refine .inr ?_
 cases s with
 |go g w1 es=>
  rcases h with h|⟨vO,Bw,X,W1,es',a1,a2,a3,a4,a5,a6,a7⟩
  ·exact .inl h
  ·refine .inr ⟨vO,Bw,W1,es',a1,a2,a3,?_,a6,a7⟩;rcases a4 with rfl|⟨g,aS,hg,_,_,_,rfl,rfl⟩
   ·exact a5
   ·rw [<-D8 hF hg aS];exact a5
 |ended _ _ _=>exact trivial
 |_=>exact h.elim
end
end
end Par
section
def Go.World.tp (w:Go.World) (τ:Nat->Go.Question->Nat):Go.World:={ w with tape:=τ }
namespace Par
open Go Go.Conc
variable [Sh]
@[simp] theorem al9 (w:World) (τ:Nat->Question->Nat):(w.tp τ).drawn=w.drawn:=rfl
@[simp] theorem av9 (w:World) (τ:Nat->Question->Nat):(w.tp τ).heap=w.heap:=rfl
@[simp] theorem aB9 (w:World) (τ σ:Nat->Question->Nat):(w.tp τ).tp σ=w.tp σ:=rfl
def Tps (w w1:World) (τ:Nat->Question->Nat):Prop:=∀j q,w.drawn<=j->j<w1.drawn->τ j q=w.tape j q
def am0 (P:Program) {α:Type} (m:Sem α) (w:World) (es:Array Event):Prop:=
 ∀a w1 es1,m.runT P w es=(.ok a w1,es1)->w.drawn<=w1.drawn∧∀τ,Tps w w1 τ->m.runT P (w.tp τ) es=(.ok a (w1.tp τ),es1)
section
variable {P:Program} {F:Fit} {f:Nat->Nat} {α β:Type} {R:α->β->Prop}
theorem dM.loc {n0:Nat} (hn:∀b,n0<=b->F.A b=true) (hf:∀a b,Sh.lk a=false->Sh.hol b=false->f a=f b->a=b) {m:Sem α} {m':Sem β} (h:dM P F f R m m'):
 ∀(w W:World) (es:Array Event),n0<=w.heap.size->Ag F f w W->am0 P m w es:=by
 induction h with
 |pure h=>
  intro w W es h0 ha a w1 es1 h;simp only [Sem.runT] at h;cases h;exact ⟨aJ _, λτ _=>rfl⟩
 | @load a k k' hA h ih=>
   intro w W es h0 ha b w1 es1 h
   have e1:∀w:World,Sem.runT P (.load .plain a k) w es=match w.cell? a with
    |some v=>(k v).runT P w (es.push ⟨.cell a,false,Mode.plain==Mode.atomic⟩)
    |none=>match w.farLoad P a (Mode.plain==Mode.atomic) with
     | .ok (v,touched)=>(k v).runT P w (es++touched.toArray.map (⟨.cell ·,false,Mode.plain==Mode.atomic⟩))
     | .error h=>(.halt h w,es):= λw=>by
     simp only [Sem.runT];cases w.cell? a with
     |some v=>rfl
     |none=>dsimp only;cases World.farLoad P w a (Mode.plain==Mode.atomic)<;>rfl
   rw [e1] at h;cases hc:w.cell? a with
   |none=>
    obtain ⟨x,hx,hb⟩:=(ha.wr.noCell a hA "").2 P (Mode.plain==Mode.atomic);simp only [hc,hx] at h;cases h
   |some v=>
    obtain ⟨h1,h2⟩:=ha.wr.cell hA hc;simp only [hc] at h;obtain ⟨i1,i2⟩:=ih v h2 w W _ h0 ha b w1 es1 h;refine ⟨i1, λτ ht=>?_⟩;rw [e1];have hc':(w.tp τ).cell? a=some v:=hc;simp only [hc'];exact i2 τ ht
 | @store a v k k' hA hv h ih=>
   intro w W es h0 ha b w1 es1 h
   have hs:(∃c,v= .agg c∨v= .tuple c)∨((∀c,v≠ .agg c∧v≠ .tuple c)):=by
    cases v<;>first |(refine .inr λc=>⟨?_,?_⟩<;>(intro h;cases h;done))|exact .inl ⟨_,.inl rfl⟩|exact .inl ⟨_,.inr rfl⟩
   rcases hs with ⟨c,rfl|rfl⟩|hs
   ·simp only [Sem.runT] at h;cases h
   ·simp only [Sem.runT] at h;cases h
   ·have e1:∀(w:World) (es:Array Event),Sem.runT P (.store .plain a v k) w es=match w.cell? a with
     |some _=>if w.frozen? a then (.halt (.unsupported (.unsafePointer "a write to bytes that a string shares")) w,es) else k.runT P (w.setCell a v) (es.push ⟨.cell a,true,false⟩)
     |none=>match w.farStore P a v false with
      | .ok (w,touched)=>k.runT P w (es++touched.toArray.map (⟨.cell ·,true,false⟩))
      | .error h=>(.halt h w,es):=by
     intro w es;cases v<;>first |rfl|exact absurd rfl (hs _).1|exact absurd rfl (hs _).2
    rw [e1] at h;cases hc:w.cell? a with
    |none=>
     obtain ⟨x,hx,hb⟩:=ha.wr.PT a hA P v false;simp only [hc,hx] at h;cases h
    |some x=>
     simp only [hc] at h;cases hz:w.frozen? a with
     |true=>simp only [hz,if_true] at h;cases h
     |false=>
      simp only [hz,if_false,bE] at h;obtain ⟨hm,_⟩:=ha.store hf hA hc hz hv;obtain ⟨i1,i2⟩:=ih _ _ _ (by simpa [World.setCell] using h0) hm.ag b w1 es1 h;refine ⟨i1, λτ ht=>?_⟩;rw [e1];have hc':(w.tp τ).cell? a=some x:=hc;have hz':(w.tp τ).frozen? a=false:=hz;simp only [hc',hz',if_false,bE];exact i2 τ ht
 | @new o k k' ho h ih=>
   intro w W es h0 ha b w1 es1 h;simp only [Sem.runT] at h
   have hm:Mv F f w W { w with heap:=w.heap.push o } { W with heap:=W.heap.push (ro f o) }:=ha.new (by
    cases o with
    |cells c e fr=>exact .inr (.inl ⟨ha.Lu _ (aJ _),c,e,fr,fr,rfl,ho,rfl, λi _ h1 h2=>⟨h1,h2⟩⟩)
    |_=>exact .inl ⟨ha.Lu _ (aJ _),ho,rfl,rfl⟩)
   obtain ⟨i1,i2⟩:=ih _ (hn _ h0) (ha.Lu _ (aJ _)) _ _ _ (by simp only [Array.size_push];omega) hm.ag b w1 es1 h;exact ⟨i1, λτ ht=>i2 τ ht⟩
 | @sI c e k0 k0' k k' ho e1 e2 h ih=>
   intro w W es h0 ha b w1 es1 h
   have hsh:∀(w:World) (c:Array Value),World.shape? { w with heap:=w.heap.push (.cells c e (0,0)) } w.heap.size=some (e,c.size):=by
    intro w c;simp [World.shape?]
   have hm:Mv F f w W { w with heap:=w.heap.push (.cells c e (c.size,c.size+1)) } { W with heap:=W.heap.push (.cells (c.map (rv f)) e (c.size,c.size+1)) }:=
    ha.new (.inr (.inl ⟨ha.Lu _ (aJ _),c,e,_,(c.size,c.size+1),rfl,ho,rfl, λi _ h1 h2=>⟨h1,h2⟩⟩))
   have e3:∀w:World,Sem.runT P (.new (.cells c e (0,0)) λr=>.shape r (k0 r)) w es=(k w.heap.size).runT P { w with heap:=w.heap.push (.cells c e (c.size,c.size+1)) } es:=by
    intro w;simp only [Sem.runT];rw [hsh w c,e1];simp only [Sem.runT];rw [zq]
   rw [e3] at h;obtain ⟨i1,i2⟩:=ih _ (hn _ h0) (ha.Lu _ (aJ _)) _ _ _ (by simp only [Array.size_push];omega) hm.ag b w1 es1 h;refine ⟨i1, λτ ht=>?_⟩;rw [e3];exact i2 τ ht
 | @shape r k k' hA h hl ih ihl=>
   intro w W es h0 ha b w1 es1 h;simp only [Sem.runT] at h
   by_cases hk:Sh.lk r=true∧∃c fr,w.heap[r]?=some (.cells c Sh.bad fr)
   ·obtain ⟨h3,c,fr,h4⟩:=hk;have e1:w.shape? r=some (Sh.bad,c.size):=by unfold World.shape?;rw [h4]
    rw [e1] at h;obtain ⟨i1,i2⟩:=ihl h3 c.size (0,0) w W es h0 ha b w1 es1 h;refine ⟨i1, λτ ht=>?_⟩;have e2:(w.tp τ).shape? r=some (Sh.bad,c.size):=e1;simp only [Sem.runT];rw [e2];exact i2 τ ht
   ·obtain ⟨i1,i2⟩:=ih _ (λh3=>by
     rcases ha.wr.Ki hA h3 with hr|⟨c,fr,hr⟩
     ·unfold World.shape?;rw [hr]
     ·exact absurd ⟨h3,c,fr,hr⟩ hk) w W es h0 ha b w1 es1 h
    exact ⟨i1, λτ ht=>i2 τ ht⟩
 | @FX r k m' hA hl=>
   intro w W es h0 ha b w1 es1 h;rcases ha.wr.Ki hA hl with hr|⟨c,fr,hr⟩<;>(simp only [Sem.runT,hr] at h;cases h)
 | @getObj r k k' hA h ih=>
   intro w W es h0 ha b w1 es1 h;cases hr:w.heap[r]? with
   |none=>simp only [Sem.runT,hr] at h;cases h
   |some o=>
    by_cases hc:isCells o=true
    ·cases o<;>first |(simp only [Sem.runT,hr] at h;cases h;done)|cases hc
    ·have hc':isCells o=false:=by simpa using hc
     rcases ha.wr.blk r o hA hr with ⟨hlk,hS,_,hO⟩|⟨_,c,e,fr,fr',rfl,_⟩|⟨_,c,fr,C,e',fr',rfl,_⟩
     ·rw [x9 k es hr hc'] at h;obtain ⟨i1,i2⟩:=ih o hS hc' hlk w W _ h0 ha b w1 es1 h;refine ⟨i1, λτ ht=>?_⟩;rw [x9 (w:=w.tp τ) k es hr hc'];exact i2 τ ht
     ·cases hc'
     ·cases hc'
 | @setObj r o k k' hA ho hc h ih=>
   intro w W es h0 ha b w1 es1 h;cases hr:w.heap[r]? with
   |none=>simp only [Sem.runT,hr] at h;cases h
   |some x=>
    by_cases I4:isCells x=true
    ·cases x<;>first |(simp only [Sem.runT,hr] at h;cases h;done)|cases I4
    ·have I5:isCells x=false:=by simpa using I4
     rw [uP o k es hr I5] at h;have hm:=ha.setObj hf hA hr I5 ho hc;obtain ⟨i1,i2⟩:=ih _ _ _ (by simpa [World.setCell] using h0) hm.ag b w1 es1 h;refine ⟨i1, λτ ht=>?_⟩;rw [uP (w:=w.tp τ) o k es hr I5];exact i2 τ ht
 | @choose q k k' h ih=>
   intro w W es h0 ha b w1 es1 h;simp only [Sem.runT] at h ⊢
   by_cases hq:q.forced=true
   ·simp only [hq,if_true] at h ⊢;exact ih 0 w W es h0 ha b w1 es1 h
   ·simp only [hq,if_false,bE] at h ⊢
    have hag:Ag F f { w with drawn:=w.drawn+1 } { W with drawn:=W.drawn+1 }:=
     ⟨⟨ha.wr.lt,ha.wr.blk⟩, λj q'=>by have :=ha.tape (1+j) q';simpa [Nat.add_assoc] using this,ha.next,ha.Lu,ha.hol⟩
    obtain ⟨i1,i2⟩:=ih _ { w with drawn:=w.drawn+1 } _ es h0 hag b w1 es1 h;have i1':w.drawn+1<=w1.drawn:=i1;refine ⟨by omega, λτ ht=>?_⟩;have e:τ w.drawn q=w.tape w.drawn q:=ht _ _ (aJ _) (by omega);have e':(w.tp τ).tape (w.tp τ).drawn q=w.tape w.drawn q:=e;rw [e'];exact i2 τ λj q' h1 h2=>ht j q' (by simp only at h1;omega) h2
 |program e h ih=>
  intro w W es h0 ha b w1 es1 h;simp only [Sem.runT] at h;obtain ⟨i1,i2⟩:=ih w W es h0 ha b w1 es1 h;exact ⟨i1, λτ ht=>i2 τ ht⟩
 |noRoom h ih=>
  intro w W es h0 ha b w1 es1 h;simp only [Sem.runT] at h;obtain ⟨i1,i2⟩:=ih w W _ h0 ha b w1 es1 h;exact ⟨i1, λτ ht=>i2 τ ht⟩
 |pO h=>
  intro w W es h0 ha b w1 es1 hr;obtain ⟨x,w',es1,h1,h2⟩:=h w es;rw [h1] at hr;cases hr
end
end Par
end
namespace Par
open Go Go.Conc
section
variable [Sh]
def Panics (g:Goroutine):Prop:=∃ch,g.frame.mode= .panicking ch
def GL (s:World->GStep) (w:World):Prop:=
 ∀g w1 es,s w= .go g w1 es->¬Panics g->w.drawn<=w1.drawn∧∀τ,Tps w w1 τ->s (w.tp τ)= .go g (w1.tp τ) es
section
variable {P:Program} {F:Fit} {f:Nat->Nat} {w W:World} {cs:List Frame}
theorem GL.quiet (g:Goroutine):GL (λw=>.go g w #[]) w:=by
 intro g' w1 es h _;cases h;exact ⟨aJ _, λ_ _=>rfl⟩
theorem GL.ended (o:Outcome):GL (λw=>.ended o w) w:=by
 intro g' w1 es h _;cases h
theorem GL.run {α:Type} {m:Sem α} (fn:FuncId) (K:Result α->GStep) (hl:am0 P m w #[])
 (hk:∀a w2 es2,m.runT P w #[]=(.ok a w2,es2)->∃g',∀w3,K (.ok a w3)= .go g' w3 #[])
 (hh:∀h w2 g w3 es,K (.halt h w2)= .go g w3 es->Panics g):GL (λw=>GStep.after (seen P fn (m.runT P w #[]).2) (K (m.runT P w #[]).1)) w:=by
 intro g w1 es h hp;dsimp only at h;generalize hx:m.runT P w #[]=x at h;obtain ⟨x1,x2⟩:=x;cases x1 with
 |ok a w2=>
  obtain ⟨g',hg⟩:=hk a w2 x2 hx;obtain ⟨i1,i2⟩:=hl a w2 x2 hx;simp only [hg,GStep.after] at h;cases h;refine ⟨i1, λτ ht=>?_⟩;simp only [i2 τ ht,hg,GStep.after]
 |halt y w2=>
  exfalso;dsimp only at h;cases hk:K (.halt y w2) with
  |go g2 w3 es3=>
   rw [hk] at h;simp only [GStep.after] at h;cases h;exact hp (hh _ _ _ _ _ hk)
  |_=>rw [hk] at h;simp [GStep.after] at h
theorem Eb (hn:∀b,w.heap.size<=b->F.A b=true) (hi:∀a b,Sh.lk a=false->Sh.hol b=false->f a=f b->a=b) (ha:Ag F f w W) {fr:Frame} (hfr:nk P F fr) {m m':Sem Next} (h:dM P F f (NR F f) m m'):
 GL (λw=>stepG.apply P true fr cs none m w) w:=by
 have hl:=h.loc hn hi w W #[] (aJ _) ha;have hr:=h.run hi w W #[] #[] ha;have hk:(fr.kind==CallKind.early)=false:=by rw [hfr.kind];rfl
 intro g w1 es hgo hp;unfold stepG.apply at hgo;simp only [if_true,hk,bE,if_false] at hgo;generalize hx:m.runT P w #[]=x at hr hgo;generalize m'.runT P W #[]=y at hr;obtain ⟨x1,x2⟩:=x;rcases hr with ⟨b,hb1,hb2,hb3⟩|hr
 ·rw [hn b hb1] at hb3;cases hb3
 cases x1 with
 |ok a w2=>
  obtain ⟨b,W1,h1,h2,h3,h4⟩:=hr;obtain ⟨i1,i2⟩:=hl a w2 x2 hx;cases a with
  |value v=>
   simp only [GStep.after] at hgo;cases hgo;refine ⟨i1, λτ ht=>?_⟩;unfold stepG.apply;simp only [if_true,hk,bE,if_false,i2 τ ht];rfl
  |skip=>
   simp only [GStep.after] at hgo;cases hgo;refine ⟨i1, λτ ht=>?_⟩;unfold stepG.apply;simp only [if_true,hk,bE,if_false,i2 τ ht];rfl
  |enter g aS=>
   simp only [GStep.after] at hgo;cases hgo;refine ⟨i1, λτ ht=>?_⟩;unfold stepG.apply;simp only [if_true,hk,bE,if_false,i2 τ ht];rfl
  |round l g t x y=>
   simp only [GStep.after] at hgo;cases hgo;refine ⟨i1, λτ ht=>?_⟩;unfold stepG.apply;simp only [if_true,hk,bE,if_false,i2 τ ht];rfl
  |_=>exact h2.elim
 |halt hh w2=>
  exfalso;obtain ⟨hb,hd⟩:=hr
  have pn:∀v,Panics (G (fr.raise v) cs):=by
   intro v;unfold Panics Frame.raise G;cases fr.mode<;>exact ⟨_,rfl⟩
  cases hh with
  |panic v=>
   simp only [GStep.after] at hgo;cases hgo;exact hp (pn _)
  |stuck s=>simp [GStep.after] at hgo
  |unsupported u=>cases u<;>first |exact hb.elim|(simp [GStep.after] at hgo;done)
  |_=>exact hb.elim
theorem uC {ma:Bool} {fr g:Frame} {k:List Frame} (hk:fr.kind= .normal) (v:Value):∃g',∀w3,doReturn P ma fr (g::k) none v w3= .go g' w3 #[]:=by
 refine ⟨G (g.finish v) k, λw3=>?_⟩;unfold doReturn;simp only [hk];rfl
theorem Ut (hn:∀b,w.heap.size<=b->F.A b=true) (hF:nX P F) (hR:Rn P f) (ha:Ag F f w W) (ma:Bool) {fr:Frame} {up:List Frame} (hs:y7 P F fr up):
 GL (λw=>stepG.exec P ma true fr (up++cs) none w) w:=by
 have hfr:=hs.top;cases ht:fr.todo with
 |nil=>
  unfold stepG.exec;simp only [ht];cases hro:fr.roundOf with
  |none=>exact GL.quiet _
  |some l=>
   have hs1:=oU (P:=P) (F:=F) (f:=f) l (hfr.round l hro) (jump:=none) (by intro c hc;cases hc);cases up with
   |nil=>exact absurd (hs.2.symm.trans hro) (by simp)
   |cons g up=>
    refine GL.run fr.fn (λr=>match r with | .ok v w=>doReturn P ma fr (g::(up++cs)) none v w| .halt _ w=>.ended (.stuck "range over a function: no such loop" (fr.pos P)) w) (hs1.loc hn hR.inj w W #[] (aJ _) ha) (λa w2 es2 _=>uC hfr.kind a) (λh w2 g w3 es hx=>by cases hx)
 |cons i k=>
  have hall:=hfr.todo;rw [ht] at hall;have hi:=hall i (aQ ..);cases i with
  |inBlock _=>unfold stepG.exec;simp only [ht];exact GL.quiet _
  |inScope _=>unfold stepG.exec;simp only [ht];exact GL.quiet _
  |inLoop c=>unfold stepG.exec;simp only [ht];exact GL.quiet _
  |inRegion ops l=>
   cases l with
   |nil=>unfold stepG.exec;simp only [ht];exact GL.quiet _
   |cons n rest=>
    unfold stepG.exec;simp only [ht];cases hw:((ops[n]?).map (λx=>Region.wanted x (yielded ops fr.tmps))).getD false with
    |false=>simp only [bE,if_false];exact GL.quiet _
    |true=>
     simp only [if_true]
     have ho:∃o,ops[n]?=some o:=by
      cases h:ops[n]? with
      |none=>rw [h] at hw;cases hw
      |some o=>exact ⟨o,rfl⟩
     obtain ⟨o,ho⟩:=ho;have hop:lI P F o.op=true:=aV.1 hi o (bn ho);have e1:fr.oper?=some o:=by unfold Frame.oper?;rw [ht];exact ho
     have key:=Eb (P:=P) (cs:=up++cs) hn hR.inj ha hfr (Jp (f:=f) hR hF.fit hfr.vsr hop);unfold stepG.oper;simp only [e1]
     cases hx:o.op<;>first
      |(rw [hx] at hop;cases hop;done)
      |(cases fr.roundOf<;>exact key)
  |inRangeFunc l=>unfold stepG.exec;simp only [ht];exact GL.ended _
  |endRangeFunc l=>
   unfold stepG.exec;simp only [ht]
   refine GL.run fr.fn (λr=>match r with | .ok jump w=>.go (G { fr with todo:=(jump.map Item.code).toList++k } (up++cs)) w| .halt (.panic v) w=>.go (G (fr.raise [{ v,recovered:=false }]) (up++cs)) w| .halt _ w=>.ended (.stuck "range over a function: no such loop" (fr.pos P)) w)
    ((Gx (P:=P) (F:=F) (f:=f) l hi).loc hn hR.inj w W #[] (aJ _) ha) (λa w2 es2 _=>⟨_, λw3=>rfl⟩) (λh w2 g w3 es hx=>?_)
   cases h with
   |panic v=>
    cases hx;unfold Panics Frame.raise G;cases fr.mode<;>exact ⟨_,rfl⟩
   |_=>cases hx
  |beginRound=>
   unfold stepG.exec;simp only [ht];refine Eb (f:=f) (W:=W) hn hR.inj ha hfr (m':=(do (jE f fr).roundOf.elim (stuck "beginRound: no round") Instr.beginRound;pure .skip)) ?_
   cases hro:fr.roundOf with
   |none=>exact .bad trivial
   |some l=>
    have Bz:(jE f fr).roundOf=some (f l):=by show fr.roundOf.map f=_;rw [hro];rfl
    rw [Bz];exact (A7 l (hfr.round l hro)).dX λ_=>.ret rfl
  |call _ _ _ _=>exact az hi
  |extern _ _=>exact az hi
  |code c=>
   have hc:codeOk P F c=true:=(hF.code c).symm.trans hi;cases c with
   |skip=>unfold stepG.exec;simp only [ht];exact GL.quiet _
   |label _=>unfold stepG.exec;simp only [ht];exact GL.quiet _
   |seq a b=>unfold stepG.exec;simp only [ht];exact GL.quiet _
   |block id b=>unfold stepG.exec;simp only [ht];exact GL.quiet _
   |loop b=>unfold stepG.exec;simp only [ht];exact GL.quiet _
   |scope b=>unfold stepG.exec;simp only [ht];exact GL.quiet _
   |goto l=>cases hc
   |refuse s=>unfold stepG.exec;simp only [ht];exact GL.ended _
   |cond c a b=>
    unfold stepG.exec;simp only [ht];cases fr.eval c with
    |bool t=>exact GL.quiet _
    |_=>exact GL.ended _
   |ret=>
    unfold stepG.exec;simp only [ht];cases hro:fr.roundOf with
    |none=>exact GL.quiet _
    |some l=>
     have hs1:=oU (P:=P) (F:=F) (f:=f) l (hfr.round l hro) (jump:=some .ret) (by intro c hc;cases hc;exact hi);cases up with
     |nil=>exact absurd (hs.2.symm.trans hro) (by simp)
     |cons g up=>
      refine GL.run fr.fn (λr=>match r with | .ok v w=>doReturn P ma fr (g::(up++cs)) none v w| .halt _ w=>.ended (.stuck "range over a function: no such loop" (fr.pos P)) w) (hs1.loc hn hR.inj w W #[] (aJ _) ha) (λa w2 es2 _=>uC hfr.kind a) (λh w2 g w3 es hx=>by cases hx)
   |exit id=>
    unfold stepG.exec;simp only [ht];cases he:exitTo id k with
    |some k'=>exact GL.quiet _
    |none=>
     simp only [Option.elim_none];cases hro:fr.roundOf with
     |none=>exact GL.ended _
     |some l=>
      have hs1:=oU (P:=P) (F:=F) (f:=f) l (hfr.round l hro) (jump:=some (.exit id)) (by intro c hc;cases hc;exact hi);cases up with
      |nil=>exact absurd (hs.2.symm.trans hro) (by simp)
      |cons g up=>
       refine GL.run fr.fn (λr=>match r with | .ok v w=>doReturn P ma fr (g::(up++cs)) none v w| .halt _ w=>.ended (.stuck "range over a function: no such loop" (fr.pos P)) w) (hs1.loc hn hR.inj w W #[] (aJ _) ha) (λa w2 es2 _=>uC hfr.kind a) (λh w2 g w3 es hx=>by cases hx)
   |region id ops draw=>
    unfold stepG.exec;simp only [ht];cases draw with
    |false=>exact GL.quiet _
    |true=>
     simp only [Bool.not_true,bE,if_false];have hl:=(oQ (P:=P) (F:=F) (f:=f) (.order fr.fn id)).loc hn hR.inj w W #[] (aJ _) ha;intro g w1 es h hp;dsimp only at h;rw [<-Sem.runT_fst P _ w #[]] at h;generalize hx:(choose (.order fr.fn id)).runT P w #[]=x at h;obtain ⟨x1,x2⟩:=x;cases x1 with
     |ok a w2=>
      obtain ⟨i1,i2⟩:=hl a w2 x2 hx;simp only at h;cases h;refine ⟨i1, λτ ht=>?_⟩;dsimp only;rw [<-Sem.runT_fst P _ (w.tp τ) #[],i2 τ ht]
     |halt y w2=>cases h
   |rangeFunc x ps a b=>
    unfold stepG.exec;simp only [ht];simp only [codeOk,bD, <-hF.code] at hc;have hk:∀j∈k,D7 P F j:= λj hj=>hall j (aR _ hj)
    have NH:=CE (P:=P) (F:=F) (f:=f) hfr.fn hfr.tmps ps hc.1.2 hc.2 (ar:=fr.roundOf) hfr.round;have hl:=NH.loc hn hR.inj w W #[] (aJ _) ha;have hr:=NH.run hR.inj w W #[] #[] ha;intro g w1 es h hp;dsimp only at h;generalize hx:Sem.runT P (Instr.enterLoop fr.fn fr.tmps ps a b fr.roundOf) w #[]=x at h hr;generalize Sem.runT P (Instr.enterLoop fr.fn (fr.tmps.map (rv f)) ps a b (fr.roundOf.map f)) W #[]=y at hr;obtain ⟨x1,x2⟩:=x;rcases hr with ⟨b,hb1,hb2,hb3⟩|hr
    ·rw [hn b hb1] at hb3;cases hb3
    cases x1 with
    |halt y w2=>simp [GStep.after] at h
    |ok v w2=>
     obtain ⟨v',W2,h1,⟨h2a,h2b,h2c⟩,h3,h4⟩:=hr;obtain ⟨i1,i2⟩:=hl v w2 x2 hx;obtain ⟨l,mk⟩:=v;simp only at h2b h2c h
     have hfr2:nk P F { fr with todo:=.inRangeFunc l::k,defers:=mk++fr.defers }:=
      ⟨hfr.fn,hfr.tmps, λj hj=>(bF.1 hj).elim (λe=>e ▸ h2b) (hk j), λd hd=>(List.mem_append.1 hd).elim (h2c d) (hfr.defers d),hfr.kind,hfr.round⟩
     have hv:=uA (P:=P) (F:=F) (f:=f) hR hfr2.vsr hc.1.1
     have hargs:lH F f (#[Operand.const (.func (.yield l) #[] #[])].map ({ fr with todo:=.inRangeFunc l::k,defers:=mk++fr.defers }:Frame).eval) #[.func (.yield (f l)) #[] #[]]:=by
      refine ⟨?_, λy hy=>?_⟩
      ·simp [Frame.eval,Xy]
      ·simp [Frame.eval] at hy;subst hy;exact x8.2 ⟨h2b,by intro y hy;simp at hy,by intro y hy;simp at hy⟩
     have key:=Eb (P:=P) (cs:=up++cs) (λb hb=>hn b (by obtain ⟨k,hk,_⟩:=h3.size;omega)) hR.inj h3.ag hfr2 (yh hF.fit hv hargs);generalize hq:stepG.apply P true { fr with todo:=.inRangeFunc l::k,defers:=mk++fr.defers } (up++cs) none _ w2=s2 at h;cases s2 with
     |go g2 w3 es2=>
      simp only [GStep.after] at h;cases h;obtain ⟨j1,j2⟩:=key _ _ _ hq hp;refine ⟨by omega, λτ ht'=>?_⟩;have t1:Tps w w2 τ:= λj q a b=>ht' j q a (by omega)
      have t2:Tps w2 w1 τ:= λj q a b=>by
       rw [ht' j q (by omega) b,h3.tape]
      dsimp only;simp only [i2 τ t1];exact congrArg (GStep.after (seen P fr.fn x2)) (j2 τ t2)
     |_=>simp [GStep.after] at h
theorem Oj (hn:∀b,w.heap.size<=b->F.A b=true) (hF:nX P F) (hR:Rn P f) (ha:Ag F f w W) (ma:Bool) {fr:Frame} {up:List Frame} (hs:y7 P F fr up) (hm:fr.mode= .returning) (hnl:up= []->fr.defers≠ []):
 GL (λw=>unwind P ma fr (up++cs) none w) w:=by
 have hfr:=hs.top;cases hd:fr.defers with
 |cons d ds=>
  obtain ⟨r,rfl,hr⟩:=hfr.defers d (by rw [hd];exact aQ ..);unfold unwind;simp only [hd,L8]
  exact GL.run fr.fn (λr=>match r with | .ok calls w=>.go (G { fr with defers:=calls++ds } (up++cs)) w| .halt _ w=>.ended (.stuck "the deferred calls of a range-over-func loop have been taken" (fr.pos P)) w)
   ((y8 (P:=P) (F:=F) (f:=f) r hr).loc hn hR.inj w W #[] (aJ _) ha) (λa w2 es2 _=>⟨_, λw3=>rfl⟩) (λh w2 g w3 es hx=>by cases hx)
 |nil=>
  cases up with
  |nil=>exact absurd hd (hnl rfl)
  |cons g up=>
   obtain ⟨fn,c,XQ,_⟩:=hF.fit.body fr.fn hfr.fn;unfold unwind;simp only [hd,hm,XQ]
   refine GL.run fr.fn (λr=>match r with | .ok v w=>doReturn P ma fr (g::(up++cs)) none v w| .halt (.stuck s) w=>.ended (.stuck s (fr.pos P)) w| .halt _ w=>.ended (.stuck "return: the result variables cannot be read" (fr.pos P)) w)
    ((BB (P:=P) (F:=F) (f:=f) hR fn hfr.tmps).loc hn hR.inj w W #[] (aJ _) ha) (λa w2 es2 _=>uC hfr.kind a) (λh w2 g w3 es hx=>by cases h<;>cases hx)
theorem Uu (hn:∀b,w.heap.size<=b->F.A b=true) (hF:nX P F) (hR:Rn P f) (ha:Ag F f w W) (ma:Bool) {fr:Frame} {up:List Frame} (hs:y7 P F fr up) (hm:fr.mode= .run∨fr.mode= .returning∧(up= []->fr.defers≠ [])):
 GL (λw=>stepG P ma (G fr (up++cs)) w) w:=by
 unfold stepG G;rcases hm with hm|⟨hm,hnl⟩
 ·simp only [hm];exact Ut hn hF hR ha ma hs
 ·simp only [hm];exact Oj hn hF hR ha ma hs hm hnl
end
end
end Par
namespace Par
open Go Go.Conc Go.ConcM
section
structure gG where
 ro:Nat->Prop
 sy:Nat->Prop
 cl:Nat->Nat->Prop
 mute:Prop:=False
def y9 (o O:Option Obj):Prop:=∀c e fr,o=some (.cells c e fr)->∃c':Array Value,O=some (.cells c' e fr)∧c'.size=c.size∧∀(i:Nat) (k:IntKind) (n:Int),c[i]?=some (.int k n)->∃m,c'[i]?=some (.int k m)
theorem y9.refl (o:Option Obj):y9 o o:= λc _ _ h=>⟨c,h,rfl, λ_ _ n h=>⟨n,h⟩⟩
theorem y9.trans {a b c:Option Obj} (h:y9 a b) (k:y9 b c):y9 a c:= λx e fr hx=>
 let ⟨y,hy,e1,i1⟩:=h x e fr hx
 let ⟨z,hz,e2,i2⟩:=k y e fr hy
 ⟨z,hz,e2.trans e1, λi kd n hn=>let ⟨m,hm⟩:=i1 i kd n hn;i2 i kd m hm⟩
structure dZ (Z:gG) (own:Nat->Prop) (W W1:World):Prop where
 tape:W1.tape=W.tape
 out:W1.output=W.output
 os:OsLater W.os W1.os
 size:W.heap.size<=W1.heap.size
 own:∀b,own b->W1.heap[b]?=W.heap[b]?
 ro:∀b,Z.ro b->W1.heap[b]?=W.heap[b]?
 sy:∀b,Z.sy b->y9 W.heap[b]? W1.heap[b]?
 cl:∀b i,Z.cl b i->W1.cell? ⟨b,i,none⟩=W.cell? ⟨b,i,none⟩
structure wM (Z:gG) (own:Nat->Prop) (W W1:World):Prop where
 tape:W1.tape=W.tape
 out:W1.output=W.output
 os:W1.os=W.os
 size:W.heap.size<=W1.heap.size
 rest:∀b,b<W.heap.size->¬own b->¬Z.sy b->W1.heap[b]?=W.heap[b]?
 sy:∀b,Z.sy b->y9 W.heap[b]? W1.heap[b]?∧∀i,¬Z.cl b i->W1.cell? ⟨b,i,none⟩=W.cell? ⟨b,i,none⟩
def grow (own:Nat->Prop) (W W1:World):Nat->Prop:= λb=>own b∨(W.heap.size<=b∧b<W1.heap.size)
def Rm (Z:gG) (own:Nat->Prop) (e:Event):Prop:=
 ¬Z.mute∧match e.loc with
 | .cell a=>e.sync=false∧(own a.block∨(Z.ro a.block∧e.write=false)∨Z.cl a.block a.off)
 | .obj r=>e.sync=false∧own r
 | .mark m=>m= .noRoom
 |_=>False
inductive Gw (P:Program) (main:Bool) (Z:gG) (Stop:(Nat->Prop)->Goroutine->World->Prop):(Nat->Prop)->Goroutine->World->Prop
 |stop {own:Nat->Prop} {g:Goroutine} {W:World} (h:∀W1,dZ Z own W W1->Stop own g W1):Gw P main Z Stop own g W
 |step {own:Nat->Prop} {g:Goroutine} {W:World} (hs:g.status= .running) (g':World->Goroutine) (W':World->World) (es:World->Array Event)
   (h:∀W1,dZ Z own W W1->stepG P main g W1= .go (g' W1) (W' W1) (es W1)) (hg:∀W1,dZ Z own W W1->wM Z own W1 (W' W1))
   (he:∀W1,dZ Z own W W1->∀e∈es W1,Rm Z (grow own W1 (W' W1)) e) (hn:∀W1,dZ Z own W W1->Gw P main Z Stop (grow own W1 (W' W1)) (g' W1) (W' W1)):Gw P main Z Stop own g W
section
variable {P:Program} {main:Bool} {Z:gG} {Stop:(Nat->Prop)->Goroutine->World->Prop} {own:Nat->Prop} {g:Goroutine} {W:World}
theorem dZ.refl (W:World):dZ Z own W W:=⟨rfl,rfl,OsLater.refl _,aJ _, λ_ _=>rfl, λ_ _=>rfl, λ_ _=>y9.refl _, λ_ _ _=>rfl⟩
theorem dZ.trans {a b c:World} (h:dZ Z own a b) (k:dZ Z own b c):dZ Z own a c:=
 ⟨k.tape.trans h.tape,k.out.trans h.out,h.os.trans k.os,aT h.size k.size, λx hx=>(k.own x hx).trans (h.own x hx), λx hx=>(k.ro x hx).trans (h.ro x hx), λx hx=>(h.sy x hx).trans (k.sy x hx), λx i hx=>(k.cl x i hx).trans (h.cl x i hx)⟩
theorem Gw.CF (hs:g.status= .running) (h:∀W1,dZ Z own W W1->∃g' W' es,stepG P main g W1= .go g' W' es∧wM Z own W1 W'∧(∀e∈es,Rm Z (grow own W1 W') e)∧Gw P main Z Stop (grow own W1 W') g' W'):Gw P main Z Stop own g W:=by
 classical
 refine .step hs (λW1=>if hr:dZ Z own W W1 then (h W1 hr).choose else g) (λW1=>if hr:dZ Z own W W1 then (h W1 hr).choose_spec.choose else W1)
  (λW1=>if hr:dZ Z own W W1 then (h W1 hr).choose_spec.choose_spec.choose else #[]) ?_ ?_ ?_ ?_
 all_goals
  intro W1 hr;simp only [dif_pos hr]
 ·exact (h W1 hr).choose_spec.choose_spec.choose_spec.1
 ·exact (h W1 hr).choose_spec.choose_spec.choose_spec.2.1
 ·exact (h W1 hr).choose_spec.choose_spec.choose_spec.2.2.1
 ·exact (h W1 hr).choose_spec.choose_spec.choose_spec.2.2.2
theorem Gw.not (hs:g.status= .running) (h:¬Gw P main Z Stop own g W):
 ∃W1,dZ Z own W W1∧∀g' W' es,stepG P main g W1= .go g' W' es->wM Z own W1 W'->(∀e∈es,Rm Z (grow own W1 W') e)->¬Gw P main Z Stop (grow own W1 W') g' W':=by
 apply bu;intro hc;refine h (Gw.CF hs λW1 hr=>?_);apply bu;intro hx;exact hc ⟨W1,hr, λg' W' es h1 h2 h3 h4=>hx ⟨g',W',es,h1,h2,h3,h4⟩⟩
theorem Gw.rely {W1:World} (h:Gw P main Z Stop own g W) (hr:dZ Z own W W1):Gw P main Z Stop own g W1:=by
 cases h with
 |stop h=>exact .stop λW2 h2=>h W2 (hr.trans h2)
 |step hs g' W' es h1 h2 h3 h4=>exact .step hs g' W' es (λW2 h=>h1 W2 (hr.trans h)) (λW2 h=>h2 W2 (hr.trans h)) (λW2 h=>h3 W2 (hr.trans h)) (λW2 h=>h4 W2 (hr.trans h))
theorem Gw.bind {Stop':(Nat->Prop)->Goroutine->World->Prop} (h:Gw P main Z Stop own g W) (hk:∀own g W,(∀W1,dZ Z own W W1->Stop own g W1)->Gw P main Z Stop' own g W):Gw P main Z Stop' own g W:=by
 induction h with
 |stop h=>exact hk _ _ _ h
 |step hs g' W' es h1 h2 h3 _ ih=>exact .step hs g' W' es h1 h2 h3 ih
end
end
section
variable [Sh]
section
variable {F F':Fit} {f g:Nat->Nat}
theorem Me (h:∀b,(F.A b=true∨Sh.hol b=true)->f b=g b) {a:Addr} (ha:F.A a.block=true):ra f a=ra g a:=by
 unfold ra;rw [h _ (.inl ha)]
theorem Rp (h:∀b,(F.A b=true∨Sh.hol b=true)->f b=g b) {fn:Fn} (hf:ZF F fn=true):Xy f fn=Xy g fn:=by
 cases fn with
 |yield l=>exact congrArg Fn.yield (h l (.inl hf))
 |_=>rfl
mutual
theorem xu (h:∀b,(F.A b=true∨Sh.hol b=true)->f b=g b):∀v:Value,vs F v=true->rv f v=rv g v
 | .bool _,_=>by simp
 | .int _ _,_=>by simp
 | .float _ _,_=>by simp [wW]
 | .complex _ _ _,_=>by simp [sH]
 | .string _,_=>by simp
 | .pointer none,_=>by simp
 | .pointer (some a),hv=>by
   have :=Me h (a:=a) (by simpa using hv);simp [this]
 | .slice none _ _,_=>by simp
 | .slice (some a) _ _,hv=>by
   have :ra f a=ra g a:=by
    unfold ra;rw [h _ ((tQ (by simpa using hv)).imp id And.left)]
   simp [this]
 | .map none,_=>by simp
 | .map (some r),hv=>by
   have :=h r (.inl (by simpa using hv));simp [this]
 | .chan none,_=>by simp
 | .chan (some r),hv=>by simp at hv
 | .func fn a b,hv=>by
   rw [rv,rv];rw [vs,bD,bD] at hv;rw [Rp h hv.1.1,Aa h a hv.1.2,Aa h b hv.2]
 | .nilFunc,_=>by simp
 | .iface t v,hv=>by
   rw [rv,rv,xu h v (by rw [vs] at hv;exact hv)]
 | .nilIface,_=>by simp
 | .agg a,hv=>by
   rw [rv,rv,Aa h a (by rw [vs] at hv;exact hv)]
 | .tuple a,hv=>by
   rw [rv,rv,Aa h a (by rw [vs] at hv;exact hv)]
theorem Aa (h:∀b,(F.A b=true∨Sh.hol b=true)->f b=g b):∀a:Array Value,NJ F a=true->PO f a=PO g a
 |⟨l⟩,hv=>by rw [PO,PO,Jq h l (by rw [NJ] at hv;exact hv)]
theorem Jq (h:∀b,(F.A b=true∨Sh.hol b=true)->f b=g b):∀l:List Value,NG F l=true->Lv f l=Lv g l
 | [],_=>by rw [Lv,Lv]
 |v::l,hv=>by
  rw [NG,bD] at hv;rw [Lv,Lv,xu h v hv.1,Jq h l hv.2]
end
theorem yj (h:∀b,(F.A b=true∨Sh.hol b=true)->f b=g b) {a:Array Value} (ha:VS F a):a.map (rv f)=a.map (rv g):=
 Array.map_congr_left λv hv=>xu h v (ha v hv)
theorem Mf (hS:F.S=F'.S∧F.V=F'.V) (hA:∀b,F.A b=true->F'.A b=true) {fn:Fn} (h:ZF F fn=true):ZF F' fn=true:=by
 cases fn with
 |func g=>show F'.V g=true;rw [<-hS.2];exact h
 |yield l=>exact hA l h
 |_=>exact h
mutual
theorem CG (hS:F.S=F'.S∧F.V=F'.V) (hA:∀b,F.A b=true->F'.A b=true):∀v:Value,vs F v=true->vs F' v=true
 | .bool _,_=>by simp
 | .int _ _,_=>by simp
 | .float _ _,h=>by simp at h
 | .complex _ _ _,h=>by simp at h
 | .string _,_=>by simp
 | .pointer none,_=>by simp
 | .pointer (some a),h=>by simp at h ⊢;exact hA _ h
 | .slice none _ _,_=>by simp
 | .slice (some a) l c,h=>by
   rw [jC] at h ⊢;rcases tQ h with h|⟨h,h1,h2⟩
   ·exact wI (hA _ h)
   ·unfold NF;simp [h,h1,h2]
 | .map none,_=>by simp
 | .map (some r),h=>by simp at h ⊢;exact hA _ h
 | .chan r,h=>by simpa using h
 | .func fn a b,h=>by
   rw [vs,bD,bD] at h ⊢;exact ⟨⟨Mf hS hA h.1.1,CJ hS hA a h.1.2⟩,CJ hS hA b h.2⟩
 | .nilFunc,_=>by simp
 | .iface t v,h=>by rw [vs] at h ⊢;exact CG hS hA v h
 | .nilIface,_=>by simp
 | .agg a,h=>by rw [vs] at h ⊢;exact CJ hS hA a h
 | .tuple a,h=>by rw [vs] at h ⊢;exact CJ hS hA a h
theorem CJ (hS:F.S=F'.S∧F.V=F'.V) (hA:∀b,F.A b=true->F'.A b=true):∀a:Array Value,NJ F a=true->NJ F' a=true
 |⟨l⟩,h=>by rw [NJ] at h ⊢;exact Mg hS hA l h
theorem Mg (hS:F.S=F'.S∧F.V=F'.V) (hA:∀b,F.A b=true->F'.A b=true):∀l:List Value,NG F l=true->NG F' l=true
 | [],_=>by rw [NG]
 |v::l,h=>by
  rw [NG,bD] at h ⊢;exact ⟨CG hS hA v h.1,Mg hS hA l h.2⟩
end
theorem VS.mono (hS:F.S=F'.S∧F.V=F'.V) (hA:∀b,F.A b=true->F'.A b=true) {a:Array Value} (h:VS F a):VS F' a:= λv hv=>CG hS hA v (h v hv)
theorem XR (hS:F.S=F'.S∧F.V=F'.V) (hc:F.code=F'.code) (hA:∀b,F.A b=true->F'.A b=true) {o:Obj} (h:oS F o):oS F' o:=by
 cases o with
 |cells c e fr=>exact VS.mono hS hA h
 |number a l=>exact hA _ h
 |map es c=>exact λe he=>⟨CG hS hA _ (h e he).1,CG hS hA _ (h e he).2⟩
 |stringIter _ _=>trivial
 |mapIter m _ _ _=>
  cases m with
  |none=>rfl
  |some r=>exact hA r h
 |loop l=>exact ⟨VS.mono hS hA h.1,hS.1 ▸ h.2.1,hA _ h.2.2.1,hc ▸ h.2.2.2.1,hc ▸ h.2.2.2.2.1, λc hx=>hc ▸ h.2.2.2.2.2 c hx⟩
 |deferred ds=>exact h
 |_=>exact h.elim
theorem Uv (h:∀b,(F.A b=true∨Sh.hol b=true)->f b=g b) {o:Obj} (ho:oS F o):ro f o=ro g o:=by
 cases o with
 |cells c e fr=>simp only [ro];rw [yj h ho]
 |number a l=>simp only [ro];rw [Me h ho]
 |map es c=>
  simp only [ro];congr 1;refine Array.map_congr_left λe he=>?_
  unfold re;rw [xu h _ (ho e he).1,xu h _ (ho e he).2]
 |stringIter _ _=>rfl
 |mapIter m _ _ _=>
  cases m with
  |none=>rfl
  |some r=>simp only [ro,ay];rw [h r (.inl ho)]
 |loop l=>simp only [ro];rw [yj h ho.1,h _ (.inl ho.2.2.1)]
 |deferred ds=>rcases ho with rfl|rfl<;>rfl
 |_=>exact ho.elim
theorem BR.conv (hS:F.S=F'.S∧F.V=F'.V) (hc:F.code=F'.code) (hA:∀b,F.A b=true->F'.A b=true) (h:∀b,(F.A b=true∨Sh.hol b=true)->f b=g b) {b:Nat} {o:Obj} {O:Option Obj} (hb:BR F f b o O):BR F' g b o O:=by
 rcases hb with ⟨hl,h1,h2,h3⟩|⟨hl,c,e,fr,fr',h1,h2,h3,h4⟩|⟨hl,c,fr,C,e',fr',h1,h2,h5,h3,h4⟩
 ·exact .inl ⟨hl,XR hS hc hA h1,h2,by rw [h3,Uv h h1]⟩
 ·exact .inr (.inl ⟨hl,c,e,fr,fr',h1,VS.mono hS hA h2,by rw [h3,yj h h2],h4⟩)
 ·exact .inr (.inr ⟨hl,c,fr,C,e',fr',h1,VS.mono hS hA h2,h5,h3, λi v hi=>by rw [h4 i v hi,xu h v (h2 v (bn hi))]⟩)
variable {P:Program}
theorem Uw (hS:F.S=F'.S∧F.V=F'.V) {v:Value} (h:cOk F v=true):cOk F' v=true:=by
 unfold cOk at h ⊢;split at h
 ·rw [hS.2] at h;exact h
 ·exact h
theorem tY (hS:F.S=F'.S∧F.V=F'.V) (hA:∀b,F.A b=true->F'.A b=true) {x:Operand} (h:fE P F x=true):fE P F' x=true:=by
 cases x with
 |tmp _=>rfl
 |const v=>exact Uw hS h
 |global g=>exact absurd h (by simp [fE])
 |func g=>show F'.V g=true;rw [<-hS.2];exact h
theorem Mh (hS:F.S=F'.S∧F.V=F'.V) {x:Operand} (h:Gq F x=true):Gq F' x=true:=by
 unfold Gq at h ⊢;split at h
 ·rw [hS.1] at h;exact h
 ·rw [hS.1] at h;exact h
 ·cases h
theorem zx {α:Type} {p q:α->Bool} (h:∀x,p x=true->q x=true) {a:Array α} (ha:a.all p=true):a.all q=true:=by
 rw [aV] at ha ⊢;exact λx hx=>h x (ha x hx)
theorem Rq {α:Type} {p q:α->Bool} (h:∀x,p x=true->q x=true) {a:Option α} (ha:a.all p=true):a.all q=true:=by
 cases a with
 |none=>rfl
 |some x=>exact h x ha
theorem Mi (hS:F.S=F'.S∧F.V=F'.V) (hA:∀b,F.A b=true->F'.A b=true) {c:Call} (h:yg P F c=true):yg P F' c=true:=by
 unfold yg at h ⊢;rw [bD] at h ⊢;refine ⟨zx (λx=>tY hS hA) h.1,?_⟩;have h2:=h.2;cases hc:c.callee with
 |value x=>
  rw [hc] at h2
  exact Bool.or_eq_true_iff.2 ((Bool.or_eq_true_iff.1 h2).imp (tY hS hA) λh=>by
   rw [bD] at h ⊢;exact ⟨h.1,Mh hS h.2⟩)
 |builtin b=>rw [hc] at h2;exact h2
 |invoke _ _=>rw [hc] at h2;cases h2
theorem Rs (hS:F.S=F'.S∧F.V=F'.V) (hA:∀b,F.A b=true->F'.A b=true) {o:Op} (h:lI P F o=true):lI P F' o=true:=by
 have m:∀{x:Operand},fE P F x=true->fE P F' x=true:= λh=>tY hS hA h
 have am:∀{x:Array Operand},x.all (fE P F)=true->x.all (fE P F')=true:= λh=>zx (λx=>tY hS hA) h
 have om:∀{x:Option Operand},x.all (fE P F)=true->x.all (fE P F')=true:= λh=>Rq (λx=>tY hS hA) h
 cases o with
 |call c=>exact Mi hS hA h
 |makeFunc fn a b=>
  simp only [lI,bD] at h ⊢;exact ⟨⟨⟨Mf hS hA h.1.1.1,h.1.1.2⟩,am h.1.2⟩,am h.2⟩
 |build t ps=>exact zx (λx hx=>m hx) h
 |buildSlice t n ps=>exact zx (λx hx=>m hx) h
 |makeMap t r=>exact om h
 |alloc _=>rfl
 |panic _=>rfl
 |slice t x l hh mm=>
  simp only [lI,bD] at h ⊢;exact ⟨⟨⟨m h.1.1.1,om h.1.1.2⟩,om h.1.2⟩,om h.2⟩
 |move x=>exact m h
 |assign x=>exact m h
 |nilCheck x=>exact m h
 |unOp _ _ x=>exact m h
 |box _ x=>exact m h
 |load _ x=>exact m h
 |field _ x _=>exact m h
 |extract x _=>exact m h
 |makeInterface _ x=>exact m h
 |range _ x=>exact m h
 |next x _=>exact m h
 |pick c a b=>simp only [lI,bD] at h ⊢;exact ⟨⟨m h.1.1,m h.1.2⟩,m h.2⟩
 |store _ a x=>simp only [lI,bD] at h ⊢;exact ⟨m h.1,m h.2⟩
 |makeSlice _ a x=>simp only [lI,bD] at h ⊢;exact ⟨m h.1,m h.2⟩
 |indexAddr _ a x=>simp only [lI,bD] at h ⊢;exact ⟨m h.1,m h.2⟩
 |index _ a x=>simp only [lI,bD] at h ⊢;exact ⟨m h.1,m h.2⟩
 |binOp op t x y _=>simp only [lI,bD] at h ⊢;exact ⟨⟨m h.1.1,m h.1.2⟩,h.2⟩
 |convert s d x=>simp only [lI,bD] at h ⊢;exact ⟨m h.1,h.2⟩
 |fieldAddr t x i=>simp only [lI,bD] at h ⊢;exact ⟨m h.1,h.2⟩
 |lookup t x k _=>simp only [lI,bD] at h ⊢;exact ⟨⟨m h.1.1,m h.1.2⟩,h.2⟩
 |mapUpdate t x k v=>simp only [lI,bD] at h ⊢;exact ⟨⟨⟨m h.1.1.1,m h.1.1.2⟩,m h.1.2⟩,h.2⟩
 |insert t x k v=>simp only [lI,bD] at h ⊢;exact ⟨⟨⟨m h.1.1.1,m h.1.1.2⟩,m h.1.2⟩,h.2⟩
 |mapEntry t x k=>simp only [lI,bD] at h ⊢;exact ⟨⟨m h.1.1,m h.1.2⟩,h.2⟩
 |entryStore _ x k v=>simp only [lI,bD] at h ⊢;exact ⟨⟨m h.1.1,m h.1.2⟩,m h.2⟩
 |_=>cases h
theorem Rt (hS:F.S=F'.S∧F.V=F'.V) (hc:F.code=F'.code) (hA:∀b,F.A b=true->F'.A b=true) {i:Item} (h:D7 P F i):D7 P F' i:=by
 cases i with
 |code c=>show F'.code c=true;rw [<-hc];exact h
 |inBlock _=>trivial
 |inLoop c=>show F'.code c=true;rw [<-hc];exact h
 |inScope c=>show F'.code c=true;rw [<-hc];exact h
 |inRegion ops l=>exact zx (λo ho=>Rs hS hA ho) h
 |inRangeFunc l=>exact hA l h
 |endRangeFunc l=>exact hA l h
 |beginRound=>trivial
 |call _ _ _ _=>exact az h
 |extern _ _=>exact az h
theorem nk.mono (hS:F.S=F'.S∧F.V=F'.V) (hc:F.code=F'.code) (hA:∀b,F.A b=true->F'.A b=true) {fr:Frame} (h:nk P F fr):nk P F' fr:=
 ⟨hS.1 ▸ h.fn,VS.mono hS hA h.tmps, λi hi=>Rt hS hc hA (h.todo i hi), λd hd=>let ⟨r,h1,h2⟩:=h.defers d hd;⟨r,h1,hA r h2⟩,h.kind, λl hl=>hA l (h.round l hl)⟩
theorem y7.mono (hS:F.S=F'.S∧F.V=F'.V) (hc:F.code=F'.code) (hA:∀b,F.A b=true->F'.A b=true):∀{fr:Frame} {up:List Frame},y7 P F fr up->y7 P F' fr up
 |_,[],h=>⟨h.1.mono hS hc hA,h.2⟩
 |_,_::_,h=>⟨h.1.mono hS hc hA,h.2.1,y7.mono hS hc hA h.2.2⟩
theorem Ru (h:∀b,(F.A b=true∨Sh.hol b=true)->f b=g b) {i:Item} (hi:D7 P F i):vR f i=vR g i:=by
 cases i with
 |inRangeFunc l=>exact congrArg Item.inRangeFunc (h l (.inl hi))
 |endRangeFunc l=>exact congrArg Item.endRangeFunc (h l (.inl hi))
 |_=>rfl
theorem Ec (h:∀b,(F.A b=true∨Sh.hol b=true)->f b=g b) {fr:Frame} (hf:nk P F fr):jE f fr=jE g fr:=by
 have e1:=yj h hf.tmps;have e2:fr.todo.map (vR f)=fr.todo.map (vR g):=List.map_congr_left λi hi=>Ru h (hf.todo i hi)
 have e3:fr.defers.map (rd f)=fr.defers.map (rd g):=List.map_congr_left λd hd=>by
  obtain ⟨r,rfl,hr⟩:=hf.defers d hd;simp [L8,rd,h r (.inl hr)]
 have e4:fr.roundOf.map f=fr.roundOf.map g:=by
  cases hr:fr.roundOf with
  |none=>rfl
  |some l=>simp only [ay];rw [h l (.inl (hf.round l hr))]
 unfold jE;rw [e1,e2,e3,e4]
theorem y7.all:∀{fr:Frame} {up:List Frame},y7 P F fr up->∀x∈up,nk P F x
 |_,[],_=>by intro x hx;cases hx
 |_,_::_,h=>by
  intro x hx;rcases bF.1 hx with rfl|hx
  ·exact h.2.2.top
  ·exact y7.all h.2.2 x hx
theorem Ux (h:∀b,(F.A b=true∨Sh.hol b=true)->f b=g b) {fr:Frame} {up:List Frame} (hs:y7 P F fr up):up.map (jE f)=up.map (jE g):=
 List.map_congr_left λx hx=>Ec h (hs.all x hx)
end
end
section
def stk:Frame:={ fn:=0,tmps:= #[],todo:=[.code (.refuse "")],defers:=[{ target:=.nil,args:= #[] }],mode:=.run,kind:=.normal }
def Fin (fr:Frame) (up:List Frame):Prop:=up= []∧fr.mode= .returning∧fr.defers= []
section
variable {P:Program}
theorem uT {fr fr':Frame} {cs cs':List Frame} {w w':World} (h:lone fr cs w=lone fr' cs' w'):fr=fr'∧cs=cs'∧w=w':=by
 unfold lone at h;injection h with h1 h2 h3;injection h2 with h4;injection h4 with h5 _;injection h5 with h6 h7;exact ⟨h6,h7,h1⟩
theorem Ab {fr vO:Frame} {cs cs1:List Frame} {w w1:World} {es:Array Event} (h:stepG P true (G fr cs) w= .go (G vO cs1) w1 es):step P (lone fr cs w)= .next (lone vO cs1 w1):=
 step_lone_go (by unfold G at h;rw [h];rfl)
theorem uU {fr:Frame} {cs:List Frame} {w w1:World} {o:Outcome} {es:Array Event} (h:stepG P true (G fr cs) w= .ended o w1 es):step P (lone fr cs w)= .ended o w1:=
 step_lone_ended (by unfold G at h;rw [h];rfl)
theorem xw:∀(n:Nat) (m:Machine),runN P (n+1) m=(match runN P n m with | .next m'=>step P m'|e=>e)
 |0,m=>by
  simp only [runN];cases step P m<;>rfl
 |n+1,m=>by
  have e:runN P (n+1+1) m=(match step P m with | .next m'=>runN P (n+1) m'|e=>e):=rfl;have e':runN P (n+1) m=(match step P m with | .next m'=>runN P n m'|e=>e):=rfl;rw [e,e'];cases step P m with
  |next m'=>exact xw n m'
  |ended o w=>rfl
theorem oV (a b:Nat) (m:Machine):runN P (a+b) m=(match runN P a m with | .next m'=>runN P b m'|e=>e):=by
 induction b with
 |zero=>
  cases h:runN P a m with
  |next m'=>rfl
  |ended o w=>rfl
 |succ b ih=>
  rw [<-Nat.add_assoc,xw,ih];cases h:runN P a m with
  |next m'=>exact (xw b m').symm
  |ended o w=>rfl
theorem runN_ended (n:Nat) {m:Machine} {o:Outcome} {w:World} (h:step P m= .ended o w):runN P (n+1) m= .ended o w:=by
 show (match step P m with | .next m'=>runN P n m'|e=>e)=_;rw [h]
theorem Mj (w:World) (cs:List Frame):∃o w1,step P (lone stk cs w)= .ended o w1:=
 ⟨_,_,uU (o:=_) (w1:=w) (es:= #[]) rfl⟩
theorem Ae {fr:Frame} (hf:∃fn,P.funcs[fr.fn]?=some fn) (hk:fr.kind= .normal) (hm:fr.mode= .returning) (hd:fr.defers= []) (w:World) (n:Nat) (fr':Frame) (up':List Frame) (w':World):
 runN P (n+1) (lone fr [stk] w)≠ .next (lone fr' (up'++ [stk]) w'):=by
 obtain ⟨fn,hf⟩:=hf
 have h1:(∃o w1,step P (lone fr [stk] w)= .ended o w1)∨∃w1,step P (lone fr [stk] w)= .next (lone stk [] w1):=by
  generalize hr:(results fn fr.tmps).runT P w #[]=r;obtain ⟨r1,r2⟩:=r;cases r1 with
  |ok v w1=>
   refine .inr ⟨w1,Ab (es:=seen P fr.fn r2++ #[]) ?_⟩;unfold stepG G;simp only [hm];unfold unwind;simp only [hd,hm,hf];rw [hr];unfold doReturn;simp only [hk];rfl
  |halt h w1=>
   have key:∃o,stepG P true (G fr [stk]) w= .ended o w1 (seen P fr.fn r2++ #[]):=by
    unfold stepG G;simp only [hm];unfold unwind;simp only [hd,hm,hf];rw [hr];cases h<;>exact ⟨_,rfl⟩
   obtain ⟨o,key⟩:=key;exact .inl ⟨o,w1,uU key⟩
 rcases h1 with ⟨o,w1,h1⟩|⟨w1,h1⟩
 ·rw [runN_ended n h1];simp
 ·show (match step P (lone fr [stk] w) with | .next m'=>runN P n m'|e=>e)≠_;rw [h1];dsimp only;cases n with
  |zero=>
   simp only [runN];intro h;have :=(uT (Stepped.next.inj h)).2.1;have :=congrArg List.length this;simp at this
  |succ n=>
   obtain ⟨o,w2,h2⟩:=Mj (P:=P) w1 [];rw [runN_ended n h2];simp
def am1 (g:Goroutine):Prop:=∃ch,g=G { stk with mode:=.panicking ch } []
theorem Rv (w:World) (ch:List PanicEntry):∃o w1,step P (lone { stk with mode:=.panicking ch } [] w)= .ended o w1:=by
 have h:∃o,stepG P true (G { stk with mode:=.panicking ch } []) w= .ended o w #[]:=by
  unfold stepG G;dsimp only [stk];unfold unwind;dsimp only;unfold callDeferred;exact ⟨_,rfl⟩
 obtain ⟨o,h⟩:=h;exact ⟨o,w,uU h⟩
variable {F:Fit}
theorem Uy (r:Nat) (w:World) (hd:FW F w) (hr:F.A r=true):
 (∃h w1 es,(Instr.takeDeferred r).runT P w #[]=(.halt h w1,es))∨∃w1 es,(Instr.takeDeferred r).runT P w #[]=(.ok [] w1,es)∧FW F w1:=by
 have e:∀(k:Obj->Sem (List Deferred)),Instr.takeDeferred r=(getObj r >>=k)->Sem.runT P (Instr.takeDeferred r) w #[]=Sem.runT P (.getObj r k) w #[]:=by
  intro k hk;rw [hk];rfl
 unfold Instr.takeDeferred;show (∃h w1 es,Sem.runT P (.getObj r _) w #[]=(.halt h w1,es))∨∃w1 es,Sem.runT P (.getObj r _) w #[]=(.ok [] w1,es)∧FW F w1;simp only [Sem.runT];cases hb:w.heap[r]? with
 |none=>exact .inl ⟨_,_,_,rfl⟩
 |some o=>
  cases o with
  |deferred ds=>
   rcases hd r ds hr hb with rfl|rfl
   ·refine .inr ⟨{ w with heap:=w.heap.setIfInBounds r (.deferred none) },(#[].push ⟨.obj r,false,false⟩).push ⟨.obj r,true,false⟩,?_,?_⟩
    ·show Sem.runT P (.setObj r (.deferred none) (.pure [])) w _=_;rw [uP (x:=.deferred (some [])) (.deferred none) (.pure []) _ hb rfl];rfl
    ·intro b ds hA hb'
     by_cases hbr:r=b
     ·subst hbr;have :=(aI.1 hb).1;simp only [] at hb';rw [aD this] at hb';cases hb';exact .inr rfl
     ·simp only [] at hb';rw [au hbr] at hb';exact hd b ds hA hb'
   ·exact .inl ⟨_,_,_,rfl⟩
  |_=>exact .inl ⟨_,_,_,rfl⟩
theorem XT {g:Goroutine} {w:World} (h:PS F [stk] g w):
 (∃o w1,step P (lone g.frame g.callers w)= .ended o w1)∨∃g1 w1,step P (lone g.frame g.callers w)= .next (lone g1.frame g1.callers w1)∧(PS F [stk] g1 w1∨am1 g1):=by
 obtain ⟨fr,up,ch,rfl,hm,hc,hd⟩:=h;show (∃o w1,step P (lone fr (up++ [stk]) w)= .ended o w1)∨∃(g1:Goroutine) (w1:World),step P (lone fr (up++ [stk]) w)= .next (lone g1.frame g1.callers w1)∧(PS F [stk] g1 w1∨am1 g1)
 have hsg:stepG P true (G fr (up++ [stk])) w=unwind P true fr (up++ [stk]) none w:=by
  unfold stepG G;simp only [hm]
 cases hds:fr.defers with
 |cons d ds=>
  obtain ⟨r,rfl,hr⟩:=hc fr (aQ ..) d (by rw [hds];exact aQ ..)
  have hu:stepG P true (G fr (up++ [stk])) w=GStep.after (seen P fr.fn ((Instr.takeDeferred r).runT P w #[]).2) (match ((Instr.takeDeferred r).runT P w #[]).1 with
   | .ok calls w=>.go (G { fr with defers:=calls++ds } (up++ [stk])) w
   | .halt _ w=>.ended (.stuck "the deferred calls of a range-over-func loop have been taken" (fr.pos P)) w):=by
   rw [hsg];unfold unwind;simp only [hds,L8];rfl
  rcases Uy (P:=P) r w hd hr with ⟨x,w1,es,h⟩|⟨w1,es,h,hd1⟩
  ·rw [h] at hu;exact .inl ⟨_,_,uU hu⟩
  ·rw [h] at hu;refine .inr ⟨G { fr with defers:=ds } (up++ [stk]),w1,Ab hu,.inl ⟨_,up,ch,rfl,hm, λx hx=>?_,hd1⟩⟩;rcases bF.1 hx with rfl|hx
   ·intro d Uo;exact hc fr (aQ ..) d (by rw [hds];exact aR _ Uo)
   ·exact hc x (aR _ hx)
 |nil=>
  by_cases ac2:fr.catches P=true
  ·left
   have h:∃o,stepG P true (G fr (up++ [stk])) w= .ended o w #[]:=by
    rw [hsg];unfold unwind;simp only [hds,hm,ac2,if_true];exact ⟨_,rfl⟩
   obtain ⟨o,h⟩:=h;exact ⟨o,w,uU h⟩
  ·right;cases up with
   |nil=>
    refine ⟨G (stk.raise ch) [],w,Ab (es:= #[]) ?_,.inr ⟨ch,rfl⟩⟩;rw [hsg];unfold unwind;simp only [hds,hm,ac2,List.nil_append,if_false];rfl
   |cons x up=>
    refine ⟨G (x.raise ch) (up++ [stk]),w,Ab (es:= #[]) ?_,.inl ?_⟩
    ·rw [hsg];unfold unwind;simp only [hds,hm,ac2,List.cons_append,if_false];rfl
    ·have hm2:∃c2,(x.raise ch).mode= .panicking c2:=by
      unfold Frame.raise;cases x.mode<;>exact ⟨_,rfl⟩
     obtain ⟨c2,hm2⟩:=hm2;refine ⟨x.raise ch,up,c2,rfl,hm2, λy hy=>?_,hd⟩;rcases bF.1 hy with rfl|hy
     ·intro d Uo;refine hc x (aR _ (aQ ..)) d ?_
      unfold Frame.raise at Uo;cases hxm:x.mode<;>(rw [hxm] at Uo;exact Uo)
     ·exact hc y (aR _ (aR _ hy))
theorem Jr:∀(n:Nat) {g:Goroutine} {w:World},PS F [stk] g w->∀fr' w',(∀ch,fr'.mode≠ .panicking ch)->runN P n (lone g.frame g.callers w)≠ .next (lone fr' [stk] w')
 |0,g,w,h,fr',w',hm=>by
  obtain ⟨fr,up,ch,rfl,hm',_⟩:=h;simp only [runN];intro e;obtain ⟨h1,_⟩:=uT (Stepped.next.inj e);have h1:fr=fr':=h1;exact hm ch (h1 ▸ hm')
 |n+1,g,w,h,fr',w',hm=>by
  rcases XT (P:=P) h with ⟨o,w1,h1⟩|⟨g1,w1,h1,h2⟩
  ·rw [runN_ended n h1];simp
  ·show (match step P (lone g.frame g.callers w) with | .next m'=>runN P n m'|e=>e)≠_;rw [h1];dsimp only;rcases h2 with h2|⟨ch,rfl⟩
   ·exact Jr n h2 fr' w' hm
   ·cases n with
    |zero=>
     simp only [runN];intro e;have :=(uT (Stepped.next.inj e)).2.1;cases this
    |succ n=>
     obtain ⟨o,w2,h3⟩:=Rv (P:=P) w1 ch;have h3':step P (lone (G { stk with mode:=.panicking ch } []).frame (G { stk with mode:=.panicking ch } []).callers w1)= .ended o w2:=h3;rw [runN_ended n h3'];simp
end
end
section
variable [Sh]
def FA (S V:FuncId->Bool) (cd:Code->Bool) (A:Nat->Bool):Fit:=⟨S,A,cd,V⟩
def Bd (A:Nat->Bool) (n:Nat):Nat->Bool:= λb=>A b&&decide (b<n)
theorem gU {A:Nat->Bool} {n b:Nat}:Bd A n b=true↔A b=true∧b<n:=by simp [Bd]
theorem ZM {A:Nat->Bool} {n m:Nat} (h:n<=m):∀b,Bd A n b=true->Bd A m b=true:= λb hb=>by
 rw [gU] at hb ⊢;exact ⟨hb.1,by omega⟩
def ZN:Obj->Obj
 | .cells c e _=>.cells c e (0,c.size)
 |o=>o
open Classical in
noncomputable def lw (ro:Nat->Prop) (W:World) (τ:Nat->Question->Nat):World:=
 { W with heap:=W.heap.mapIdx λb o=>if ro b then ZN o else o,tape:=τ }
structure Since (Z:gG) (W W':World):Prop where
 tape:W'.tape=W.tape
 out:W'.output=W.output
 os:OsLater W.os W'.os
 size:W.heap.size<=W'.heap.size
 ro:∀b,Z.ro b->W'.heap[b]?=W.heap[b]?
 sy:∀b,Z.sy b->y9 W.heap[b]? W'.heap[b]?
 cl:∀b i,Z.cl b i->W'.cell? ⟨b,i,none⟩=W.cell? ⟨b,i,none⟩
theorem Since.refl (Z:gG) (W:World):Since Z W W:=⟨rfl,rfl,OsLater.refl _,aJ _, λ_ _=>rfl, λ_ _=>y9.refl _, λ_ _ _=>rfl⟩
theorem Since.trans {Z:gG} {a b c:World} (h:Since Z a b) (k:Since Z b c):Since Z a c:=
 ⟨k.tape.trans h.tape,k.out.trans h.out,h.os.trans k.os,aT h.size k.size, λx hx=>(k.ro x hx).trans (h.ro x hx), λx hx=>(h.sy x hx).trans (k.sy x hx), λx i hx=>(k.cl x i hx).trans (h.cl x i hx)⟩
theorem dZ.since {Z:gG} {own:Nat->Prop} {a b:World} (h:dZ Z own a b):Since Z a b:=⟨h.tape,h.out,h.os,h.size,h.ro,h.sy,h.cl⟩
structure St (δ:Type) where
 fr:Frame
 up:List Frame
 w:World
 f:Nat->Nat
 own:Nat->Prop
 W:World
 d:δ
structure Rw where
 w0:World
 W0:World
 f0:Nat->Nat
 L:Nat->Prop
 eP:Nat->Prop
 A:Nat->Bool
structure Fp (P:Program) (S V:FuncId->Bool) (cd:Code->Bool) (Z:gG) (D:Rw) (gF:Frame) (t:Nat) {δ:Type} (s:St δ):Prop where
 stk:y7 P (FA S V cd (Bd D.A s.w.heap.size)) s.fr s.up
 mode:s.fr.mode= .run∨s.fr.mode= .returning
 wr:WR (FA S V cd (Bd D.A s.w.heap.size)) s.f s.w s.W
 n0:D.w0.heap.size<=s.w.heap.size
 fid:∀b,b<D.w0.heap.size->s.f b=D.f0 b
 IV:∀b,b<s.w.heap.size->Sh.hol b=false->s.f b<s.W.heap.size
 ZO:∀b,D.w0.heap.size<=b->b<s.w.heap.size->D.W0.heap.size<=s.f b
 Js:∀b c,D.w0.heap.size<=b->b<c->c<s.w.heap.size->s.f b<s.f c
 img:∀b,b<s.w.heap.size->D.A b=true->s.own (s.f b)∨Z.ro (s.f b)
 lk:∀(b:Nat) (o:Obj),D.A b=true->s.w.heap[b]?=some o->¬lu o->s.own (s.f b)∧¬D.L (s.f b)
 owns:∀b,D.eP b->s.own b
 TK:∀b,s.own b->D.eP b∨D.W0.heap.size<=b
 ZP:∀b,s.own b->b<s.W.heap.size
 since:Since Z D.W0 s.W
 kept:∀b,D.L b->s.W.heap[b]?=D.W0.heap[b]?
 run:∀τ,(∀j q,j<s.w.drawn->τ j q=s.w.tape j q)->runN P t (lone gF [Par.stk] (D.w0.tp τ))= .next (lone s.fr (s.up++ [Par.stk]) (s.w.tp τ))
structure Inv (P Q:Program) (S V:FuncId->Bool) (cd:Code->Bool) (main:Bool) (Z:gG) {δ:Type} (Stop:δ->(Nat->Prop)->Goroutine->World->Prop) (D:Rw) (K:List Frame) (gF:Frame) (t:Nat) (s:St δ):Prop extends Fp P S V cd Z D gF t s where
 ngw:¬Gw Q main Z (Stop s.d) s.own (G (jE s.f s.fr) (s.up.map (jE s.f)++K)) s.W
structure AtQ (P Q:Program) (S V:FuncId->Bool) (cd:Code->Bool) (main:Bool) (Z:gG) {δ:Type} (Stop:δ->(Nat->Prop)->Goroutine->World->Prop) (D:Rw) (K:List Frame) (gF:Frame) (t:Nat) (s:St δ):Prop extends Fp P S V cd Z D gF t s where
 ent:∃g aS,S g=true∧(V g=true∨aS= #[])∧s.up≠ []∧s.fr=Frame.enter P g aS .normal∧Q.funcs[g]?≠P.funcs[g]?∧
  ¬Gw Q main Z (Stop s.d) s.own (G (Frame.enter Q g (aS.map (rv s.f)) .normal) (s.up.map (jE s.f)++K)) s.W
section
variable {P Q:Program} {S V:FuncId->Bool} {cd:Code->Bool} {main:Bool} {Z:gG} {δ:Type} {Stop:δ->(Nat->Prop)->Goroutine->World->Prop} {D:Rw} {K:List Frame} {gF:Frame} {R:Value->World->Prop}
structure Ground (P:Program) (S V:FuncId->Bool) (cd:Code->Bool) (Z:gG) (D:Rw):Prop where
 good:∀A:Nat->Bool,nX P (FA S V cd A)
 gQ:jK P=true
 lC:P.globals.size<D.w0.heap.size
 f0g:∀b,b<=P.globals.size->D.f0 b=b
 ac3:∀b,b<D.w0.heap.size->Sh.hol b=false->D.f0 b<D.W0.heap.size
 am2:∀a b,a<D.w0.heap.size->b<D.w0.heap.size->Sh.lk a=false->Sh.hol b=false->D.f0 a=D.f0 b->a=b
 glk:∀b,b<=P.globals.size->Sh.lk b=false
 bad:∀b,Sh.lk b=true->P.info? Sh.bad=none
 cc:∀b,Sh.lk b=true->∀t i,P.info? t=some i->∀u,i.desc≠ .named "sync.copyChecker" u
 lkn:∀b,Sh.lk b=true->b<D.w0.heap.size
 a0:∀b,b<D.w0.heap.size->D.A b=true->D.eP (D.f0 b)∨Z.ro (D.f0 b)
 af:∀b,D.w0.heap.size<=b->D.A b=true
 own:∀b,D.eP b->b<D.W0.heap.size∧¬Z.sy b∧¬Z.ro b
 ro:∀b,Z.ro b->b<D.W0.heap.size
 sy:∀b,Z.sy b->b<D.W0.heap.size
 cl:∀b i,Z.cl b i->Z.sy b
 lL:∀b,D.L b->b<D.W0.heap.size∧(Z.ro b∨D.eP b)
 nm:¬Z.mute
 XU:∀b,D.A b=true->Sh.hol b=false
theorem Ground.hlt (G0:Ground P S V cd Z D) {b:Nat} (h:Sh.hol b=true):b<D.w0.heap.size:=G0.lkn b (Sh.ak6 b h)
theorem Ground.hge (G0:Ground P S V cd Z D) {b:Nat} (h:D.w0.heap.size<=b):Sh.hol b=false:=by
 cases hx:Sh.hol b with
 |false=>rfl
 |true=>have :=G0.hlt hx;omega
theorem Ground.below (G0:Ground P S V cd Z D) {n b:Nat} (hn:D.w0.heap.size<=n) (h:Bd D.A n b=true∨Sh.hol b=true):b<n:=h.elim (λh=>(gU.1 h).2) λh=>aK (G0.hlt h) hn
def XA (P:Program) (w0:World) (gF:Frame) (R:Value->World->Prop):Prop:=
 ∀τ,∃n v w' fr',R v w'∧runN P n (lone gF [Par.stk] (w0.tp τ))= .next (lone fr' [Par.stk] w')∧fr'.leaving P w' (.returned v)
theorem ahead {t n:Nat} {fr fr':Frame} {up:List Frame} {m0:Machine} {w w':World} {v:Value} (h1:runN P t m0= .next (lone fr (up++ [Par.stk]) w)) (hn:¬Fin fr up) (h2:runN P n m0= .next (lone fr' [Par.stk] w')) (hl:fr'.leaving P w' (.returned v)):∃k,n=t+1+k:=by
 obtain ⟨hm,hd,hk,fn,hf,_⟩:=hl;rcases bz t n with hlt|hge
 ·exact ⟨n - t - 1,by omega⟩
 ·exfalso;obtain ⟨d,rfl⟩:=Nat.exists_eq_add_of_le hge;rw [oV,h2] at h1;dsimp only at h1;cases d with
  |zero=>
   simp only [runN] at h1;obtain ⟨e1,e2,_⟩:=uT (Stepped.next.inj h1);refine hn ⟨?_,by rw [<-e1];exact hm,by rw [<-e1];exact hd⟩;have :=congrArg List.length e2;simp at this;exact this
  |succ d=>exact Ae ⟨fn,hf⟩ hk hm hd w' d fr up w h1
theorem xx {own:Nat->Prop} {a b:World} {x:Nat} (h:own x):grow own a b x:=.inl h
theorem am3 {F:Fit} {f:Nat->Nat} {w W:World} {τ:Nat->Question->Nat} (h:WR F f w W):WR F f (w.tp τ) W:=⟨h.lt,h.blk⟩
theorem Fp.agree (G0:Ground P S V cd Z D) {t:Nat} {s:St δ} (h:Fp P S V cd Z D gF t s) {W1:World} (hr:dZ Z s.own s.W W1) (N:Nat) (hN:s.w.heap.size<=N)
 {f1:Nat->Nat} (hf1:f1= λb=>if b<s.w.heap.size then s.f b else W1.heap.size+(b - s.w.heap.size)) {τ:Nat->Question->Nat} (Mk:τ= λj q=>if j<s.w.drawn then s.w.tape j q else W1.tape (W1.drawn+(j - s.w.drawn)) q):
 Rn P f1∧Ag (FA S V cd (Bd D.A N)) f1 (s.w.tp τ) W1∧Ag (FA S V cd D.A) f1 (s.w.tp τ) W1∧(∀b,b<s.w.heap.size->f1 b=s.f b):=by
 have e1:∀b,b<s.w.heap.size->f1 b=s.f b:= λb hb=>by rw [hf1];exact aj hb
 have e2:∀b,s.w.heap.size<=b->f1 b=W1.heap.size+(b - s.w.heap.size):= λb hb=>by rw [hf1];exact aa (by omega)
 have hsz:=hr.size
 have blk:∀(F':Fit),F'.S=S->F'.V=V->F'.code=cd->(∀b,Bd D.A s.w.heap.size b=true->F'.A b=true)->(∀b,b<s.w.heap.size->F'.A b=true->D.A b=true)->WR F' f1 (s.w.tp τ) W1:=by
  intro F' hS hV hc hA hA';refine ⟨λb hb LD=>?_, λb o hb ho=>?_⟩
  ·have hb':b<s.w.heap.size:=hb;rw [e1 b hb'];have :=h.IV b hb' (G0.XU b (hA' b hb' LD));omega
  ·have ho':s.w.heap[b]?=some o:=ho
   have hlt:=(aI.1 ho').1;have hAb:=hA' b hlt hb;have key:=h.wr.blk b o (gU.2 ⟨hAb,hlt⟩) ho'
   have e:W1.heap[f1 b]?=s.W.heap[s.f b]?:=by
    rw [e1 b hlt];rcases h.img b hlt hAb with x|x
    ·exact hr.own _ x
    ·exact hr.ro _ x
   rw [e];exact key.conv ⟨hS.symm,hV.symm⟩ hc.symm hA λb hb=>(e1 b (G0.below h.n0 hb)).symm
 have tape:∀j q,(s.w.tp τ).tape ((s.w.tp τ).drawn+j) q=W1.tape (W1.drawn+j) q:=by
  intro j q;show τ (s.w.drawn+j) q=_;simp only [Mk];rw [aa (by omega),show s.w.drawn+j - s.w.drawn=j from by omega]
 have next :∀j,f1 ((s.w.tp τ).heap.size+j)=W1.heap.size+j:=by
  intro j;show f1 (s.w.heap.size+j)=_;rw [e2 _ (by omega)];omega
 have Lu:∀b,s.w.heap.size<=b->Sh.lk b=false:= λb hb=>by
  cases hx:Sh.lk b with
  |false=>rfl
  |true=>have :=G0.lkn b hx;have :=h.n0;omega
 refine ⟨⟨λa b hla hhb hab=>?_, λb hb=>?_,G0.gQ,G0.glk,G0.bad,G0.cc⟩,⟨blk _ rfl rfl rfl (ZM hN) (λb _ hb=>(gU.1 hb).1),tape,next,Lu, λb hb=>G0.XU b (gU.1 hb).1⟩,⟨blk _ rfl rfl rfl (λb hb=>(gU.1 hb).1) (λb _ hb=>hb),tape,next,Lu,G0.XU⟩,e1⟩
 ·have hn0:=h.n0;have hW:=h.since.size
  have hsmall:∀b,b<D.w0.heap.size->Sh.hol b=false->f1 b=D.f0 b∧f1 b<D.W0.heap.size:= λb hb hh=>by
   rw [e1 b (by omega),h.fid b hb];exact ⟨rfl,G0.ac3 b hb hh⟩
  have hbig:∀b,D.w0.heap.size<=b->D.W0.heap.size<=f1 b:= λb hb=>by
   rcases bz b s.w.heap.size with h1|h1
   ·rw [e1 b h1];exact h.ZO b hb h1
   ·rw [e2 b h1];omega
  have hmono:∀b c,D.w0.heap.size<=b->b<c->f1 b<f1 c:= λb c hb hbc=>by
   rcases bz c s.w.heap.size with h1|h1
   ·rw [e1 c h1,e1 b (by omega)];exact h.Js b c hb hbc h1
   ·rw [e2 c h1];rcases bz b s.w.heap.size with h2|h2
    ·rw [e1 b h2];have :=h.IV b h2 (G0.hge hb);omega
    ·rw [e2 b h2];omega
  rcases bz a D.w0.heap.size with ha|ha
  ·have k1:=hsmall a ha (PM hla);rcases bz b D.w0.heap.size with hb|hb
   ·exact G0.am2 a b ha hb hla hhb (by rw [<-k1.1, <-(hsmall b hb hhb).1,hab])
   ·have :=hbig b hb;omega
  ·rcases bz b D.w0.heap.size with hb|hb
   ·have :=(hsmall b hb hhb).2;have :=hbig a ha;omega
   ·rcases Nat.lt_trichotomy a b with hlt|heq|hgt
    ·have :=hmono a b ha hlt;omega
    ·exact heq
    ·have :=hmono b a hb hgt;omega
 ·have :=G0.lC;have hb':b<D.w0.heap.size:=by omega
  rw [e1 b (aK hb' h.n0),h.fid b hb'];exact G0.f0g b hb
theorem Inv.ZQ (hQ:Alike P Q) (G0:Ground P S V cd Z D) {t:Nat} {s:St δ} (h:Inv P Q S V cd main Z Stop D K gF t s)
 (aw1:∀τ:Nat->Question->Nat,(∀j q,j<s.w.drawn->τ j q=s.w.tape j q)->∃k fr' w',(∀ch,fr'.mode≠ .panicking ch)∧runN P (t+1+k) (lone gF [Par.stk] (D.w0.tp τ))= .next (lone fr' [Par.stk] w')) (hn:¬Fin s.fr s.up):
 ∃s',(Inv P Q S V cd main Z Stop D K gF (t+1) s'∨AtQ P Q S V cd main Z Stop D K gF (t+1) s')∧s.w.drawn<=s'.w.drawn∧∀j q,j<s.w.drawn->s'.w.tape j q=s.w.tape j q:=by
 obtain ⟨W1,hr,hno⟩:=Gw.not rfl h.ngw;obtain ⟨f1,hf1⟩:∃f1:Nat->Nat,f1= λb=>if b<s.w.heap.size then s.f b else W1.heap.size+(b - s.w.heap.size):=⟨_,rfl⟩
 obtain ⟨τ,Mk⟩:∃τ:Nat->Question->Nat,τ= λj q=>if j<s.w.drawn then s.w.tape j q else W1.tape (W1.drawn+(j - s.w.drawn)) q:=⟨_,rfl⟩
 have Rx:∀j q,j<s.w.drawn->τ j q=s.w.tape j q:= λj q hj=>by rw [Mk];exact aj hj
 obtain ⟨N,am4⟩:∃N,N=max s.w.heap.size (gw (stepG P true (G s.fr (s.up++ [Par.stk])) (s.w.tp τ))).heap.size:=⟨_,rfl⟩;have hN:s.w.heap.size<=N:=by omega
 obtain ⟨hRn,hag,am5,e1⟩:=h.toFp.agree G0 hr N hN hf1 Mk;have XV:y7 P (FA S V cd (Bd D.A N)) s.fr s.up:=y7.mono (F:=FA S V cd (Bd D.A s.w.heap.size)) (F':=FA S V cd (Bd D.A N)) ⟨rfl,rfl⟩ rfl (ZM hN) h.stk;have am6:y7 P (FA S V cd D.A) s.fr s.up:=y7.mono (F:=FA S V cd (Bd D.A s.w.heap.size)) (F':=FA S V cd D.A) ⟨rfl,rfl⟩ rfl (λb hb=>(gU.1 hb).1) h.stk;have hmode:s.fr.mode= .run∨s.fr.mode= .returning∧(s.up= []->s.fr.defers≠ []):=h.mode.imp id λhm=>⟨hm, λhu hd=>hn ⟨hu,hm,hd⟩⟩
 have NH:=Ur (cs:=[Par.stk]) (K:=K) hQ (G0.good _) hRn hag true main XV hmode;have hloc:=Uu (cs:=[Par.stk]) (f:=f1) (W:=W1) (w:=s.w.tp τ) (F:=FA S V cd D.A) (λb hb=>G0.af b (aT h.n0 hb)) (G0.good _) hRn am5 true am6 hmode;have hrun:=h.run τ Rx;have efr:jE f1 s.fr=jE s.f s.fr:=Ec (F:=FA S V cd (Bd D.A s.w.heap.size)) (λb hb=>e1 b (G0.below h.n0 hb)) h.stk.top;have eup:s.up.map (jE f1)=s.up.map (jE s.f):=Ux (F:=FA S V cd (Bd D.A s.w.heap.size)) (λb hb=>e1 b (G0.below h.n0 hb)) h.stk;rw [efr,eup] at NH;obtain ⟨k,fr',w',hlv,hend⟩:=aw1 τ Rx;have hnext:runN P (t+1) (lone gF [Par.stk] (D.w0.tp τ))=step P (lone s.fr (s.up++ [Par.stk]) (s.w.tp τ)):=by rw [xw,hrun]
 rw [oV,hnext] at hend;rcases NH with ⟨b,b1,b2,b3⟩|NH
 ·exfalso;have b1':s.w.heap.size<=b:=b1;have :Bd D.A N b=true:=gU.2 ⟨G0.af b (aT h.n0 b1'),by omega⟩;rw [show (FA S V cd (Bd D.A N)).A b=Bd D.A N b from rfl,this] at b3;cases b3
 ·generalize hs:stepG P true (G s.fr (s.up++ [Par.stk])) (s.w.tp τ)=sS at NH;cases sS with
  |ended o w1 es=>
   exfalso;rw [uU hs] at hend;cases hend
  |go g w1 es=>
   rcases NH with hps|⟨vO,Bw,X,vS,es',rfl,h1,h2,hX,h3,h4,h5⟩
   ·exfalso;have aw2:=hps;obtain ⟨Uz,up2,ch,rfl,_⟩:=aw2;rw [Ab hs] at hend;exact Jr (P:=P) k hps fr' w' hlv hend
   ·have aw3:N=w1.heap.size:=by
     rw [am4,hs];obtain ⟨k,hk,_⟩:=h4.size;have hk':w1.heap.size=s.w.heap.size+k:=hk;show max s.w.heap.size w1.heap.size=w1.heap.size;omega
    subst aw3;obtain ⟨kk,hk1,hk2⟩:=h4.size;have hk1:w1.heap.size=s.w.heap.size+kk:=hk1;have hWs:=hr.size
    have hnp:¬Panics (G vO (Bw++ [Par.stk])):=by
     rintro ⟨ch,hc⟩;have hc:vO.mode= .panicking ch:=hc;rcases h2 with h2|h2<;>(rw [h2] at hc;cases hc)
    obtain ⟨hd,hlc⟩:=hloc _ _ _ hs hnp;have hd:s.w.drawn<=w1.drawn:=hd;have UA:w1.tape=τ:=h4.tape;have e2:∀b,s.w.heap.size<=b->f1 b=W1.heap.size+(b - s.w.heap.size):= λb hb=>by rw [hf1];exact aa (by omega)
    have aw4:D.W0.heap.size<=s.W.heap.size:=h.since.size
    have hown:∀b,b<w1.heap.size->D.A b=true->grow s.own W1 vS (f1 b)∨Z.ro (f1 b):=by
     intro b hb hA;rcases bz b s.w.heap.size with hlt|hge
     ·rw [e1 b hlt];exact (h.img b hlt hA).imp xx id
     ·refine .inl (.inr ?_);rw [e2 b hge];omega
    have hlk:∀(b:Nat) (o:Obj),D.A b=true->w1.heap[b]?=some o->¬lu o->grow s.own W1 vS (f1 b)∧¬D.L (f1 b):=by
     intro b o hA ho hl;rcases bz b s.w.heap.size with hlt|hge
     ·have hx:(s.w.tp τ).heap[b]?=some s.w.heap[b]:=by show s.w.heap[b]?=_;simp [hlt]
      obtain ⟨o1,ho1,hl1,_⟩:=h4.lock b _ hx;rw [ho1] at ho;cases ho;rw [e1 b hlt];have :=h.lk b _ hA hx λy=>hl (hl1.2 y)
      exact ⟨xx this.1,this.2⟩
     ·have hb:=(aI.1 ho).1;rw [e2 b hge];refine ⟨.inr ?_, λx=>?_⟩
      ·omega
      ·have :=(G0.lL _ x).1;omega
    have ac4:∀b,grow s.own W1 vS b->D.eP b∨D.W0.heap.size<=b:=by
     intro b hb;rcases hb with hb|hb
     ·exact h.TK b hb
     ·exact .inr (by omega)
    have ac5:∀b,grow s.own W1 vS b->b<vS.heap.size:=by
     intro b hb;rcases hb with hb|hb
     ·have :=h.ZP b hb;omega
     ·exact hb.2
    have hkeep:∀b,b<W1.heap.size->¬s.own b->vS.heap[b]?=W1.heap[b]?:=by
     intro b hb hno;rcases h4.frame b hb with e|⟨b',o,hA,ho,hfb,hl⟩
     ·exact e
     ·exfalso;have ho':s.w.heap[b']?=some o:=ho
      have hlt:=(aI.1 ho').1;have :=(h.lk b' o (gU.1 hA).1 ho' hl).1;rw [<-hfb,e1 b' hlt] at hno;exact hno this
    have hkept:∀b,D.L b->vS.heap[b]?=D.W0.heap[b]?:=by
     intro b hb;have hbL:=G0.lL b hb
     have k1:vS.heap[b]?=W1.heap[b]?:=by
      rcases h4.frame b (by omega) with e|⟨b',o,hA,ho,hfb,hl⟩
      ·exact e
      ·exfalso;have ho':s.w.heap[b']?=some o:=ho
       have hlt:=(aI.1 ho').1;have :=(h.lk b' o (gU.1 hA).1 ho' hl).2;rw [<-hfb,e1 b' hlt] at hb;exact this hb
     rw [k1, <-h.kept b hb];rcases hbL.2 with x|x
     ·exact hr.ro b x
     ·exact hr.own b (h.owns b x)
    have XB:∀b,Z.sy b->¬s.own b:=by
     intro b hb ho;rcases h.TK b ho with x|x
     ·exact (G0.own b x).2.1 hb
     ·have :=G0.sy b hb;omega
    have nro:∀b,Z.ro b->¬s.own b:=by
     intro b hb ho;rcases h.TK b ho with x|x
     ·exact (G0.own b x).2.2 hb
     ·have :=G0.ro b hb;omega
    have su:wM Z s.own W1 vS:=by
     refine ⟨h4.tape',h4.out',h4.os',by omega, λb hb hno _=>hkeep b hb hno, λb hb=>?_⟩;have hbl:=G0.sy b hb;have e:=hkeep b (by omega) (XB b hb);refine ⟨by rw [e];exact y9.refl _, λi _=>?_⟩;unfold World.cell?;simp only [e]
    have hev:∀e∈es',Rm Z (grow s.own W1 vS) e:=by
     obtain ⟨u,hu1,hu2,hu3⟩:=h5;intro e he;rw [hu2] at he;simp only [Array.empty_append,Array.mem_map] at he;obtain ⟨e0,he0,rfl⟩:=he;have hx:=hu3 e0 he0;obtain ⟨loc,wr,sy⟩:=e0;obtain ⟨hx1,hx2⟩:=hx;refine ⟨G0.nm,?_⟩;cases loc with
     |cell a=>
      obtain ⟨hA,⟨v,hv⟩,hw⟩:=hx2
      have AU:∃o:Obj,w1.heap[a.block]?=some o:=by
       unfold World.cell? at hv;cases hb:w1.heap[a.block]? with
       |none=>rw [hb] at hv;cases hv
       |some o=>exact ⟨o,rfl⟩
      obtain ⟨o,ho⟩:=AU;have hlt:=(aI.1 ho).1;have hA':=(gU.1 hA).1;refine ⟨hx1,?_⟩;cases wr with
      |true=>
       obtain ⟨o',ho',hl'⟩:=hw rfl;exact .inl (hlk _ o' hA' ho' hl').1
      |false=>
       rcases hown _ hlt hA' with x|x
       ·exact .inl x
       ·exact .inr (.inl ⟨x,rfl⟩)
     |obj r=>
      obtain ⟨hA,o,ho,hc⟩:=hx2;have hA':=(gU.1 hA).1;refine ⟨hx1,(hlk _ o hA' ho ?_).1⟩;rintro ⟨c,e,fr,rfl,_⟩;cases hc
     |mark m=>
      have hm:m= .noRoom:=hx2;subst hm;rfl
     |output=>exact hx2.elim
     |goroutines=>exact hx2.elim
    have inv0:Fp P S V cd Z D gF (t+1) (⟨vO,Bw,w1,f1,grow s.own W1 vS,vS,s.d⟩:St δ):=by
     refine ⟨h1,h2,h4.ag.wr,by show _<=w1.heap.size;have :=h.n0;omega, λb hb=>?_, λb hb hh=>?_, λb hb hb2=>?_, λb c hb0 hbc hc=>?_,hown,hlk, λb hb=>xx (h.owns b hb),ac4,ac5,?_,hkept, λτ' XW=>?_⟩
     ·show f1 b=D.f0 b;rw [e1 b (aK hb h.n0)];exact h.fid b hb
     ·show f1 b<vS.heap.size;have hb:b<w1.heap.size:=hb;rcases bz b s.w.heap.size with hlt|hge
      ·rw [e1 b hlt];have :=h.IV b hlt hh;omega
      ·rw [e2 b hge];omega
     ·show D.W0.heap.size<=f1 b;rcases bz b s.w.heap.size with hlt|hge
      ·rw [e1 b hlt];exact h.ZO b hb hlt
      ·rw [e2 b hge];omega
     ·show f1 b<f1 c;have hc:c<w1.heap.size:=hc;rcases bz c s.w.heap.size with hlt|hge
      ·rw [e1 c hlt,e1 b (by omega)];exact h.Js b c hb0 hbc hlt
      ·rw [e2 c hge];rcases bz b s.w.heap.size with hlt2|XX
       ·rw [e1 b hlt2];have :=h.IV b hlt2 (G0.hge hb0);omega
       ·rw [e2 b XX];omega
     ·refine h.since.trans (hr.since.trans ⟨h4.tape',h4.out',by rw [h4.os'];exact OsLater.refl _,(by show W1.heap.size<=vS.heap.size;omega), λb hb=>hkeep b (by have :=G0.ro b hb;omega) (nro b hb), λb hb=>?_, λb i hb=>?_⟩)
      ·rw [hkeep b (by have :=G0.sy b hb;omega) (XB b hb)];exact y9.refl _
      ·have hsy:=G0.cl b i hb;have e:=hkeep b (by have :=G0.sy b hsy;omega) (XB b hsy);unfold World.cell?;simp only [e]
     ·have XW:∀j q,j<w1.drawn->τ' j q=w1.tape j q:=XW
      have ag0:∀j q,j<s.w.drawn->τ' j q=s.w.tape j q:= λj q hj=>by
       rw [XW j q (by omega),UA,Rx j q hj]
      show runN P (t+1) _= .next (lone vO (Bw++ [Par.stk]) (w1.tp τ'))
      rw [xw,h.run τ' ag0];have hl:=hlc τ' (λj q _ h2=>by rw [XW j q h2,UA];rfl);exact Ab hl
    refine ⟨⟨vO,Bw,w1,f1,grow s.own W1 vS,vS,s.d⟩,?_,hd, λj q hj=>by show w1.tape j q=_;rw [UA,Rx j q hj]⟩;have hgo:=hno _ _ _ h3 su hev;rcases hX with hX|⟨g,aS,hg,has,hv,hup,hfr,hX⟩<;>subst hX
    ·exact .inl ⟨inv0,hgo⟩
    ·by_cases hsame:Q.funcs[g]?=P.funcs[g]?
     ·refine .inl ⟨inv0,?_⟩
      have e:Frame.enter Q g (aS.map (rv f1)) .normal=jE f1 vO:=by
       rw [hfr];rw [<-D8 (F:=FA S V cd D.A) (G0.good _) hg aS];unfold Frame.enter;rw [hsame]
      show ¬Gw Q main Z (Stop s.d) _ (G (jE f1 vO) _) _;rw [<-e];exact hgo
     ·exact .inr ⟨inv0,g,aS,hg,hv,hup,hfr,hsame,hgo⟩
  |_=>exact NH.elim
theorem Inv.next (hQ:Alike P Q) (G0:Ground P S V cd Z D) (oD:XA P D.w0 gF R) {t:Nat} {s:St δ} (h:Inv P Q S V cd main Z Stop D K gF t s) (hn:¬Fin s.fr s.up):
 ∃s',(Inv P Q S V cd main Z Stop D K gF (t+1) s'∨AtQ P Q S V cd main Z Stop D K gF (t+1) s')∧s.w.drawn<=s'.w.drawn∧∀j q,j<s.w.drawn->s'.w.tape j q=s.w.tape j q:=
 h.ZQ hQ G0 (λτ Mk=>by
  obtain ⟨n,v,w',fr',h1,h2,h3⟩:=oD τ;obtain ⟨k,rfl⟩:=ahead (h.run τ Mk) hn h2 h3;exact ⟨k,fr',w',⟨λch e=>(by rw [h3.1] at e;cases e),h2⟩⟩) hn
end
end
end Par
