/- Part 1. -/
import Derived.Maps.AppendAt
import Derived.Below
set_option maxRecDepth 100000
set_option maxHeartbeats 0
set_option linter.all false
section
abbrev aa:=@if_neg
abbrev aj:=@if_pos
abbrev ak:=@Option.getD_some
abbrev au:=@Array.getElem?_setIfInBounds_ne
abbrev ax:=@List.not_mem_nil
abbrev ay:=@Option.map_some
abbrev az:=@False.elim
abbrev aA:=@Array.getD_eq_getD_getElem?
abbrev aB:=@List.mem_toArray
abbrev aC:=@List.map_cons
abbrev aD:=@Array.getElem?_setIfInBounds_self_of_lt
abbrev aF:=@List.drop_length
abbrev aG:=@Array.getElem?_map
abbrev aH:=@Nat.add_zero
abbrev aI:=@Array.getElem?_eq_some_iff
abbrev aJ:=@Nat.le_refl
abbrev aK:=@Nat.lt_of_lt_of_le
abbrev aM:=@And.intro
abbrev aO:=@List.getElem?_eq_getElem
abbrev aP:=@Option.bind_eq_some_iff
abbrev aQ:=@List.mem_cons_self
abbrev aR:=@List.mem_cons_of_mem
abbrev aS:=@List.mem_singleton
abbrev aT:=@Nat.le_trans
abbrev aU:=@Option.some.inj
abbrev aV:=@Array.all_eq_true_iff_forall_mem
abbrev aW:=@List.drop_eq_getElem_cons
abbrev aX:=@Array.getElem?_eq_getElem
abbrev aY:=@List.getElem_mem
abbrev bg:=@List.getElem?_eq_some_iff
abbrev bn:=@Array.mem_of_getElem?
abbrev bq:=@Nat.zero_le
abbrev bu:=@Classical.byContradiction
abbrev bz:=@Nat.lt_or_ge
abbrev bB:=@List.take_succ_eq_append_getElem
abbrev bC:=@Array.getElem?_modify
abbrev bD:=@Bool.and_eq_true
abbrev bE:=@Bool.false_eq_true
abbrev bF:=@List.mem_cons
abbrev bG:=@List.mem_of_mem_take
abbrev bH:=@List.all_eq_true
abbrev bI:=@Array.mem_or_eq_of_mem_setIfInBounds
namespace Par
open Go
class Sh where
 lk:Nat->Bool
 sh:Nat->Nat
 bad:TypeId
 sh0:∀b,lk b=false->sh b=0
 hol:Nat->Bool
 ak6:∀b,hol b=true->lk b=true
@[reducible] def noSh:Sh:=⟨λ_=>false, λ_=>0,0, λ_ _=>rfl, λ_=>false, λ_ h=>by cases h⟩
section
variable [Sh]
theorem PM {b:Nat} (h:Sh.lk b=false):Sh.hol b=false:=by
 cases hx:Sh.hol b with
 |false=>rfl
 |true=>rw [Sh.ak6 b hx] at h;cases h
def ra (f:Nat->Nat) (a:Addr):Addr:={ a with block:=f a.block,off:=a.off+Sh.sh a.block }
@[simp] theorem Kg (f:Nat->Nat) (a:Addr):(ra f a).off=a.off+Sh.sh a.block:=rfl
@[simp] theorem PN (f:Nat->Nat) (a:Addr):(ra f a).spot=a.spot:=rfl
@[simp] theorem wV (f:Nat->Nat) (a:Addr):(ra f a).block=f a.block:=rfl
@[simp] theorem DT (f:Nat->Nat) (a:Addr) (n:Nat):ra f (a.add n)=(ra f a).add n:=by
  unfold Addr.add;split
  ·rfl
  ·simp only [ra];congr 1;omega
def Xy (f:Nat->Nat):Fn->Fn
 | .yield l=>.yield (f l)
 |x=>x
mutual
def rv (f:Nat->Nat):Value->Value
 | .bool b=>.bool b
 | .int k n=>.int k n
 | .float k b=>.float k b
 | .complex k a b=>.complex k a b
 | .string s=>.string s
 | .pointer a=>.pointer (a.map (ra f))
 | .slice a l c=>.slice (a.map (ra f)) l c
 | .map r=>.map (r.map f)
 | .chan r=>.chan (r.map f)
 | .func fn first cap=>.func (Xy f fn) (PO f first) (PO f cap)
 | .nilFunc=>.nilFunc
 | .iface t v=>.iface t (rv f v)
 | .nilIface=>.nilIface
 | .agg cs=>.agg (PO f cs)
 | .tuple vs=>.tuple (PO f vs)
def PO (f:Nat->Nat):Array Value->Array Value
 |⟨l⟩=>⟨Lv f l⟩
def Lv (f:Nat->Nat):List Value->List Value
 | []=>[]
 |v::l=>rv f v::Lv f l
end
theorem TT (f:Nat->Nat):∀l:List Value,Lv f l=l.map (rv f)
 | []=>by rw [Lv];rfl
 |v::l=>by rw [Lv,TT f l];rfl
@[simp] theorem ab3 (f:Nat->Nat) (a:Array Value):PO f a=a.map (rv f):=by
  obtain ⟨l⟩:=a;rw [PO,TT];simp
@[simp] theorem nL (f:Nat->Nat) (b:Bool):rv f (.bool b)= .bool b:=by rw [rv]
@[simp] theorem jM (f:Nat->Nat) (k:IntKind) (n:Int):rv f (.int k n)= .int k n:=by rw [rv]
@[simp] theorem gT (f:Nat->Nat) (s:ByteArray):rv f (.string s)= .string s:=by rw [rv]
@[simp] theorem wW (f:Nat->Nat) (k:FloatKind) (b:Nat):rv f (.float k b)= .float k b:=by rw [rv]
@[simp] theorem sH (f:Nat->Nat) (k:FloatKind) (a b:Nat):rv f (.complex k a b)= .complex k a b:=by rw [rv]
@[simp] theorem eZ (f:Nat->Nat) (a:Option Addr):rv f (.pointer a)= .pointer (a.map (ra f)):=by rw [rv]
@[simp] theorem fV (f:Nat->Nat) (a:Option Addr) (l c:Nat):rv f (.slice a l c)= .slice (a.map (ra f)) l c:=by rw [rv]
@[simp] theorem um (f:Nat->Nat) (r:Option Nat):rv f (.map r)= .map (r.map f):=by rw [rv]
@[simp] theorem xY (f:Nat->Nat) (r:Option Nat):rv f (.chan r)= .chan (r.map f):=by rw [rv]
@[simp] theorem uy (f:Nat->Nat) (fn:Fn) (a b:Array Value):rv f (.func fn a b)= .func (Xy f fn) (a.map (rv f)) (b.map (rv f)):=by rw [rv];simp
@[simp] theorem oH (f:Nat->Nat):rv f .nilFunc= .nilFunc:=by rw [rv]
@[simp] theorem lJ (f:Nat->Nat):rv f .nilIface= .nilIface:=by rw [rv]
@[simp] theorem uN (f:Nat->Nat) (t:TypeId) (v:Value):rv f (.iface t v)= .iface t (rv f v):=by rw [rv]
@[simp] theorem uo (f:Nat->Nat) (a:Array Value):rv f (.agg a)= .agg (a.map (rv f)):=by rw [rv];simp
@[simp] theorem wX (f:Nat->Nat) (a:Array Value):rv f (.tuple a)= .tuple (a.map (rv f)):=by rw [rv];simp
@[simp] theorem Lx (f:Nat->Nat):rv f undef=undef:=by simp [undef]
@[simp] theorem NI (f:Nat->Nat):rv f (default:Value)=default:=by
  show rv f (.bool _)= .bool _;simp
theorem wY (f:Nat->Nat) (v:Value):(rv f v).cells=v.cells.map (rv f):=by
 cases v<;>simp [Value.cells]
def rd (f:Nat->Nat) (d:Deferred):Deferred:=
 { target:=match d.target with
    | .fn fn cap=>.fn (Xy f fn) (cap.map (rv f))
    | .collected r=>.collected (f r)
    | .coroexit c=>.coroexit (f c)
    |t=>t
   args:=d.args.map (rv f) }
def re (f:Nat->Nat) (e:MapEntry):MapEntry:={ key:=rv f e.key,val:=rv f e.val,born:=e.born }
def ro (f:Nat->Nat):Obj->Obj
 | .cells c e fr=>.cells (c.map (rv f)) e fr
 | .pending c e=>.pending (c.map (rv f)) e
 | .view a t=>.view (ra f a) t
 | .number a b=>.number (ra f a) b
 | .map es c=>.map (es.map (re f)) c
 | .chan cap buf cl s r t=>.chan cap (buf.map (rv f)) cl s r t
 | .stringIter s p=>.stringIter s p
 | .mapIter m a b c=>.mapIter (m.map f) a b c
 | .loop l=>.loop { l with tmps:=l.tmps.map (rv f),defers:=f l.defers }
 | .deferred ds=>.deferred (ds.map (·.map (rd f)))
 | .coro p=>.coro p
 | .finalizers fs r=>.finalizers (fs.map λx=>(f x.1,rd f x.2)) r
theorem Jg (f:Nat->Nat) (o:Obj):(ro f o).isChan=o.isChan:=by cases o<;>rfl
def rm (f:Nat->Nat):Mark->Mark
 | .acquire a=>.acquire (ra f a)
 | .release a=>.release (ra f a)
 | .releaseMerge a=>.releaseMerge (ra f a)
 | .read a=>.read (ra f a)
 | .write a=>.write (ra f a)
 |m=>m
def rl (f:Nat->Nat):Loc->Loc
 | .cell a=>.cell (ra f a)
 | .obj r=>.obj (f r)
 | .mark m=>.mark (rm f m)
 |l=>l
def rev (f:Nat->Nat) (e:Event):Event:={ e with loc:=rl f e.loc }
end
end Par
end
namespace Par
open Go
def rw' {α:Type}:Result α->World
 | .ok _ w=>w
 | .halt _ w=>w
theorem FR {P:Program} {w w':World} {a b:Addr} {u:TypeId} {v:Value} {x:Bool} {l:List Addr} (h:w.viewStore P a u b v x= .ok (w',l)):w'.heap.size=w.heap.size:=by
 unfold World.viewStore at h;simp only [bind,Except.bind,pure,Except.pure,MonadExcept.throw,throwThe,MonadExceptOf.throw] at h
 repeat' (first |split at h|(cases h;done))
 all_goals (try (cases h;simp))
theorem I1 {P:Program} {w w':World} {a:Addr} {v:Value} {x:Bool} {l:List Addr} (h:w.farStore P a v x= .ok (w',l)):w'.heap.size=w.heap.size:=by
 unfold World.farStore at h;split at h
 ·split at h
  ·cases h;rename_i h;exact FR h
  ·cases h
 ·cases h
theorem FU {α:Type}:∀(m:Ask α) (w:World),(w.ask m).2.heap=w.heap
 | .done a,w=>rfl
 | .ask q r k,w=>by
   unfold World.ask;dsimp only;split
   ·exact FU _ w
   ·exact FU _ _
theorem LA (w:World) (c:Sys):(w.sys c).2.heap=w.heap:=by
 unfold World.sys;have :=FU (Kernel.perform c w.os) w;split
 ·rfl
 ·rename_i h;rw [h] at this;exact this
theorem LB (w:World) (a:Addr) (n:Nat):(w.freeze a n).heap.size=w.heap.size:=by
 unfold World.freeze;split<;>simp
theorem runT_size {P:Program} {α:Type} (m:Sem α):∀(w:World) (es:Array Event),w.heap.size<=(rw' (m.runT P w es).1).heap.size:=by
 induction m with
 |pure a=>intro w es;exact aJ _
 |load m a k ih=>
  intro w es;simp only [Sem.runT];split
  ·exact ih _ _ _
  ·split
   ·exact ih _ _ _
   ·exact aJ _
 |store m a v k ih=>
  intro w es;have :∀(w w':World) es,w'.heap.size=w.heap.size->w.heap.size<=(rw' (k.runT P w' es).1).heap.size:= λw w' es h=>by rw [<-h];exact ih _ _
  cases v<;>first
   |(simp only [Sem.runT];exact aJ _)
   |(simp only [Sem.runT];split
     ·split
      ·exact aJ _
      ·exact this _ _ _ (by simp [World.setCell])
     ·split
      ·rename_i h;exact this _ _ _ (I1 h)
      ·exact aJ _)
 |new o k ih=>
  intro w es;simp only [Sem.runT];have :=ih w.heap.size { w with heap:=w.heap.push o } es;simp only [Array.size_push] at this;omega
 |shape r k ih=>intro w es;simp only [Sem.runT];exact ih _ _ _
 |freeze a n k ih=>intro w es;simp only [Sem.runT];have :=ih (w.freeze a n) es;rw [LB] at this;exact this
 |frozen a k ih=>intro w es;simp only [Sem.runT];exact ih _ _ _
 |getObj r k ih=>
  intro w es;simp only [Sem.runT];split
  ·exact aJ _
  ·exact ih _ _ _
  ·exact aJ _
 |setObj r o k ih=>
  intro w es;simp only [Sem.runT];split
  ·exact aJ _
  ·have :=ih { w with heap:=w.heap.setIfInBounds r o } (es.push ⟨.obj r,true,o.isChan⟩);simpa using this
  ·exact aJ _
 |choose q k ih=>
  intro w es;simp only [Sem.runT];split
  ·exact ih _ _ _
  ·exact ih _ { w with drawn:=w.drawn+1 } _
 |sys c k ih=>
  intro w es;simp only [Sem.runT];have :=ih (w.sys c).1 (w.sys c).2 (es.push ⟨.output,true,false⟩);rw [LA] at this;exact this
 |program k ih=>intro w es;simp only [Sem.runT];exact ih _ _ _
 |mark m k ih=>intro w es;simp only [Sem.runT];exact ih _ _
 |halt h=>intro w es;exact aJ _
end Par
section
def Go.Program.stub (P:Go.Program) (q:Go.FuncId) (c:Go.Code):Go.Program:={ P with funcs:=P.funcs.modify q λfn=>{ fn with body:=some c } }
namespace Par
open Go
variable [Sh]
structure Fit where
 S:FuncId->Bool
 A:Nat->Bool
 code:Code->Bool
 V:FuncId->Bool
def ZF (F:Fit):Fn->Bool
 | .func g=>F.V g
 | .yield l=>F.A l
 |_=>false
def opA (F:Fit):Option Nat->Bool
 |none=>true
 |some r=>F.A r
def Xz (F:Fit):Option Addr->Bool
 |none=>true
 |some a=>F.A a.block
def NF (F:Fit) (a:Option Addr) (l c:Nat):Bool:=Xz F a||(a.any (λa=>Sh.hol a.block)&&(l==0&&c==0))
mutual
def vs (F:Fit):Value->Bool
 | .func fn first cap=>ZF F fn&&NJ F first &&NJ F cap
 | .iface _ v=>vs F v
 | .agg cs=>NJ F cs
 | .tuple cs=>NJ F cs
 | .bool _=>true
 | .int _ _=>true
 | .float _ _=>false
 | .complex _ _ _=>false
 | .string _=>true
 | .pointer a=>Xz F a
 | .slice a l c=>NF F a l c
 | .map r=>opA F r
 | .chan r=>r.isNone
 | .nilFunc=>true
 | .nilIface=>true
def NJ (F:Fit):Array Value->Bool
 |⟨l⟩=>NG F l
def NG (F:Fit):List Value->Bool
 | []=>true
 |v::l=>vs F v&&NG F l
end
section
variable {F:Fit}
theorem PR:∀{l:List Value},NG F l=true↔∀v∈l,vs F v=true
 | []=>by rw [NG];simp
 |v::l=>by rw [NG];simp [PR (l:=l)]
theorem FB {a:Array Value}:NJ F a=true↔∀v∈a,vs F v=true:=by
 obtain ⟨l⟩:=a;rw [NJ,PR];simp
end
def VS (F:Fit) (a:Array Value):Prop:=∀v∈a,vs F v=true
section
variable {F:Fit}
@[simp] theorem xZ (b:Bool):vs F (.bool b)=true:=by rw [vs]
@[simp] theorem Kh (k:IntKind) (n:Int):vs F (.int k n)=true:=by rw [vs]
@[simp] theorem ak5 (s:ByteArray):vs F (.string s)=true:=by rw [vs]
@[simp] theorem ak7 (k:FloatKind) (b:Nat):vs F (.float k b)=false:=by rw [vs]
@[simp] theorem ab4 (k:FloatKind) (a b:Nat):vs F (.complex k a b)=false:=by rw [vs]
@[simp] theorem FV (a:Option Addr):vs F (.pointer a)=Xz F a:=by rw [vs]
@[simp] theorem jC (a:Option Addr) (l c:Nat):vs F (.slice a l c)=NF F a l c:=by rw [vs]
@[simp] theorem aw0 (r:Option Nat):vs F (.map r)=opA F r:=by rw [vs]
@[simp] theorem av8 (r:Option Nat):vs F (.chan r)=r.isNone:=by rw [vs]
@[simp] theorem ab5:vs F .nilFunc=true:=by rw [vs]
@[simp] theorem ZG:vs F .nilIface=true:=by rw [vs]
@[simp] theorem ak8 (t:TypeId) (v:Value):vs F (.iface t v)=vs F v:=by rw [vs]
@[simp] theorem ak9:Xz F none=true:=rfl
@[simp] theorem zm (a:Addr):Xz F (some a)=F.A a.block:=rfl
@[simp] theorem al0 (l c:Nat):NF F none l c=true:=rfl
theorem wI {a:Option Addr} {l c:Nat} (h:Xz F a=true):NF F a l c=true:=by unfold NF;rw [h];rfl
theorem tQ {a:Addr} {l c:Nat} (h:NF F (some a) l c=true):F.A a.block=true∨(Sh.hol a.block=true∧l=0∧c=0):=by
 simpa [NF] using h
theorem zn (F:Fit) (a:Addr) (l c:Nat): @NF noSh F (some a) l c=F.A a.block:=by simp [NF]
@[simp] theorem al1:opA F none=true:=rfl
@[simp] theorem al2 (r:Nat):opA F (some r)=F.A r:=rfl
theorem pM {a:Array Value}:vs F (.agg a)=true↔VS F a:=by rw [vs,FB];rfl
theorem wZ {a:Array Value}:vs F (.tuple a)=true↔VS F a:=by rw [vs,FB];rfl
theorem x8 {fn:Fn} {a b:Array Value}:vs F (.func fn a b)=true↔ZF F fn=true∧VS F a∧VS F b:=by
 rw [vs,bD,bD,FB,FB,and_assoc];rfl
@[simp] theorem uO:vs F undef=true:=by unfold undef;rw [wZ];intro v hv;simp at hv
@[simp] theorem NK:vs F (default:Value)=true:=by show vs F (.bool _)=true;simp
theorem VS.cells {v:Value} (h:vs F v=true):VS F v.cells:=by
 cases v<;>first |exact pM.1 h|(intro x hx;simp [Value.cells] at hx;subst hx;exact h)
end
def oS (F:Fit):Obj->Prop
 | .cells c _ _=>VS F c
 | .number a _=>F.A a.block=true
 | .map es _=>∀e∈es,vs F e.key=true∧vs F e.val=true
 | .stringIter .. =>True
 | .mapIter m .. =>opA F m=true
 | .loop l=>VS F l.tmps∧F.S l.fn=true∧F.A l.defers=true∧F.code l.assign=true∧F.code l.body=true∧(∀c,l.pending=some c->F.code c=true)
 | .deferred ds=>ds=some []∨ds=none
 |_=>False
def lu (o:Obj):Prop:=∃c e fr,o= .cells c e fr∧∀i,i<c.size->fr.1<=i∧i<fr.2
def isCells:Obj->Bool
 | .cells .. =>true
 |_=>false
def BR (F:Fit) (f:Nat->Nat) (b:Nat) (o:Obj) (O:Option Obj):Prop:=
 (Sh.lk b=false∧oS F o∧isCells o=false∧O=some (ro f o))∨
 (Sh.lk b=false∧∃c e fr fr',o= .cells c e fr∧VS F c∧O=some (.cells (c.map (rv f)) e fr')∧∀i,i<c.size->fr'.1<=i->i<fr'.2->fr.1<=i∧i<fr.2)∨
 (Sh.lk b=true∧∃c fr C e' fr',o= .cells c Sh.bad fr∧VS F c∧(∀i,i<c.size->fr.1<=i∧i<fr.2)∧O=some (.cells C e' fr')∧∀i v,c[i]?=some v->C[i+Sh.sh b]?=some (rv f v))
structure WR (F:Fit) (f:Nat->Nat) (w W:World):Prop where
 lt:∀b,b<w.heap.size->F.A b=true->f b<W.heap.size
 blk:∀b o,F.A b=true->w.heap[b]?=some o->BR F f b o W.heap[f b]?
def LC:Halt->Prop
 | .panic _| .stuck _=>True
 | .unsupported (.initOrder _)=>False
 | .unsupported _=>True
 |_=>False
def DK (w w':World):Prop:=∀(r:Nat) ds,w'.heap[r]?=some (Obj.deferred ds)->w.heap[r]?=some (Obj.deferred ds)
theorem DK.refl {w:World}:DK w w:= λ_ _ h=>h
theorem DK.trans {a b c:World} (h:DK a b) (k:DK b c):DK a c:= λr ds x=>h r ds (k r ds x)
def FW (F:Fit) (w:World):Prop:=∀(r:Nat) ds,F.A r=true->w.heap[r]?=some (Obj.deferred ds)->ds=some []∨ds=none
def Alike (P Q:Program):Prop:=Q=P∨∃(q:FuncId) (c c0:Code) (fn:Func),P.funcs[q]?=some fn∧fn.body=some c0∧Q=P.stub q c
theorem Alike.refl (P:Program):Alike P P:=.inl rfl
inductive dM (P:Program) (F:Fit) (f:Nat->Nat) {α β:Type} (R:α->β->Prop):Sem α->Sem β->Prop
 |pure {a:α} {b:β} (h:R a b):dM P F f R (.pure a) (.pure b)
 |load {a:Addr} {k:Value->Sem α} {k':Value->Sem β} (hA:F.A a.block=true) (h:∀v,vs F v=true->dM P F f R (k v) (k' (rv f v))):dM P F f R (.load .plain a k) (.load .plain (ra f a) k')
 |store {a:Addr} {v:Value} {k:Sem α} {k':Sem β} (hA:F.A a.block=true) (hv:vs F v=true) (h:dM P F f R k k'):dM P F f R (.store .plain a v k) (.store .plain (ra f a) (rv f v) k')
 |new {o:Obj} {k:Nat->Sem α} {k':Nat->Sem β} (ho:oS F o) (h:∀r,F.A r=true->Sh.lk r=false->dM P F f R (k r) (k' (f r))):dM P F f R (.new o k) (.new (ro f o) k')
 |sI {c:Array Value} {e:TypeId} {k0:Nat->Option (TypeId×Nat)->Sem α} {k0':Nat->Option (TypeId×Nat)->Sem β} {k:Nat->Sem α} {k':Nat->Sem β} (ho:VS F c)
   (e1:∀r,k0 r (some (e,c.size))= .freeze ⟨r,c.size,none⟩ 1 (k r)) (e2:∀r,k0' r (some (e,c.size))= .freeze ⟨r,c.size,none⟩ 1 (k' r))
   (h:∀r,F.A r=true->Sh.lk r=false->dM P F f R (k r) (k' (f r))):dM P F f R (.new (.cells c e (0,0)) λr=>.shape r (k0 r)) (.new (.cells (c.map (rv f)) e (0,0)) λr=>.shape r (k0' r))
 |shape {r:Nat} {k:Option (TypeId×Nat)->Sem α} {k':Option (TypeId×Nat)->Sem β} (hA:F.A r=true) (h:∀s,(Sh.lk r=true->s=none)->dM P F f R (k s) (k' s)) (hl:Sh.lk r=true->∀n s,dM P F f R (k (some (Sh.bad,n))) (k' (some s))):dM P F f R (.shape r k) (.shape (f r) k')
 |getObj {r:Nat} {k:Obj->Sem α} {k':Obj->Sem β} (hA:F.A r=true) (h:∀o,oS F o->isCells o=false->Sh.lk r=false->dM P F f R (k o) (k' (ro f o))):dM P F f R (.getObj r k) (.getObj (f r) k')
 |FX {r:Nat} {k:Obj->Sem α} {m':Sem β} (hA:F.A r=true) (hl:Sh.lk r=true):dM P F f R (.getObj r k) m'
 |setObj {r:Nat} {o:Obj} {k:Sem α} {k':Sem β} (hA:F.A r=true) (ho:oS F o) (hc:isCells o=false) (h:dM P F f R k k'):dM P F f R (.setObj r o k) (.setObj (f r) (ro f o) k')
 |choose {q:Question} {k:Nat->Sem α} {k':Nat->Sem β} (h:∀n,dM P F f R (k n) (k' n)):dM P F f R (.choose q k) (.choose q k')
 |program {k:Program->Sem α} {k':Program->Sem β} (e:∀Q,Alike P Q->k' Q=k' P) (h:dM P F f R (k P) (k' P)):dM P F f R (.program k) (.program k')
 |noRoom {k:Sem α} {k':Sem β} (h:dM P F f R k k'):dM P F f R (.mark .noRoom k) (.mark .noRoom k')
 |pO {m:Sem α} {m':Sem β} (h:∀w es,∃x w' es',m.runT P w es=(.halt x w',es')∧LC x∧DK w w'):dM P F f R m m'
theorem dM.bad {P:Program} {F:Fit} {f:Nat->Nat} {α β:Type} {R:α->β->Prop} {h:Halt} {m':Sem β} (hb:LC h):dM P F f R (.halt h) m':=.pO λ_ _=>⟨_,_,_,rfl,hb,DK.refl⟩
structure Ag (F:Fit) (f:Nat->Nat) (w W:World):Prop where
 wr:WR F f w W
 tape:∀j q,w.tape (w.drawn+j) q=W.tape (W.drawn+j) q
 next :∀j,f (w.heap.size+j)=W.heap.size+j
 Lu:∀b,w.heap.size<=b->Sh.lk b=false
 hol:∀b,F.A b=true->Sh.hol b=false
def ZH (F:Fit) (w:World) (e:Event):Prop:=
 e.sync=(match e.loc with | .mark _=>true|_=>false)∧
 match e.loc with
 | .cell a=>F.A a.block=true∧(∃v,w.cell? a=some v)∧(e.write=true->∃o:Obj,w.heap[a.block]?=some o∧¬lu o)
 | .obj r=>F.A r=true∧∃o:Obj,w.heap[r]?=some o∧isCells o=false
 | .mark m=>m= .noRoom
 |_=>False
structure Mv (F:Fit) (f:Nat->Nat) (w W w1 W1:World):Prop where
 ag:Ag F f w1 W1
 tape:w1.tape=w.tape
 tape':W1.tape=W.tape
 os:w1.os=w.os
 os':W1.os=W.os
 out':W1.output=W.output
 drawn:∃k,w1.drawn=w.drawn+k∧W1.drawn=W.drawn+k
 size:∃k,w1.heap.size=w.heap.size+k∧W1.heap.size=W.heap.size+k
 lock:∀(b:Nat) (o:Obj),w.heap[b]?=some o->∃o1:Obj,w1.heap[b]?=some o1∧(lu o1↔lu o)∧isCells o1=isCells o∧(lu o->o1=o)
 cell:∀a v,w.cell? a=some v->∃v1,w1.cell? a=some v1
 frame:∀B:Nat,B<W.heap.size->W1.heap[B]?=W.heap[B]?∨∃(b:Nat) (o:Obj),F.A b=true∧w.heap[b]?=some o∧f b=B∧¬lu o
theorem ZH.mono {F:Fit} {f:Nat->Nat} {w W w1 W1:World} (h:Mv F f w W w1 W1) {e:Event} (he:ZH F w e):ZH F w1 e:=by
 obtain ⟨loc,wr,sy⟩:=e;refine ⟨he.1,?_⟩;have h2:=he.2;cases loc with
 |cell a=>
  obtain ⟨hA,⟨v,hv⟩,hw⟩:=h2;refine ⟨hA,h.cell a v hv, λx=>?_⟩;obtain ⟨o,ho,hl⟩:=hw x;obtain ⟨o1,ho1,hl1,_⟩:=h.lock _ o ho;exact ⟨o1,ho1, λy=>hl (hl1.1 y)⟩
 |obj r=>
  obtain ⟨hA,o,ho,hl⟩:=h2;obtain ⟨o1,ho1,_,hc,_⟩:=h.lock _ o ho;exact ⟨hA,o1,ho1,hc.trans hl⟩
 |output=>exact h2
 |goroutines=>exact h2
 |mark m=>exact h2
theorem Mv.refl {F:Fit} {f:Nat->Nat} {w W:World} (h:Ag F f w W):Mv F f w W w W:=
 ⟨h,rfl,rfl,rfl,rfl,rfl,⟨0,rfl,rfl⟩,⟨0,rfl,rfl⟩, λ_ o ho=>⟨o,ho,Iff.rfl,rfl, λ_=>rfl⟩, λ_ v hv=>⟨v,hv⟩, λ_ _=>.inl rfl⟩
theorem Mv.trans {F:Fit} {f:Nat->Nat} {w W w1 W1 w2 W2:World} (h0:Ag F f w W) (h:Mv F f w W w1 W1) (k:Mv F f w1 W1 w2 W2):Mv F f w W w2 W2:=by
 obtain ⟨k1,a1,b1⟩:=h.drawn;obtain ⟨k2,a2,b2⟩:=k.drawn;obtain ⟨s1,c1,d1⟩:=h.size;obtain ⟨s2,c2,d2⟩:=k.size;refine ⟨k.ag,k.tape.trans h.tape,k.tape'.trans h.tape',k.os.trans h.os,k.os'.trans h.os',k.out'.trans h.out',⟨k1+k2,by omega,by omega⟩,⟨s1+s2,by omega,by omega⟩, λb o ho=>?_, λa v hv=>?_, λB hB=>?_⟩
 ·obtain ⟨o1,ho1,hl1,hc1,he1⟩:=h.lock b o ho;obtain ⟨o2,ho2,hl2,hc2,he2⟩:=k.lock b o1 ho1;exact ⟨o2,ho2,hl2.trans hl1,hc2.trans hc1, λhl=>(he2 (hl1.2 hl)).trans (he1 hl)⟩
 ·obtain ⟨v1,hv1⟩:=h.cell a v hv;exact k.cell a v1 hv1
 ·rcases k.frame B (by omega) with e|⟨b,o1,hA,ho1,hb,hl⟩
  ·rcases h.frame B hB with e'|x
   ·exact .inl (e.trans e')
   ·exact .inr x
  ·
   by_cases hlt:b<w.heap.size
   ·have ho:w.heap[b]?=some w.heap[b]:=by simp [hlt]
    obtain ⟨o1',al3,hl1,_⟩:=h.lock b _ ho;rw [ho1] at al3;cases al3;exact .inr ⟨b,_,hA,ho,hb, λy=>hl (hl1.2 y)⟩
   ·exfalso;have :=h0.next (b - w.heap.size);rw [show w.heap.size+(b - w.heap.size)=b from by omega] at this;omega
section
variable {F:Fit} {f:Nat->Nat} {w W:World}
theorem WR.cell (h:WR F f w W) {a:Addr} {v:Value} (hA:F.A a.block=true) (hv:w.cell? a=some v):W.cell? (ra f a)=some (rv f v)∧vs F v=true:=by
 unfold World.cell? at hv ⊢;cases hb:w.heap[a.block]? with
 |none=>rw [hb] at hv;cases hv
 |some o=>
  rw [hb] at hv;cases o with
  |cells c e fr=>
   dsimp only at hv
   by_cases hs:a.spot.isSome=true
   ·rw [aj hs] at hv;cases hv
   ·rw [aa hs] at hv;rcases h.blk _ _ hA hb with ⟨_,_,h1,_⟩|⟨hl,c',e',fr',al4,h1,hS,h2,_⟩|⟨hl,c',vO,C,e',fr',h1,hS,_,h2,h3⟩
    ·cases h1
    ·cases h1;refine ⟨?_,hS v (bn hv)⟩;simp only [wV,h2];rw [aa (show ¬(ra f a).spot.isSome=true from hs)];simp [hv,Sh.sh0 _ hl]
    ·cases h1;refine ⟨?_,hS v (bn hv)⟩;simp only [wV,h2];rw [aa (show ¬(ra f a).spot.isSome=true from hs)];exact h3 _ _ hv
  |_=>cases hv
theorem WR.frozen (h:WR F f w W) {a:Addr} {v:Value} (hA:F.A a.block=true) (hv:w.cell? a=some v) (hf:w.frozen? a=false):W.frozen? (ra f a)=false:=by
 unfold World.cell? at hv;unfold World.frozen? at hf ⊢;cases hb:w.heap[a.block]? with
 |none=>rw [hb] at hv;cases hv
 |some o=>
  rw [hb] at hv hf;cases o with
  |cells c e fr=>
   dsimp only at hv hf
   by_cases hs:a.spot.isSome=true
   ·rw [aj hs] at hv;cases hv
   ·rw [aa hs] at hv;have hlt:a.off<c.size:=(aI.1 hv).1;rcases h.blk _ _ hA hb with ⟨_,_,h1,_⟩|⟨hl,c',e',fr',al4,h1,hS,h2,h3⟩|⟨hl,c',vO,C,e',fr',h1,hS,h3,h2,_⟩
    ·cases h1
    ·cases h1;simp only [wV,h2,Kg,Sh.sh0 _ hl,aH];have :=h3 a.off hlt;rw [Bool.eq_false_iff] at hf ⊢;intro hx;rw [bD] at hx;have :=this (of_decide_eq_true hx.1) (of_decide_eq_true hx.2);exact hf (by simp [this.1,this.2])
    ·cases h1;have :=h3 a.off hlt;simp [this.1,this.2] at hf
  |_=>cases hv
theorem WR.Ki (h:WR F f w W) {r:Nat} (hA:F.A r=true) (hl:Sh.lk r=true):w.heap[r]?=none∨∃c fr,w.heap[r]?=some (.cells c Sh.bad fr):=by
 cases hr:w.heap[r]? with
 |none=>exact .inl rfl
 |some o=>
  rcases h.blk r o hA hr with ⟨h4,_⟩|⟨h4,_⟩|⟨_,c,fr,C,e',fr',rfl,_⟩
  ·rw [h4] at hl;cases hl
  ·rw [h4] at hl;cases hl
  ·exact .inr ⟨c,fr,rfl⟩
theorem WR.noCell (h:WR F f w W) (a:Addr) (hA:F.A a.block=true) (what:String):LC (w.noCell a what)∧∀P b,∃x,w.farLoad P a b= .error x∧LC x:=by
 have key:∀o,w.heap[a.block]?=some o->(∀c e,o≠ .pending c e)∧∀c e,o≠ .view c e:=by
  intro o ho;rcases h.blk _ _ hA ho with ⟨_,hS,_,_⟩|⟨_,c,e,fr,fr',rfl,_⟩|⟨_,c,fr,C,e',fr',rfl,_⟩
  ·constructor<;>(rintro c e rfl;exact hS)
  ·exact ⟨by simp,by simp⟩
  ·exact ⟨by simp,by simp⟩
 have hn:∀what,LC (w.noCell a what):=by
  intro what;unfold World.noCell;cases hb:w.heap[a.block]? with
  |none=>exact trivial
  |some o=>
   have :=key o hb;cases o<;>first |(exact trivial)|exact absurd rfl (this.1 _ _)|exact absurd rfl (this.2 _ _)
 refine ⟨hn what, λP b=>?_⟩;unfold World.farLoad;cases hb:w.heap[a.block]? with
 |none=>exact ⟨_,rfl,hn _⟩
 |some o=>
  have :=key o hb;cases o<;>first |exact ⟨_,rfl,hn _⟩|exact absurd rfl (this.2 _ _)
theorem WR.PT (h:WR F f w W) (a:Addr) (hA:F.A a.block=true) (P:Program) (v:Value) (b:Bool):∃x,w.farStore P a v b= .error x∧LC x:=by
 have key:∀o,w.heap[a.block]?=some o->(∀c e,o≠ .pending c e)∧∀c e,o≠ .view c e:=by
  intro o ho;rcases h.blk _ _ hA ho with ⟨_,hS,_,_⟩|⟨_,c,e,fr,fr',rfl,_⟩|⟨_,c,fr,C,e',fr',rfl,_⟩
  ·constructor<;>(rintro c e rfl;exact hS)
  ·exact ⟨by simp,by simp⟩
  ·exact ⟨by simp,by simp⟩
 unfold World.farStore;cases hb:w.heap[a.block]? with
 |none=>exact ⟨_,rfl,(h.noCell a hA _).1⟩
 |some o=>
  have :=key o hb;cases o<;>first |exact ⟨_,rfl,(h.noCell a hA _).1⟩|exact absurd rfl (this.2 _ _)
theorem ED {w:World} {a b:Addr} {v x:Value} (h:w.cell? b=some x):∃y,(w.setCell a v).cell? b=some y:=by
 unfold World.cell? at h ⊢;unfold World.setCell;simp only [bC];cases hb:w.heap[b.block]? with
 |none=>rw [hb] at h;cases h
 |some o=>
  rw [hb] at h
  by_cases e:a.block=b.block
  ·rw [aj e];cases o with
   |cells c el fr=>
    dsimp only at h
    by_cases hs:b.spot.isSome=true
    ·rw [aj hs] at h;cases h
    ·rw [aa hs] at h;have hlt:=(aI.1 h).1;simp only [ay];rw [aa hs]
     by_cases ha:a.spot.isSome=true
     ·rw [aj ha];exact ⟨x,h⟩
     ·rw [aa ha];exact ⟨_,aI.2 ⟨by simpa using hlt,rfl⟩⟩
   |_=>cases h
  ·rw [aa e];exact ⟨x,h⟩
theorem lu.set {o:Obj} {i:Nat} {v:Value} {s:Bool}:lu (match o with | .cells c e fr=>.cells (if s then c else c.setIfInBounds i v) e fr|o=>o)↔lu o:=by
 cases o with
 |cells c e fr=>
  constructor
  ·rintro ⟨c',e',fr',h,hl⟩;cases h;refine ⟨c,e,fr,rfl, λi hi=>hl i ?_⟩;split<;>simpa using hi
  ·rintro ⟨c',e',fr',h,hl⟩;cases h;refine ⟨_,e,fr,rfl, λi hi=>hl i ?_⟩;split at hi<;>simpa using hi
 |_=>exact Iff.rfl
theorem Ag.store (hf:∀a b,Sh.lk a=false->Sh.hol b=false->f a=f b->a=b) (h:Ag F f w W) {a:Addr} {v x:Value} (hA:F.A a.block=true) (hc:w.cell? a=some x) (hz:w.frozen? a=false) (hv:vs F v=true):
 Mv F f w W (w.setCell a v) (W.setCell (ra f a) (rv f v))∧∃o,w.heap[a.block]?=some o∧¬lu o:=by
 have hspot:a.spot.isSome=false∧∃c e fr,w.heap[a.block]?=some (.cells c e fr)∧c[a.off]?=some x:=by
  unfold World.cell? at hc;cases hb:w.heap[a.block]? with
  |none=>rw [hb] at hc;cases hc
  |some o=>
   rw [hb] at hc;cases o with
   |cells c e fr=>
    dsimp only at hc
    by_cases hs:a.spot.isSome=true
    ·rw [aj hs] at hc;cases hc
    ·rw [aa hs] at hc;exact ⟨by simpa using hs,c,e,fr,rfl,hc⟩
   |_=>cases hc
 obtain ⟨hs,c,e,fr,hb,hcx⟩:=hspot;have hlt:=(aI.1 hcx).1
 have hnl:¬lu (Obj.cells c e fr):=by
  rintro ⟨c',e',fr',h',hl⟩;cases h';have :=hl a.off hlt;unfold World.frozen? at hz;rw [hb] at hz;simp [this.1,this.2] at hz
 obtain ⟨hlk,hS,fr',hW,hfr⟩:Sh.lk a.block=false∧VS F c∧∃fr',W.heap[f a.block]?=some (.cells (c.map (rv f)) e fr')∧∀i,i<c.size->fr'.1<=i->i<fr'.2->fr.1<=i∧i<fr.2:=by
  rcases h.wr.blk _ _ hA hb with ⟨_,_,h1,_⟩|⟨hl,c',e',fr',al4,h1,hS,h2,h3⟩|⟨hl,c',vO,C,e',fr',h1,hS,h3,h2,_⟩
  ·cases h1
  ·cases h1;exact ⟨hl,hS,_,h2,h3⟩
  ·cases h1;exact absurd ⟨_,_,_,rfl,h3⟩ hnl
 have hbl:=(aI.1 hb).1
 have e1:(w.setCell a v).heap[a.block]?=some (.cells (c.setIfInBounds a.off v) e fr):=by
  unfold World.setCell;simp [bC,hb,hs]
 have e2:(W.setCell (ra f a) (rv f v)).heap[f a.block]?=some (.cells ((c.map (rv f)).setIfInBounds a.off (rv f v)) e fr'):=by
  unfold World.setCell;simp [bC,hW,hs,Sh.sh0 _ hlk]
 have n1:∀b,b≠a.block->(w.setCell a v).heap[b]?=w.heap[b]?:= λb hne=>by
  unfold World.setCell;simp [bC,Ne.symm hne]
 have n2:∀b,b≠f a.block->(W.setCell (ra f a) (rv f v)).heap[b]?=W.heap[b]?:= λb hne=>by
  unfold World.setCell;simp [bC,Ne.symm hne]
 have s1:(w.setCell a v).heap.size=w.heap.size:=by simp [World.setCell]
 have s2:(W.setCell (ra f a) (rv f v)).heap.size=W.heap.size:=by simp [World.setCell]
 refine ⟨⟨⟨⟨λb hb' LD=>by rw [s2];exact h.wr.lt b (by rw [s1] at hb';exact hb') LD, λb o LD ho=>?_⟩,h.tape, λj=>by rw [s1,s2];exact h.next j, λb hb=>h.Lu b (by rwa [s1] at hb),h.hol⟩,rfl,rfl,rfl,rfl,rfl,⟨0,rfl,rfl⟩,⟨0,by rw [s1];rfl,by rw [s2];rfl⟩, λb o ho=>?_, λb y hy=>ED hy, λB hB=>?_⟩,_,hb,hnl⟩
 ·by_cases e:b=a.block
  ·subst e;rw [e1] at ho;cases ho;refine .inr (.inl ⟨hlk,_,_,_,fr',rfl,?_,?_,?_⟩)
   ·intro y hy;rcases bI hy with hy|rfl
    ·exact hS y hy
    ·exact hv
   ·rw [e2,Array.map_setIfInBounds]
   ·simpa using hfr
  ·rw [n1 b e] at ho;rw [n2 (f b) (λx=>e (hf _ _ hlk (h.hol b LD) x.symm).symm)];exact h.wr.blk b o LD ho
 ·by_cases e':b=a.block
  ·subst e';rw [hb] at ho;cases ho;refine ⟨_,e1,?_,rfl, λhl=>absurd hl hnl⟩;constructor
   ·rintro ⟨c',e',fr',h',hl⟩;cases h';exact ⟨c,e,fr,rfl,by simpa using hl⟩
   ·rintro ⟨c',e',fr',h',hl⟩;cases h';exact ⟨_,e,fr,rfl,by simpa using hl⟩
  ·exact ⟨o,by rw [n1 b e'];exact ho,Iff.rfl,rfl, λ_=>rfl⟩
 ·by_cases e':B=f a.block
  ·exact .inr ⟨a.block,_,hA,hb,e'.symm,hnl⟩
  ·exact .inl (n2 B e')
theorem Ag.new (h:Ag F f w W) {o O:Obj} (ho:BR F f w.heap.size o (some O)):Mv F f w W { w with heap:=w.heap.push o } { W with heap:=W.heap.push O }:=by
 have hn:=h.next 0;simp only [aH] at hn;refine ⟨⟨⟨λb hb LD=>?_, λb x LD hx=>?_⟩,h.tape, λj=>?_, λb hb=>h.Lu b (by simp at hb;omega),h.hol⟩,rfl,rfl,rfl,rfl,rfl,⟨0,rfl,rfl⟩,⟨1,by simp,by simp⟩, λb x hx=>⟨x,?_,Iff.rfl,rfl, λ_=>rfl⟩, λa v hv=>⟨v,?_⟩, λB hB=>.inl ?_⟩
 ·simp only [Array.size_push] at hb ⊢;rcases bz b w.heap.size with hlt|hge
  ·exact Nat.lt_succ_of_lt (h.wr.lt b hlt LD)
  ·obtain rfl:b=w.heap.size:=by omega
   omega
 ·rcases bz b w.heap.size with hlt|hge
  ·rw [Array.getElem?_push_lt hlt] at hx;have :=h.wr.blk b x LD (by rw [aX hlt];exact hx);rw [Array.getElem?_push_lt (h.wr.lt b hlt LD)]
   rwa [aX (h.wr.lt b hlt LD)] at this
  ·have hb:b<w.heap.size+1:=by simpa using (aI.1 hx).1
   obtain rfl:b=w.heap.size:=by omega
   simp only [Array.getElem?_push_size] at hx;cases hx;rw [hn];simpa using ho
 ·have :=h.next (j+1);simp only [Array.size_push];rw [show w.heap.size+1+j=w.heap.size+(j+1) from by omega,this];omega
 ·have :=(aI.1 hx).1;rw [Array.getElem?_push_lt this, <-aX this];exact hx
 ·unfold World.cell? at hv ⊢;cases hb:w.heap[a.block]? with
  |none=>rw [hb] at hv;cases hv
  |some y=>
   rw [hb] at hv;have :=(aI.1 hb).1;rw [Array.getElem?_push_lt this, <-aX this,hb];exact hv
 ·simp only [];rw [Array.getElem?_push_lt hB,aX hB]
end
end Par
end
namespace Par
open Go
section
variable [Sh]
section
variable {P:Program} {F:Fit} {f:Nat->Nat} {α β:Type} {R:α->β->Prop}
theorem Ag.defs {w W:World} (h:Ag F f w W):FW F w:=by
 intro r ds hA hr;rcases h.wr.blk r _ hA hr with ⟨_,hS,_⟩|⟨_,c,e,fr,fr',h,_⟩|⟨_,c,fr,C,e',fr',h,_⟩
 ·exact hS
 ·cases h
 ·cases h
def DU (F:Fit) (f:Nat->Nat) (w1:World) (es es' x y:Array Event):Prop:=∃u:Array Event,x=es++u∧y=es'++u.map (rev f)∧∀e∈u,ZH F w1 e
def Out (F:Fit) (w w1:World):Prop:=∃b,w.heap.size<=b∧b<w1.heap.size∧F.A b=false
theorem Out.mono {F:Fit} {w w0 w1:World} (h:Out F w0 w1) (hs:w.heap.size<=w0.heap.size):Out F w w1:=let ⟨b,h1,h2,h3⟩:=h;⟨b,aT hs h1,h2,h3⟩
def wJ (F:Fit) (f:Nat->Nat) {α β:Type} (R:α->β->Prop) (w W:World) (es es':Array Event) (x:Result α×Array Event) (y:Result β×Array Event):Prop:=
 Out F w (rw' x.1)∨match x.1 with
 | .ok a w1=>∃b W1,y.1= .ok b W1∧R a b∧Mv F f w W w1 W1∧DU F f w1 es es' x.2 y.2
 | .halt h w1=>LC h∧FW F w1
theorem DU.FC {w0 W0 w1 W1:World} {es es' x y u0:Array Event} (h0:∀e∈u0,ZH F w0 e) (hm:Mv F f w0 W0 w1 W1) (h:DU F f w1 (es++u0) (es'++u0.map (rev f)) x y):DU F f w1 es es' x y:=by
 obtain ⟨u,rfl,rfl,hu⟩:=h;refine ⟨u0++u,by simp [Array.append_assoc],by simp [Array.append_assoc], λe he=>?_⟩;rcases Array.mem_append.1 he with he|he
 ·exact (h0 e he).mono hm
 ·exact hu e he
theorem wJ.FC {w W w0 W0:World} {es es' u0:Array Event} {x:Result α×Array Event} {y:Result β×Array Event} (ha:Ag F f w W) (hm:Mv F f w W w0 W0) (h0:∀e∈u0,ZH F w0 e)
 (h:wJ F f R w0 W0 (es++u0) (es'++u0.map (rev f)) x y):wJ F f R w W es es' x y:=by
 obtain ⟨x1,x2⟩:=x;cases x1 with
 |ok a w1=>
  rcases h with ho|⟨b,W1,h1,h2,h3,h4⟩
  ·obtain ⟨k,hk,_⟩:=hm.size;exact .inl (ho.mono (by omega))
  ·exact .inr ⟨b,W1,h1,h2,hm.trans ha h3,h4.FC h0 h3⟩
 |halt k w1=>
  rcases h with ho|h
  ·obtain ⟨k,hk,_⟩:=hm.size;exact .inl (ho.mono (by omega))
  ·exact .inr h
theorem wJ.zo {w W w0 W0:World} {es es':Array Event} {e:Event} {x:Result α×Array Event} {y:Result β×Array Event} (ha:Ag F f w W) (hm:Mv F f w W w0 W0) (h0:ZH F w0 e)
 (h:wJ F f R w0 W0 (es.push e) (es'.push (rev f e)) x y):wJ F f R w W es es' x y:=by
 refine wJ.FC (u0:= #[e]) ha hm (by simpa using h0) ?_
 rw [show es++ #[e]=es.push e from by simp,show es'++ #[e].map (rev f)=es'.push (rev f e) from by simp];exact h
theorem wJ.FY {w W w0 W0:World} {es es':Array Event} {x:Result α×Array Event} {y:Result β×Array Event} (ha:Ag F f w W) (hm:Mv F f w W w0 W0)
 (h:wJ F f R w0 W0 es es' x y):wJ F f R w W es es' x y:=by
 refine wJ.FC (u0:= #[]) ha hm (by simp) ?_
 rw [show es++ #[]=es from by simp,show es'++ #[].map (rev f)=es' from by simp];exact h
theorem Ag.setObj {w W:World} (hf:∀a b,Sh.lk a=false->Sh.hol b=false->f a=f b->a=b) (h:Ag F f w W) {r:Nat} {o x:Obj} (hA:F.A r=true) (hx:w.heap[r]?=some x) (I4:isCells x=false) (ho:oS F o) (hoc:isCells o=false):
 Mv F f w W { w with heap:=w.heap.setIfInBounds r o } { W with heap:=W.heap.setIfInBounds (f r) (ro f o) }:=by
 have hr:=(aI.1 hx).1;have hR:=h.wr.lt r hr hA;have hnl:∀y:Obj,isCells y=false->¬lu y:=by rintro y hy ⟨c,e,fr,rfl,_⟩;cases hy
 have hlk:Sh.lk r=false:=by
  rcases h.wr.blk _ _ hA hx with ⟨h1,_⟩|⟨h1,_⟩|⟨_,c,fr,C,e',fr',rfl,_⟩
  ·exact h1
  ·exact h1
  ·cases I4
 refine ⟨⟨⟨λb hb LD=>by simpa using h.wr.lt b (by simpa using hb) LD, λb y LD hy=>?_⟩,h.tape, λj=>by simpa using h.next j, λb hb=>h.Lu b (by simpa using hb),h.hol⟩,rfl,rfl,rfl,rfl,rfl,⟨0,rfl,rfl⟩,⟨0,by simp,by simp⟩, λb y hy=>?_, λa v hv=>⟨v,?_⟩, λB hB=>?_⟩
 ·by_cases e:r=b
  ·subst e;rw [aD hr] at hy;cases hy;refine .inl ⟨hlk,ho,hoc,?_⟩;simp only [];rw [aD hR]
  ·rw [au e] at hy;simp only [];rw [au (λx=>e (hf _ _ hlk (h.hol b LD) x))];exact h.wr.blk b y LD hy
 ·by_cases e:r=b
  ·subst e;rw [hx] at hy;cases hy;exact ⟨o,by simp only [];rw [aD hr],iff_of_false (hnl _ hoc) (hnl _ I4),hoc.trans I4.symm, λhl=>absurd hl (hnl _ I4)⟩
  ·exact ⟨y,by simp only [];rw [au e];exact hy,Iff.rfl,rfl, λ_=>rfl⟩
 ·unfold World.cell? at hv ⊢;simp only []
  by_cases e:r=a.block
  ·rw [<-e,hx] at hv;cases x<;>first |cases hv|cases I4
  ·rw [au e];exact hv
 ·by_cases e:f r=B
  ·exact .inr ⟨r,x,hA,hx,e,hnl _ I4⟩
  ·exact .inl (by simp only [];rw [au e])
omit [Sh] in
theorem zq (w:World) (c:Array Value) (e:TypeId):
 ({ w with heap:=w.heap.push (.cells c e (0,0)) }:World).freeze ⟨w.heap.size,c.size,none⟩ 1= { w with heap:=w.heap.push (.cells c e (c.size,c.size+1)) }:=by
 unfold World.freeze;simp only [Nat.one_ne_zero,if_false];congr 1;apply Array.ext
 ·simp
 ·intro i h1 h2;simp only [Array.size_modify,Array.size_push] at h1;rw [Array.getElem_modify]
  by_cases hi:i=w.heap.size
  ·subst hi;simp
  ·rw [aa (Ne.symm hi)];rw [Array.getElem_push_lt (by omega),Array.getElem_push_lt (by omega)]
theorem Cq {o:Obj} (h:oS F o):o.isChan=false:=by
 cases o<;>first |rfl|exact h.elim
theorem LF (o:Obj):isCells (ro f o)=isCells o:=by cases o<;>rfl
omit [Sh] in
theorem x9 {γ:Type} {w:World} {r:Nat} {o:Obj} (k:Obj->Sem γ) (es:Array Event) (hr:w.heap[r]?=some o) (hc:isCells o=false):
 Sem.runT P (.getObj r k) w es=(k o).runT P w (es.push ⟨.obj r,false,o.isChan⟩):=by
 cases o<;>first |(cases hc;done)|(simp only [Sem.runT,hr])
omit [Sh] in
theorem uP {γ:Type} {w:World} {r:Nat} {x:Obj} (o:Obj) (k:Sem γ) (es:Array Event) (hr:w.heap[r]?=some x) (hc:isCells x=false):
 Sem.runT P (.setObj r o k) w es=k.runT P { w with heap:=w.heap.setIfInBounds r o } (es.push ⟨.obj r,true,o.isChan⟩):=by
 cases x<;>first |(cases hc;done)|(simp only [Sem.runT,hr])
theorem dM.FZ {Q:Program} (hQ:Alike P Q) (hf:∀a b,Sh.lk a=false->Sh.hol b=false->f a=f b->a=b) {m:Sem α} {m':Sem β} (h:dM P F f R m m'):
 ∀(w W:World) (es es':Array Event),Ag F f w W->wJ F f R w W es es' (m.runT P w es) (m'.runT Q W es'):=by
 have ev0:∀(w:World) (es es':Array Event),DU F f w es es' es es':= λw es es'=>⟨#[],by simp,by simp,by simp⟩
 induction h with
 |pure h=>intro w W es es' ha;exact .inr ⟨_,W,rfl,h,Mv.refl ha,ev0 ..⟩
 | @load a k k' hA h ih=>
   intro w W es es' ha;simp only [Sem.runT];cases hc:w.cell? a with
   |none=>
    obtain ⟨x,hx,hb⟩:=(ha.wr.noCell a hA "").2 P (Mode.plain==Mode.atomic);simp only [hx];exact .inr ⟨hb,ha.defs⟩
   |some v=>
    obtain ⟨h1,h2⟩:=ha.wr.cell hA hc;simp only [h1];exact wJ.zo (e:=⟨.cell a,false,false⟩) ha (Mv.refl ha) ⟨rfl,hA,⟨v,hc⟩,by simp⟩ (ih v h2 w W _ _ ha)
 | @store a v k k' hA hv h ih=>
   intro w W es es' ha
   have hs:(∃c,v= .agg c∨v= .tuple c)∨((∀c,v≠ .agg c∧v≠ .tuple c)):=by
    cases v<;>first |(refine .inr λc=>⟨?_,?_⟩<;>(intro h;cases h;done))|exact .inl ⟨_,.inl rfl⟩|exact .inl ⟨_,.inr rfl⟩
   rcases hs with ⟨c,rfl|rfl⟩|hs
   ·simp only [Sem.runT];exact .inr ⟨trivial,ha.defs⟩
   ·simp only [Sem.runT];exact .inr ⟨trivial,ha.defs⟩
   ·have e1:∀(w:World) (es:Array Event),Sem.runT P (.store .plain a v k) w es=match w.cell? a with
     |some _=>if w.frozen? a then (.halt (.unsupported (.unsafePointer "a write to bytes that a string shares")) w,es) else k.runT P (w.setCell a v) (es.push ⟨.cell a,true,false⟩)
     |none=>match w.farStore P a v false with
      | .ok (w,touched)=>k.runT P w (es++touched.toArray.map (⟨.cell ·,true,false⟩))
      | .error h=>(.halt h w,es):=by
     intro w es;cases v<;>first |rfl|exact absurd rfl (hs _).1|exact absurd rfl (hs _).2
    have e2:∀(w:World) (es:Array Event),Sem.runT Q (.store .plain (ra f a) (rv f v) k') w es=match w.cell? (ra f a) with
     |some _=>if w.frozen? (ra f a) then (.halt (.unsupported (.unsafePointer "a write to bytes that a string shares")) w,es) else k'.runT Q (w.setCell (ra f a) (rv f v)) (es.push ⟨.cell (ra f a),true,false⟩)
     |none=>match w.farStore Q (ra f a) (rv f v) false with
      | .ok (w,touched)=>k'.runT Q w (es++touched.toArray.map (⟨.cell ·,true,false⟩))
      | .error h=>(.halt h w,es):=by
     intro w es;cases v<;>first |(simp only [nL,jM,wW,sH,gT,eZ,fV,um,xY,uy,oH,uN,lJ];rfl)|exact absurd rfl (hs _).1|exact absurd rfl (hs _).2
    rw [e1,e2];cases hc:w.cell? a with
    |none=>
     obtain ⟨x,hx,hb⟩:=ha.wr.PT a hA P v false;simp only [hx];exact .inr ⟨hb,ha.defs⟩
    |some x=>
     obtain ⟨h1,_⟩:=ha.wr.cell hA hc;simp only [h1];cases hz:w.frozen? a with
     |true=>simp only [if_true];exact .inr ⟨trivial,ha.defs⟩
     |false=>
      rw [ha.wr.frozen hA hc hz];simp only [bE,if_false];obtain ⟨hm,o,ho,hl⟩:=ha.store hf hA hc hz hv;obtain ⟨o1,ho1,hl1,_⟩:=hm.lock _ o ho;exact wJ.zo (e:=⟨.cell a,true,false⟩) ha hm ⟨rfl,hA,ED hc, λ_=>⟨o1,ho1, λy=>hl (hl1.1 y)⟩⟩ (ih _ _ _ _ hm.ag)
 | @new o k k' ho h ih=>
   intro w W es es' ha;simp only [Sem.runT];have hn:f w.heap.size=W.heap.size:=by simpa using ha.next 0
   have hm:Mv F f w W { w with heap:=w.heap.push o } { W with heap:=W.heap.push (ro f o) }:=ha.new (by
    cases o with
    |cells c e fr=>exact .inr (.inl ⟨ha.Lu _ (aJ _),c,e,fr,fr,rfl,ho,rfl, λi _ h1 h2=>⟨h1,h2⟩⟩)
    |_=>exact .inl ⟨ha.Lu _ (aJ _),ho,rfl,rfl⟩)
   rw [<-hn];cases hA:F.A w.heap.size with
   |true=>exact wJ.FY ha hm (ih _ hA (ha.Lu _ (aJ _)) _ _ _ _ hm.ag)
   |false=>
    have :=runT_size (P:=P) (k w.heap.size) { w with heap:=w.heap.push o } es;simp only [Array.size_push] at this;exact .inl ⟨w.heap.size,aJ _,by omega,hA⟩
 | @sI c e k0 k0' k k' ho e1 e2 h ih=>
   intro w W es es' ha;have hn:f w.heap.size=W.heap.size:=by simpa using ha.next 0
   have hsh:∀(w:World) (c:Array Value),World.shape? { w with heap:=w.heap.push (.cells c e (0,0)) } w.heap.size=some (e,c.size):=by
    intro w c;simp [World.shape?]
   simp only [Sem.runT];have al5:=hsh W (c.map (rv f));rw [Array.size_map] at al5;rw [hsh w c,al5,e1, <-hn,e2,hn];simp only [Sem.runT];have hfr:=zq W (c.map (rv f)) e;rw [Array.size_map] at hfr;rw [zq,hfr]
   have hm:Mv F f w W { w with heap:=w.heap.push (.cells c e (c.size,c.size+1)) } { W with heap:=W.heap.push (.cells (c.map (rv f)) e (c.size,c.size+1)) }:=
    ha.new (.inr (.inl ⟨ha.Lu _ (aJ _),c,e,_,(c.size,c.size+1),rfl,ho,rfl, λi _ h1 h2=>⟨h1,h2⟩⟩))
   cases hA:F.A w.heap.size with
   |true=>
    have :=ih w.heap.size hA (ha.Lu _ (aJ _)) _ _ es es' hm.ag;rw [hn] at this;exact wJ.FY ha hm this
   |false=>
    have :=runT_size (P:=P) (k w.heap.size) { w with heap:=w.heap.push (.cells c e (c.size,c.size+1)) } es;simp only [Array.size_push] at this;exact .inl ⟨w.heap.size,aJ _,by omega,hA⟩
 | @shape r k k' hA h hl ih ihl=>
   intro w W es es' ha;simp only [Sem.runT]
   by_cases hk:∃c fr C e' fr',w.heap[r]?=some (.cells c Sh.bad fr)∧W.heap[f r]?=some (.cells C e' fr')∧Sh.lk r=true
   ·obtain ⟨c,fr,C,e',fr',h1,h2,h3⟩:=hk;have e1:w.shape? r=some (Sh.bad,c.size):=by unfold World.shape?;rw [h1]
    have e2:W.shape? (f r)=some (e',C.size):=by unfold World.shape?;rw [h2]
    rw [e1,e2];exact ihl h3 _ _ w W es es' ha
   have :W.shape? (f r)=w.shape? r:=by
    unfold World.shape?;cases hr:w.heap[r]? with
    |none=>
     have h1:w.heap.size<=r:=by
      rcases bz r w.heap.size with h|h
      ·simp [h] at hr
      ·exact h
     have h2:=ha.next (r - w.heap.size);rw [show w.heap.size+(r - w.heap.size)=r from by omega] at h2;have :W.heap[f r]?=none:=by simp;omega
     rw [this]
    |some o=>
     rcases ha.wr.blk r o hA hr with ⟨_,_,hc,hO⟩|⟨_,c,e,fr,fr',rfl,_,hO,_⟩|⟨h3,c,fr,C,e',fr',rfl,_,_,h2,_⟩
     ·rw [hO];cases o<;>first |rfl|cases hc
     ·rw [hO];simp
     ·exact absurd ⟨c,fr,C,e',fr',hr,h2,h3⟩ hk
   rw [this];refine ih _ (λh3=>?_) w W es es' ha;unfold World.shape?;cases hr:w.heap[r]? with
   |none=>rfl
   |some o=>
    rcases ha.wr.blk r o hA hr with ⟨h4,_⟩|⟨h4,_⟩|⟨_,c,fr,C,e',fr',rfl,_,_,h2,_⟩
    ·rw [h4] at h3;cases h3
    ·rw [h4] at h3;cases h3
    ·exact absurd ⟨c,fr,C,e',fr',hr,h2,h3⟩ hk
 | @getObj r k k' hA h ih=>
   intro w W es es' ha;cases hr:w.heap[r]? with
   |none=>simp only [Sem.runT,hr];exact .inr ⟨trivial,ha.defs⟩
   |some o=>
    by_cases hc:isCells o=true
    ·cases o<;>first |(simp only [Sem.runT,hr];exact .inr ⟨trivial,ha.defs⟩)|cases hc
    ·have hc':isCells o=false:=by simpa using hc
     rcases ha.wr.blk r o hA hr with ⟨hlk,hS,_,hO⟩|⟨_,c,e,fr,fr',rfl,_⟩|⟨_,c,fr,C,e',fr',rfl,_⟩
     ·have hch:=Cq hS;rw [x9 k es hr hc',x9 k' es' hO ((LF o).trans hc'),Jg,hch];exact wJ.zo (e:=⟨.obj r,false,false⟩) ha (Mv.refl ha) ⟨rfl,hA,o,hr,hc'⟩ (ih o hS hc' hlk w W _ _ ha)
     ·cases hc'
     ·cases hc'
 | @FX r k m' hA hl=>
   intro w W es es' ha;rcases ha.wr.Ki hA hl with hr|⟨c,fr,hr⟩<;>(simp only [Sem.runT,hr];exact .inr ⟨trivial,ha.defs⟩)
 | @setObj r o k k' hA ho hc h ih=>
   intro w W es es' ha;cases hr:w.heap[r]? with
   |none=>simp only [Sem.runT,hr];exact .inr ⟨trivial,ha.defs⟩
   |some x=>
    by_cases I4:isCells x=true
    ·cases x<;>first |(simp only [Sem.runT,hr];exact .inr ⟨trivial,ha.defs⟩)|cases I4
    ·have I5:isCells x=false:=by simpa using I4
     rcases ha.wr.blk r x hA hr with ⟨_,hS,_,hO⟩|⟨_,c,e,fr,fr',rfl,_⟩|⟨_,c,fr,C,e',fr',rfl,_⟩
     ·have hch:=Cq ho;rw [uP o k es hr I5,uP (ro f o) k' es' hO ((LF x).trans I5),Jg,hch];have hm:=ha.setObj hf hA hr I5 ho hc;obtain ⟨o1,ho1,_,hc1,_⟩:=hm.lock r x hr;exact wJ.zo (e:=⟨.obj r,true,false⟩) ha hm ⟨rfl,hA,o1,ho1,hc1.trans I5⟩ (ih _ _ _ _ hm.ag)
     ·cases I5
     ·cases I5
 | @choose q k k' h ih=>
   intro w W es es' ha;simp only [Sem.runT]
   by_cases hq:q.forced=true
   ·simp only [hq,if_true];exact ih 0 w W es es' ha
   ·simp only [hq,if_false,bE];have ht:=ha.tape 0 q;simp only [aH] at ht;rw [ht]
    have hm:Mv F f w W { w with drawn:=w.drawn+1 } { W with drawn:=W.drawn+1 }:=
     ⟨⟨⟨ha.wr.lt,ha.wr.blk⟩, λj q'=>by have :=ha.tape (1+j) q';simpa [Nat.add_assoc] using this,ha.next,ha.Lu,ha.hol⟩,rfl,rfl,rfl,rfl,rfl,⟨1,rfl,rfl⟩,⟨0,rfl,rfl⟩, λ_ o ho=>⟨o,ho,Iff.rfl,rfl, λ_=>rfl⟩, λ_ v hv=>⟨v,hv⟩, λ_ _=>.inl rfl⟩
    exact wJ.FY ha hm (ih _ _ _ es es' hm.ag)
 |program e h ih=>intro w W es es' ha;simp only [Sem.runT];rw [e Q hQ];exact ih w W es es' ha
 |noRoom h ih=>
  intro w W es es' ha;simp only [Sem.runT];exact wJ.zo (e:=⟨.mark .noRoom,false,true⟩) ha (Mv.refl ha) ⟨rfl,rfl⟩ (ih w W _ _ ha)
 |pO h=>
  intro w W es es' ha;obtain ⟨x,w',es1,h1,h2,h3⟩:=h w es;rw [h1];exact .inr ⟨h2, λr ds hA hr=>ha.defs r ds hA (h3 r ds hr)⟩
theorem dM.run (hf:∀a b,Sh.lk a=false->Sh.hol b=false->f a=f b->a=b) {m:Sem α} {m':Sem β} (h:dM P F f R m m'):
 ∀(w W:World) (es es':Array Event),Ag F f w W->wJ F f R w W es es' (m.runT P w es) (m'.runT P W es'):=h.FZ (Alike.refl P) hf
end
end
section
variable [Sh]
def fA:Value->Bool
 | .bool _| .int .. | .string _| .nilFunc| .nilIface=>true
 | .pointer a=>a.isNone
 | .slice a .. =>a.isNone
 | .map a=>a.isNone
 | .chan a=>a.isNone
 |_=>false
def TU:Value->Bool
 | .agg cs=>cs.all fA
 |v=>fA v
def plain0:Value->Bool
 | .tuple cs=>cs.all TU
 |v=>fA v
def uQ:Value->Bool
 | .agg cs=>cs.all plain0
 |v=>plain0 v
theorem kJ {F:Fit} {f:Nat->Nat} {v:Value} (h:fA v=true):rv f v=v∧vs F v=true:=by
 cases v with
 |pointer a=>cases a<;>first |(cases h;done)|simp
 |slice a _ _=>cases a<;>first |(cases h;done)|simp
 |map a=>cases a<;>first |(cases h;done)|simp
 |chan a=>cases a<;>first |(cases h;done)|simp
 |_=>first |(cases h;done)|simp
theorem Q6 {F:Fit} {f:Nat->Nat} {v:Value} (h:TU v=true):rv f v=v∧vs F v=true:=by
 cases v with
 |agg cs=>
  have key:∀x∈cs,rv f x=x∧vs F x=true:= λx hx=>kJ (aV.1 h x hx)
  refine ⟨?_,pM.2 λx hx=>(key x hx).2⟩;rw [uo];congr 1;exact (Array.map_congr_left λx hx=>(key x hx).1).trans (Array.map_id _)
 |_=>exact kJ h
theorem Jh {F:Fit} {f:Nat->Nat} {v:Value} (h:plain0 v=true):rv f v=v∧vs F v=true:=by
 cases v with
 |tuple cs=>
  have key:∀x∈cs,rv f x=x∧vs F x=true:= λx hx=>Q6 (aV.1 h x hx)
  refine ⟨?_,wZ.2 λx hx=>(key x hx).2⟩;rw [wX];congr 1;exact (Array.map_congr_left λx hx=>(key x hx).1).trans (Array.map_id _)
 |_=>exact kJ h
theorem DV {F:Fit} {f:Nat->Nat} {v:Value} (h:uQ v=true):rv f v=v∧vs F v=true:=by
 cases v with
 |agg cs=>
  have key:∀x∈cs,rv f x=x∧vs F x=true:= λx hx=>Jh (aV.1 h x hx)
  refine ⟨?_,pM.2 λx hx=>(key x hx).2⟩;rw [uo];congr 1;exact (Array.map_congr_left λx hx=>(key x hx).1).trans (Array.map_id _)
 |_=>exact Jh h
theorem EE {v:Value} (h:uQ v=true):v.cells.all plain0=true:=by
 cases v with
 |agg cs=>exact h
 |_=>simpa [Value.cells,uQ] using h
def sJ (info:TypeId->Option TypeInfo):Prop:=∀t i v,info t=some i->i.zero=some v->uQ v=true
theorem Ji {σ:Type} (I:σ->Prop) {γ:Type} (body:γ->σ->Option (ForInStep σ)) (hb:∀a s s',I s->body a s=some s'->match s' with | .yield x=>I x| .done x=>I x):
 ∀(l:List γ) (s s':σ),I s->forIn l s body=some s'->I s'
 | [],s,s',h,e=>by simp at e;exact e ▸ h
 |a::l,s,s',h,e=>by
  rw [List.forIn_cons] at e;cases hx:body a s with
  |none=>rw [hx] at e;cases e
  |some y=>
   rw [hx] at e;have :=hb a s y h hx;cases y with
   |done x=>cases e;exact this
   |yield x=>exact Ji I body hb l x s' this e
theorem Q7 {info:TypeId->Option TypeInfo} (hi:sJ info) {t:TypeId} {i:TypeInfo} (h:info t=some i) {z:Option (Array Value)} {n:Nat} (hz:∀a,z=some a->a.all plain0=true):
 ∀a,(if n > Made.mostCells then none else do pure ((<-z)++(<-i.zero).cells))=some a->a.all plain0=true:=by
 intro a ha;split at ha
 ·cases ha
 ·obtain ⟨x,hx,ha⟩:=aP.1 ha;obtain ⟨y,hy,ha⟩:=aP.1 ha;cases ha;have h1:=hz x hx;have h2:=EE (hi t i y h hy);rw [aV] at h1 h2 ⊢;intro v hv;rcases Array.mem_append.1 hv with hv|hv
  ·exact h1 v hv
  ·exact h2 v hv
theorem Bq {info:TypeId->Option TypeInfo} (hi:sJ info) {fs:Array Field} {i:TypeInfo} {v:Value} (h:Made.reckonStruct info fs=some i) (hv:i.zero=some v):uQ v=true:=by
 unfold Made.reckonStruct at h;simp only [<-Array.forIn_toList] at h;obtain ⟨s,hs,h⟩:=aP.1 h
 have hI:=Ji (λs:Array Field×Nat×Nat×Nat×Nat×Bool×Bool×Option (Array Value)×String=>∀a,s.2.2.2.2.2.2.2.1=some a->a.all plain0=true) _ (λf s s' hI e=>by
  obtain ⟨i,hii,e⟩:=aP.1 e;have key:=Q7 (n:=s.2.1+i.size) hi hii hI
  by_cases c1:i.str.isEmpty=true
  ·rw [aj c1] at e;cases e
  rw [aa c1] at e
  by_cases c2:f.embedded=true
  ·rw [aj c2] at e;cases e
  rw [aa c2] at e
  by_cases c3:f.tag.isEmpty=true
  ·rw [aj c3] at e;obtain ⟨tag,_,e⟩:=aP.1 e
   by_cases c4:i.bytes=0
   ·rw [aj c4] at e;cases e;exact key
   ·rw [aa c4] at e;cases e;exact key
  ·rw [aa c3] at e;obtain ⟨tag,_,e⟩:=aP.1 e
   by_cases c4:i.bytes=0
   ·rw [aj c4] at e;cases e;exact key
   ·rw [aa c4] at e;cases e;exact key) _ _ _ (by intro a ha;cases ha;simp) hs
 have fin:∀j:TypeInfo,some j=some i->j.zero=s.2.2.2.2.2.2.2.1.map .agg->uQ v=true:=by
  intro j e hj;cases e;rw [hj] at hv;obtain ⟨a,ha,rfl⟩:=Option.map_eq_some_iff.1 hv;exact hI a ha
 split at h<;>exact fin _ h rfl
theorem Kj {info:TypeId->Option TypeInfo} (hi:sJ info) {d:TypeDesc} {i:TypeInfo} {v:Value} (h:Made.reckon info d=some i) (hv:i.zero=some v):uQ v=true:=by
 unfold Made.reckon at h;cases d with
 |pointer e=>
  obtain ⟨j,_,h⟩:=aP.1 h;split at h
  ·cases h
  ·split at h
   ·cases h
   ·obtain ⟨x,_,h⟩:=aP.1 h;cases h;cases hv;rfl
  ·obtain ⟨x,_,h⟩:=aP.1 h;cases h;cases hv;rfl
 |slice e=>
  obtain ⟨j,_,h⟩:=aP.1 h;obtain ⟨x,_,h⟩:=aP.1 h;cases h;cases hv;rfl
 |map k e=>
  obtain ⟨j,_,h⟩:=aP.1 h;obtain ⟨x,_,h⟩:=aP.1 h;obtain ⟨j',_,h⟩:=aP.1 h;obtain ⟨x',_,h⟩:=aP.1 h;cases h;cases hv;rfl
 |chan dir e=>
  obtain ⟨j,_,h⟩:=aP.1 h;obtain ⟨x,_,h⟩:=aP.1 h;cases h;cases hv;rfl
 |func ps rs vr=>
  obtain ⟨x,_,h⟩:=aP.1 h;cases h;cases hv;rfl
 |array n e=>
  obtain ⟨j,hj,h⟩:=aP.1 h;obtain ⟨x,_,h⟩:=aP.1 h;cases h;dsimp only at hv;split at hv
  ·cases hv
  ·split at hv
   ·cases hv;simp [uQ]
   ·obtain ⟨z,hz,rfl⟩:=Option.map_eq_some_iff.1 hv;have :=EE (hi e j z hj hz);show (Array.flatten _).all plain0=true;rw [aV] at this ⊢;intro y hy;obtain ⟨c,hc,hyc⟩:=Array.mem_flatten.1 hy;rw [(Array.mem_replicate.1 hc).2] at hyc;exact this y hyc
 |struct fs=>exact Bq hi h hv
 |_=>cases h
theorem Cr {T:Tables} (hT:sJ λt=>T.types[t]?):∀n,sJ (Made.infoAt T n)
 |0=>by intro t i v h;cases h
 |n+1=>by
  intro t i v h hv;unfold Made.infoAt at h;split at h
  ·exact hT t i v h hv
  ·obtain ⟨d,_,h⟩:=aP.1 h;exact Kj (Cr hT n) h hv
theorem NL {T:Tables} (hT:sJ λt=>T.types[t]?):sJ T.info?:=by
 intro t i v h hv;unfold Tables.info? at h;split at h
 ·exact hT t i v h hv
 ·exact Cr hT _ t i v h hv
def jK (P:Program):Bool:=P.types.all λi=>match i.zero with |some v=>uQ v|none=>true
structure Rn (P:Program) (f:Nat->Nat):Prop where
 inj:∀a b,Sh.lk a=false->Sh.hol b=false->f a=f b->a=b
 lC:∀b,b<=P.globals.size->f b=b
 gQ:jK P=true
 glk:∀b,b<=P.globals.size->Sh.lk b=false
 bad:∀b,Sh.lk b=true->P.info? Sh.bad=none
 cc:∀b,Sh.lk b=true->∀t i,P.info? t=some i->∀u,i.desc≠ .named "sync.copyChecker" u
def VR (F:Fit) (f:Nat->Nat) (v v':Value):Prop:=v'=rv f v∧vs F v=true
def AR (F:Fit) (f:Nat->Nat) (a a':Addr):Prop:=a'=ra f a∧F.A a.block=true
def lH (F:Fit) (f:Nat->Nat) (v v':Array Value):Prop:=v'=v.map (rv f)∧VS F v
section
variable {P:Program} {F:Fit} {f:Nat->Nat} {α β γ δ:Type}
theorem dM.mono {R R':α->β->Prop} {m:Sem α} {m':Sem β} (h:dM P F f R m m') (hr:∀a b,R a b->R' a b):dM P F f R' m m':=by
 induction h with
 |pure h=>exact .pure (hr _ _ h)
 |load hA h ih=>exact .load hA λv hv=>ih v hv
 |store hA hv h ih=>exact .store hA hv ih
 |new ho h ih=>exact .new ho ih
 |sI ho e1 e2 h ih=>exact .sI ho e1 e2 ih
 |shape hA h hl ih ihl=>exact .shape hA ih ihl
 |getObj hA h ih=>exact .getObj hA λo h1 h2 h3=>ih o h1 h2 h3
 |FX hA hl=>exact .FX hA hl
 |setObj hA ho hc h ih=>exact .setObj hA ho hc ih
 |choose h ih=>exact .choose ih
 |program e h ih=>exact .program e ih
 |noRoom h ih=>exact .noRoom ih
 |pO h=>exact .pO h
theorem runT_bind (m:Sem α) (k:α->Sem γ):∀(w:World) (es:Array Event),Sem.runT P (m.bind k) w es=match Sem.runT P m w es with
 |(.ok a w',es')=>Sem.runT P (k a) w' es'
 |(.halt h w',es')=>(.halt h w',es'):=by
 induction m with
 |pure a=>intro w es;rfl
 |load m a k' ih=>
  intro w es;simp only [Sem.bind,Sem.runT];cases w.cell? a with
  |some v=>exact ih v _ _
  |none=>
   dsimp only;cases w.farLoad P a (m== .atomic) with
   |ok x=>exact ih _ _ _
   |error x=>rfl
 |store m a v k' ih=>
  intro w es
  cases v<;>first
   |rfl
   |(simp only [Sem.bind,Sem.runT];cases w.cell? a with
     |some x=>
      dsimp only
      by_cases hz:w.frozen? a=true
      ·simp only [hz,if_true]
      ·simp only [hz,if_false,bE];exact ih _ _
     |none=>
      dsimp only;cases w.farStore P a _ (m== .atomic) with
      |ok x=>exact ih _ _
      |error x=>rfl)
 |new o k' ih=>intro w es;exact ih _ _ _
 |shape r k' ih=>intro w es;exact ih _ _ _
 |freeze a n k' ih=>intro w es;exact ih _ _
 |frozen a k' ih=>intro w es;exact ih _ _ _
 |getObj r k' ih=>
  intro w es;simp only [Sem.bind,Sem.runT];cases hr:w.heap[r]? with
  |none=>rfl
  |some o=>cases o<;>first |rfl|exact ih _ _ _
 |setObj r o k' ih=>
  intro w es;simp only [Sem.bind,Sem.runT];cases hr:w.heap[r]? with
  |none=>rfl
  |some o=>cases o<;>first |rfl|exact ih _ _
 |choose q k' ih=>
  intro w es;simp only [Sem.bind,Sem.runT]
  by_cases hq:q.forced=true
  ·simp only [hq,if_true];exact ih _ _ _
  ·simp only [hq,if_false,bE];exact ih _ _ _
 |sys c k' ih=>intro w es;exact ih _ _ _
 |program k' ih=>intro w es;exact ih _ _ _
 |mark m k' ih=>intro w es;exact ih _ _
 |halt h=>intro w es;rfl
theorem dM.TV {R:α->β->Prop} {R':γ->δ->Prop} {m:Sem α} {m':Sem β} {k:α->Sem γ} {k':β->Sem δ} (h:dM P F f R m m') (hk:∀a b,R a b->dM P F f R' (k a) (k' b)):
 dM P F f R' (m.bind k) (m'.bind k'):=by
 induction h with
 |pure h=>exact hk _ _ h
 |load hA h ih=>exact .load hA λv hv=>ih v hv
 |store hA hv h ih=>exact .store hA hv ih
 |new ho h ih=>exact .new ho ih
 |sI ho e1 e2 h ih=>exact .sI (k:= λr=>(_:Sem α).bind k) (k':= λr=>(_:Sem β).bind k') ho (λr=>by rw [e1];rfl) (λr=>by rw [e2];rfl) ih
 |shape hA h hl ih ihl=>exact .shape hA ih ihl
 |getObj hA h ih=>exact .getObj hA λo h1 h2 h3=>ih o h1 h2 h3
 |FX hA hl=>exact .FX hA hl
 |setObj hA ho hc h ih=>exact .setObj hA ho hc ih
 |choose h ih=>exact .choose ih
 |program e h ih=>exact .program (λQ hQ=>by show (_:Sem β).bind _=_;rw [e Q hQ]) ih
 |noRoom h ih=>exact .noRoom ih
 |pO h=>
  refine .pO λw es=>?_
  obtain ⟨x,w',es',h1,h2⟩:=h w es;exact ⟨x,w',es',by rw [runT_bind,h1],h2⟩
theorem dM.bind {R:α->β->Prop} {R':γ->δ->Prop} {m:Sem α} {m':Sem β} {k:α->Sem γ} {k':β->Sem δ} (h:dM P F f R m m') (hk:∀a b,R a b->dM P F f R' (k a) (k' b)):
 dM P F f R' (m >>=k) (m' >>=k'):=h.TV hk
theorem dM.dX {R':γ->δ->Prop} {m m':Sem α} {k:α->Sem γ} {k':α->Sem δ} (h:dM P F f Eq m m') (hk:∀a,dM P F f R' (k a) (k' a)):dM P F f R' (m >>=k) (m' >>=k'):=
 h.bind λa b e=>by subst e;exact hk a
theorem dM.ret {R:α->β->Prop} {a:α} {b:β} (h:R a b):dM P F f R (Pure.pure a) (Pure.pure b):=.pure h
theorem z8 (s:String):LC (.stuck s):=trivial
theorem gW {R:α->β->Prop} (s:String) (m':Sem β):dM P F f R (stuck s) m':=.bad (z8 s)
theorem zu {R:α->β->Prop} {u:Unsupported} (h:∀g,u≠ .initOrder g) (m':Sem β):dM P F f R (unsupported u) m':=.bad (by cases u<;>first |trivial|exact absurd rfl (h _))
theorem PU (a:Addr) (hA:F.A a.block=true):dM P F f (VR F f) (load a) (load (ra f a)):=.load hA λ_ hv=>.pure ⟨rfl,hv⟩
theorem TW (a:Addr) (hA:F.A a.block=true) {v:Value} (hv:vs F v=true):dM P F f Eq (store a v) (store (ra f a) (rv f v)):=.store hA hv (.pure rfl)
theorem uI {o:Obj} (ho:oS F o):dM P F f (λr r'=>r'=f r∧F.A r=true∧Sh.lk r=false) (newObj o) (newObj (ro f o)):=.new ho λ_ h hl=>.pure ⟨rfl,h,hl⟩
theorem F4 {r n:Nat} {x:Option Nat} (h:Sh.lk r=false):ra f ⟨r,n,x⟩=⟨f r,n,x⟩:=by unfold ra;simp [Sh.sh0 _ h]
theorem lD (r:Nat) (hA:F.A r=true):dM P F f (λo o'=>o'=ro f o∧oS F o∧isCells o=false) (getObj r) (getObj (f r)):=.getObj hA λ_ h1 h2 _=>.pure ⟨rfl,h1,h2⟩
theorem NM (r:Nat) (hA:F.A r=true):dM P F f (λo o'=>o'=ro f o∧oS F o∧isCells o=false∧Sh.lk r=false) (getObj r) (getObj (f r)):=.getObj hA λ_ h1 h2 h3=>.pure ⟨rfl,h1,h2,h3⟩
theorem sK (r:Nat) (hA:F.A r=true) {o:Obj} (ho:oS F o) (hc:isCells o=false):dM P F f Eq (setObj r o) (setObj (f r) (ro f o)):=.setObj hA ho hc (.pure rfl)
theorem oQ (q:Question):dM P F f Eq (choose q) (choose q):=.choose λ_=>.pure rfl
section
variable {P Q:Program}
theorem TY (P:Program) (q:FuncId) (c:Code) (g:FuncId):(P.stub q c).funcs[g]?=(P.funcs[g]?).map λfn=>if g=q then { fn with body:=some c } else fn:=by
 show (P.funcs.modify q _)[g]?=_
 rw [bC]
 by_cases e:q=g
 ·subst e;simp
 ·rw [aa e];cases P.funcs[g]? with
  |none=>rfl
  |some fn=>
   show some fn=some (if g=q then _ else fn);rw [aa λh:g=q=>e h.symm]
theorem Alike.get (hQ:Alike P Q) (g:FuncId):∃h:Func->Func,Q.funcs[g]?=(P.funcs[g]?).map h∧∀fn,∃b,h fn= { fn with body:=b }∧(fn.body.isSome=true->b.isSome=true):=by
 rcases hQ with rfl|⟨q,c,_,_,_,_,rfl⟩
 ·exact ⟨id,by simp, λfn=>⟨fn.body,rfl,id⟩⟩
 ·refine ⟨_,TY P q c g, λfn=>?_⟩;split
  ·exact ⟨_,rfl, λ_=>rfl⟩
  ·exact ⟨fn.body,rfl,id⟩
theorem Alike.underlying (h:Alike P Q) (t:TypeId):Q.underlying t=P.underlying t:=by rcases h with rfl|⟨_,_,_,_,_,_,rfl⟩<;>rfl
theorem Alike.info (h:Alike P Q) (t:TypeId):Q.info? t=P.info? t:=by rcases h with rfl|⟨_,_,_,_,_,_,rfl⟩<;>rfl
theorem Alike.cellsOf (h:Alike P Q) (t:TypeId):Q.cellsOf t=P.cellsOf t:=by rcases h with rfl|⟨_,_,_,_,_,_,rfl⟩<;>rfl
theorem Alike.bytesOf (h:Alike P Q) (t:TypeId):Q.bytesOf t=P.bytesOf t:=by rcases h with rfl|⟨_,_,_,_,_,_,rfl⟩<;>rfl
theorem Alike.depth (h:Alike P Q):Q.depth=P.depth:=by rcases h with rfl|⟨_,_,_,_,_,_,rfl⟩<;>rfl
theorem Alike.globals (h:Alike P Q):Q.globals=P.globals:=by rcases h with rfl|⟨_,_,_,_,_,_,rfl⟩<;>rfl
theorem Alike.underlyingId (h:Alike P Q) (t:TypeId):Q.underlyingId t=P.underlyingId t:=by rcases h with rfl|⟨_,_,_,_,_,_,rfl⟩<;>rfl
theorem Alike.cutTypes (h:Alike P Q):Q.cutTypes=P.cutTypes:=by rcases h with rfl|⟨_,_,_,_,_,_,rfl⟩<;>rfl
theorem Alike.tags (h:Alike P Q):∀n t u,Q.alikeButTags n t u=P.alikeButTags n t u
 |0,_,_=>rfl
 |n+1,t,u=>by
  unfold Go.Program.alikeButTags;simp only [h.underlying,h.info,h.underlyingId,Alike.tags h n]
theorem Alike.stoodInHeld (h:Alike P Q) (t:TypeId):Q.stoodInHeld t=P.stoodInHeld t:=by
 unfold Go.Program.stoodInHeld Go.Program.stoodInAs;simp only [h.underlying,h.info,h.underlyingId,h.depth,h.cutTypes,h.tags]
theorem Alike.byteOfCell (h:Alike P Q):∀d t off,Go.byteOfCell Q d t off=Go.byteOfCell P d t off
 |0,_,_=>rfl
 |d+1,t,off=>by
  unfold Go.byteOfCell;simp only [h.underlying,h.cellsOf,h.bytesOf,Alike.byteOfCell h d]
theorem Alike.cellOfByte (h:Alike P Q):∀d t b,Go.cellOfByte Q d t b=Go.cellOfByte P d t b
 |0,_,_=>rfl
 |d+1,t,b=>by
  unfold Go.cellOfByte;simp only [h.underlying,h.cellsOf,h.bytesOf,Alike.cellOfByte h d]
theorem Alike.cellAtBytes (h:Alike P Q) (d:Nat) (e:TypeId) (n o:Nat) (b:Int):Go.cellAtBytes Q d e n o b=Go.cellAtBytes P d e n o b:=by
 unfold Go.cellAtBytes;simp only [h.cellsOf,h.bytesOf,h.byteOfCell,h.cellOfByte]
theorem Alike.eqGuardType (h:Alike P Q):∀d t,Q.eqGuardType d t=P.eqGuardType d t
 |0,_=>rfl
 |d+1,t=>by
  unfold Go.Program.eqGuardType;simp only [h.underlying,Alike.eqGuardType h d]
end
theorem dM.xe {R:α->β->Prop} {k:Program->Sem α} {k':Program->Sem β} (h:dM P F f R (k P) (k' P)) (e:∀Q,Alike P Q->k' Q=k' P:=by rintro _ (rfl|⟨_,_,_,_,_,_,rfl⟩)<;>rfl):dM P F f R (Go.program >>=k) (Go.program >>=k'):=.program e h
theorem Q8:dM P F f Eq (mark .noRoom) (mark .noRoom):=.noRoom (.pure rfl)
theorem EF (t:TypeId):dM P F f (λa b=>a=b∧P.info? t=some a) (typeInfo t) (typeInfo t):=by
 unfold typeInfo;refine .xe ?_
 split
 ·exact .ret ⟨rfl,by assumption⟩
 ·exact gW _ _
theorem kL (t:TypeId):dM P F f Eq (typeInfo t) (typeInfo t):=(EF t).mono λ_ _ h=>h.1
theorem eG (t:TypeId):dM P F f Eq (underlying t) (underlying t):=by
 unfold underlying;refine .xe ?_
 split
 ·exact .ret rfl
 ·exact gW _ _
theorem jD (t:TypeId):dM P F f Eq (Go.sizeOf t) (Go.sizeOf t):=by
 unfold Go.sizeOf;exact (kL t).dX λ_=>.ret rfl
theorem LH (t:TypeId):dM P F f Eq (isAgg t) (isAgg t):=by
 unfold isAgg;refine (eG t).dX λd=>?_
 split<;>exact .ret rfl
theorem XK (hz:jK P=true) {t:TypeId} {i:TypeInfo} {v:Value} (h:P.info? t=some i) (hv:i.zero=some v):rv f v=v∧vs F v=true:=by
 refine DV (NL (λt i v h hv=>?_) t i v h hv);have hm:i∈P.types:=bn h;have :=aV.1 hz i hm
 rwa [hv] at this
theorem nM (hz:jK P=true) (t:TypeId):dM P F f (λv v'=>v'=v∧rv f v=v∧vs F v=true) (zeroValue t) (zeroValue t):=by
 unfold zeroValue;refine (EF t).bind ?_
 rintro i _ ⟨rfl,hi⟩;split
 ·exact .ret ⟨rfl,XK hz hi (by assumption)⟩
 ·exact zu (by simp) _
theorem F5 (hz:jK P=true) (t:TypeId):dM P F f (VR F f) (zeroValue t) (zeroValue t):=(nM hz t).mono λ_ _ h=>⟨h.1.trans h.2.1.symm,h.2.2⟩
theorem add_block' (a:Addr) (n:Nat):(a.add n).block=a.block:=by unfold Addr.add;split<;>rfl
theorem xg (a:Addr) (hA:F.A a.block=true):∀(n i:Nat) (acc:Array Value),VS F acc->dM P F f (lH F f) (loadCellsFrom a i n acc) (loadCellsFrom (ra f a) i n (acc.map (rv f)))
 |0,_,_,h=>.ret ⟨rfl,h⟩
 |n+1,i,acc,h=>by
  unfold loadCellsFrom;refine (dM.bind (by rw [<-DT];exact PU _ (by rw [add_block'];exact hA)) ?_);rintro v _ ⟨rfl,hv⟩;rw [<-Array.map_push]
  exact xg a hA n (i+1) _ λx hx=>by
   rcases Array.mem_push.1 hx with hx|rfl
   ·exact h x hx
   ·exact hv
theorem Cs (a:Addr) (hA:F.A a.block=true) (n:Nat):dM P F f (lH F f) (loadCells a n) (loadCells (ra f a) n):=by
 have :=xg (P:=P) (F:=F) (f:=f) a hA n 0 #[] (by intro x hx;simp at hx);simpa [loadCells] using this
theorem tH (a:Addr) (hA:F.A a.block=true):∀(l:List Value) (i:Nat),(∀v∈l,vs F v=true)->dM P F f Eq (storeCells a l i) (storeCells (ra f a) (l.map (rv f)) i)
 | [],_,_=>.ret rfl
 |v::l,i,h=>by
  simp only [aC];unfold storeCells;refine dM.dX (by rw [<-DT];exact TW _ (by rw [add_block'];exact hA) (h v (by simp))) λ_=>?_
  exact tH a hA l (i+1) λx hx=>h x (by simp [hx])
theorem F6 (t:TypeId) (a:Addr) (hA:F.A a.block=true):dM P F f (VR F f) (loadVar t a) (loadVar t (ra f a)):=by
 unfold loadVar;refine (LH t).dX λb=>?_
 cases b
 ·simpa using PU a hA
 ·simp only [if_true];refine (jD t).dX λn=>?_
  refine (Cs a hA n).bind ?_
  rintro c _ ⟨rfl,hc⟩;exact .ret ⟨by simp,pM.2 hc⟩
theorem LJ (t:TypeId) (a:Addr) (hA:F.A a.block=true) {v:Value} (hv:vs F v=true):dM P F f Eq (storeVar t a v) (storeVar t (ra f a) (rv f v)):=by
 unfold storeVar;refine (jD t).dX λn=>?_
 rw [wY,Array.size_map,Array.toList_map];split
 ·exact (gW (R:=Eq) _ _).dX λ_=>tH a hA _ _ λx hx=>VS.cells hv x (by simpa using hx)
 ·exact tH a hA _ _ λx hx=>VS.cells hv x (by simpa using hx)
theorem xh (e:TypeId) {c:Array Value} (hc:VS F c):dM P F f (AR F f) (newRow e c) (newRow e (c.map (rv f))):=by
 unfold newRow;refine dM.bind (uI (o:=.cells c e) hc) ?_
 rintro r _ ⟨rfl,hr,hl⟩;exact .ret ⟨(F4 hl).symm,hr⟩
theorem Jj (t:TypeId) {v:Value} (hv:vs F v=true):dM P F f (AR F f) (newVar t v) (newVar t (rv f v)):=by
 unfold newVar;rw [wY];exact xh t (VS.cells hv)
end
end
end Par
namespace Par
open Go Go.RowKit
section
def eU (w:World) (v:Value):Prop:=∀g,v.ownBlock=some g->∃cur e,w.heap[g]?=some (.cells cur e)∧∀x∈cur,fA x=true
theorem eU.nil (w:World):eU w (.slice none 0 0):= λg h=>by cases h
theorem eU.keep {w w':World} {v:Value} (h:eU w v) (hk:∀g,v.ownBlock=some g->w'.heap[g]?=w.heap[g]?):eU w' v:= λg hg=>by
 obtain ⟨c,e,h1,h2⟩:=h g hg;exact ⟨c,e,(hk g hg).trans h1,h2⟩
theorem eU.alloc {w:World} {v:Value} (h:eU w v) (o:Obj):eU (w.alloc o) v:= λg hg=>by
 obtain ⟨c,e,h1,h2⟩:=h g hg;exact ⟨c,e,(Below.heap_alloc _ _ _ (aI.1 h1).1).trans h1,h2⟩
theorem eU.setCell {w:World} {g n cap j:Nat} {v:Value} (h:eU w (.slice (some ⟨g,0,none⟩) n cap)) (hv:fA v=true):eU (w.setCell ⟨g,j,none⟩ v) (.slice (some ⟨g,0,none⟩) n cap):= λg' hg=>by
 have e:g=g':=by simpa [Value.ownBlock] using hg
 subst e;obtain ⟨c,e,h1,h2⟩:=h g rfl;refine ⟨c.setIfInBounds j v,e,heap_setCell_same w g j c e v h1, λx hx=>?_⟩
 ·rcases bI hx with hx|rfl
  ·exact h2 x hx
  ·exact hv
section
variable {P:Program} {w:World}
theorem sM (base:Nat) (t ty e:TypeId) (i:TypeInfo) (z:Value) (size bytes:Nat) (ht:P.underlying t=some (.slice e)) (hi:P.info? e=some i) (hz:i.zero=some z)
 (hsize:i.size=size) (hby:i.bytes=bytes) (hzs:z.cells.size=size) (hsz:0<size)
 (v:Value) (n:Nat) (xs:List Value) (hown:w.ownsRow base e size v n xs)
 (a:Addr) (m c:Nat) (news:List Value) (hl:news.length=m*size) (hnews:∀j u,news[j]?=some u->w.cell? (a.add j)=some u) (h1:∀u∈news,u.oneCell'=true)
 (h63:n+m<=maxLen) (hbytes:(n+m)*bytes<=140737488355328) (hbase:base<=w.heap.size)
 (hpv:eU w v) (hpx:∀u∈news,fA u=true) (hpz:∀u∈z.cells,fA u=true) {v':Value} {w':World}
 (hr:(Builtin.append_ #[t,t] ty #[v,.slice (some a) m c]).run P w= .ok v' w'):eU w' v':=by
 subst hsize;subst hby;have hsmall:n+m<=9223372036854775807:=by simp only [maxLen] at h63;omega
 have zc:∀k,∀x∈Builtin.zeroCells z.cells k,fA x=true:=by
  intro k x hx;unfold Builtin.zeroCells at hx;simp at hx;obtain ⟨q,_,rfl⟩:=hx;have hlt:q%z.cells.size<z.cells.size:=Nat.mod_lt _ (by omega);rw [getElem!_pos z.cells _ hlt];exact hpz _ (Array.getElem_mem hlt)
 rcases hown.2 with ⟨rfl,rfl⟩|⟨g,cap,cur,rfl,hbg,hg,hnc,hcm,hcs,htake⟩
 ·have hx:xs= []:=List.eq_nil_of_length_eq_zero (by simpa using hown.1);subst hx
  by_cases hm:m=0
  ·subst hm;have hn:news= []:=List.eq_nil_of_length_eq_zero (by simpa using hl);subst hn
   have :(Builtin.append_ #[t,t] ty #[.slice none 0 0,.slice (some a) 0 c]).run P w= .ok (.slice none 0 0) w:=by
    simp [Builtin.append_,run_underlying ht,Go.sizeOf,Go.typeInfo,hi,Builtin.lenOf,Builtin.firstCells,loadCells,loadCellsFrom]
   rw [this] at hr;cases hr;exact .nil _
  ·have hr2:=run_append_nil (P:=P) w t ty e i z ht hi hz a m c news hl hnews (by omega) (by omega) (by have hb:=hbytes;simp only [Nat.zero_add] at hb;omega);rw [hr2] at hr;cases hr;intro g hg;have e1:w.heap.size=g:=by simpa [Value.ownBlock] using hg
   subst e1;refine ⟨_,_,heap_alloc_new w.drew _, λx hx=>?_⟩;simp only [Array.mem_append,aB] at hx;rcases hx with hx|hx
   ·exact hpx x hx
   ·exact zc _ x hx
 ·by_cases hroom:n+m<=cap
  ·have hfit:n*i.size+news.length<=cur.size:=by rw [hl,hcs, <-Nat.add_mul];exact Nat.mul_le_mul_right _ hroom
   have hr2:=run_append_room (P:=P) w t ty e i ht hi g n cap cur hg a m c news hl hnews h1 hroom hfit;rw [hr2] at hr;cases hr;intro g' hg';have e1:g=g':=by simpa [Value.ownBlock] using hg'
   subst e1;obtain ⟨c',e',q1,q2⟩:=hpv g rfl;rw [hg] at q1;cases q1;refine ⟨_,_,setRow_heap w g cur _ e _ hg, λx hx=>?_⟩;simp only [aB,List.mem_append] at hx;rcases hx with (hx|hx)|hx
   ·exact q2 x (by have :=bG hx;simpa using this)
   ·exact hpx x hx
   ·exact q2 x (by have :=List.mem_of_mem_drop hx;simpa using this)
  ·have holds:∀j u,xs[j]?=some u->w.cell? ((⟨g,0,none⟩:Addr).add j)=some u:=hown.cells (g:=g) rfl
   have hr2:=run_append_grow (P:=P) w t ty e i z ht hi hz ⟨g,0,none⟩ n cap xs hown.1 holds a m c news hl hnews (by omega) (by omega) (growslice_fits (by omega) hbytes);rw [hr2] at hr;cases hr;intro g' hg';have e1:w.heap.size=g':=by simpa [Value.ownBlock] using hg'
   subst e1;obtain ⟨c',e',q1,q2⟩:=hpv g rfl;rw [hg] at q1;cases q1;refine ⟨_,_,heap_alloc_new w.drew _, λx hx=>?_⟩;simp only [Array.mem_append,aB] at hx;rcases hx with (hx|hx)|hx
   ·rw [<-htake] at hx;exact q2 x (by have :=bG hx;simpa using this)
   ·exact hpx x hx
   ·exact zc _ x hx
theorem gJ {ops:Array Oper} {rest:List Oper} {o:Oper} {a:Act} {Q:Exit->Act->World->Prop} (hgd:o.guard=none) (s x:Operand) (t:TypeId)
 (ho:o.op= .call { callee:=.builtin .append,args:= #[s,x],argTypes:= #[t,t] })
 (base:Nat) (e:TypeId) (i:TypeInfo) (z:Value) (size bytes:Nat) (ht:P.underlying t=some (.slice e)) (hi:P.info? e=some i) (hz:i.zero=some z)
 (hsize:i.size=size) (hby:i.bytes=bytes) (hzs:z.cells.size=size) (hsz:0<size)
 (v:Value) (n:Nat) (xs:List Value) (hs:a.eval s=v) (hown:w.ownsRow base e size v n xs)
 (ad:Addr) (m c:Nat) (news:List Value) (hx:a.eval x= .slice (some ad) m c) (hl:news.length=m*size) (hnews:∀j u,news[j]?=some u->w.cell? (ad.add j)=some u) (h1:∀u∈news,u.oneCell'=true)
 (h63:n+m<=maxLen) (hbytes:(n+m)*bytes<=140737488355328) (hbase:base<=w.heap.size) (hpv:eU w v) (hpx:∀u∈news,fA u=true) (hpz:∀u∈z.cells,fA u=true)
 (h:∀v' w',w'.ownsRow base e size v' (n+m) (xs++news)->w.grownBy w' v.ownBlock->(v'= .slice none 0 0↔v= .slice none 0 0∧m=0)->eU w' v'->wpList P ops Q rest (a.put o.dst v') w'):wpList P ops Q (o::rest) a w:=
 wpList_plain hgd λK hK=>by
  obtain ⟨v',w',hr,h2,h3,h4⟩:=run_append_own (P:=P) w base t o.type e i z size bytes ht hi hz hsize hby hzs hsz v n xs hown ad m c news hl hnews h1 h63 hbytes hbase;have hp:=sM (P:=P) (w:=w) base t o.type e i z size bytes ht hi hz hsize hby hzs hsz v n xs hown ad m c news hl hnews h1 h63 hbytes hbase hpv hpx hpz hr;unfold Oper.wp execOp;simp only [ho,resolve,invoke,builtin,Sem.run_bind,Sem.run_pure,Result.andThen_ok,List.map_toArray,aC,List.map_nil,hs,hx,hr];exact hK _ _ (h v' w' h2 h3 h4 hp)
theorem Ct {o:Oper} {a:Act} {K:Act->World->Prop} {Q:Exit->Act->World->Prop} (s x:Operand) (t:TypeId)
 (ho:o.op= .call { callee:=.builtin .append,args:= #[s,x],argTypes:= #[t,t] })
 (base:Nat) (e:TypeId) (i:TypeInfo) (z:Value) (size bytes:Nat) (ht:P.underlying t=some (.slice e)) (hi:P.info? e=some i) (hz:i.zero=some z)
 (hsize:i.size=size) (hby:i.bytes=bytes) (hzs:z.cells.size=size) (hsz:0<size)
 (v:Value) (n:Nat) (xs:List Value) (hs:a.eval s=v) (hown:w.ownsRow base e size v n xs)
 (ad:Addr) (m c:Nat) (news:List Value) (hx:a.eval x= .slice (some ad) m c) (hl:news.length=m*size) (hnews:∀j u,news[j]?=some u->w.cell? (ad.add j)=some u) (h1:∀u∈news,u.oneCell'=true)
 (hm:0<m) (h63:n+m<=maxLen) (hbytes:(n+m)*bytes<=140737488355328) (hbase:base<=w.heap.size) (H:Nat) (hH:w.heap.size=H) (hpv:eU w v) (hpx:∀u∈news,fA u=true) (hpz:∀u∈z.cells,fA u=true)
 (h:∀g cap w',w'.ownsRow base e size (.slice (some ⟨g,0,none⟩) (n+m) cap) (n+m) (xs++news)->w.grownBy w' v.ownBlock->(v.ownBlock=some g∨g=H)->g<w'.heap.size->eU w' (.slice (some ⟨g,0,none⟩) (n+m) cap)->K (a.put o.dst (.slice (some ⟨g,0,none⟩) (n+m) cap)) w'):
 Oper.wp P o a w K Q:=by
 obtain ⟨v',w',hr,h2,h3,_,h5⟩:=run_append_own_at (P:=P) w base t o.type e i z size bytes ht hi hz hsize hby hzs hsz v n xs hown ad m c news hl hnews h1 h63 hbytes hbase;have hp:=sM (P:=P) (w:=w) base t o.type e i z size bytes ht hi hz hsize hby hzs hsz v n xs hown ad m c news hl hnews h1 h63 hbytes hbase hpv hpx hpz hr;unfold Oper.wp execOp;simp only [ho,resolve,invoke,builtin,Sem.run_bind,Sem.run_pure,Result.andThen_ok,List.map_toArray,aC,List.map_nil,hs,hx,hr];rcases h2.2 with ⟨h0,_⟩|⟨g,cap,cur,rfl,hbg,hg,_⟩
 ·omega
 ·exact h g cap w' h2 h3 (by rcases h5 with h5|h5
                             ·exact .inl (h5.symm.trans rfl)
                             ·exact .inr (by have :=h5;simp [Value.ownBlock] at this;omega)) (aI.1 hg).1 hp
theorem pQ {ops:Array Oper} {o:Oper} {a:Act} {K:Act->World->Prop} {Q:Exit->Act->World->Prop} {E:Prop} (hgd:o.guard=none) (s x:Operand) (t:TypeId)
 (ho:o.op= .call { callee:=.builtin .append,args:= #[s,x],argTypes:= #[t,t] })
 (base:Nat) (e:TypeId) (i:TypeInfo) (z:Value) (size bytes:Nat) (ht:P.underlying t=some (.slice e)) (hi:P.info? e=some i) (hz:i.zero=some z)
 (hsize:i.size=size) (hby:i.bytes=bytes) (hzs:z.cells.size=size) (hsz:0<size)
 (v:Value) (n:Nat) (xs:List Value) (hs:a.eval s=v) (hown:w.ownsRow base e size v n xs)
 (ad:Addr) (m c:Nat) (news:List Value) (hx:a.eval x= .slice (some ad) m c) (hl:news.length=m*size) (hnews:∀j u,news[j]?=some u->w.cell? (ad.add j)=some u) (h1:∀u∈news,u.oneCell'=true)
 (hm:0<m) (h63:n+m<=maxLen) (hbytes:(n+m)*bytes<=140737488355328) (hbase:base<=w.heap.size) (H:Nat) (hH:w.heap.size=H) (hpv:eU w v) (hpx:∀u∈news,fA u=true) (hpz:∀u∈z.cells,fA u=true)
 (h:∀g cap w',w'.ownsRow base e size (.slice (some ⟨g,0,none⟩) (n+m) cap) (n+m) (xs++news)->w.grownBy w' v.ownBlock->(v.ownBlock=some g∨g=H)->g<w'.heap.size->eU w' (.slice (some ⟨g,0,none⟩) (n+m) cap)->K (a.put o.dst (.slice (some ⟨g,0,none⟩) (n+m) cap)) w'):
 if Region.wanted o (yielded ops a.tmps)=true then Oper.wp P o a w K Q else E:=by
 have hw:Region.wanted o (yielded ops a.tmps)=true:=by simp [Region.wanted,hgd]
 rw [aj hw];exact Ct s x t ho base e i z size bytes ht hi hz hsize hby hzs hsz v n xs hs hown ad m c news hx hl hnews h1 hm h63 hbytes hbase H hH hpv hpx hpz h
theorem DW {ops:Array Oper} {rest:List Oper} {o:Oper} {a:Act} {Q:Exit->Act->World->Prop} (hgd:o.guard=none) (s x:Operand) (t:TypeId)
 (ho:o.op= .call { callee:=.builtin .append,args:= #[s,x],argTypes:= #[t,t] })
 (base:Nat) (e:TypeId) (i:TypeInfo) (z:Value) (size bytes:Nat) (ht:P.underlying t=some (.slice e)) (hi:P.info? e=some i) (hz:i.zero=some z)
 (hsize:i.size=size) (hby:i.bytes=bytes) (hzs:z.cells.size=size) (hsz:0<size)
 (v:Value) (n:Nat) (xs:List Value) (hs:a.eval s=v) (hown:w.ownsRow base e size v n xs)
 (ad:Addr) (m c:Nat) (news:List Value) (hx:a.eval x= .slice (some ad) m c) (hl:news.length=m*size) (hnews:∀j u,news[j]?=some u->w.cell? (ad.add j)=some u) (h1:∀u∈news,u.oneCell'=true)
 (hm:0<m) (h63:n+m<=maxLen) (hbytes:(n+m)*bytes<=140737488355328) (hbase:base<=w.heap.size) (H:Nat) (hH:w.heap.size=H) (hpv:eU w v) (hpx:∀u∈news,fA u=true) (hpz:∀u∈z.cells,fA u=true)
 (h:∀g cap w',w'.ownsRow base e size (.slice (some ⟨g,0,none⟩) (n+m) cap) (n+m) (xs++news)->w.grownBy w' v.ownBlock->(v.ownBlock=some g∨g=H)->g<w'.heap.size->eU w' (.slice (some ⟨g,0,none⟩) (n+m) cap)->wpList P ops Q rest (a.put o.dst (.slice (some ⟨g,0,none⟩) (n+m) cap)) w'):wpList P ops Q (o::rest) a w:=
 wpList_plain hgd λ_ hK=>Ct s x t ho base e i z size bytes ht hi hz hsize hby hzs hsz v n xs hs hown ad m c news hx hl hnews h1 hm h63 hbytes hbase H hH hpv hpx hpz λg cap w' a1 a2 a3 a4 a5=>hK _ _ (h g cap w' a1 a2 a3 a4 a5)
end
end
section
section
variable {P:Program} {w:World}
theorem F7 (base:Nat) (t ty e:TypeId) (i:TypeInfo) (z:Value) (size bytes:Nat) (ht:P.underlying t=some (.slice e)) (hi:P.info? e=some i) (hz:i.zero=some z)
 (hsize:i.size=size) (hby:i.bytes=bytes) (hzs:z.cells.size=size) (hsz:0<size)
 (v:Value) (n:Nat) (xs:List Value) (hown:w.ownsRow base e size v n xs)
 (a:Addr) (m c:Nat) (news:List Value) (hl:news.length=m*size) (hnews:∀j u,news[j]?=some u->w.cell? (a.add j)=some u) (h1:∀u∈news,u.oneCell'=true)
 (h63:n+m<=maxLen) (hbytes:(n+m)*bytes<=140737488355328) (hbase:base<=w.heap.size)
 (hpv:eU w v) (hpx:∀u∈news,fA u=true) (hpz:∀u∈z.cells,fA u=true) {v':Value} {w':World}
 (hr:(Builtin.append_ #[t,t] ty #[v,.slice (some a) m c]).run P w= .ok v' w'):eU w' v:=by
 subst hsize;subst hby;have hsmall:n+m<=9223372036854775807:=by simp only [maxLen] at h63;omega
 have zc:∀k,∀x∈Builtin.zeroCells z.cells k,fA x=true:=by
  intro k x hx;unfold Builtin.zeroCells at hx;simp at hx;obtain ⟨q,_,rfl⟩:=hx;have hlt:q%z.cells.size<z.cells.size:=Nat.mod_lt _ (by omega);rw [getElem!_pos z.cells _ hlt];exact hpz _ (Array.getElem_mem hlt)
 rcases hown.2 with ⟨rfl,rfl⟩|⟨g,cap,cur,rfl,hbg,hg,hnc,hcm,hcs,htake⟩
 ·have hx:xs= []:=List.eq_nil_of_length_eq_zero (by simpa using hown.1);subst hx
  by_cases hm:m=0
  ·subst hm;have hn:news= []:=List.eq_nil_of_length_eq_zero (by simpa using hl);subst hn
   have :(Builtin.append_ #[t,t] ty #[.slice none 0 0,.slice (some a) 0 c]).run P w= .ok (.slice none 0 0) w:=by
    simp [Builtin.append_,run_underlying ht,Go.sizeOf,Go.typeInfo,hi,Builtin.lenOf,Builtin.firstCells,loadCells,loadCellsFrom]
   rw [this] at hr;cases hr;exact .nil _
  ·have hr2:=run_append_nil (P:=P) w t ty e i z ht hi hz a m c news hl hnews (by omega) (by omega) (by have hb:=hbytes;simp only [Nat.zero_add] at hb;omega);rw [hr2] at hr;cases hr;exact .nil _
 ·by_cases hroom:n+m<=cap
  ·have hfit:n*i.size+news.length<=cur.size:=by rw [hl,hcs, <-Nat.add_mul];exact Nat.mul_le_mul_right _ hroom
   have hr2:=run_append_room (P:=P) w t ty e i ht hi g n cap cur hg a m c news hl hnews h1 hroom hfit;rw [hr2] at hr;cases hr;intro g' hg';have e1:g=g':=by simpa [Value.ownBlock] using hg'
   subst e1;obtain ⟨c',e',q1,q2⟩:=hpv g rfl;rw [hg] at q1;cases q1;refine ⟨_,_,setRow_heap w g cur _ e _ hg, λx hx=>?_⟩;simp only [aB,List.mem_append] at hx;rcases hx with (hx|hx)|hx
   ·exact q2 x (by have :=bG hx;simpa using this)
   ·exact hpx x hx
   ·exact q2 x (by have :=List.mem_of_mem_drop hx;simpa using this)
  ·have holds:∀j u,xs[j]?=some u->w.cell? ((⟨g,0,none⟩:Addr).add j)=some u:=hown.cells (g:=g) rfl
   have hr2:=run_append_grow (P:=P) w t ty e i z ht hi hz ⟨g,0,none⟩ n cap xs hown.1 holds a m c news hl hnews (by omega) (by omega) (growslice_fits (by omega) hbytes);rw [hr2] at hr;cases hr;refine hpv.keep λg' hg'=>?_
   have e1:g=g':=by simpa [Value.ownBlock] using hg'
   subst e1;exact Below.heap_alloc w.drew _ _ (aI.1 hg).1
theorem I6 {o:Oper} {a:Act} {K:Act->World->Prop} {Q:Exit->Act->World->Prop} (s x:Operand) (t:TypeId)
 (ho:o.op= .call { callee:=.builtin .append,args:= #[s,x],argTypes:= #[t,t] })
 (base:Nat) (e:TypeId) (i:TypeInfo) (z:Value) (size bytes:Nat) (ht:P.underlying t=some (.slice e)) (hi:P.info? e=some i) (hz:i.zero=some z)
 (hsize:i.size=size) (hby:i.bytes=bytes) (hzs:z.cells.size=size) (hsz:0<size)
 (v:Value) (n:Nat) (xs:List Value) (hs:a.eval s=v) (hown:w.ownsRow base e size v n xs)
 (ad:Addr) (m c:Nat) (news:List Value) (hx:a.eval x= .slice (some ad) m c) (hl:news.length=m*size) (hnews:∀j u,news[j]?=some u->w.cell? (ad.add j)=some u) (h1:∀u∈news,u.oneCell'=true)
 (hm:0<m) (h63:n+m<=maxLen) (hbytes:(n+m)*bytes<=140737488355328) (hbase:base<=w.heap.size) (H:Nat) (hH:w.heap.size=H) (hpv:eU w v) (hpx:∀u∈news,fA u=true) (hpz:∀u∈z.cells,fA u=true)
 (h:∀g cap w',w'.ownsRow base e size (.slice (some ⟨g,0,none⟩) (n+m) cap) (n+m) (xs++news)->w.grownBy w' v.ownBlock->(v.ownBlock=some g∨g=H)->g<w'.heap.size->eU w' (.slice (some ⟨g,0,none⟩) (n+m) cap)->eU w' v->K (a.put o.dst (.slice (some ⟨g,0,none⟩) (n+m) cap)) w'):
 Oper.wp P o a w K Q:=by
 obtain ⟨v',w',hr,h2,h3,_,h5⟩:=run_append_own_at (P:=P) w base t o.type e i z size bytes ht hi hz hsize hby hzs hsz v n xs hown ad m c news hl hnews h1 h63 hbytes hbase;have hp:=sM (P:=P) (w:=w) base t o.type e i z size bytes ht hi hz hsize hby hzs hsz v n xs hown ad m c news hl hnews h1 h63 hbytes hbase hpv hpx hpz hr;have hq:=F7 (P:=P) (w:=w) base t o.type e i z size bytes ht hi hz hsize hby hzs hsz v n xs hown ad m c news hl hnews h1 h63 hbytes hbase hpv hpx hpz hr;unfold Oper.wp execOp;simp only [ho,resolve,invoke,builtin,Sem.run_bind,Sem.run_pure,Result.andThen_ok,List.map_toArray,aC,List.map_nil,hs,hx,hr];rcases h2.2 with ⟨h0,_⟩|⟨g,cap,cur,rfl,hbg,hg,_⟩
 ·omega
 ·exact h g cap w' h2 h3 (by rcases h5 with h5|h5
                             ·exact .inl (h5.symm.trans rfl)
                             ·exact .inr (by have :=h5;simp [Value.ownBlock] at this;omega)) (aI.1 hg).1 hp hq
theorem vP {ops:Array Oper} {rest:List Oper} {o:Oper} {a:Act} {Q:Exit->Act->World->Prop} (hgd:o.guard=none) (s x:Operand) (t:TypeId)
 (ho:o.op= .call { callee:=.builtin .append,args:= #[s,x],argTypes:= #[t,t] })
 (base:Nat) (e:TypeId) (i:TypeInfo) (z:Value) (size bytes:Nat) (ht:P.underlying t=some (.slice e)) (hi:P.info? e=some i) (hz:i.zero=some z)
 (hsize:i.size=size) (hby:i.bytes=bytes) (hzs:z.cells.size=size) (hsz:0<size)
 (v:Value) (n:Nat) (xs:List Value) (hs:a.eval s=v) (hown:w.ownsRow base e size v n xs)
 (ad:Addr) (m c:Nat) (news:List Value) (hx:a.eval x= .slice (some ad) m c) (hl:news.length=m*size) (hnews:∀j u,news[j]?=some u->w.cell? (ad.add j)=some u) (h1:∀u∈news,u.oneCell'=true)
 (hm:0<m) (h63:n+m<=maxLen) (hbytes:(n+m)*bytes<=140737488355328) (hbase:base<=w.heap.size) (H:Nat) (hH:w.heap.size=H) (hpv:eU w v) (hpx:∀u∈news,fA u=true) (hpz:∀u∈z.cells,fA u=true)
 (h:∀g cap w',w'.ownsRow base e size (.slice (some ⟨g,0,none⟩) (n+m) cap) (n+m) (xs++news)->w.grownBy w' v.ownBlock->(v.ownBlock=some g∨g=H)->g<w'.heap.size->eU w' (.slice (some ⟨g,0,none⟩) (n+m) cap)->eU w' v->wpList P ops Q rest (a.put o.dst (.slice (some ⟨g,0,none⟩) (n+m) cap)) w'):wpList P ops Q (o::rest) a w:=
 wpList_plain hgd λ_ hK=>I6 s x t ho base e i z size bytes ht hi hz hsize hby hzs hsz v n xs hs hown ad m c news hx hl hnews h1 hm h63 hbytes hbase H hH hpv hpx hpz λg cap w' a1 a2 a3 a4 a5 a6=>hK _ _ (h g cap w' a1 a2 a3 a4 a5 a6)
end
end
end Par
namespace Par
open Go
section
variable [Sh]
theorem F8 {α:Type} {a:Array α} {i j:Nat} {x:α} (h:x∈a.extract i j):x∈a:=by
 obtain ⟨k,hk⟩:=Array.getElem?_of_mem h;rw [Array.getElem?_extract] at hk;split at hk
 ·exact bn hk
 ·cases hk
theorem lH.size {F:Fit} {f:Nat->Nat} {a a':Array Value} (h:lH F f a a'):a'.size=a.size:=by rw [h.1];simp
theorem lH.get {F:Fit} {f:Nat->Nat} {a a':Array Value} (h:lH F f a a') (i:Nat):(a[i]?=none∧a'[i]?=none)∨∃v,a[i]?=some v∧a'[i]?=some (rv f v)∧vs F v=true:=by
 rw [h.1,aG];cases hi:a[i]? with
 |none=>exact .inl ⟨rfl,rfl⟩
 |some v=>exact .inr ⟨v,rfl,rfl,h.2 v (bn hi)⟩
theorem lH.cells {F:Fit} {f:Nat->Nat} {v v':Value} (h:VR F f v v'):lH F f v.cells v'.cells:=⟨by rw [h.1,wY],VS.cells h.2⟩
theorem lH.nil {F:Fit} {f:Nat->Nat}:lH F f #[] #[]:=⟨by simp,by intro x hx;simp at hx⟩
theorem lH.append {F:Fit} {f:Nat->Nat} {a a' b b':Array Value} (h:lH F f a a') (k:lH F f b b'):lH F f (a++b) (a'++b'):=
 ⟨by rw [h.1,k.1,Array.map_append], λx hx=>(Array.mem_append.1 hx).elim (h.2 x) (k.2 x)⟩
theorem lH.push {F:Fit} {f:Nat->Nat} {a a':Array Value} {b b':Value} (h:lH F f a a') (k:VR F f b b'):lH F f (a.push b) (a'.push b'):=
 ⟨by rw [h.1,k.1,Array.map_push], λx hx=>(Array.mem_push.1 hx).elim (h.2 x) (λe=>e ▸ k.2)⟩
theorem lH.extract {F:Fit} {f:Nat->Nat} {a a':Array Value} (h:lH F f a a') (i j:Nat):lH F f (a.extract i j) (a'.extract i j):=
 ⟨by rw [h.1,Array.map_extract], λx hx=>h.2 x (F8 hx)⟩
theorem VR.int {F:Fit} {f:Nat->Nat} {k:IntKind} {n:Int}:VR F f (.int k n) (.int k n):=⟨by simp,by simp⟩
theorem VR.bool {F:Fit} {f:Nat->Nat} {b:Bool}:VR F f (.bool b) (.bool b):=⟨by simp,by simp⟩
theorem VR.str {F:Fit} {f:Nat->Nat} {b:ByteArray}:VR F f (.string b) (.string b):=⟨by simp,by simp⟩
theorem VR.goInt {F:Fit} {f:Nat->Nat} {n:Int}:VR F f (goInt n) (goInt n):=VR.int
theorem VR.agg {F:Fit} {f:Nat->Nat} {a a':Array Value} (h:lH F f a a'):VR F f (.agg a) (.agg a'):=⟨by rw [h.1];simp,pM.2 h.2⟩
theorem VR.tuple {F:Fit} {f:Nat->Nat} {a a':Array Value} (h:lH F f a a'):VR F f (.tuple a) (.tuple a'):=⟨by rw [h.1];simp,wZ.2 h.2⟩
theorem VR.ptr {F:Fit} {f:Nat->Nat} {a a':Addr} (h:AR F f a a'):VR F f (.pointer (some a)) (.pointer (some a')):=⟨by rw [h.1];simp,by simpa using h.2⟩
theorem VR.iface {F:Fit} {f:Nat->Nat} {t:TypeId} {v v':Value} (h:VR F f v v'):VR F f (.iface t v) (.iface t v'):=⟨by rw [h.1];simp,by simpa using h.2⟩
section
variable {P:Program} {F:Fit} {f:Nat->Nat} {α β γ δ:Type}
theorem DK.push {w:World} {o:Obj} (h:∀ds,o≠ .deferred ds):DK w { w with heap:=w.heap.push o }:=by
 intro r ds hr;simp only [Array.getElem?_push] at hr;split at hr
 ·exact absurd (aU hr) (h ds)
 ·exact hr
theorem mZ {m:Sem γ} {k:γ->Sem α} (hm:∀w es,(∃x w' es',Sem.runT P m w es=(.halt x w',es')∧LC x∧DK w w')∨∃a w' es',Sem.runT P m w es=(.ok a w',es')∧DK w w') (hk:∀a w es,∃x w' es',Sem.runT P (k a) w es=(.halt x w',es')∧LC x∧DK w w'):
 ∀w es,∃x w' es',Sem.runT P (m >>=k) w es=(.halt x w',es')∧LC x∧DK w w':=by
 intro w es;have e:Sem.runT P (m >>=k) w es=_:=runT_bind m k w es;rcases hm w es with ⟨x,w',es',h1,h2⟩|⟨a,w',es',h1,hd⟩
 ·exact ⟨x,w',es',by rw [e,h1],h2⟩
 ·obtain ⟨x,w2,es2,h3,h4,h5⟩:=hk a w' es';exact ⟨x,w2,es2,by rw [e,h1];exact h3,h4,hd.trans h5⟩
theorem uz (e:RuntimeError):∀w es,∃x w' es',Sem.runT P (runtimePanic e:Sem α) w es=(.halt x w',es')∧LC x∧DK w w':=by
 have gp:∀(v:Value) (w:World) (es:Array Event),∃x w' es',Sem.runT P (goPanic v:Sem α) w es=(.halt x w',es')∧LC x∧DK w w':= λv w es=>⟨_,_,_,rfl,trivial,DK.refl⟩
 have st:∀{γ:Type} (s:String) (w:World) (es:Array Event),(∃x w' es',Sem.runT P (stuck s:Sem γ) w es=(.halt x w',es')∧LC x∧DK w w')∨∃a w' es',Sem.runT P (stuck s:Sem γ) w es=(.ok a w',es')∧DK w w':= λs w es=>.inl ⟨_,_,_,rfl,z8 s,DK.refl⟩
 have el:∀(t:TypeId) (w:World) (es:Array Event),(∃x w' es',Sem.runT P (elemOf t) w es=(.halt x w',es')∧LC x∧DK w w')∨∃a w' es',Sem.runT P (elemOf t) w es=(.ok a w',es')∧DK w w':=by
  intro t w es;unfold elemOf underlying;simp only [Go.program,Bind.bind,Sem.bind,Sem.runT];cases P.underlying t with
  |none=>exact st _ _ _
  |some d=>cases d<;>first |exact st _ _ _|exact .inr ⟨_,_,_,rfl,DK.refl⟩
 have nv:∀(t:TypeId) (v:Value) (w:World) (es:Array Event),(∃x w' es',Sem.runT P (newVar t v) w es=(.halt x w',es')∧LC x∧DK w w')∨∃a w' es',Sem.runT P (newVar t v) w es=(.ok a w',es')∧DK w w':= λt v w es=>.inr ⟨_,_,_,rfl,DK.push (by intro ds h;cases h)⟩
 intro w es;unfold runtimePanic;simp only [Go.program,Bind.bind,Sem.bind,Sem.runT];cases e with
 |typeAssertion i c a m=>exact mZ (el _) (λt=>mZ (nv t _) λr=>gp _) w es
 |panicNil=>exact mZ (el _) (λt=>mZ (nv t _) λr=>gp _) w es
 |_=>exact gp _ w es
theorem fK {R:α->β->Prop} (e:RuntimeError) (m':Sem β):dM P F f R (runtimePanic e) m':=.pO (uz e)
theorem ng {R:α->β->Prop} (k:IntKind) (x y:Int) (c:BoundsCode) (m':Sem β):dM P F f R (boundsPanic k x y c) m':=by
 unfold boundsPanic;refine .pO ?_
 split
 ·refine mZ (m:=Functor.map (· ==1) (choose (.extern "runtime.boundsError.signed" 2))) (λw es=>.inr ?_) λs=>uz _
  show ∃a w' es',Sem.runT P ((choose (.extern "runtime.boundsError.signed" 2)).bind λa=>Pure.pure (a==1)) w es=_∧DK w w';rw [runT_bind];simp only [choose,Sem.runT,Question.forced];exact ⟨_,_,_,rfl,DK.refl⟩
 ·exact mZ (m:=Pure.pure (k != .u64)) (λw es=>.inr ⟨_,_,_,rfl,DK.refl⟩) λs=>uz _
theorem yc {v v':Value} (h:VR F f v v'):dM P F f Eq (asIntOf v) (asIntOf v'):=by
 obtain ⟨rfl,_⟩:=h;cases v with
 |int k n=>rw [jM];exact .ret rfl
 |pointer a=>cases a<;>first |exact zu (by simp) _|exact gW _ _
 |_=>exact gW _ _
theorem xk {v v':Value} (h:VR F f v v'):dM P F f Eq (asInt v) (asInt v'):=by
 unfold asInt;exact (yc h).dX λ_=>.ret rfl
theorem DX {v v':Value} (h:VR F f v v'):dM P F f Eq (asBool v) (asBool v'):=by
 obtain ⟨rfl,_⟩:=h;cases v with
 |bool b=>rw [nL];exact .ret rfl
 |_=>exact gW _ _
theorem TZ {v v':Value} (h:VR F f v v'):dM P F f (lH F f) (asAgg v) (asAgg v'):=by
 obtain ⟨rfl,hs⟩:=h;cases v with
 |agg b=>rw [uo];exact .ret ⟨rfl,pM.1 hs⟩
 |_=>exact gW _ _
theorem tT {v v':Value} (h:VR F f v v'):dM P F f (AR F f) (Instr.sureAddr v) (Instr.sureAddr v'):=by
 obtain ⟨rfl,hs⟩:=h;cases v with
 |pointer a=>cases a with
  |none=>exact gW _ _
  |some a=>rw [eZ];exact .ret ⟨rfl,by simpa using hs⟩
 |_=>exact gW _ _
theorem Jl {v v':Value} (hv:VR F f v v'):dM P F f (AR F f) (asAddr v) (asAddr v'):=by
 obtain ⟨rfl,hs⟩:=hv;cases v with
 |pointer a=>cases a with
  |none=>rw [eZ];exact fK (α:=Addr) .nilDeref _
  |some a=>rw [eZ];exact .ret ⟨rfl,by simpa using hs⟩
 |_=>exact gW _ _
theorem Cu (t:TypeId) {cs cs':Array Value} (h:lH F f cs cs') (off:Nat):dM P F f (VR F f) (part t cs off) (part t cs' off):=by
 unfold part;refine (LH t).dX λb=>?_
 cases b
 ·simp only [if_false,bE];rcases h.get off with ⟨h1,h2⟩|⟨v,h1,h2,h3⟩
  ·rw [h1];exact gW _ _
  ·rw [h1,h2];exact .ret ⟨rfl,h3⟩
 ·simp only [if_true];exact (jD t).dX λn=>.ret (VR.agg (h.extract _ _))
theorem T9 (h:jK P=true) (t:TypeId):dM P F f (VR F f) (Instr.alloc t true (.tuple #[])) (Instr.alloc t true (.tuple #[])):=by
 unfold Instr.alloc;refine (F5 h t).bind ?_
 rintro v _ ⟨rfl,hv⟩;refine dM.bind (Jj t hv) ?_
 rintro a _ ha;exact .ret (VR.ptr ha)
theorem ab6 (t:TypeId) {v v':Value} (hv:VR F f v v'):dM P F f (VR F f) (Instr.box t v) (Instr.box t v'):=by
 obtain ⟨rfl,hs⟩:=hv;unfold Instr.box;refine dM.bind (Jj t hs) ?_
 rintro a _ ha;exact .ret (VR.ptr ha)
theorem Q9 (t:TypeId) {v v':Value} (hv:VR F f v v'):dM P F f (VR F f) (Instr.loadAt t v) (Instr.loadAt t v'):=by
 unfold Instr.loadAt;refine (tT hv).bind ?_
 rintro a _ ⟨rfl,hA⟩;exact F6 t a hA
theorem NN (t:TypeId) {v v' x x':Value} (hv:VR F f v v') (hx:VR F f x x'):dM P F f Eq (Instr.storeAt t v x) (Instr.storeAt t v' x'):=by
 obtain ⟨rfl,hs⟩:=hx;unfold Instr.storeAt;refine (tT hv).bind ?_
 rintro a _ ⟨rfl,hA⟩;exact LJ t a hA hs
def Kk (P:Program) (t:TypeId) (i:Nat):Bool:=
 match P.underlying t with
 |some (.struct fs)=>match fs[i]? with
  |some x=>match P.info? x.type with
   |some j=>j.size !=0
   |none=>false
  |none=>false
 |_=>false
theorem NP {t:TypeId} {i:Nat} (ho:Kk P t i=true) {v v':Value} (hv:VR F f v v'):dM P F f (VR F f) (Instr.fieldAt t v i) (Instr.fieldAt t v' i):=by
 unfold Instr.fieldAt underlying;refine dM.bind (R:= λa b=>a=b∧P.underlying t=some a) (.xe ?_) ?_
 ·cases hu:P.underlying t with
  |none=>exact gW _ _
  |some d=>exact .ret ⟨rfl,rfl⟩
 rintro d _ ⟨rfl,hu⟩;unfold Kk at ho;rw [hu] at ho;cases d with
 |struct fs=>
  dsimp only at ho ⊢;cases hf:fs[i]? with
  |none=>exact gW _ _
  |some x=>
   rw [hf] at ho;dsimp only at ho ⊢;refine (tT hv).bind ?_
   rintro a _ ⟨rfl,hA⟩;unfold fieldPlace Go.sizeOf typeInfo;refine dM.bind (R:=AR F f) (dM.bind (R:= λm n=>m=n∧m≠0) (dM.bind (R:= λa b=>a=b∧P.info? x.type=some a) (.xe ?_) ?_) ?_) ?_
   ·cases hu:P.info? x.type with
    |none=>exact gW _ _
    |some d=>exact .ret ⟨rfl,rfl⟩
   ·rintro j _ ⟨rfl,hj⟩;rw [hj] at ho;exact .ret ⟨rfl,by simpa using ho⟩
   ·rintro m _ ⟨rfl,hm⟩;rw [aa hm,aa hm];exact .ret ⟨(DT ..).symm,by rw [add_block'];exact hA⟩
   ·rintro b _ hb;exact .ret (VR.ptr hb)
 |_=>exact gW _ _
theorem Ua (t:TypeId) {v v':Value} (hv:VR F f v v') (i:Nat):dM P F f (VR F f) (Instr.field t v i) (Instr.field t v' i):=by
 unfold Instr.field;refine (eG t).dX λd=>?_
 cases d with
 |struct fs=>
  dsimp only;split
  ·exact (TZ hv).bind λa b h=>Cu _ h _
  ·exact gW _ _
 |_=>exact gW _ _
theorem Ub (t:TypeId) {v v' x x':Value} (hv:VR F f v v') (hx:VR F f x x'):dM P F f (VR F f) (Instr.index t v x) (Instr.index t v' x'):=by
 unfold Instr.index;refine (yc hx).dX λki=>?_
 obtain ⟨k,i⟩:=ki;refine (eG t).dX λd=>?_
 obtain ⟨rfl,hs⟩:=hv
 cases d<;>cases v<;>first
  |exact gW _ _
  |(simp only [uo];split
    ·exact (jD _).dX λn=>Cu _ ⟨rfl,pM.1 hs⟩ _
    ·exact ng ..)
  |(simp only [gT];split
    ·exact .ret VR.int
    ·exact ng ..)
theorem NQ (t:TypeId) {v v' x x':Value} (hv:VR F f v v') (hx:VR F f x x'):dM P F f (VR F f) (Instr.indexAt t v x) (Instr.indexAt t v' x'):=by
 unfold Instr.indexAt;refine (yc hx).dX λki=>?_
 obtain ⟨k,i⟩:=ki;refine (eG t).dX λd=>?_
 dsimp only
 have al6:∀{J J':Option Addr×Nat×TypeId->Sem Value} (b:Option Addr) (len:Nat) (e:TypeId),dM P F f (VR F f) (J (b,len,e)) (J' (b.map (ra f),len,e))->
  dM P F f (VR F f) (Pure.pure (b,len,e) >>=J) (Pure.pure (b.map (ra f),len,e) >>=J'):= λb len e h=>h
 have fin:∀(tiny:Bool) (len:Nat),dM P F f (VR F f) (if tiny=true then unsupported (.noEntry "op/indexAddr.an index out of range at an array of length 0 or 1 (ledger 616)") else boundsPanic k i len .index)
  (if tiny=true then unsupported (.noEntry "op/indexAddr.an index out of range at an array of length 0 or 1 (ledger 616)") else boundsPanic k i len .index):=by
  intro tiny len;cases tiny
  ·exact ng ..
  ·exact .bad trivial
 cases d with
 |array len e=>
  refine (tT hv).bind ?_
  rintro a _ ⟨rfl,hA⟩;refine al6 (some a) len e ?_
  refine (eG t).dX λd2=>?_
  simp only [ay]
  by_cases hb:0<=i∧i<len
  ·rw [aj hb,aj hb];exact (jD e).dX λn=>.ret (VR.ptr ⟨(DT ..).symm,by rw [add_block'];first |exact hA|simpa using hs⟩)
  ·rw [aa hb,aa hb];exact fin _ _
 |slice e=>
  obtain ⟨rfl,hs⟩:=hv;cases v with
  |slice b len cap=>
   rw [fV];refine al6 b len e ?_
   refine (eG t).dX λd2=>?_
   cases b with
   |none=>exact ng ..
   |some a=>
    simp only [ay]
    by_cases hb:0<=i∧i<len
    ·rw [aj hb,aj hb];have hA:F.A a.block=true:=(tQ (by simpa using hs)).resolve_right λh=>by omega
     exact (jD e).dX λn=>.ret (VR.ptr ⟨(DT ..).symm,by rw [add_block'];exact hA⟩)
    ·rw [aa hb,aa hb];exact fin _ _
  |_=>exact .bad (z8 _)
 |_=>exact .bad (z8 _)
end
end
section
variable [Sh]
def TJ (F:Fit) (f:Nat->Nat) (o o':Option Value):Prop:=(o=none∧o'=none)∨∃v,o=some v∧o'=some (rv f v)∧vs F v=true
section
variable {P:Program} {F:Fit} {f:Nat->Nat} {α β γ δ:Type}
theorem l8 {v:Value} (hv:vs F v=true) (y:Nat) (c:BoundsCode):dM P F f (λa b=>a=b∧a<=y) (Instr.sliceBound v y c) (Instr.sliceBound (rv f v) y c):=by
 unfold Instr.sliceBound;refine (yc ⟨rfl,hv⟩).dX λki=>?_
 obtain ⟨k,i⟩:=ki;dsimp only
 by_cases hb:0<=i∧i<=y
 ·rw [aj hb];exact .ret ⟨rfl,by omega⟩
 ·rw [aa hb];exact ng ..
def BdR (len cap:Nat) (a b:Nat×Nat×Nat):Prop:=a=b∧(len=0->cap=0->a.2.1=0∧a.2.2=0)
theorem pR (ZI:Bool) (len cap:Nat) {lo hi mx lo' hi' mx':Option Value} (h1:TJ F f lo lo') (h2:TJ F f hi hi') (h3:TJ F f mx mx'):
 dM P F f (BdR len cap) (Instr.sliceBounds ZI len cap lo hi mx) (Instr.sliceBounds ZI len cap lo' hi' mx'):=by
 unfold Instr.sliceBounds;have k0:∀n:Nat,dM P F f (λa b:Nat=>a=b∧a=n) (pure n) (pure n):= λn=>.pure ⟨rfl,rfl⟩
 rcases h3 with ⟨rfl,rfl⟩|⟨m,rfl,rfl,hm⟩
 ·refine dM.bind (k0 cap) ?_
  rintro m _ ⟨rfl,rfl⟩;rcases h2 with ⟨rfl,rfl⟩|⟨v,rfl,rfl,hv⟩
  ·refine dM.bind (k0 len) ?_
   rintro hh _ ⟨rfl,rfl⟩;rcases h1 with ⟨rfl,rfl⟩|⟨v,rfl,rfl,hv⟩
   ·exact dM.dX (.ret rfl) λl=>.ret ⟨rfl, λa b=>⟨a,b⟩⟩
   ·exact dM.bind (l8 hv ..) (by rintro l _ ⟨rfl,_⟩;exact .ret ⟨rfl, λa b=>⟨a,b⟩⟩)
  ·refine dM.bind (l8 hv ..) ?_
   rintro hh _ ⟨rfl,hle⟩;rcases h1 with ⟨rfl,rfl⟩|⟨v,rfl,rfl,hv⟩
   ·exact dM.dX (.ret rfl) λl=>.ret ⟨rfl, λa b=>⟨by dsimp only;omega,b⟩⟩
   ·exact dM.bind (l8 hv ..) (by rintro l _ ⟨rfl,_⟩;exact .ret ⟨rfl, λa b=>⟨by dsimp only;omega,b⟩⟩)
 ·refine dM.bind (l8 hm ..) ?_
  rintro m1 _ ⟨rfl,hle⟩;rcases h2 with ⟨rfl,rfl⟩|⟨v,rfl,rfl,hv⟩
  ·exact .bad trivial
  ·refine dM.bind (l8 hv ..) ?_
   rintro hh _ ⟨rfl,hle2⟩;rcases h1 with ⟨rfl,rfl⟩|⟨v,rfl,rfl,hv⟩
   ·exact dM.dX (.ret rfl) λl=>.ret ⟨rfl, λa b=>⟨by dsimp only;omega,by dsimp only;omega⟩⟩
   ·exact dM.bind (l8 hv ..) (by rintro l _ ⟨rfl,_⟩;exact .ret ⟨rfl, λa b=>⟨by dsimp only;omega,by dsimp only;omega⟩⟩)
theorem Ra {a:Option Addr} {l0 c0:Nat} (hA:NF F a l0 c0=true) (m l n k sz:Nat) (h0:l0=0->c0=0->n=0∧k=0):VR F f (.slice (if m=l then a else a.map (·.add (l*sz))) n k) (.slice (if m=l then a.map (ra f) else (a.map (ra f)).map (·.add (l*sz))) n k):=by
 refine ⟨?_,?_⟩
 ·rw [fV];split
  ·rfl
  ·cases a<;>simp
 ·rw [jC];cases a with
  |none=>split<;>rfl
  |some a=>
   have e:∀x:Addr,x.block=a.block->NF F (some x) n k=true:= λx hx=>by
    rcases tQ hA with h|⟨h,h1,h2⟩
    ·exact wI (by rw [zm,hx];exact h)
    ·obtain ⟨rfl,rfl⟩:=h0 h1 h2;unfold NF;simp [hx,h]
   split
   ·exact e _ rfl
   ·rw [ay];exact e _ (add_block' ..)
theorem AV {a:Addr} (hA:F.A a.block=true) (m l n k sz:Nat):VR F f (.slice (some (if m=l then a else a.add (l*sz))) n k) (.slice (some (if m=l then ra f a else (ra f a).add (l*sz))) n k):=by
 refine ⟨?_,?_⟩
 ·rw [fV];split<;>simp
 ·rw [jC];refine wI ?_
  rw [zm];split
  ·exact hA
  ·rw [add_block'];exact hA
theorem Uc (t:TypeId) {v v':Value} (hv:VR F f v v') {lo hi mx lo' hi' mx':Option Value} (h1:TJ F f lo lo') (h2:TJ F f hi hi') (h3:TJ F f mx mx'):
 dM P F f (VR F f) (Instr.slice t v lo hi mx) (Instr.slice t v' lo' hi' mx'):=by
 unfold Instr.slice;have hn:TJ F f none none:=.inl ⟨rfl,rfl⟩;refine (eG t).dX λd=>?_
 obtain ⟨rfl,hs⟩:=hv;cases d with
 |string=>
  cases v with
  |string s=>
   rw [gT];dsimp only;have :mx'.isSome=mx.isSome:=by rcases h3 with ⟨rfl,rfl⟩|⟨m,rfl,rfl,hm⟩<;>rfl
   rw [this];cases mx.isSome
   ·simp only [bE,if_false];exact (pR _ _ _ h1 h2 hn).bind (by rintro r _ ⟨rfl,_⟩;exact .ret VR.str)
   ·exact .bad trivial
  |_=>exact .bad trivial
 |slice e=>
  cases v with
  |slice a len cap=>
   rw [fV];refine (pR _ _ _ h1 h2 h3).bind ?_
   rintro ⟨l,hh,m⟩ _ ⟨rfl,hz⟩;dsimp only at hz;exact (jD e).dX λn=>.ret (Ra (l0:=len) (c0:=cap) (by simpa using hs) _ _ _ _ _ λa b=>by obtain ⟨x,y⟩:=hz a b;omega)
  |_=>exact .bad trivial
 |pointer arr=>
  have e:(match TypeDesc.pointer arr,v with | .string,.string s=>True|_,_=>True):=by cases v<;>trivial
  refine dM.bind (R:=AR F f) (?_:dM P F f (AR F f) (asAddr v) (asAddr (rv f v))) ?_
  ·exact Jl ⟨rfl,hs⟩
  ·rintro a _ ⟨rfl,hA⟩;refine (eG arr).dX λd2=>?_
   cases d2 with
   |array n e=>
    refine (pR _ _ _ h1 h2 h3).bind ?_
    rintro ⟨l,hh,m⟩ _ ⟨rfl,_⟩;exact (jD e).dX λn=>.ret (AV hA ..)
   |_=>exact .bad trivial
 |_=>exact .bad trivial
theorem NS (t:TypeId) {v v':Value} (hv:VR F f v v') {lo hi mx lo' hi' mx':Option Value} (h1:TJ F f lo lo') (h2:TJ F f hi hi') (h3:TJ F f mx mx'):
 dM P F f (VR F f) (Instr.sliceAt t v lo hi mx) (Instr.sliceAt t v' lo' hi' mx'):=by
 unfold Instr.sliceAt;refine (eG t).dX λd=>?_
 cases d with
 |array n e=>
  refine (tT hv).bind ?_
  rintro a _ ⟨rfl,hA⟩;refine (pR _ _ _ h1 h2 h3).bind ?_
  rintro ⟨l,hh,m⟩ _ ⟨rfl,_⟩;exact (jD e).dX λn=>.ret (AV hA ..)
 |_=>exact Uc t hv h1 h2 h3
theorem lH.gQ {z:Value} (hz:rv f z=z∧vs F z=true) (n:Nat):lH F f ((Array.range n).map (z.cells[· %z.cells.size]!)) ((Array.range n).map (z.cells[· %z.cells.size]!)):=by
 have hc:z.cells.map (rv f)=z.cells:=by rw [<-wY,hz.1]
 have key:∀i,rv f (z.cells[i%z.cells.size]!)=z.cells[i%z.cells.size]! ∧vs F (z.cells[i%z.cells.size]!)=true:=by
  intro i
  by_cases hlt:i%z.cells.size<z.cells.size
  ·rw [getElem!_pos z.cells _ hlt];refine ⟨?_,VS.cells hz.2 _ (Array.getElem_mem hlt)⟩;have :=congrArg (λa=>a[i%z.cells.size]?) hc;simpa [hlt] using this
  ·rw [getElem!_neg z.cells _ hlt];exact ⟨NI f,NK⟩
 refine ⟨?_, λx hx=>?_⟩
 ·rw [Array.map_map];exact Array.map_congr_left λi _=>(key i).1.symm
 ·obtain ⟨i,_,rfl⟩:=Array.mem_map.1 hx;exact (key i).2
theorem pU {R:γ->δ->Prop} (e:RuntimeError) {k:α->Sem γ} {k':β->Sem δ}:dM P F f R (runtimePanic e >>=k) (runtimePanic e >>=k'):=
 dM.bind (R:= λ_ _=>False) (fK e _) λ_ _ x=>x.elim
theorem F9 (n:Nat):dM P F f Eq (askRoom n) (askRoom n):=by
 unfold askRoom;split
 ·exact Q8
 ·exact .ret rfl
theorem Kl (hz0:jK P=true) (t:TypeId) {l l' c c':Value} (hl:VR F f l l') (hc:VR F f c c'):dM P F f (VR F f) (Instr.makeSlice t l c) (Instr.makeSlice t l' c'):=by
 unfold Instr.makeSlice;refine (eG t).dX λd=>?_
 cases d with
 |slice e=>
  refine (xk hl).dX λlen=>?_
  refine (xk hc).dX λcap=>?_
  refine (kL e).dX λi=>?_
  dsimp only;split
  ·split
   ·exact pU _
   ·split
    ·exact pU _
    ·refine dM.dX (oQ _) λn=>?_
     exact pU _
  ·refine (F9 _).dX λ_=>?_
   refine (jD e).dX λsz=>?_
   split
   ·rename_i hn;rw [hn];refine dM.dX (.ret rfl) λz=>?_
    refine dM.bind (R:=AR F f) (by have :=xh (P:=P) (F:=F) (f:=f) e (c:= #[]) (by intro x hx;simp at hx);rw [show Array.range 0= #[] from rfl,Array.map_empty];simpa only [Array.map_empty] using this) ?_
    rintro a _ ha;exact .ret ⟨by rw [ha.1];simp,by rw [jC];exact wI (by simpa using ha.2)⟩
   ·refine (nM hz0 e).bind ?_
    rintro _ z ⟨rfl,hz⟩;refine dM.bind (R:= λa b=>b=a∧a=z.cells) (.ret ⟨rfl,rfl⟩) ?_
    rintro _ _ ⟨rfl,rfl⟩;have hz':=lH.gQ (F:=F) (f:=f) hz ((IntKind.i64.wrap cap).toNat*sz);refine dM.bind (R:=AR F f) (by have :=xh (P:=P) (F:=F) (f:=f) e hz'.2;rw [<-hz'.1] at this;exact this) ?_
    rintro a _ ha;exact .ret ⟨by rw [ha.1];simp,by rw [jC];exact wI (by simpa using ha.2)⟩
 |_=>exact .bad trivial
theorem FD {place:Nat->Option (Nat×Nat)}:∀(l l':List (Nat×Value)) {c c':Array Value},lH F f c c'->l'=l.map (λx=>(x.1,rv f x.2))->(∀x∈l,vs F x.2=true)->
 (Instr.fill place c l=none∧Instr.fill place c' l'=none)∨∃a b,Instr.fill place c l=some a∧Instr.fill place c' l'=some b∧lH F f a b
 | [],_,c,c',hc,e,_=>by subst e;exact .inr ⟨c,c',rfl,rfl,hc⟩
 |(i,v)::l,_,c,c',hc,e,hs=>by
  subst e;simp only [aC,Instr.fill];cases hp:place i with
  |none=>exact .inl ⟨rfl,rfl⟩
  |some os=>
   obtain ⟨off,size⟩:=os;dsimp only;rw [wY,Array.size_map,hc.size];split
   ·exact .inl ⟨rfl,rfl⟩
   ·refine FD l _ ?_ rfl λx hx=>hs x (aR _ hx)
    have hv:=VS.cells (hs (i,v) (aQ ..))
    have key:∀(xs:List (Value×Nat)) (a b:Array Value),lH F f a b->(∀x∈xs,vs F x.1=true)->
     lH F f (xs.foldl (λcs (x:Value×Nat)=>cs.setIfInBounds (off+x.2) x.1) a) ((xs.map λx=>(rv f x.1,x.2)).foldl (λcs (x:Value×Nat)=>cs.setIfInBounds (off+x.2) x.1) b):=by
     intro xs
     induction xs with
     |nil=>intro a b h _;exact h
     |cons x xs ih=>
      intro a b h hx;simp only [aC,List.foldl_cons];refine ih _ _ ⟨by rw [h.1,Array.map_setIfInBounds], λy hy=>?_⟩ λy hy=>hx y (aR _ hy)
      rcases bI hy with hy|rfl
      ·exact h.2 y hy
      ·exact hx x (aQ ..)
    have e1:∀(c:Array Value) (a:Array Value),c.zipIdx.foldl (λcs (x:Value×Nat)=>cs.setIfInBounds (off+x.2) x.1) a=c.toList.zipIdx.foldl (λcs (x:Value×Nat)=>cs.setIfInBounds (off+x.2) x.1) a:=by
     intro c a;rw [<-Array.foldl_toList,Array.toList_zipIdx]
    have :=key v.cells.toList.zipIdx c c' hc (λx hx=>hv x.1 (by
     have :=List.mem_zipIdx hx;obtain ⟨_,_,h3⟩:=this;rw [h3];simp))
    rw [show (v.cells.toList.zipIdx.map λx=>(rv f x.1,x.2))=((v.cells.map (rv f)).toList.zipIdx) from by
     rw [Array.toList_map,List.zipIdx_map];rfl] at this
    rw [<-e1, <-e1] at this;exact this
theorem Ud (hz0:jK P=true) (t:TypeId) {ps ps':Array (Nat×Value)} (e:ps'=ps.map λx=>(x.1,rv f x.2)) (hs:∀x∈ps,vs F x.2=true):
 dM P F f (VR F f) (Instr.build t ps) (Instr.build t ps'):=by
 unfold Instr.build;refine (nM hz0 t).bind ?_
 rintro _ z ⟨rfl,hz⟩;refine (eG t).dX λd=>?_
 have hc:lH F f z.cells z.cells:=⟨by rw [<-wY,hz.1],VS.cells hz.2⟩;have he:ps'.toList=ps.toList.map λx=>(x.1,rv f x.2):=by rw [e];simp
 cases d with
 |struct fs=>
  dsimp only;refine dM.dX ?_ λplaces=>?_
  ·have :∀l:List Field,dM P F f Eq (l.mapM λx=>(do pure (x.offset, <-Go.sizeOf x.type):Sem (Nat×Nat))) (l.mapM λx=>(do pure (x.offset, <-Go.sizeOf x.type):Sem (Nat×Nat))):=by
    intro l
    induction l with
    |nil=>rw [List.mapM_nil];exact .ret rfl
    |cons x l ih=>
     rw [List.mapM_cons];refine dM.dX ((jD _).dX λ_=>.ret rfl) λa=>?_
     exact ih.dX λb=>.ret rfl
   rw [Array.mapM_eq_mapM_toList];exact (this fs.toList).TV λa b e=>by subst e;exact .ret rfl
  ·rcases FD (place:=(places[·]?)) ps.toList _ hc he (λx hx=>hs x (by simpa using hx)) with ⟨h1,h2⟩|⟨a,b,h1,h2,h3⟩
   ·rw [h1,h2];exact .bad trivial
   ·rw [h1,h2];exact .ret (VR.agg h3)
 |array n e=>
  dsimp only;refine (jD e).dX λsz=>?_
  rcases FD (place:= λi=>some (i*sz,sz)) ps.toList _ hc he (λx hx=>hs x (by simpa using hx)) with ⟨h1,h2⟩|⟨a,b,h1,h2,h3⟩
  ·rw [h1,h2];exact .bad trivial
  ·rw [h1,h2];exact .ret (VR.agg h3)
 |_=>exact .bad trivial
theorem I7 (hz0:jK P=true) (t:TypeId) (len:Nat) {ps ps':Array (Nat×Value)} (e:ps'=ps.map λx=>(x.1,rv f x.2)) (hs:∀x∈ps,vs F x.2=true):
 dM P F f (VR F f) (Instr.buildSlice t len ps) (Instr.buildSlice t len ps'):=by
 unfold Instr.buildSlice;refine (eG t).dX λd=>?_
 have he:ps'.toList=ps.toList.map λx=>(x.1,rv f x.2):=by rw [e];simp
 cases d with
 |slice e=>
  dsimp only;refine (jD e).dX λsz=>?_
  split
  ·exact .bad trivial
  ·have fin:∀{c c':Array Value},lH F f c c'->dM P F f (VR F f)
    (match Instr.fill (λi=>some (i*sz,sz)) c ps.toList with
      |some cells=>do pure (Value.slice (some (<-newRow e cells)) len len)
      |_=>stuck "buildSlice: a part of the wrong size")
    (match Instr.fill (λi=>some (i*sz,sz)) c' ps'.toList with
      |some cells=>do pure (Value.slice (some (<-newRow e cells)) len len)
      |_=>stuck "buildSlice: a part of the wrong size"):=by
    intro c c' hc;rcases FD (place:= λi=>some (i*sz,sz)) ps.toList _ hc he (λx hx=>hs x (by simpa using hx)) with ⟨h1,h2⟩|⟨a,b,h1,h2,h3⟩
    ·rw [h1,h2];exact .bad trivial
    ·rw [h1,h2];refine dM.bind (R:=AR F f) (by have :=xh (P:=P) (F:=F) (f:=f) e h3.2;rw [<-h3.1] at this;exact this) ?_
     rintro a _ ha;exact .ret ⟨by rw [ha.1];simp,by rw [jC];exact wI (by simpa using ha.2)⟩
   split
   ·rename_i hn;rw [hn];exact dM.dX (.ret rfl) λz=>fin (by rw [show Array.range 0= #[] from rfl,Array.map_empty];exact lH.nil)
   ·refine (nM hz0 e).bind ?_
    rintro _ z ⟨rfl,hz⟩;refine dM.bind (R:= λa b=>b=a∧a=z.cells) (.ret ⟨rfl,rfl⟩) ?_
    rintro _ _ ⟨rfl,rfl⟩;exact fin (lH.gQ hz _)
 |_=>exact .bad trivial
end
end
section
variable [Sh]
section
variable {P:Program} {F:Fit} {f:Nat->Nat} {α β γ δ:Type}
def PV (F:Fit) (v:Value) (n:Nat):Prop:=∀a l c,v= .slice (some a) l c->F.A a.block=true∨n=0
theorem LM {v v':Value} (hv:VR F f v v'):dM P F f (λa b=>a=b∧PV F v a) (Builtin.lenOf v) (Builtin.lenOf v'):=by
 obtain ⟨rfl,hs⟩:=hv;cases v with
 |slice a n c=>
  rw [fV];refine .ret ⟨rfl, λa' l' c' e=>?_⟩;cases e;exact (tQ (by simpa using hs)).imp id λh=>h.2.1
 |string s=>rw [gT];exact .ret ⟨rfl, λa l c e=>by cases e⟩
 |_=>exact .bad trivial
theorem wK (sz n:Nat) {v v':Value} (hv:VR F f v v') (hn:PV F v n):dM P F f (λc c'=>lH F f c c'∧(n=0->c= #[])) (Builtin.firstCells sz n v) (Builtin.firstCells sz n v'):=by
 obtain ⟨rfl,hs⟩:=hv;cases v with
 |slice a _ _=>
  rw [fV];cases a with
  |none=>exact .ret ⟨lH.nil, λ_=>rfl⟩
  |some a=>
   by_cases h0:n=0
   ·subst h0;show dM P F f _ (loadCells a (0*sz)) (loadCells (ra f a) (0*sz));rw [Nat.zero_mul];exact .ret ⟨lH.nil, λ_=>rfl⟩
   ·exact (Cs a ((hn _ _ _ rfl).resolve_right h0) _).mono λ_ _ h=>⟨h, λh=>absurd h h0⟩
 |string s=>
  rw [gT];refine .ret ⟨⟨?_, λx hx=>?_⟩, λh=>by subst h;simp⟩
  ·rw [Array.map_map];exact Array.map_congr_left λb _=>by simp
  ·obtain ⟨b,_,rfl⟩:=Array.mem_map.1 hx;simp
 |_=>exact .bad trivial
theorem Km (sz sLen n:Nat) (b:Option Addr) (x:Value) (w:World) (es:Array Event):∃r,Sem.runT P (Builtin.mayShare sz sLen n b x) w es=(.ok r w,es):=by
 have hh:∀(a:Addr) (n:Nat),∃r,Sem.runT P (Builtin.holdsCells a n) w es=(.ok r w,es):=by
  intro a n;unfold Builtin.holdsCells;simp only [Go.shape,Bind.bind,Sem.bind,Sem.runT];cases w.shape? a.block<;>exact ⟨_,rfl⟩
 have step:∀{γ δ:Type} {m:Sem γ} {k:γ->Sem δ},(∃r,Sem.runT P m w es=(.ok r w,es))->(∀r,∃q,Sem.runT P (k r) w es=(.ok q w,es))->∃q,Sem.runT P (m >>=k) w es=(.ok q w,es):=by
  rintro γ δ m k ⟨r,hr⟩ hk;obtain ⟨q,hq⟩:=hk r;exact ⟨q,by show Sem.runT P (m.bind k) w es=_;rw [runT_bind,hr];exact hq⟩
 unfold Builtin.mayShare
 have last:∃r,Sem.runT P (match x with
  | .slice (some b') _ _=>do pure (!(<-Builtin.holdsCells b' (n*sz))||b.any (·.block==b'.block))
  |_=>pure false:Sem Bool) w es=(.ok r w,es):=by
  cases x with
  |slice a _ _=>
   cases a with
   |none=>exact ⟨_,rfl⟩
   |some a=>exact step (hh a _) λr=>⟨_,rfl⟩
  |_=>exact ⟨_,rfl⟩
 cases b with
 |none=>
  refine step ⟨true,rfl⟩ λr=>?_
  cases r
  ·exact ⟨_,rfl⟩
  ·exact last
 |some a=>
  have h2:∀r:Bool,∃q,Sem.runT P (if (!r)=true then pure true else (match x with
   | .slice (some b') _ _=>do pure (!(<-Builtin.holdsCells b' (n*sz))||(some a).any (·.block==b'.block))
   |_=>pure false:Sem Bool)) w es=(.ok q w,es):=by
   intro r;cases r
   ·exact ⟨_,rfl⟩
   ·exact last
  exact step (hh a (sLen*sz)) λr=>step (k:= λz=>_) ⟨_,rfl⟩ λz=>step (m:=Pure.pure _) ⟨_,rfl⟩ h2
theorem lH.zeroCells {z:Value} (hz:rv f z=z∧vs F z=true) (n:Nat):lH F f (Builtin.zeroCells z.cells n) (Builtin.zeroCells z.cells n):=lH.gQ hz _
theorem Jm (a:Addr) (hA:F.A a.block=true) {c c':Array Value} (h:lH F f c c'):dM P F f Eq (storeCells a c.toList) (storeCells (ra f a) c'.toList):=by
 have :=tH (P:=P) (F:=F) (f:=f) a hA c.toList 0 λv hv=>h.2 v (by simpa using hv)
 rw [h.1,Array.toList_map];exact this
theorem Ga (a:Addr):dM P F f Eq (storeCells a (#[]:Array Value).toList) (storeCells (ra f a) ((#[]:Array Value).map (rv f)).toList):=by
 rw [Array.map_empty];unfold storeCells;exact .pure rfl
theorem Rb (hz0:jK P=true) (ts:Array TypeId) (t:TypeId) {aS as':Array Value} (ha:lH F f aS as'):dM P F f (VR F f) (Builtin.append_ ts t aS) (Builtin.append_ ts t as'):=by
 unfold Builtin.append_;cases hts:ts[0]? with
 |none=>exact .bad trivial
 |some sType=>
 rcases ha.get 0 with ⟨h0,h0'⟩|⟨s,h0,h0',hs⟩
 ·rw [h0];exact .bad trivial
 rcases ha.get 1 with ⟨h1,h1'⟩|⟨x,h1,h1',hx⟩
 ·rw [h0,h1];exact .bad trivial
 rw [h0,h0',h1,h1'];have hxv:VR F f x (rv f x):=⟨rfl,hx⟩;have hsv:VR F f s (rv f s):=⟨rfl,hs⟩;refine (eG sType).dX λd=>?_
 cases d with
 |slice e=>
  cases s with
  |slice base sLen sCap=>
   rw [fV];refine (jD e).dX λsz=>?_
   extract_lets j1 j2 j2'
   have hj2:∀gQ,dM P F f (VR F f) (j2 gQ) (j2' gQ):=by
    intro gQ;dsimp -zeta only [j2,j2']
    extract_lets j3 j3'
    have app:∀n,(gQ=false->PV F x n)->dM P F f (λc c'=>lH F f c c'∧(n=0->c= #[])) (if (!gQ)=true then Builtin.firstCells sz n x else if n*sz=0 then pure #[] else do pure (Builtin.zeroCells (<-zeroValue e).cells n))
     (if (!gQ)=true then Builtin.firstCells sz n (rv f x) else if n*sz=0 then pure #[] else do pure (Builtin.zeroCells (<-zeroValue e).cells n)):=by
     intro n hlo;cases gQ
     ·exact wK sz n hxv (hlo rfl)
     ·simp only [Bool.not_true,bE,if_false];split
      ·exact .ret ⟨lH.nil, λ_=>rfl⟩
      ·rename_i hne;refine (nM hz0 e).bind ?_
       rintro _ z ⟨rfl,hz⟩;exact .ret ⟨lH.zeroCells hz n, λh=>absurd (by rw [h,Nat.zero_mul]) hne⟩
    have hj3:∀n,(gQ=false->PV F x n)->dM P F f (VR F f) (j3 n) (j3' n):=by
     intro n hlo;dsimp -zeta only [j3,j3']
     extract_lets ap need j6 j5 j4 ap' j6' j5' j4'
     have ZJ:dM P F f (λc c'=>lH F f c c'∧(n=0->c= #[])) ap ap':=app n hlo;have happ:dM P F f (lH F f) ap ap':=ZJ.mono λ_ _ h=>h.1
     by_cases hn:need<=sCap
     ·rw [aj hn,aj hn];refine ZJ.bind ?_
      rintro c c' ⟨hc,hc0⟩;dsimp only [j6,j6'];cases base with
      |none=>exact .ret ⟨by simp,by simp⟩
      |some a=>
       simp only [ay];rw [<-DT];rcases tQ (by simpa using hs) with hA|⟨hh,h1,h2⟩
       ·exact (Jm _ (by rw [add_block'];exact hA) hc).dX λ_=>.ret ⟨by simp,by rw [jC];exact wI hA⟩
       ·have hn0:n=0:=by have hn:sLen+n<=sCap:=hn;omega
        have hc1:=hc.1;rw [hc0 hn0] at hc1 ⊢;subst hc1;have hl:need=0:=by show sLen+n=0;omega
        exact dM.dX (show dM P F f Eq (storeCells (a.add (sLen*sz)) (#[]:Array Value).toList) (storeCells (ra f (a.add (sLen*sz))) ((#[]:Array Value).map (rv f)).toList) from Ga _) λ_=>.ret ⟨by simp,by rw [jC,hl,h2];unfold NF;simp [hh]⟩
     ·rw [aa hn,aa hn];refine (kL e).dX λi=>?_
      have hj4:∀u,dM P F f (VR F f) (j4 u) (j4' u):=by
       intro u;dsimp -zeta only [j4,j4'];refine (kL e).dX λi=>?_
       have hj5:∀u,dM P F f (VR F f) (j5 u) (j5' u):=by
        intro u;dsimp only [j5,j5'];refine (oQ _).dX λnewCap=>?_
        refine (kL e).dX λi=>?_
        refine (F9 _).dX λ_=>?_
        refine dM.bind (R:= λc c'=>lH F f c c'∧(sLen=0->c= #[])) (by have :=wK (P:=P) (F:=F) (f:=f) sz sLen hsv (λa l c e=>by cases e;exact (tQ (by simpa using hs)).imp id λh=>h.2.1);rwa [fV] at this) ?_
        rintro o o' ⟨ho,_⟩;refine happ.bind ?_
        rintro c c' hc;refine (nM hz0 e).bind ?_
        rintro _ z ⟨rfl,hz⟩;have hall:=(ho.append hc).append (lH.zeroCells (F:=F) (f:=f) hz (newCap - need));refine dM.bind (R:=AR F f) (by have :=xh (P:=P) (F:=F) (f:=f) e hall.2;rw [<-hall.1] at this;exact this) ?_
        rintro a _ ha;exact .ret ⟨by rw [ha.1];simp,by rw [jC];exact wI (by simpa using ha.2)⟩
       split
       ·refine dM.bind (R:= λ_ _=>False) ?_ λ_ _ x=>x.elim
        cases gQ
        ·refine .pO λw es=>?_
         obtain ⟨r,hr⟩:=Km (P:=P) sz sLen n base x w es;simp only [bE,if_false];have :∀{γ δ:Type} (m:Sem γ) (k:γ->Sem δ),(m >>=k)=m.bind k:= λ_ _=>rfl
         rw [this,runT_bind,hr];cases r
         ·exact ⟨_,_,_,rfl,trivial,DK.refl⟩
         ·exact ⟨_,_,_,rfl,trivial,DK.refl⟩
        ·simp only [if_true];exact fK _ _
       ·exact hj5 ()
      split
      ·exact dM.bind (R:= λ_ _=>False) (fK _ _) λ_ _ x=>x.elim
      ·exact hj4 ()
    cases gQ
    ·simp only [bE,if_false];refine (LM hxv).bind ?_
     rintro n _ ⟨rfl,hlo⟩;exact hj3 n λ_=>hlo
    ·simp only [if_true];refine (xk hxv).dX λl=>?_
     split
     ·exact pU _
     ·refine (kL e).dX λi=>?_
      split
      ·exact (oQ _).dX λm=>pU _
      ·exact hj3 _ λh=>by cases h
   cases ts[1]? with
   |none=>exact hj2 false
   |some xt=>exact (eG xt).dX λd=>hj2 _
  |_=>exact .bad trivial
 |_=>exact .bad trivial
theorem XL (ts:Array TypeId) (t:TypeId) {aS as':Array Value} (ha:lH F f aS as'):dM P F f (VR F f) (Builtin.copy_ ts t aS) (Builtin.copy_ ts t as'):=by
 unfold Builtin.copy_;cases hts:ts[0]? with
 |none=>exact .bad trivial
 |some sType=>
 rcases ha.get 0 with ⟨h0,h0'⟩|⟨s,h0,h0',hs⟩
 ·rw [h0];exact .bad trivial
 rcases ha.get 1 with ⟨h1,h1'⟩|⟨x,h1,h1',hx⟩
 ·rw [h0,h1];exact .bad trivial
 rw [h0,h0',h1,h1'];have hxv:VR F f x (rv f x):=⟨rfl,hx⟩;refine (eG sType).dX λd=>?_
 cases d with
 |slice e=>
  cases s with
  |slice base dLen dCap=>
   rw [fV];refine (LM hxv).bind ?_
   rintro n _ ⟨rfl,hlo⟩;dsimp only;refine (jD e).dX λsz=>?_
   refine (wK sz _ hxv λa l c e=>(hlo a l c e).imp id λh=>by rw [h];exact Nat.zero_min _).bind ?_
   rintro c c' ⟨hc,hc0⟩;cases base with
   |none=>exact .ret VR.goInt
   |some a=>
    rcases tQ (by simpa using hs) with hA|⟨_,h1,_⟩
    ·exact (Jm a hA hc).dX λ_=>.ret VR.goInt
    ·have hc1:=hc.1;rw [hc0 (by rw [h1];exact Nat.min_zero _)] at hc1 ⊢;subst hc1;exact dM.dX (show dM P F f Eq (storeCells a (#[]:Array Value).toList) (storeCells (ra f a) ((#[]:Array Value).map (rv f)).toList) from Ga _) λ_=>.ret VR.goInt
  |_=>exact .bad trivial
 |_=>exact .bad trivial
theorem ab7 (ts:Array TypeId) (t:TypeId) {aS as':Array Value} (ha:lH F f aS as'):dM P F f (VR F f) (Builtin.len_ ts t aS) (Builtin.len_ ts t as'):=by
 unfold Builtin.len_;cases hts:ts[0]? with
 |none=>exact .bad trivial
 |some sType=>
 rcases ha.get 0 with ⟨h0,h0'⟩|⟨s,h0,h0',hs⟩
 ·rw [h0];exact .bad trivial
 rw [h0,h0'];refine (eG sType).dX λd=>?_
 cases d with
 |string=>cases s<;>first |exact .bad trivial|(rw [gT];exact .ret VR.goInt)
 |array n e=>exact .ret VR.goInt
 |pointer e=>
  refine (eG e).dX λd=>?_
  cases d<;>first |exact .bad trivial|exact .ret VR.goInt
 |slice e=>cases s<;>first |exact .bad trivial|(rw [fV];exact .ret VR.goInt)
 |map k e=>
  cases s with
  |map r=>
   rw [um];cases r with
   |none=>exact .ret VR.goInt
   |some r=>
    refine (lD r (by simpa using hs)).bind ?_
    rintro o _ ⟨rfl,h1,h2⟩;cases o<;>first |exact .bad trivial|(exact .ret ⟨by simp [goInt],by simp [goInt]⟩)
  |_=>exact .bad trivial
 |chan k e=>
  cases s with
  |chan r=>
   rw [xY];cases r with
   |none=>exact .ret VR.goInt
   |some r=>
    simp at hs
  |_=>exact .bad trivial
 |_=>exact .bad trivial
theorem ab8 (ts:Array TypeId) (t:TypeId) {aS as':Array Value} (ha:lH F f aS as'):dM P F f (VR F f) (Builtin.cap_ ts t aS) (Builtin.cap_ ts t as'):=by
 unfold Builtin.cap_;cases hts:ts[0]? with
 |none=>exact .bad trivial
 |some sType=>
 rcases ha.get 0 with ⟨h0,h0'⟩|⟨s,h0,h0',hs⟩
 ·rw [h0];exact .bad trivial
 rw [h0,h0'];refine (eG sType).dX λd=>?_
 cases d with
 |array n e=>exact .ret VR.goInt
 |pointer e=>
  refine (eG e).dX λd=>?_
  cases d<;>first |exact .bad trivial|exact .ret VR.goInt
 |slice e=>cases s<;>first |exact .bad trivial|(rw [fV];exact .ret VR.goInt)
 |chan k e=>
  cases s with
  |chan r=>
   rw [xY];cases r with
   |none=>exact .ret VR.goInt
   |some r=>
    simp at hs
  |_=>exact .bad trivial
 |_=>exact .bad trivial
theorem tV (op:BinOp) (x y:ByteArray):dM P F f (VR F f) (Op.stringOp op x y) (Op.stringOp op x y):=by
 unfold Op.stringOp;cases op<;>first |exact .bad trivial|exact .ret VR.bool|skip
 dsimp only;split
 ·exact .bad trivial
 ·exact .ret VR.str
theorem XM {v v' x x':Value} (hv:VR F f v v') (hx:VR F f x x'):dM P F f (VR F f) (Builtin.max2 v x) (Builtin.max2 v' x'):=by
 obtain ⟨rfl,hs⟩:=hv;obtain ⟨rfl,hs'⟩:=hx;cases v with
 |int k a=>
  cases x with
  |int k' b=>simp only [jM];exact .ret VR.int
  |pointer a=>cases a<;>exact .bad trivial
  |_=>exact .bad trivial
 |float k a=>simp at hs
 |string a=>
  cases x with
  |string b=>
   simp only [gT];exact (tV .geq a b).bind λc c' hc=>(DX hc).dX λt=>.ret VR.str
  |pointer a=>cases a<;>exact .bad trivial
  |_=>exact .bad trivial
 |pointer p=>
  cases p with
  |some p=>exact .bad trivial
  |none=>
   cases x with
   |pointer a=>cases a<;>exact .bad trivial
   |_=>exact .bad trivial
 |_=>
  cases x with
  |pointer a=>cases a<;>exact .bad trivial
  |_=>exact .bad trivial
theorem XN {v v' x x':Value} (hv:VR F f v v') (hx:VR F f x x'):dM P F f (VR F f) (Builtin.min2 v x) (Builtin.min2 v' x'):=by
 obtain ⟨rfl,hs⟩:=hv;obtain ⟨rfl,hs'⟩:=hx;cases v with
 |int k a=>
  cases x with
  |int k' b=>simp only [jM];exact .ret VR.int
  |pointer a=>cases a<;>exact .bad trivial
  |_=>exact .bad trivial
 |float k a=>simp at hs
 |string a=>
  cases x with
  |string b=>
   simp only [gT];exact (tV .leq a b).bind λc c' hc=>(DX hc).dX λt=>.ret VR.str
  |pointer a=>cases a<;>exact .bad trivial
  |_=>exact .bad trivial
 |pointer p=>
  cases p with
  |some p=>exact .bad trivial
  |none=>
   cases x with
   |pointer a=>cases a<;>exact .bad trivial
   |_=>exact .bad trivial
 |_=>
  cases x with
  |pointer a=>cases a<;>exact .bad trivial
  |_=>exact .bad trivial
theorem Gb {g:Value->Value->Sem Value} (hg:∀{v v' x x':Value},VR F f v v'->VR F f x x'->dM P F f (VR F f) (g v x) (g v' x')):
 ∀(l:List Value) {v v':Value},VR F f v v'->(∀x∈l,vs F x=true)->dM P F f (VR F f) (l.foldlM g v) ((l.map (rv f)).foldlM g v')
 | [],_,_,hv,_=>by rw [List.map_nil,List.foldlM_nil,List.foldlM_nil];exact .ret hv
 |x::l,_,_,hv,hl=>by
  rw [aC,List.foldlM_cons,List.foldlM_cons];exact (hg hv ⟨rfl,hl x (aQ ..)⟩).bind λa b h=>Gb hg l h λy hy=>hl y (aR _ hy)
theorem ab9 (ts:Array TypeId) (t:TypeId) {aS as':Array Value} (ha:lH F f aS as'):dM P F f (VR F f) (Builtin.max_ ts t aS) (Builtin.max_ ts t as'):=by
 unfold Builtin.max_;rw [ha.1,Array.toList_map];have hs:∀x∈aS.toList,vs F x=true:= λx hx=>ha.2 x (by simpa using hx)
 generalize aS.toList=l at hs;cases l with
 |nil=>exact .bad trivial
 |cons x l=>exact Gb XM l ⟨rfl,hs x (aQ ..)⟩ λy hy=>hs y (aR _ hy)
theorem ac0 (ts:Array TypeId) (t:TypeId) {aS as':Array Value} (ha:lH F f aS as'):dM P F f (VR F f) (Builtin.min_ ts t aS) (Builtin.min_ ts t as'):=by
 unfold Builtin.min_;rw [ha.1,Array.toList_map];have hs:∀x∈aS.toList,vs F x=true:= λx hx=>ha.2 x (by simpa using hx)
 generalize aS.toList=l at hs;cases l with
 |nil=>exact .bad trivial
 |cons x l=>exact Gb XN l ⟨rfl,hs x (aQ ..)⟩ λy hy=>hs y (aR _ hy)
theorem EG (op:BinOp) (k:IntKind) (x y:Int):dM P F f (VR F f) (Op.intArith op k x y) (Op.intArith op k x y):=by
 unfold Op.intArith;cases op<;>first |exact .bad trivial|exact .ret VR.int
theorem Rc (op:BinOp) (k:IntKind) (x y:Int):dM P F f (VR F f) (Op.intDiv op k x y) (Op.intDiv op k x y):=by
 unfold Op.intDiv;split
 ·exact fK _ _
 ·cases op<;>first |exact .bad trivial|exact .ret VR.int
theorem Gc (op:BinOp) (k:IntKind) (x y:Int):dM P F f (VR F f) (Op.intBits op k x y) (Op.intBits op k x y):=by
 unfold Op.intBits;cases op<;>first |exact .bad trivial|exact .ret VR.int
theorem Re (op:BinOp) (x y:Int):dM P F f (VR F f) (Op.intCmp op x y) (Op.intCmp op x y):=by
 unfold Op.intCmp;cases op<;>first |exact .bad trivial|exact .ret VR.bool
theorem Ue (op:BinOp) (k yk:IntKind) (x y:Int):dM P F f (VR F f) (Op.shift op k x yk y) (Op.shift op k x yk y):=by
 unfold Op.shift;split
 ·exact fK _ _
 ·cases op<;>first |exact .bad trivial|exact .ret VR.int
theorem Uf (op:UnOp) {v v':Value} (hv:VR F f v v'):dM P F f (VR F f) (Op.unary op v) (Op.unary op v'):=by
 obtain ⟨rfl,hs⟩:=hv;cases v with
 |int k n=>rw [jM];cases op<;>simp only [Op.unary]<;>first |exact .bad trivial|exact EG .. |exact Gc ..
 |float k n=>simp at hs
 |complex k n m=>simp at hs
 |bool b=>rw [nL];cases op<;>first |exact .bad trivial|exact .ret VR.bool
 |pointer a=>cases a<;>cases op<;>exact .bad trivial
 |_=>cases op<;>exact .bad trivial
end
end
section
variable [Sh]
section
variable {P:Program} {F:Fit} {f:Nat->Nat} {α β γ δ:Type}
theorem fF (t:TypeId):dM P F f (λa b=>a=b∧P.underlying t=some a) (underlying t) (underlying t):=by
 unfold underlying;refine .xe ?_
 cases hu:P.underlying t with
 |none=>exact gW _ _
 |some d=>exact .ret ⟨rfl,rfl⟩
def ShR (r:Nat) (s s':Option (TypeId×Nat)):Prop:=(s=s'∧(Sh.lk r=true->s=none))∨(Sh.lk r=true∧∃n x,s=some (Sh.bad,n)∧s'=some x)
theorem zw (r:Nat) (hA:F.A r=true):dM P F f (ShR r) (Go.shape r) (Go.shape (f r)):=.shape hA (λ_ h=>.pure (.inl ⟨rfl,h⟩)) λh n s=>.pure (.inr ⟨h,n,s,rfl,rfl⟩)
theorem ShR.eq {r:Nat} {s s':Option (TypeId×Nat)} (h:ShR r s s') (hl:Sh.lk r=false):s'=s:=by
 rcases h with ⟨rfl,_⟩|⟨h,_⟩
 ·rfl
 ·rw [hl] at h;cases h
theorem Jn (r:Nat) (hA:F.A r=true):dM P F f (λa b=>a=none∧b=none) (viewAt r) (viewAt (f r)):=by
 unfold viewAt;refine (zw r hA).bind ?_
 rintro s s' (⟨rfl,_⟩|⟨_,n,x,rfl,rfl⟩)
 rotate_left
 ·exact .ret ⟨rfl,rfl⟩
 split
 ·exact .ret ⟨rfl,rfl⟩
 ·refine (lD r hA).bind ?_
  rintro o _ ⟨rfl,h1,h2⟩;cases o<;>first |exact h1.elim|exact .ret ⟨rfl,rfl⟩
theorem EH (r:Nat) (hA:F.A r=true):dM P F f (λa b=>(a=none∧b=none)∨(Sh.lk r=false∧∃x l,a=some (x,l)∧b=some (ra f x,l)∧F.A x.block=true)) (numberAt r) (numberAt (f r)):=by
 unfold numberAt;refine (zw r hA).bind ?_
 rintro s s' (⟨rfl,_⟩|⟨_,n,x,rfl,rfl⟩)
 rotate_left
 ·exact .ret (.inl ⟨rfl,rfl⟩)
 split
 ·exact .ret (.inl ⟨rfl,rfl⟩)
 ·refine (NM r hA).bind ?_
  rintro o _ ⟨rfl,h1,h2,h3⟩;cases o<;>first |exact h1.elim|exact .ret (.inl ⟨rfl,rfl⟩)|exact .ret (.inr ⟨h3,_,_,rfl,rfl,h1⟩)
theorem sN (a:Addr) (hA:F.A a.block=true):dM P F f (λx y=>AR F f x.1 y.1∧x.2=y.2∧(Sh.lk a.block=true->x.1=a)) (behindNumber a) (behindNumber (ra f a)):=by
 unfold behindNumber;refine (EH a.block hA).bind ?_
 rintro x y (⟨rfl,rfl⟩|⟨hl,x,l,rfl,rfl,h⟩)
 ·exact .ret ⟨⟨rfl,hA⟩,rfl, λ_=>rfl⟩
 ·exact .ret ⟨⟨rfl,h⟩,rfl, λh=>by rw [hl] at h;cases h⟩
theorem lZ (a:Addr) (hA:F.A a.block=true):dM P F f (λx y=>AR F f x.1 y.1∧x.2=y.2) (behindNumber a) (behindNumber (ra f a)):=(sN a hA).mono λ_ _ h=>⟨h.1,h.2.1⟩
theorem Rf (a:Addr) (hA:F.A a.block=true):dM P F f Eq (noView a) (noView (ra f a)):=by
 unfold noView;refine (Jn a.block hA).bind ?_
 rintro x y ⟨rfl,rfl⟩;exact .ret rfl
theorem xm (a:Addr) (hA:F.A a.block=true) (hl:Sh.lk a.block=false):dM P F f Eq (byteOf a) (byteOf (ra f a)):=by
 unfold byteOf;simp only [PN];cases a.spot with
 |some s=>exact .ret rfl
 |none=>
  dsimp only;refine .xe ?_ (λQ hQ=>by simp only [hQ.cellsOf,hQ.byteOfCell,hQ.depth,hQ.bytesOf])
  refine (Rf a hA).dX λ_=>?_
  refine (zw a.block hA).bind ?_
  intro s s' hs';obtain rfl:=(hs'.eq hl).symm;clear hs';cases s with
  |none=>exact .bad trivial
  |some s=>
   obtain ⟨e,n⟩:=s;simp only [Kg,Sh.sh0 _ hl,aH];split
   ·exact .ret rfl
   ·split
    ·exact .ret rfl
    ·exact .bad trivial
theorem Rn.Ug (h:Rn P f) (b:Nat) (hb:Sh.lk b=false):(f b ≥ P.globals.size↔b ≥ P.globals.size)∧(f b<P.globals.size↔b<P.globals.size):=by
 have key:b<P.globals.size->f b=b:= λx=>h.lC b (Nat.le_of_lt x)
 have al7:f b<P.globals.size->b<P.globals.size:= λx=>by
  have h1:=h.lC (f b) (Nat.le_of_lt x);have :=h.inj _ _ (h.glk _ (Nat.le_of_lt x)) (PM hb) h1;omega
 constructor
 ·constructor
  ·intro x;rcases bz b P.globals.size with h1|h1
   ·rw [key h1] at x;omega
   ·exact h1
  ·intro x;rcases bz (f b) P.globals.size with h1|h1
   ·have :=al7 h1;omega
   ·exact h1
 ·exact ⟨al7, λx=>by rw [key x];exact x⟩
theorem Rn.ge (h:Rn P f) (b:Nat) (hb:Sh.lk b=true):b ≥ P.globals.size:=by
 rcases bz b P.globals.size with h1|h1
 ·rw [h.glk b (Nat.le_of_lt h1)] at hb;cases hb
 ·exact h1
theorem Cv (h:Rn P f) (a b:Addr) (hA:F.A a.block=true) (hB:F.A b.block=true):dM P F f Eq (Op.twoPlaces a b) (Op.twoPlaces (ra f a) (ra f b)):=by
 unfold Op.twoPlaces;refine .xe ?_
 by_cases hc:a.block=b.block∧a.block<P.globals.size
 ·have hla:Sh.lk a.block=false:=h.glk _ (Nat.le_of_lt hc.2);have hlb:Sh.lk b.block=false:=hc.1 ▸ hla;have e1:(f a.block !=f b.block)=(a.block !=b.block):=by simp [hc.1]
  have e2:(f a.block ≥ P.globals.size)↔a.block ≥ P.globals.size:=(h.Ug _ hla).1;simp only [wV,e1,e2];split
  ·exact .bad trivial
  ·refine (xm a hA hla).dX λx=>?_
   exact (xm b hB hlb).dX λy=>.ret rfl
 ·rw [aj (by
   simp only [bne_iff_ne,Bool.or_eq_true,decide_eq_true_eq]
   by_cases e:a.block=b.block
   ·exact .inr (Nat.le_of_not_lt λx=>hc ⟨e,x⟩)
   ·exact .inl e)]
  exact .bad trivial
theorem NT (h:Rn P f) (k:IntKind) {a a' b b':Addr} (ha:AR F f a a') (hb:AR F f b b'):dM P F f (VR F f) (Op.addrSub k a b) (Op.addrSub k a' b'):=by
 obtain ⟨rfl,hA⟩:=ha;obtain ⟨rfl,hB⟩:=hb;unfold Op.addrSub;exact (Cv h a b hA hB).dX λx=>.ret VR.int
theorem NU (h:Rn P f) (op:BinOp) {a a' b b':Addr} (ha:AR F f a a') (hb:AR F f b b'):dM P F f (VR F f) (Op.addrCmp op a b) (Op.addrCmp op a' b'):=by
 obtain ⟨rfl,hA⟩:=ha;obtain ⟨rfl,hB⟩:=hb;unfold Op.addrCmp;refine (Cv h a b hA hB).dX λx=>?_
 cases op<;>first |exact .ret VR.bool|exact .bad trivial
theorem Fg {e:TypeId} (hb:P.info? e=none) (k:TypeInfo->Sem α) (m':Sem β) {R:α->β->Prop}:dM P F f R (typeInfo e >>=k) m':=by
 refine .pO λw es=>?_
 refine ⟨.stuck "no such type",w,es,?_,trivial,DK.refl⟩;show Sem.runT P ((typeInfo e).bind k) w es=_;rw [runT_bind];unfold typeInfo;simp only [program,Bind.bind,Sem.bind,Sem.runT,hb];rfl
theorem Gd (h:Rn P f) (k:IntKind) {a a':Addr} (ha:AR F f a a') (n:Int):dM P F f (VR F f) (Op.addrMod k a n) (Op.addrMod k a' n):=by
 obtain ⟨rfl,hA⟩:=ha;unfold Op.addrMod;refine (zw a.block hA).bind ?_
 rintro s s' hs;cases hl:Sh.lk a.block with
 |true=>
  rcases hs with ⟨rfl,h0⟩|⟨_,m,x,rfl,rfl⟩
  ·rw [h0 hl];exact .bad trivial
  ·exact Fg (h.bad _ hl) _ _
 |false=>
  obtain rfl:=(hs.eq hl).symm;cases s with
  |none=>exact .bad trivial
  |some s=>
   obtain ⟨e,c⟩:=s;refine (kL e).dX λi=>?_
   dsimp only;split
   ·exact .bad trivial
   ·exact (xm a hA hl).dX λy=>.ret VR.int
theorem yf (h:Rn P f) (ts:Array TypeId) (t:TypeId) {p p' y y':Value} (hp:VR F f p p') (hy:VR F f y y'):dM P F f (VR F f) (Builtin.unsafeAdd_ ts t #[p,y]) (Builtin.unsafeAdd_ ts t #[p',y']):=by
 obtain ⟨rfl,hs⟩:=hp;unfold Builtin.unsafeAdd_;cases p with
 |pointer a=>
  rw [eZ];refine (xk hy).dX λn=>?_
  by_cases h0:n=0
  ·rw [aj h0,aj h0];cases a with
   |none=>exact .bad trivial
   |some a=>
    refine (Jn a.block (by simpa using hs)).bind ?_
    rintro x y ⟨rfl,rfl⟩;exact .ret ⟨by simp,hs⟩
  ·rw [aa h0,aa h0]
   by_cases h1:n<0
   ·rw [aj h1];exact .bad trivial
   ·rw [aa h1,aa h1];cases a with
    |none=>exact .bad trivial
    |some a=>
     refine (zw a.block (by simpa using hs)).bind ?_
     intro s s' hss;cases hl:Sh.lk a.block with
     |true=>
      rcases hss with ⟨rfl,h0⟩|⟨_,m,x,rfl,rfl⟩
      ·rw [h0 hl];exact .bad trivial
      ·have h3:P.cellsOf Sh.bad=0:=by unfold Program.cellsOf;rw [h.bad _ hl];rfl
       refine .pO λw es=>?_
       refine ⟨.unsupported (.unsafePointer "Add"),w,es,?_,trivial,DK.refl⟩;simp only [program,Bind.bind,Sem.bind,Sem.runT,cellAtBytes,h3];rfl
     |false=>
      obtain rfl:=(hss.eq hl).symm;cases s with
      |none=>exact .bad trivial
      |some s=>
       obtain ⟨e,c⟩:=s;refine .xe ?_ (λQ hQ=>by simp only [hQ.cellsOf,hQ.byteOfCell,hQ.depth,hQ.bytesOf,hQ.info,hQ.cellAtBytes])
       simp only [Kg,Sh.sh0 _ hl,aH];split
       ·exact .ret ⟨by simp [ra,Sh.sh0 _ hl],by simpa using hs⟩
       ·exact .bad trivial
 |_=>exact .bad trivial
theorem LQ {a a':Addr} (ha:AR F f a a') (l:Bool):dM P F f (VR F f) (asNumber a l) (asNumber a' l):=by
 obtain ⟨rfl,hA⟩:=ha;unfold asNumber;refine dM.bind (uI (o:=.number a l) hA) ?_
 rintro r _ ⟨rfl,hr,hl⟩;exact .ret ⟨by simp [F4 hl],by simpa using hr⟩
theorem ni (h:Rn P f) (t:TypeId) {x x' y y':Value} (hx:VR F f x x') (hy:VR F f y y'):dM P F f (VR F f) (movedNumber t x y) (movedNumber t x' y'):=by
 unfold movedNumber;refine (eG t).dX λd=>?_
 obtain ⟨rfl,hs⟩:=hx;cases x with
 |pointer a=>
  cases a with
  |none=>
   have hn0:VR F f (.pointer none) (.pointer none):=⟨by simp,by simp⟩;rw [eZ];cases d
   case unsafePointer=>exact .bad trivial
   all_goals exact yf h #[] t hn0 hy
  |some n=>
   rw [eZ];cases d
   case unsafePointer=>exact .bad trivial
   all_goals
    refine (lZ n (by simpa using hs)).bind ?_
    rintro ⟨a,l⟩ ⟨a',l'⟩ ⟨h1,rfl⟩;refine (yf h _ _ (VR.ptr h1) hy).bind ?_
    rintro v _ ⟨rfl,hv⟩;cases v with
    |pointer b=>
     cases b with
     |none=>rw [eZ];exact .ret ⟨by simp,by simp⟩
     |some b=>rw [eZ];exact LQ ⟨rfl,by simpa using hv⟩ l
    |_=>exact .ret ⟨rfl,hv⟩
 |_=>cases d<;>unfold Builtin.unsafeAdd_<;>exact .bad trivial
theorem Fh (h:Rn P f) (t:TypeId) {x x' y y':Value} (hx:VR F f x x') (hy:VR F f y y'):dM P F f (VR F f) (movedPointer t x y) (movedPointer t x' y'):=by
 unfold movedPointer;have last:=yf (P:=P) h #[] t hx hy;obtain ⟨rfl,hs⟩:=hx;cases x with
 |pointer a=>
  cases a with
  |none=>exact last
  |some n=>
   refine (EH n.block (by simpa using hs)).bind ?_
   rintro p q (⟨rfl,rfl⟩|⟨_,x,l,rfl,rfl,_⟩)
   ·exact last
   ·exact .bad trivial
 |_=>exact last
def ZK (P:Program):Nat->TypeId->Bool
 |0,_=>false
 |n+1,t=>match P.underlying t with
  |some .bool|some (.int _)|some .string|some (.slice _)|some (.map ..)|some (.func ..)=>true
  |some (.struct fs)=>!P.stoodInHeld t&&fs.all λx=>ZK P n x.type
  |_=>false
theorem Gf {σ γ:Type} {b b':γ->σ->Sem (ForInStep σ)}:∀(l:List γ) (s:σ),(∀a∈l,∀s,dM P F f Eq (b a s) (b' a s))->dM P F f Eq (forIn l s b) (forIn l s b')
 | [],s,_=>by simp only [List.forIn_nil];exact .ret rfl
 |a::l,s,h=>by
  simp only [List.forIn_cons];refine (h a (aQ ..) s).dX λr=>?_
  cases r with
  |done s=>exact .ret rfl
  |yield s=>exact Gf l s λa ha=>h a (aR _ ha)
def SB (f:Nat->Nat) (a b:Value):Prop:=Instr.sameBits 10000 (rv f a) (rv f b)=Instr.sameBits 10000 a b
theorem Gg (h:Rn P f) (d:Nat) {t:TypeId} {k:IntKind} (hu:P.underlying t=some (.int k)) {x x' y y':Value} (hx:VR F f x x') (hy:VR F f y y'):dM P F f (λb b'=>b=b'∧(b=true->SB f y x)) (Op.equalIn (d+1) t x y) (Op.equalIn (d+1) t x' y'):=by
 unfold Op.equalIn;refine (fF t).bind ?_
 rintro u _ ⟨rfl,hu'⟩;rw [hu] at hu';cases hu';obtain ⟨rfl,hxs⟩:=hx;obtain ⟨rfl,hys⟩:=hy;cases x with
 |int k1 a=>
  cases y with
  |int k2 b=>
   simp only [jM];split
   ·exact .ret ⟨rfl, λ_=>by simp [SB,Instr.sameBits]⟩
   ·exact .bad trivial
  |pointer b=>
   cases b with
   |none=>exact .bad trivial
   |some b=>
    simp only [jM,eZ,ay]
    by_cases ha:a=0
    ·subst ha;exact .ret ⟨rfl, λh=>by cases h⟩
    ·split<;>first |exact .bad trivial|(exfalso;simp_all;done)
  |_=>exact .bad trivial
 |pointer a=>
  cases a with
  |none=>cases y<;>first |exact .bad trivial|(rename_i b;cases b<;>exact .bad trivial)
  |some a=>
   cases y with
   |int k2 b=>
    simp only [jM,eZ,ay]
    by_cases hb:b=0
    ·subst hb;exact .ret ⟨rfl, λh=>by cases h⟩
    ·split<;>first |exact .bad trivial|(exfalso;simp_all;done)
   |pointer b=>
    cases b with
    |none=>exact .bad trivial
    |some b=>
     simp only [eZ,ay];refine (sN a (by simpa using hxs)).bind ?_
     rintro ⟨a1,l1⟩ ⟨a2,l2⟩ ⟨⟨h1,hA⟩,h1e,h1l⟩;refine (sN b (by simpa using hys)).bind ?_
     rintro ⟨b1,m1⟩ ⟨b2,m2⟩ ⟨⟨h2,hB⟩,h2e,h2l⟩;dsimp only at h1 h2 hA hB h1e h2e h1l h2l ⊢;subst h1;subst h2
     by_cases hl:Sh.lk a1.block=true∨Sh.lk b1.block=true
     ·
      have hcc:∀t i,P.info? t=some i->∀u,i.desc≠ .named "sync.copyChecker" u:=hl.elim (h.cc _) (h.cc _)
      have hneg:¬(a1.block=b1.block∧a1.block<P.globals.size):=by
       rintro ⟨e1,e2⟩;have h3:=h.glk _ (Nat.le_of_lt e2);rcases hl with x|x
       ·rw [h3] at x;cases x
       ·rw [<-e1,h3] at x;cases x
      refine .pO λw es=>?_
      cases ht:P.info? t with
      |none=>
       refine ⟨.stuck "no such type",w,es,?_,trivial,DK.refl⟩;simp only [program,Bind.bind,Sem.bind,Sem.runT,typeInfo];rw [aa (by simpa using hneg)];simp only [program,Bind.bind,Sem.bind,Sem.runT,ht];rfl
      |some i=>
       refine ⟨.unsupported .addressObserved,w,es,?_,trivial,DK.refl⟩;simp only [program,Bind.bind,Sem.bind,Sem.runT,typeInfo];rw [aa (by simpa using hneg)];simp only [program,Bind.bind,Sem.bind,Sem.runT,ht];have :=hcc t i ht;show Sem.runT P (Sem.bind (Pure.pure i) _) w es=_;simp only [Pure.pure,Sem.bind]
       first
        |rfl
        |(split
          ·rename_i u hu2;exact absurd hu2 (this _)
          ·rfl)
     have hla:Sh.lk a1.block=false:=by simpa using λx=>hl (.inl x)
     have hlb:Sh.lk b1.block=false:=by simpa using λx=>hl (.inr x)
     have hlo:Sh.lk a.block=false:=by
      cases hx:Sh.lk a.block with
      |false=>rfl
      |true=>rw [<-h1l hx,hla] at hx;cases hx
     have hlo2:Sh.lk b.block=false:=by
      cases hx:Sh.lk b.block with
      |false=>rfl
      |true=>rw [<-h2l hx,hlb] at hx;cases hx
     have al8:∀(a1 b1:Addr),Sh.lk a1.block=false->Sh.lk b1.block=false->(ra f a1==ra f b1)=(a1==b1):=by
      intro a1 b1 hla hlb;rw [Bool.eq_iff_iff];simp only [beq_iff_eq]
      constructor
      ·intro x;have h3:=congrArg Addr.block x;have h4:=congrArg Addr.off x;have h5:=congrArg Addr.spot x;simp only [wV,Kg,PN] at h3 h4 h5;have :=h.inj _ _ hla (PM hlb) h3;have e1:Sh.sh a1.block=Sh.sh b1.block:=by rw [this]
       cases a1;cases b1;simp_all
      ·intro x;rw [x]
     have hsb:SB f (.pointer (some b)) (.pointer (some a)):=by
      have :=al8 a b hlo hlo2;have e:∀x y:Addr,(x==y)=(y==x):= λx y=>by rw [Bool.eq_iff_iff];simp only [beq_iff_eq];exact ⟨Eq.symm,Eq.symm⟩
      simp only [SB,eZ,ay,Instr.sameBits];have k1:∀x y:Addr,(some x==some y)=(x==y):= λx y=>by rw [Bool.eq_iff_iff];simp
      rw [k1,k1,e,this,e]
     refine .xe ?_
     have e1:(f a1.block==f b1.block)=(a1.block==b1.block):=by
      rw [Bool.eq_iff_iff];simp only [beq_iff_eq]
      exact ⟨λx=>h.inj _ _ hla (PM hlb) x, λx=>by rw [x]⟩
     have e2:(f a1.block<P.globals.size)↔a1.block<P.globals.size:=(h.Ug _ hla).2;have e3:(ra f a1==ra f b1)=(a1==b1):=al8 a1 b1 hla hlb;simp only [wV,e1,e2,e3];split
     ·refine (xm a1 hA hla).dX λp=>?_
      exact (xm b1 hB hlb).dX λq=>.ret ⟨rfl, λ_=>hsb⟩
     ·refine (kL t).dX λi=>?_
      split
      ·split
       ·exact .ret ⟨rfl, λ_=>hsb⟩
       ·exact .bad trivial
      ·exact .bad trivial
   |_=>exact .bad trivial
 |_=>cases y<;>first |exact .bad trivial|(rename_i b;cases b<;>exact .bad trivial)
theorem Rh (h:Rn P f) (d:Nat) {t:TypeId} {k:IntKind} (hu:P.underlying t=some (.int k)) {x x' y y':Value} (hx:VR F f x x') (hy:VR F f y y'):dM P F f Eq (Op.equalIn (d+1) t x y) (Op.equalIn (d+1) t x' y'):=(Gg h d hu hx hy).mono λ_ _ h=>h.1
theorem LU (d:Nat) {t e:TypeId} (hu:P.underlying t=some (.slice e)) {x x' y y':Value} (hx:VR F f x x') (hy:VR F f y y'):dM P F f Eq (Op.equalIn (d+1) t x y) (Op.equalIn (d+1) t x' y'):=by
 unfold Op.equalIn;refine (fF t).bind ?_
 rintro u _ ⟨rfl,hu'⟩;rw [hu] at hu';cases hu';obtain ⟨rfl,hxs⟩:=hx;obtain ⟨rfl,hys⟩:=hy;cases x with
 |slice a _ _=>
  cases y with
  |slice b _ _=>
   simp only [fV];cases a with
   |none=>exact .ret (by simp)
   |some a=>cases b with
    |none=>exact .ret rfl
    |some b=>exact .bad trivial
  |_=>cases a<;>exact .bad trivial
 |_=>cases y<;>exact .bad trivial
theorem Ri (d:Nat) {t k e:TypeId} (hu:P.underlying t=some (.map k e)) {x x' y y':Value} (hx:VR F f x x') (hy:VR F f y y'):dM P F f Eq (Op.equalIn (d+1) t x y) (Op.equalIn (d+1) t x' y'):=by
 unfold Op.equalIn;refine (fF t).bind ?_
 rintro u _ ⟨rfl,hu'⟩;rw [hu] at hu';cases hu';obtain ⟨rfl,hxs⟩:=hx;obtain ⟨rfl,hys⟩:=hy;cases x with
 |map a=>
  cases y with
  |map b=>
   simp only [um];cases a with
   |none=>exact .ret (by simp)
   |some a=>cases b with
    |none=>exact .ret rfl
    |some b=>exact .bad trivial
  |_=>cases a<;>exact .bad trivial
 |_=>cases y<;>exact .bad trivial
theorem NV (d:Nat) {t:TypeId} {a b:Array TypeId} {c:Bool} (hu:P.underlying t=some (.func a b c)) {x x' y y':Value} (hx:VR F f x x') (hy:VR F f y y'):dM P F f Eq (Op.equalIn (d+1) t x y) (Op.equalIn (d+1) t x' y'):=by
 unfold Op.equalIn;refine (fF t).bind ?_
 rintro u _ ⟨rfl,hu'⟩;rw [hu] at hu';cases hu';obtain ⟨rfl,hxs⟩:=hx;obtain ⟨rfl,hys⟩:=hy;cases x<;>cases y<;>first |exact .bad trivial|(simp only [uy,oH];exact .ret rfl)
theorem EI (d:Nat) {t:TypeId} (hu:P.underlying t=some .bool) {x x' y y':Value} (hx:VR F f x x') (hy:VR F f y y'):dM P F f (λb b'=>b=b'∧(b=true->SB f y x)) (Op.equalIn (d+1) t x y) (Op.equalIn (d+1) t x' y'):=by
 unfold Op.equalIn;refine (fF t).bind ?_
 rintro u _ ⟨rfl,hu'⟩;rw [hu] at hu';cases hu';obtain ⟨rfl,hxs⟩:=hx;obtain ⟨rfl,hys⟩:=hy;cases x<;>cases y<;>first |exact .bad trivial|(simp only [nL];exact .ret ⟨rfl, λ_=>by simp [SB,Instr.sameBits]⟩)
theorem NW (d:Nat) {t:TypeId} (hu:P.underlying t=some .bool) {x x' y y':Value} (hx:VR F f x x') (hy:VR F f y y'):dM P F f Eq (Op.equalIn (d+1) t x y) (Op.equalIn (d+1) t x' y'):=(EI d hu hx hy).mono λ_ _ h=>h.1
theorem AX (d:Nat) {t:TypeId} (hu:P.underlying t=some .string) {x x' y y':Value} (hx:VR F f x x') (hy:VR F f y y'):dM P F f (λb b'=>b=b'∧(b=true->SB f y x)) (Op.equalIn (d+1) t x y) (Op.equalIn (d+1) t x' y'):=by
 unfold Op.equalIn;refine (fF t).bind ?_
 rintro u _ ⟨rfl,hu'⟩;rw [hu] at hu';cases hu';obtain ⟨rfl,hxs⟩:=hx;obtain ⟨rfl,hys⟩:=hy;cases x<;>cases y<;>first |exact .bad trivial|(simp only [gT];exact .ret ⟨rfl, λ_=>by simp [SB,Instr.sameBits]⟩)
theorem Kn (d:Nat) {t:TypeId} (hu:P.underlying t=some .string) {x x' y y':Value} (hx:VR F f x x') (hy:VR F f y y'):dM P F f Eq (Op.equalIn (d+1) t x y) (Op.equalIn (d+1) t x' y'):=(AX d hu hx hy).mono λ_ _ h=>h.1
theorem Ko (d:Nat) {t:TypeId} {fs:Array Field} (hu:P.underlying t=some (.struct fs)) (ht:P.stoodInHeld t=false) (ih:∀fl∈fs.toList,∀{x x' y y':Value},VR F f x x'->VR F f y y'->dM P F f Eq (Op.equalIn d fl.type x y) (Op.equalIn d fl.type x' y')) {x x' y y':Value} (hx:VR F f x x') (hy:VR F f y y'):dM P F f Eq (Op.equalIn (d+1) t x y) (Op.equalIn (d+1) t x' y'):=by
 unfold Op.equalIn;refine (fF t).bind ?_
 rintro u _ ⟨rfl,hu'⟩;rw [hu] at hu';cases hu';obtain ⟨rfl,hxs⟩:=hx;obtain ⟨rfl,hys⟩:=hy;cases x with
 |agg xs=>
  cases y with
  |agg ys=>
   simp only [uo];refine .xe ?_ (λQ hQ=>by simp only [hQ.stoodInHeld])
   rw [ht];simp only [bE,if_false];refine dM.dX ?_ λr=>?_
   ·rw [<-Array.forIn_toList, <-Array.forIn_toList];refine Gf fs.toList _ λfl hfl s=>?_
    split
    ·refine (Cu fl.type ⟨rfl,pM.1 hxs⟩ _).bind ?_
     intro p p' hp;refine (Cu fl.type ⟨rfl,pM.1 hys⟩ _).bind ?_
     intro q q' hq;refine (ih fl hfl hp hq).dX λr=>?_
     split<;>exact .ret rfl
    ·exact .ret rfl
   ·split<;>exact .ret rfl
  |_=>exact .bad trivial
 |_=>cases y<;>exact .bad trivial
theorem Gi (h:Rn P f):∀(n d:Nat) (t:TypeId),ZK P n t=true->∀{x x' y y':Value},VR F f x x'->VR F f y y'->dM P F f Eq (Op.equalIn d t x y) (Op.equalIn d t x' y')
 |0,_,_,h0,_,_,_,_,_,_=>by cases h0
 |n+1,0,_,_,_,_,_,_,_,_=>.bad trivial
 |n+1,d+1,t,ht,x,_,y,_,hx,hy=>by
  unfold ZK at ht;cases hu:P.underlying t with
  |none=>rw [hu] at ht;cases ht
  |some u=>
   rw [hu] at ht;cases u with
   |bool=>exact NW d hu hx hy
   |string=>exact Kn d hu hx hy
   |int k=>exact Rh h d hu hx hy
   |slice e=>exact LU d hu hx hy
   |map k e=>exact Ri d hu hx hy
   |func a b c=>exact NV d hu hx hy
   |struct fs=>
    rw [bD,Bool.not_eq_true'] at ht;exact Ko d hu ht.1 (λfl hfl=>Gi h n d fl.type (aV.1 ht.2 fl (by simpa using hfl))) hx hy
   |_=>cases ht
end
end
section
variable [Sh]
section
variable {P:Program} {F:Fit} {f:Nat->Nat} {α β γ δ:Type}
def Uh:Operand->Bool
 | .const (.pointer none)| .const .nilIface=>true
 |_=>false
def Ui (P:Program) (t:TypeId) (x y:Operand):Bool:=
 ZK P 8 t&&!P.eqGuardType P.depth t||
 (Uh x||Uh y)&&match P.underlying t with
   |some (.pointer _)|some (.interface _)=>true
   |_=>false
def Uj (P:Program) (op:BinOp) (t:TypeId) (x y:Operand):Bool:=
 match op with
 | .eql| .neq=>Ui P t x y
 |_=>match P.underlying t with
  |some .unsafePointer=>false
  |_=>true
theorem DY (d:Nat) (t:TypeId):dM P F f Eq (Op.eqGuardIn (d+1) t .nilIface .nilIface) (Op.eqGuardIn (d+1) t .nilIface .nilIface):=by
 unfold Op.eqGuardIn;refine (eG t).dX λu=>?_
 cases u<;>exact .ret rfl
theorem Br (d:Nat) {t:TypeId} {ms:Array (String×TypeId)} (hu:P.underlying t=some (.interface ms)) (a b:Array Value):
 dM P F f Eq (Op.eqGuardIn (d+1) t (.agg a) (.agg b)) (Op.eqGuardIn (d+1) t (.agg (a.map (rv f))) (.agg (b.map (rv f)))):=by
 unfold Op.eqGuardIn;refine (fF t).bind ?_
 rintro u _ ⟨rfl,hu'⟩;rw [hu] at hu';cases hu';exact .ret rfl
theorem NY {op:BinOp} {t:TypeId} {x y:Operand} (ho:Uj P op t x y=true) (a b:Value):dM P F f Eq (eqGuard op t x y a b) (eqGuard op t x y (rv f a) (rv f b)):=by
 have main:Ui P t x y=true->dM P F f Eq (eqGuard .eql t x y a b) (eqGuard .eql t x y (rv f a) (rv f b)):=by
  intro he;unfold eqGuard;simp only [Bool.not_true,bE,if_false];cases a with
  |nilIface=>
   cases b with
   |nilIface=>
    simp only [lJ]
    have fin:∀c:Bool,dM P F f Eq (if c=true then Pure.pure () else (Op.eqGuardIn Op.maxDepth t .nilIface .nilIface >>= λr=>if r=true then unsupported (.noEntry "binop/eql: two nil values of an interface type with methods, neither of them the literal nil") else Pure.pure ()))
     (if c=true then Pure.pure () else (Op.eqGuardIn Op.maxDepth t .nilIface .nilIface >>= λr=>if r=true then unsupported (.noEntry "binop/eql: two nil values of an interface type with methods, neither of them the literal nil") else Pure.pure ())):=by
     intro c;cases c
     ·refine (DY 9999 t).dX λr=>?_
      split
      ·exact .bad trivial
      ·exact .ret rfl
     ·exact .ret rfl
    exact fin _
   |_=>exact .ret rfl
  |agg aS=>
   cases b with
   |agg bs=>
    simp only [uo];refine .xe ?_ (λQ hQ=>by simp only [hQ.eqGuardType])
    refine .xe ?_ (λQ hQ=>by simp only [hQ.depth])
    by_cases hg:P.eqGuardType P.depth t=true
    ·simp only [hg,Bool.not_true,bE,if_false];unfold Ui at he;simp only [hg,Bool.not_true,Bool.and_false,Bool.false_or,bD] at he;cases hu:P.underlying t with
     |none=>rw [hu] at he;exact absurd he.2 (by simp)
     |some u=>
      rw [hu] at he;cases u with
      |interface ms=>
       refine (Br 9999 hu aS bs).dX λr=>?_
       split
       ·exact .bad trivial
       ·exact .ret rfl
      |pointer e=>
       exfalso
       have :∀d,P.eqGuardType d t=true->d=0:=by
        intro d hd;cases d with
        |zero=>rfl
        |succ d=>unfold Program.eqGuardType at hd;rw [hu] at hd;cases hd
       have h0:=this _ hg;have :P.depth≠0:=by unfold Program.depth;omega
       exact this h0
      |_=>exact absurd he.2 (by simp)
    ·simp only [hg,Bool.not_false,if_true];exact .ret rfl
   |_=>exact .ret rfl
  |_=>cases b<;>exact .ret rfl
 cases op<;>first |exact .ret rfl|exact main ho
theorem Cw {t:TypeId} {u:TypeDesc} (hu:P.underlying t=some u) (hk:(∃e,u= .pointer e)∨∃ms,u= .interface ms) {a b:Value} (hn:a= .pointer none∨a= .nilIface∨b= .pointer none∨b= .nilIface):
 dM P F f Eq (Op.equal t a b) (Op.equal t (rv f a) (rv f b)):=by
 unfold Op.equal;show dM P F f Eq (Op.equalIn (9999+1) t a b) (Op.equalIn (9999+1) t (rv f a) (rv f b));unfold Op.equalIn;refine (fF t).bind ?_
 rintro u _ ⟨rfl,hu'⟩;rw [hu] at hu';cases hu';rcases hk with ⟨e,rfl⟩|⟨ms,rfl⟩
 ·rcases hn with rfl|rfl|rfl|rfl
  ·cases b with
   |pointer b=>simp only [eZ];exact .ret (by simp)
   |_=>exact .bad trivial
  ·cases b<;>exact .bad trivial
  ·cases a with
   |pointer a=>cases a<;>(simp only [eZ];exact .ret (by simp))
   |_=>exact .bad trivial
  ·cases a with
   |pointer a=>cases a<;>exact .bad trivial
   |_=>exact .bad trivial
 ·rcases hn with rfl|rfl|rfl|rfl
  ·cases b<;>exact .bad trivial
  ·cases b<;>first |exact .bad trivial|(simp only [lJ,uN];exact .ret rfl)
  ·cases a<;>exact .bad trivial
  ·cases a<;>first |exact .bad trivial|(simp only [lJ,uN];exact .ret rfl)
theorem AY (op:BinOp) (t:TypeId) (k k':IntKind) (a b:Int):dM P F f (VR F f) (binOp op t (.int k a) (.int k' b)) (binOp op t (.int k a) (.int k' b)):=by
 cases op<;>simp only [binOp]<;>first
  |exact Ue ..
  |(split
    ·exact .bad trivial
    ·first |exact EG .. |exact Rc .. |exact Gc .. |exact Re ..)
def arith:BinOp->Bool
 | .eql| .neq=>false
 |_=>true
theorem Gj (h:Rn P f) (op:BinOp) (ho:arith op=true) (t:TypeId) (k:IntKind) (n:Int) (p:Option Addr) (hp:Xz F p=true):
 dM P F f (VR F f) (binOp op t (.int k n) (.pointer p)) (binOp op t (.int k n) (.pointer (p.map (ra f)))):=by
 have hv:VR F f (.pointer p) (.pointer (p.map (ra f))):=⟨by simp,by simpa using hp⟩;have hi:VR F f (.int k n) (.int k n):=VR.int;cases p with
 |none=>cases op<;>first |(cases ho;done)|exact .bad trivial|exact ni h t hv hi
 |some a=>
  cases op<;>first
   |(cases ho;done)
   |exact .bad trivial
   |exact ni h t hv hi
   |(refine (lZ a hp).bind ?_;rintro ⟨x,l⟩ ⟨x',l'⟩ ⟨h1,rfl⟩;exact Gd h k h1 _)
theorem Gm (h:Rn P f) {op:BinOp} (ho:arith op=true) (t:TypeId) (k:IntKind) (n:Int) (p:Option Addr) (hp:Xz F p=true):
 dM P F f (VR F f) (binOp op t (.pointer p) (.int k n)) (binOp op t (.pointer (p.map (ra f))) (.int k n)):=by
 have hv:VR F f (.pointer p) (.pointer (p.map (ra f))):=⟨by simp,by simpa using hp⟩;have hi:VR F f (.int k n) (.int k n):=VR.int
 have hadd:dM P F f (VR F f) (binOp .add t (.pointer p) (.int k n)) (binOp .add t (.pointer (p.map (ra f))) (.int k n)):=by
  simp only [binOp];refine (eG t).dX λd=>?_
  split
  ·exact Fh h t hv hi
  ·exact ni h t hv hi
 cases p with
 |none=>cases op<;>first |(cases ho;done)|exact hadd|exact .bad trivial|exact ni h t hv VR.int
 |some a=>
  cases op<;>first
   |(cases ho;done)
   |exact hadd
   |exact .bad trivial
   |exact ni h t hv VR.int
   |(refine (lZ a hp).bind ?_;rintro ⟨x,l⟩ ⟨x',l'⟩ ⟨h1,rfl⟩;exact Gd h k h1 _)
theorem Gn (h:Rn P f) {op:BinOp} (ho:arith op=true) (t:TypeId) (p q:Option Addr) (hp:Xz F p=true) (hq:Xz F q=true):
 dM P F f (VR F f) (binOp op t (.pointer p) (.pointer q)) (binOp op t (.pointer (p.map (ra f))) (.pointer (q.map (ra f)))):=by
 cases p with
 |none=>cases q<;>cases op<;>first |(cases ho;done)|exact .bad trivial
 |some a=>
  cases q with
  |none=>cases op<;>first |(cases ho;done)|exact .bad trivial
  |some b=>
   cases op<;>first
    |(cases ho;done)
    |exact .bad trivial
    |(refine (lZ a hp).bind ?_
      rintro ⟨x,l⟩ ⟨x',l'⟩ ⟨h1,rfl⟩;refine (lZ b hq).bind ?_
      rintro ⟨y,m⟩ ⟨y',m'⟩ ⟨h2,rfl⟩
      first |exact NT h _ h1 h2|exact NU h _ h1 h2)
theorem Kq (h:Rn P f) {op:BinOp} (ho:arith op=true) (t:TypeId) {a a' b b':Value} (ha:VR F f a a') (hb:VR F f b b'):dM P F f (VR F f) (binOp op t a b) (binOp op t a' b'):=by
 obtain ⟨rfl,hs⟩:=ha;obtain ⟨rfl,hs'⟩:=hb;cases a with
 |int k n=>
  cases b with
  |int k' m=>simp only [jM];exact AY ..
  |pointer p=>simp only [jM,eZ];exact Gj h op ho t k n p (by simpa using hs')
  |_=>cases op<;>first |(cases ho;done)|exact .bad trivial
 |string s=>
  cases b with
  |string s'=>simp only [gT];cases op<;>first |(cases ho;done)|(simp only [binOp];exact tV ..)
  |pointer p=>cases p<;>cases op<;>first |(cases ho;done)|exact .bad trivial
  |_=>cases op<;>first |(cases ho;done)|exact .bad trivial
 |pointer p=>
  cases b with
  |int k n=>simp only [jM,eZ];exact Gm h ho t k n p (by simpa using hs)
  |pointer q=>simp only [eZ];exact Gn h ho t p q (by simpa using hs) (by simpa using hs')
  |_=>cases p<;>cases op<;>first |(cases ho;done)|exact .bad trivial
 |float _ _=>simp at hs
 |complex _ _ _=>simp at hs
 |_=>
  cases b with
  |pointer p=>cases p<;>cases op<;>first |(cases ho;done)|exact .bad trivial
  |_=>cases op<;>first |(cases ho;done)|exact .bad trivial
end
end
end Par
