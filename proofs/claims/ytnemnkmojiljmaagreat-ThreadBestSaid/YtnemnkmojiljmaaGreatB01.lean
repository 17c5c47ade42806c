/- Part 1. -/
import Derived.Calls
set_option maxRecDepth 100000
set_option maxHeartbeats 0
set_option linter.all false
section
abbrev aa:=@if_neg
abbrev aj:=@if_pos
abbrev ak:=@Option.getD_some
abbrev au:=@Array.getElem?_setIfInBounds_ne
abbrev ax:=@List.not_mem_nil
abbrev ay:=@Option.map_some
abbrev az:=@False.elim
abbrev aA:=@Array.getD_eq_getD_getElem?
abbrev aB:=@List.mem_toArray
abbrev aC:=@List.map_cons
abbrev aD:=@Array.getElem?_setIfInBounds_self_of_lt
abbrev aF:=@List.drop_length
abbrev aG:=@Array.getElem?_map
abbrev aH:=@Nat.add_zero
abbrev aI:=@Array.getElem?_eq_some_iff
abbrev aJ:=@Nat.le_refl
abbrev aK:=@Nat.lt_of_lt_of_le
abbrev aM:=@And.intro
abbrev aO:=@List.getElem?_eq_getElem
abbrev aP:=@Option.bind_eq_some_iff
abbrev aQ:=@List.mem_cons_self
abbrev aR:=@List.mem_cons_of_mem
abbrev aS:=@List.mem_singleton
abbrev aT:=@Nat.le_trans
abbrev aU:=@Option.some.inj
abbrev aV:=@Array.all_eq_true_iff_forall_mem
abbrev aW:=@List.drop_eq_getElem_cons
abbrev aX:=@Array.getElem?_eq_getElem
abbrev aY:=@List.getElem_mem
abbrev aZ:=@List.getElem?_eq_some_iff
abbrev bg:=@Array.mem_of_getElem?
abbrev bn:=@Nat.zero_le
abbrev bq:=@Classical.byContradiction
abbrev bu:=@Nat.lt_or_ge
abbrev bz:=@List.take_succ_eq_append_getElem
abbrev bB:=@Array.getElem?_modify
abbrev bC:=@Bool.and_eq_true
abbrev bD:=@Bool.false_eq_true
abbrev bE:=@List.mem_cons
abbrev bF:=@List.mem_of_mem_take
abbrev bG:=@List.all_eq_true
abbrev bH:=@Array.mem_or_eq_of_mem_setIfInBounds
namespace Par
open Go
class Sh where
 lk:Nat->Bool
 sh:Nat->Nat
 bad:TypeId
 Zo:∀b,lk b=false->sh b=0
 hol:Nat->Bool
 ai2:∀b,hol b=true->lk b=true
@[reducible] def noSh:Sh:=⟨λ_=>false, λ_=>0,0, λ_ _=>rfl, λ_=>false, λ_ h=>by cases h⟩
section
variable [Sh]
theorem OA {b:Nat} (h:Sh.lk b=false):Sh.hol b=false:=by
 cases hx:Sh.hol b with
 |false=>rfl
 |true=>rw [Sh.ai2 b hx] at h;cases h
def ra (f:Nat->Nat) (a:Addr):Addr:={ a with block:=f a.block,off:=a.off+Sh.sh a.block }
@[simp] theorem Jv (f:Nat->Nat) (a:Addr):(ra f a).off=a.off+Sh.sh a.block:=rfl
@[simp] theorem OB (f:Nat->Nat) (a:Addr):(ra f a).spot=a.spot:=rfl
@[simp] theorem wo (f:Nat->Nat) (a:Addr):(ra f a).block=f a.block:=rfl
@[simp] theorem CQ (f:Nat->Nat) (a:Addr) (n:Nat):ra f (a.add n)=(ra f a).add n:=by
  unfold Addr.add;split
  ·rfl
  ·simp only [ra];congr 1;omega
def V7 (f:Nat->Nat):Fn->Fn
 | .yield l=>.yield (f l)
 |x=>x
mutual
def rv (f:Nat->Nat):Value->Value
 | .bool b=>.bool b
 | .int k n=>.int k n
 | .float k b=>.float k b
 | .complex k a b=>.complex k a b
 | .string s=>.string s
 | .pointer a=>.pointer (a.map (ra f))
 | .slice a l c=>.slice (a.map (ra f)) l c
 | .map r=>.map (r.map f)
 | .chan r=>.chan (r.map f)
 | .func fn first cap=>.func (V7 f fn) (OC f first) (OC f cap)
 | .nilFunc=>.nilFunc
 | .iface t v=>.iface t (rv f v)
 | .nilIface=>.nilIface
 | .agg cs=>.agg (OC f cs)
 | .tuple vs=>.tuple (OC f vs)
def OC (f:Nat->Nat):Array Value->Array Value
 |⟨l⟩=>⟨Ku f l⟩
def Ku (f:Nat->Nat):List Value->List Value
 | []=>[]
 |v::l=>rv f v::Ku f l
end
theorem R5 (f:Nat->Nat):∀l:List Value,Ku f l=l.map (rv f)
 | []=>by rw [Ku];rfl
 |v::l=>by rw [Ku,R5 f l];rfl
@[simp] theorem Zq (f:Nat->Nat) (a:Array Value):OC f a=a.map (rv f):=by
  obtain ⟨l⟩:=a;rw [OC,R5];simp
@[simp] theorem mZ (f:Nat->Nat) (b:Bool):rv f (.bool b)= .bool b:=by rw [rv]
@[simp] theorem jE (f:Nat->Nat) (k:IntKind) (n:Int):rv f (.int k n)= .int k n:=by rw [rv]
@[simp] theorem gM (f:Nat->Nat) (s:ByteArray):rv f (.string s)= .string s:=by rw [rv]
@[simp] theorem wu (f:Nat->Nat) (k:FloatKind) (b:Nat):rv f (.float k b)= .float k b:=by rw [rv]
@[simp] theorem rU (f:Nat->Nat) (k:FloatKind) (a b:Nat):rv f (.complex k a b)= .complex k a b:=by rw [rv]
@[simp] theorem eX (f:Nat->Nat) (a:Option Addr):rv f (.pointer a)= .pointer (a.map (ra f)):=by rw [rv]
@[simp] theorem fT (f:Nat->Nat) (a:Option Addr) (l c:Nat):rv f (.slice a l c)= .slice (a.map (ra f)) l c:=by rw [rv]
@[simp] theorem tF (f:Nat->Nat) (r:Option Nat):rv f (.map r)= .map (r.map f):=by rw [rv]
@[simp] theorem xx (f:Nat->Nat) (r:Option Nat):rv f (.chan r)= .chan (r.map f):=by rw [rv]
@[simp] theorem tN (f:Nat->Nat) (fn:Fn) (a b:Array Value):rv f (.func fn a b)= .func (V7 f fn) (a.map (rv f)) (b.map (rv f)):=by rw [rv];simp
@[simp] theorem nV (f:Nat->Nat):rv f .nilFunc= .nilFunc:=by rw [rv]
@[simp] theorem lu (f:Nat->Nat):rv f .nilIface= .nilIface:=by rw [rv]
@[simp] theorem uu (f:Nat->Nat) (t:TypeId) (v:Value):rv f (.iface t v)= .iface t (rv f v):=by rw [rv]
@[simp] theorem uw (f:Nat->Nat) (a:Array Value):rv f (.agg a)= .agg (a.map (rv f)):=by rw [rv];simp
@[simp] theorem wz (f:Nat->Nat) (a:Array Value):rv f (.tuple a)= .tuple (a.map (rv f)):=by rw [rv];simp
@[simp] theorem Kv (f:Nat->Nat):rv f undef=undef:=by simp [undef]
@[simp] theorem MM (f:Nat->Nat):rv f (default:Value)=default:=by
  show rv f (.bool _)= .bool _;simp
theorem wB (f:Nat->Nat) (v:Value):(rv f v).cells=v.cells.map (rv f):=by
 cases v<;>simp [Value.cells]
def rd (f:Nat->Nat) (d:Deferred):Deferred:=
 { target:=match d.target with
    | .fn fn cap=>.fn (V7 f fn) (cap.map (rv f))
    | .collected r=>.collected (f r)
    | .coroexit c=>.coroexit (f c)
    |t=>t
   args:=d.args.map (rv f) }
def re (f:Nat->Nat) (e:MapEntry):MapEntry:={ key:=rv f e.key,val:=rv f e.val,born:=e.born }
def ro (f:Nat->Nat):Obj->Obj
 | .cells c e fr=>.cells (c.map (rv f)) e fr
 | .pending c e=>.pending (c.map (rv f)) e
 | .view a t=>.view (ra f a) t
 | .number a b=>.number (ra f a) b
 | .map es c=>.map (es.map (re f)) c
 | .chan cap buf cl s r t=>.chan cap (buf.map (rv f)) cl s r t
 | .stringIter s p=>.stringIter s p
 | .mapIter m a b c=>.mapIter (m.map f) a b c
 | .loop l=>.loop { l with tmps:=l.tmps.map (rv f),defers:=f l.defers }
 | .deferred ds=>.deferred (ds.map (·.map (rd f)))
 | .coro p=>.coro p
 | .finalizers fs r=>.finalizers (fs.map λx=>(f x.1,rd f x.2)) r
theorem Io (f:Nat->Nat) (o:Obj):(ro f o).isChan=o.isChan:=by cases o<;>rfl
def rm (f:Nat->Nat):Mark->Mark
 | .acquire a=>.acquire (ra f a)
 | .release a=>.release (ra f a)
 | .releaseMerge a=>.releaseMerge (ra f a)
 | .read a=>.read (ra f a)
 | .write a=>.write (ra f a)
 |m=>m
def rl (f:Nat->Nat):Loc->Loc
 | .cell a=>.cell (ra f a)
 | .obj r=>.obj (f r)
 | .mark m=>.mark (rm f m)
 |l=>l
def rev (f:Nat->Nat) (e:Event):Event:={ e with loc:=rl f e.loc }
end
end Par
end
namespace Par
open Go
section
def rw' {α:Type}:Result α->World
 | .ok _ w=>w
 | .halt _ w=>w
theorem EO {P:Program} {w w':World} {a b:Addr} {u:TypeId} {v:Value} {x:Bool} {l:List Addr} (h:w.viewStore P a u b v x= .ok (w',l)):w'.heap.size=w.heap.size:=by
 unfold World.viewStore at h;simp only [bind,Except.bind,pure,Except.pure,MonadExcept.throw,throwThe,MonadExceptOf.throw] at h
 repeat' (first |split at h|(cases h;done))
 all_goals (try (cases h;simp))
theorem Hy {P:Program} {w w':World} {a:Addr} {v:Value} {x:Bool} {l:List Addr} (h:w.farStore P a v x= .ok (w',l)):w'.heap.size=w.heap.size:=by
 unfold World.farStore at h;split at h
 ·split at h
  ·cases h;rename_i h;exact EO h
  ·cases h
 ·cases h
theorem EP {α:Type}:∀(m:Ask α) (w:World),(w.ask m).2.heap=w.heap
 | .done a,w=>rfl
 | .ask q r k,w=>by
   unfold World.ask;dsimp only;split
   ·exact EP _ w
   ·exact EP _ _
theorem Kw (w:World) (c:Sys):(w.sys c).2.heap=w.heap:=by
 unfold World.sys;have :=EP (Kernel.perform c w.os) w;split
 ·rfl
 ·rename_i h;rw [h] at this;exact this
theorem Ky (w:World) (a:Addr) (n:Nat):(w.freeze a n).heap.size=w.heap.size:=by
 unfold World.freeze;split<;>simp
theorem runT_size {P:Program} {α:Type} (m:Sem α):∀(w:World) (es:Array Event),w.heap.size<=(rw' (m.runT P w es).1).heap.size:=by
 induction m with
 |pure a=>intro w es;exact aJ _
 |load m a k ih=>
  intro w es;simp only [Sem.runT];split
  ·exact ih _ _ _
  ·split
   ·exact ih _ _ _
   ·exact aJ _
 |store m a v k ih=>
  intro w es;have :∀(w w':World) es,w'.heap.size=w.heap.size->w.heap.size<=(rw' (k.runT P w' es).1).heap.size:= λw w' es h=>by rw [<-h];exact ih _ _
  cases v<;>first
   |(simp only [Sem.runT];exact aJ _)
   |(simp only [Sem.runT];split
     ·split
      ·exact aJ _
      ·exact this _ _ _ (by simp [World.setCell])
     ·split
      ·rename_i h;exact this _ _ _ (Hy h)
      ·exact aJ _)
 |new o k ih=>
  intro w es;simp only [Sem.runT];have :=ih w.heap.size { w with heap:=w.heap.push o } es;simp only [Array.size_push] at this;omega
 |shape r k ih=>intro w es;simp only [Sem.runT];exact ih _ _ _
 |freeze a n k ih=>intro w es;simp only [Sem.runT];have :=ih (w.freeze a n) es;rw [Ky] at this;exact this
 |frozen a k ih=>intro w es;simp only [Sem.runT];exact ih _ _ _
 |getObj r k ih=>
  intro w es;simp only [Sem.runT];split
  ·exact aJ _
  ·exact ih _ _ _
  ·exact aJ _
 |setObj r o k ih=>
  intro w es;simp only [Sem.runT];split
  ·exact aJ _
  ·have :=ih { w with heap:=w.heap.setIfInBounds r o } (es.push ⟨.obj r,true,o.isChan⟩);simpa using this
  ·exact aJ _
 |choose q k ih=>
  intro w es;simp only [Sem.runT];split
  ·exact ih _ _ _
  ·exact ih _ { w with drawn:=w.drawn+1 } _
 |sys c k ih=>
  intro w es;simp only [Sem.runT];have :=ih (w.sys c).1 (w.sys c).2 (es.push ⟨.output,true,false⟩);rw [Kw] at this;exact this
 |program k ih=>intro w es;simp only [Sem.runT];exact ih _ _ _
 |mark m k ih=>intro w es;simp only [Sem.runT];exact ih _ _
 |halt h=>intro w es;exact aJ _
end
end Par
section
def Go.Program.stub (P:Go.Program) (q:Go.FuncId) (c:Go.Code):Go.Program:={ P with funcs:=P.funcs.modify q λfn=>{ fn with body:=some c } }
namespace Par
open Go
variable [Sh]
structure Fit where
 S:FuncId->Bool
 A:Nat->Bool
 code:Code->Bool
 V:FuncId->Bool
def Yy (F:Fit):Fn->Bool
 | .func g=>F.V g
 | .yield l=>F.A l
 |_=>false
def opA (F:Fit):Option Nat->Bool
 |none=>true
 |some r=>F.A r
def V8 (F:Fit):Option Addr->Bool
 |none=>true
 |some a=>F.A a.block
def MJ (F:Fit) (a:Option Addr) (l c:Nat):Bool:=V8 F a||(a.any (λa=>Sh.hol a.block)&&(l==0&&c==0))
mutual
def vs (F:Fit):Value->Bool
 | .func fn first cap=>Yy F fn&&MN F first &&MN F cap
 | .iface _ v=>vs F v
 | .agg cs=>MN F cs
 | .tuple cs=>MN F cs
 | .bool _=>true
 | .int _ _=>true
 | .float _ _=>false
 | .complex _ _ _=>false
 | .string _=>true
 | .pointer a=>V8 F a
 | .slice a l c=>MJ F a l c
 | .map r=>opA F r
 | .chan r=>r.isNone
 | .nilFunc=>true
 | .nilIface=>true
def MN (F:Fit):Array Value->Bool
 |⟨l⟩=>MK F l
def MK (F:Fit):List Value->Bool
 | []=>true
 |v::l=>vs F v&&MK F l
end
section
variable {F:Fit}
theorem OD:∀{l:List Value},MK F l=true↔∀v∈l,vs F v=true
 | []=>by rw [MK];simp
 |v::l=>by rw [MK];simp [OD (l:=l)]
theorem EC {a:Array Value}:MN F a=true↔∀v∈a,vs F v=true:=by
 obtain ⟨l⟩:=a;rw [MN,OD];simp
end
def VS (F:Fit) (a:Array Value):Prop:=∀v∈a,vs F v=true
section
variable {F:Fit}
@[simp] theorem xy (b:Bool):vs F (.bool b)=true:=by rw [vs]
@[simp] theorem MO (k:IntKind) (n:Int):vs F (.int k n)=true:=by rw [vs]
@[simp] theorem ai1 (s:ByteArray):vs F (.string s)=true:=by rw [vs]
@[simp] theorem ai3 (k:FloatKind) (b:Nat):vs F (.float k b)=false:=by rw [vs]
@[simp] theorem Zr (k:FloatKind) (a b:Nat):vs F (.complex k a b)=false:=by rw [vs]
@[simp] theorem ER (a:Option Addr):vs F (.pointer a)=V8 F a:=by rw [vs]
@[simp] theorem jo (a:Option Addr) (l c:Nat):vs F (.slice a l c)=MJ F a l c:=by rw [vs]
@[simp] theorem as3 (r:Option Nat):vs F (.map r)=opA F r:=by rw [vs]
@[simp] theorem as1 (r:Option Nat):vs F (.chan r)=r.isNone:=by rw [vs]
@[simp] theorem Zt:vs F .nilFunc=true:=by rw [vs]
@[simp] theorem Yz:vs F .nilIface=true:=by rw [vs]
@[simp] theorem ai4 (t:TypeId) (v:Value):vs F (.iface t v)=vs F v:=by rw [vs]
@[simp] theorem ai5:V8 F none=true:=rfl
@[simp] theorem yJ (a:Addr):V8 F (some a)=F.A a.block:=rfl
@[simp] theorem ai6 (l c:Nat):MJ F none l c=true:=rfl
theorem vP {a:Option Addr} {l c:Nat} (h:V8 F a=true):MJ F a l c=true:=by unfold MJ;rw [h];rfl
theorem sM {a:Addr} {l c:Nat} (h:MJ F (some a) l c=true):F.A a.block=true∨(Sh.hol a.block=true∧l=0∧c=0):=by
 simpa [MJ] using h
theorem yK (F:Fit) (a:Addr) (l c:Nat): @MJ noSh F (some a) l c=F.A a.block:=by simp [MJ]
@[simp] theorem ai7:opA F none=true:=rfl
@[simp] theorem ai8 (r:Nat):opA F (some r)=F.A r:=rfl
theorem rV {a:Array Value}:vs F (.agg a)=true↔VS F a:=by rw [vs,EC];rfl
theorem wC {a:Array Value}:vs F (.tuple a)=true↔VS F a:=by rw [vs,EC];rfl
theorem xz {fn:Fn} {a b:Array Value}:vs F (.func fn a b)=true↔Yy F fn=true∧VS F a∧VS F b:=by
 rw [vs,bC,bC,EC,EC,and_assoc];rfl
@[simp] theorem uy:vs F undef=true:=by unfold undef;rw [wC];intro v hv;simp at hv
@[simp] theorem MP:vs F (default:Value)=true:=by show vs F (.bool _)=true;simp
theorem VS.cells {v:Value} (h:vs F v=true):VS F v.cells:=by
 cases v<;>first |exact rV.1 h|(intro x hx;simp [Value.cells] at hx;subst hx;exact h)
end
def oS (F:Fit):Obj->Prop
 | .cells c _ _=>VS F c
 | .number a _=>F.A a.block=true
 | .map es _=>∀e∈es,vs F e.key=true∧vs F e.val=true
 | .stringIter .. =>True
 | .mapIter m .. =>opA F m=true
 | .loop l=>VS F l.tmps∧F.S l.fn=true∧F.A l.defers=true∧F.code l.assign=true∧F.code l.body=true∧(∀c,l.pending=some c->F.code c=true)
 | .deferred ds=>ds=some []∨ds=none
 |_=>False
def kT (o:Obj):Prop:=∃c e fr,o= .cells c e fr∧∀i,i<c.size->fr.1<=i∧i<fr.2
def isCells:Obj->Bool
 | .cells .. =>true
 |_=>false
def BR (F:Fit) (f:Nat->Nat) (b:Nat) (o:Obj) (O:Option Obj):Prop:=
 (Sh.lk b=false∧oS F o∧isCells o=false∧O=some (ro f o))∨
 (Sh.lk b=false∧∃c e fr fr',o= .cells c e fr∧VS F c∧O=some (.cells (c.map (rv f)) e fr')∧∀i,i<c.size->fr'.1<=i->i<fr'.2->fr.1<=i∧i<fr.2)∨
 (Sh.lk b=true∧∃c fr C e' fr',o= .cells c Sh.bad fr∧VS F c∧(∀i,i<c.size->fr.1<=i∧i<fr.2)∧O=some (.cells C e' fr')∧∀i v,c[i]?=some v->C[i+Sh.sh b]?=some (rv f v))
structure WR (F:Fit) (f:Nat->Nat) (w W:World):Prop where
 lt:∀b,b<w.heap.size->F.A b=true->f b<W.heap.size
 blk:∀b o,F.A b=true->w.heap[b]?=some o->BR F f b o W.heap[f b]?
def Kz:Halt->Prop
 | .panic _| .stuck _=>True
 | .unsupported (.initOrder _)=>False
 | .unsupported _=>True
 |_=>False
def DK (w w':World):Prop:=∀(r:Nat) ds,w'.heap[r]?=some (Obj.deferred ds)->w.heap[r]?=some (Obj.deferred ds)
theorem DK.refl {w:World}:DK w w:= λ_ _ h=>h
theorem DK.trans {a b c:World} (h:DK a b) (k:DK b c):DK a c:= λr ds x=>h r ds (k r ds x)
def ES (F:Fit) (w:World):Prop:=∀(r:Nat) ds,F.A r=true->w.heap[r]?=some (Obj.deferred ds)->ds=some []∨ds=none
def Alike (P Q:Program):Prop:=Q=P∨∃(q:FuncId) (c c0:Code) (fn:Func),P.funcs[q]?=some fn∧fn.body=some c0∧Q=P.stub q c
theorem Alike.refl (P:Program):Alike P P:=.inl rfl
inductive dN (P:Program) (F:Fit) (f:Nat->Nat) {α β:Type} (R:α->β->Prop):Sem α->Sem β->Prop
 |pure {a:α} {b:β} (h:R a b):dN P F f R (.pure a) (.pure b)
 |load {a:Addr} {k:Value->Sem α} {k':Value->Sem β} (hA:F.A a.block=true) (h:∀v,vs F v=true->dN P F f R (k v) (k' (rv f v))):dN P F f R (.load .plain a k) (.load .plain (ra f a) k')
 |store {a:Addr} {v:Value} {k:Sem α} {k':Sem β} (hA:F.A a.block=true) (hv:vs F v=true) (h:dN P F f R k k'):dN P F f R (.store .plain a v k) (.store .plain (ra f a) (rv f v) k')
 |new {o:Obj} {k:Nat->Sem α} {k':Nat->Sem β} (ho:oS F o) (h:∀r,F.A r=true->Sh.lk r=false->dN P F f R (k r) (k' (f r))):dN P F f R (.new o k) (.new (ro f o) k')
 |rW {c:Array Value} {e:TypeId} {k0:Nat->Option (TypeId×Nat)->Sem α} {k0':Nat->Option (TypeId×Nat)->Sem β} {k:Nat->Sem α} {k':Nat->Sem β} (ho:VS F c)
   (e1:∀r,k0 r (some (e,c.size))= .freeze ⟨r,c.size,none⟩ 1 (k r)) (e2:∀r,k0' r (some (e,c.size))= .freeze ⟨r,c.size,none⟩ 1 (k' r))
   (h:∀r,F.A r=true->Sh.lk r=false->dN P F f R (k r) (k' (f r))):dN P F f R (.new (.cells c e (0,0)) λr=>.shape r (k0 r)) (.new (.cells (c.map (rv f)) e (0,0)) λr=>.shape r (k0' r))
 |shape {r:Nat} {k:Option (TypeId×Nat)->Sem α} {k':Option (TypeId×Nat)->Sem β} (hA:F.A r=true) (h:∀s,(Sh.lk r=true->s=none)->dN P F f R (k s) (k' s)) (hl:Sh.lk r=true->∀n s,dN P F f R (k (some (Sh.bad,n))) (k' (some s))):dN P F f R (.shape r k) (.shape (f r) k')
 |getObj {r:Nat} {k:Obj->Sem α} {k':Obj->Sem β} (hA:F.A r=true) (h:∀o,oS F o->isCells o=false->Sh.lk r=false->dN P F f R (k o) (k' (ro f o))):dN P F f R (.getObj r k) (.getObj (f r) k')
 |ET {r:Nat} {k:Obj->Sem α} {m':Sem β} (hA:F.A r=true) (hl:Sh.lk r=true):dN P F f R (.getObj r k) m'
 |setObj {r:Nat} {o:Obj} {k:Sem α} {k':Sem β} (hA:F.A r=true) (ho:oS F o) (hc:isCells o=false) (h:dN P F f R k k'):dN P F f R (.setObj r o k) (.setObj (f r) (ro f o) k')
 |choose {q:Question} {k:Nat->Sem α} {k':Nat->Sem β} (h:∀n,dN P F f R (k n) (k' n)):dN P F f R (.choose q k) (.choose q k')
 |program {k:Program->Sem α} {k':Program->Sem β} (e:∀Q,Alike P Q->k' Q=k' P) (h:dN P F f R (k P) (k' P)):dN P F f R (.program k) (.program k')
 |noRoom {k:Sem α} {k':Sem β} (h:dN P F f R k k'):dN P F f R (.mark .noRoom k) (.mark .noRoom k')
 |oP {m:Sem α} {m':Sem β} (h:∀w es,∃x w' es',m.runT P w es=(.halt x w',es')∧Kz x∧DK w w'):dN P F f R m m'
theorem dN.bad {P:Program} {F:Fit} {f:Nat->Nat} {α β:Type} {R:α->β->Prop} {h:Halt} {m':Sem β} (hb:Kz h):dN P F f R (.halt h) m':=.oP λ_ _=>⟨_,_,_,rfl,hb,DK.refl⟩
structure Ag (F:Fit) (f:Nat->Nat) (w W:World):Prop where
 wr:WR F f w W
 tape:∀j q,w.tape (w.drawn+j) q=W.tape (W.drawn+j) q
 next :∀j,f (w.heap.size+j)=W.heap.size+j
 Kt:∀b,w.heap.size<=b->Sh.lk b=false
 hol:∀b,F.A b=true->Sh.hol b=false
def YA (F:Fit) (w:World) (e:Event):Prop:=
 e.sync=(match e.loc with | .mark _=>true|_=>false)∧
 match e.loc with
 | .cell a=>F.A a.block=true∧(∃v,w.cell? a=some v)∧(e.write=true->∃o:Obj,w.heap[a.block]?=some o∧¬kT o)
 | .obj r=>F.A r=true∧∃o:Obj,w.heap[r]?=some o∧isCells o=false
 | .mark m=>m= .noRoom
 |_=>False
structure Mv (F:Fit) (f:Nat->Nat) (w W w1 W1:World):Prop where
 ag:Ag F f w1 W1
 tape:w1.tape=w.tape
 tape':W1.tape=W.tape
 os:w1.os=w.os
 os':W1.os=W.os
 out':W1.output=W.output
 drawn:∃k,w1.drawn=w.drawn+k∧W1.drawn=W.drawn+k
 size:∃k,w1.heap.size=w.heap.size+k∧W1.heap.size=W.heap.size+k
 lock:∀(b:Nat) (o:Obj),w.heap[b]?=some o->∃o1:Obj,w1.heap[b]?=some o1∧(kT o1↔kT o)∧isCells o1=isCells o∧(kT o->o1=o)
 cell:∀a v,w.cell? a=some v->∃v1,w1.cell? a=some v1
 frame:∀B:Nat,B<W.heap.size->W1.heap[B]?=W.heap[B]?∨∃(b:Nat) (o:Obj),F.A b=true∧w.heap[b]?=some o∧f b=B∧¬kT o
theorem YA.mono {F:Fit} {f:Nat->Nat} {w W w1 W1:World} (h:Mv F f w W w1 W1) {e:Event} (he:YA F w e):YA F w1 e:=by
 obtain ⟨loc,wr,sy⟩:=e;refine ⟨he.1,?_⟩;have h2:=he.2;cases loc with
 |cell a=>
  obtain ⟨hA,⟨v,hv⟩,hw⟩:=h2;refine ⟨hA,h.cell a v hv, λx=>?_⟩;obtain ⟨o,ho,hl⟩:=hw x;obtain ⟨o1,ho1,hl1,_⟩:=h.lock _ o ho;exact ⟨o1,ho1, λy=>hl (hl1.1 y)⟩
 |obj r=>
  obtain ⟨hA,o,ho,hl⟩:=h2;obtain ⟨o1,ho1,_,hc,_⟩:=h.lock _ o ho;exact ⟨hA,o1,ho1,hc.trans hl⟩
 |output=>exact h2
 |goroutines=>exact h2
 |mark m=>exact h2
theorem Mv.refl {F:Fit} {f:Nat->Nat} {w W:World} (h:Ag F f w W):Mv F f w W w W:=
 ⟨h,rfl,rfl,rfl,rfl,rfl,⟨0,rfl,rfl⟩,⟨0,rfl,rfl⟩, λ_ o ho=>⟨o,ho,Iff.rfl,rfl, λ_=>rfl⟩, λ_ v hv=>⟨v,hv⟩, λ_ _=>.inl rfl⟩
theorem Mv.trans {F:Fit} {f:Nat->Nat} {w W w1 W1 w2 W2:World} (h0:Ag F f w W) (h:Mv F f w W w1 W1) (k:Mv F f w1 W1 w2 W2):Mv F f w W w2 W2:=by
 obtain ⟨k1,a1,b1⟩:=h.drawn;obtain ⟨k2,a2,b2⟩:=k.drawn;obtain ⟨s1,c1,d1⟩:=h.size;obtain ⟨s2,c2,d2⟩:=k.size;refine ⟨k.ag,k.tape.trans h.tape,k.tape'.trans h.tape',k.os.trans h.os,k.os'.trans h.os',k.out'.trans h.out',⟨k1+k2,by omega,by omega⟩,⟨s1+s2,by omega,by omega⟩, λb o ho=>?_, λa v hv=>?_, λB hB=>?_⟩
 ·obtain ⟨o1,ho1,hl1,hc1,he1⟩:=h.lock b o ho;obtain ⟨o2,ho2,hl2,hc2,he2⟩:=k.lock b o1 ho1;exact ⟨o2,ho2,hl2.trans hl1,hc2.trans hc1, λhl=>(he2 (hl1.2 hl)).trans (he1 hl)⟩
 ·obtain ⟨v1,hv1⟩:=h.cell a v hv;exact k.cell a v1 hv1
 ·rcases k.frame B (by omega) with e|⟨b,o1,hA,ho1,hb,hl⟩
  ·rcases h.frame B hB with e'|x
   ·exact .inl (e.trans e')
   ·exact .inr x
  ·
   by_cases hlt:b<w.heap.size
   ·have ho:w.heap[b]?=some w.heap[b]:=by simp [hlt]
    obtain ⟨o1',ai9,hl1,_⟩:=h.lock b _ ho;rw [ho1] at ai9;cases ai9;exact .inr ⟨b,_,hA,ho,hb, λy=>hl (hl1.2 y)⟩
   ·exfalso;have :=h0.next (b - w.heap.size);rw [show w.heap.size+(b - w.heap.size)=b from by omega] at this;omega
section
variable {F:Fit} {f:Nat->Nat} {w W:World}
theorem WR.cell (h:WR F f w W) {a:Addr} {v:Value} (hA:F.A a.block=true) (hv:w.cell? a=some v):W.cell? (ra f a)=some (rv f v)∧vs F v=true:=by
 unfold World.cell? at hv ⊢;cases hb:w.heap[a.block]? with
 |none=>rw [hb] at hv;cases hv
 |some o=>
  rw [hb] at hv;cases o with
  |cells c e fr=>
   dsimp only at hv
   by_cases hs:a.spot.isSome=true
   ·rw [aj hs] at hv;cases hv
   ·rw [aa hs] at hv;rcases h.blk _ _ hA hb with ⟨_,_,h1,_⟩|⟨hl,c',e',fr',aj0,h1,hS,h2,_⟩|⟨hl,c',vk,C,e',fr',h1,hS,_,h2,h3⟩
    ·cases h1
    ·cases h1;refine ⟨?_,hS v (bg hv)⟩;simp only [wo,h2];rw [aa (show ¬(ra f a).spot.isSome=true from hs)];simp [hv,Sh.Zo _ hl]
    ·cases h1;refine ⟨?_,hS v (bg hv)⟩;simp only [wo,h2];rw [aa (show ¬(ra f a).spot.isSome=true from hs)];exact h3 _ _ hv
  |_=>cases hv
theorem WR.frozen (h:WR F f w W) {a:Addr} {v:Value} (hA:F.A a.block=true) (hv:w.cell? a=some v) (hf:w.frozen? a=false):W.frozen? (ra f a)=false:=by
 unfold World.cell? at hv;unfold World.frozen? at hf ⊢;cases hb:w.heap[a.block]? with
 |none=>rw [hb] at hv;cases hv
 |some o=>
  rw [hb] at hv hf;cases o with
  |cells c e fr=>
   dsimp only at hv hf
   by_cases hs:a.spot.isSome=true
   ·rw [aj hs] at hv;cases hv
   ·rw [aa hs] at hv;have hlt:a.off<c.size:=(aI.1 hv).1;rcases h.blk _ _ hA hb with ⟨_,_,h1,_⟩|⟨hl,c',e',fr',aj0,h1,hS,h2,h3⟩|⟨hl,c',vk,C,e',fr',h1,hS,h3,h2,_⟩
    ·cases h1
    ·cases h1;simp only [wo,h2,Jv,Sh.Zo _ hl,aH];have :=h3 a.off hlt;rw [Bool.eq_false_iff] at hf ⊢;intro hx;rw [bC] at hx;have :=this (of_decide_eq_true hx.1) (of_decide_eq_true hx.2);exact hf (by simp [this.1,this.2])
    ·cases h1;have :=h3 a.off hlt;simp [this.1,this.2] at hf
  |_=>cases hv
theorem WR.Jw (h:WR F f w W) {r:Nat} (hA:F.A r=true) (hl:Sh.lk r=true):w.heap[r]?=none∨∃c fr,w.heap[r]?=some (.cells c Sh.bad fr):=by
 cases hr:w.heap[r]? with
 |none=>exact .inl rfl
 |some o=>
  rcases h.blk r o hA hr with ⟨h4,_⟩|⟨h4,_⟩|⟨_,c,fr,C,e',fr',rfl,_⟩
  ·rw [h4] at hl;cases hl
  ·rw [h4] at hl;cases hl
  ·exact .inr ⟨c,fr,rfl⟩
theorem WR.noCell (h:WR F f w W) (a:Addr) (hA:F.A a.block=true) (what:String):Kz (w.noCell a what)∧∀P b,∃x,w.farLoad P a b= .error x∧Kz x:=by
 have key:∀o,w.heap[a.block]?=some o->(∀c e,o≠ .pending c e)∧∀c e,o≠ .view c e:=by
  intro o ho;rcases h.blk _ _ hA ho with ⟨_,hS,_,_⟩|⟨_,c,e,fr,fr',rfl,_⟩|⟨_,c,fr,C,e',fr',rfl,_⟩
  ·constructor<;>(rintro c e rfl;exact hS)
  ·exact ⟨by simp,by simp⟩
  ·exact ⟨by simp,by simp⟩
 have hn:∀what,Kz (w.noCell a what):=by
  intro what;unfold World.noCell;cases hb:w.heap[a.block]? with
  |none=>exact trivial
  |some o=>
   have :=key o hb;cases o<;>first |(exact trivial)|exact absurd rfl (this.1 _ _)|exact absurd rfl (this.2 _ _)
 refine ⟨hn what, λP b=>?_⟩;unfold World.farLoad;cases hb:w.heap[a.block]? with
 |none=>exact ⟨_,rfl,hn _⟩
 |some o=>
  have :=key o hb;cases o<;>first |exact ⟨_,rfl,hn _⟩|exact absurd rfl (this.2 _ _)
theorem WR.OE (h:WR F f w W) (a:Addr) (hA:F.A a.block=true) (P:Program) (v:Value) (b:Bool):∃x,w.farStore P a v b= .error x∧Kz x:=by
 have key:∀o,w.heap[a.block]?=some o->(∀c e,o≠ .pending c e)∧∀c e,o≠ .view c e:=by
  intro o ho;rcases h.blk _ _ hA ho with ⟨_,hS,_,_⟩|⟨_,c,e,fr,fr',rfl,_⟩|⟨_,c,fr,C,e',fr',rfl,_⟩
  ·constructor<;>(rintro c e rfl;exact hS)
  ·exact ⟨by simp,by simp⟩
  ·exact ⟨by simp,by simp⟩
 unfold World.farStore;cases hb:w.heap[a.block]? with
 |none=>exact ⟨_,rfl,(h.noCell a hA _).1⟩
 |some o=>
  have :=key o hb;cases o<;>first |exact ⟨_,rfl,(h.noCell a hA _).1⟩|exact absurd rfl (this.2 _ _)
theorem DT {w:World} {a b:Addr} {v x:Value} (h:w.cell? b=some x):∃y,(w.setCell a v).cell? b=some y:=by
 unfold World.cell? at h ⊢;unfold World.setCell;simp only [bB];cases hb:w.heap[b.block]? with
 |none=>rw [hb] at h;cases h
 |some o=>
  rw [hb] at h
  by_cases e:a.block=b.block
  ·rw [aj e];cases o with
   |cells c el fr=>
    dsimp only at h
    by_cases hs:b.spot.isSome=true
    ·rw [aj hs] at h;cases h
    ·rw [aa hs] at h;have hlt:=(aI.1 h).1;simp only [ay];rw [aa hs]
     by_cases ha:a.spot.isSome=true
     ·rw [aj ha];exact ⟨x,h⟩
     ·rw [aa ha];exact ⟨_,aI.2 ⟨by simpa using hlt,rfl⟩⟩
   |_=>cases h
  ·rw [aa e];exact ⟨x,h⟩
theorem kT.set {o:Obj} {i:Nat} {v:Value} {s:Bool}:kT (match o with | .cells c e fr=>.cells (if s then c else c.setIfInBounds i v) e fr|o=>o)↔kT o:=by
 cases o with
 |cells c e fr=>
  constructor
  ·rintro ⟨c',e',fr',h,hl⟩;cases h;refine ⟨c,e,fr,rfl, λi hi=>hl i ?_⟩;split<;>simpa using hi
  ·rintro ⟨c',e',fr',h,hl⟩;cases h;refine ⟨_,e,fr,rfl, λi hi=>hl i ?_⟩;split at hi<;>simpa using hi
 |_=>exact Iff.rfl
theorem Ag.store (hf:∀a b,Sh.lk a=false->Sh.hol b=false->f a=f b->a=b) (h:Ag F f w W) {a:Addr} {v x:Value} (hA:F.A a.block=true) (hc:w.cell? a=some x) (hz:w.frozen? a=false) (hv:vs F v=true):
 Mv F f w W (w.setCell a v) (W.setCell (ra f a) (rv f v))∧∃o,w.heap[a.block]?=some o∧¬kT o:=by
 have hspot:a.spot.isSome=false∧∃c e fr,w.heap[a.block]?=some (.cells c e fr)∧c[a.off]?=some x:=by
  unfold World.cell? at hc;cases hb:w.heap[a.block]? with
  |none=>rw [hb] at hc;cases hc
  |some o=>
   rw [hb] at hc;cases o with
   |cells c e fr=>
    dsimp only at hc
    by_cases hs:a.spot.isSome=true
    ·rw [aj hs] at hc;cases hc
    ·rw [aa hs] at hc;exact ⟨by simpa using hs,c,e,fr,rfl,hc⟩
   |_=>cases hc
 obtain ⟨hs,c,e,fr,hb,hcx⟩:=hspot;have hlt:=(aI.1 hcx).1
 have hnl:¬kT (Obj.cells c e fr):=by
  rintro ⟨c',e',fr',h',hl⟩;cases h';have :=hl a.off hlt;unfold World.frozen? at hz;rw [hb] at hz;simp [this.1,this.2] at hz
 obtain ⟨hlk,hS,fr',hW,hfr⟩:Sh.lk a.block=false∧VS F c∧∃fr',W.heap[f a.block]?=some (.cells (c.map (rv f)) e fr')∧∀i,i<c.size->fr'.1<=i->i<fr'.2->fr.1<=i∧i<fr.2:=by
  rcases h.wr.blk _ _ hA hb with ⟨_,_,h1,_⟩|⟨hl,c',e',fr',aj0,h1,hS,h2,h3⟩|⟨hl,c',vk,C,e',fr',h1,hS,h3,h2,_⟩
  ·cases h1
  ·cases h1;exact ⟨hl,hS,_,h2,h3⟩
  ·cases h1;exact absurd ⟨_,_,_,rfl,h3⟩ hnl
 have hbl:=(aI.1 hb).1
 have e1:(w.setCell a v).heap[a.block]?=some (.cells (c.setIfInBounds a.off v) e fr):=by
  unfold World.setCell;simp [bB,hb,hs]
 have e2:(W.setCell (ra f a) (rv f v)).heap[f a.block]?=some (.cells ((c.map (rv f)).setIfInBounds a.off (rv f v)) e fr'):=by
  unfold World.setCell;simp [bB,hW,hs,Sh.Zo _ hlk]
 have n1:∀b,b≠a.block->(w.setCell a v).heap[b]?=w.heap[b]?:= λb hne=>by
  unfold World.setCell;simp [bB,Ne.symm hne]
 have n2:∀b,b≠f a.block->(W.setCell (ra f a) (rv f v)).heap[b]?=W.heap[b]?:= λb hne=>by
  unfold World.setCell;simp [bB,Ne.symm hne]
 have s1:(w.setCell a v).heap.size=w.heap.size:=by simp [World.setCell]
 have s2:(W.setCell (ra f a) (rv f v)).heap.size=W.heap.size:=by simp [World.setCell]
 refine ⟨⟨⟨⟨λb hb' KA=>by rw [s2];exact h.wr.lt b (by rw [s1] at hb';exact hb') KA, λb o KA ho=>?_⟩,h.tape, λj=>by rw [s1,s2];exact h.next j, λb hb=>h.Kt b (by rwa [s1] at hb),h.hol⟩,rfl,rfl,rfl,rfl,rfl,⟨0,rfl,rfl⟩,⟨0,by rw [s1];rfl,by rw [s2];rfl⟩, λb o ho=>?_, λb y hy=>DT hy, λB hB=>?_⟩,_,hb,hnl⟩
 ·by_cases e:b=a.block
  ·subst e;rw [e1] at ho;cases ho;refine .inr (.inl ⟨hlk,_,_,_,fr',rfl,?_,?_,?_⟩)
   ·intro y hy;rcases bH hy with hy|rfl
    ·exact hS y hy
    ·exact hv
   ·rw [e2,Array.map_setIfInBounds]
   ·simpa using hfr
  ·rw [n1 b e] at ho;rw [n2 (f b) (λx=>e (hf _ _ hlk (h.hol b KA) x.symm).symm)];exact h.wr.blk b o KA ho
 ·by_cases e':b=a.block
  ·subst e';rw [hb] at ho;cases ho;refine ⟨_,e1,?_,rfl, λhl=>absurd hl hnl⟩;constructor
   ·rintro ⟨c',e',fr',h',hl⟩;cases h';exact ⟨c,e,fr,rfl,by simpa using hl⟩
   ·rintro ⟨c',e',fr',h',hl⟩;cases h';exact ⟨_,e,fr,rfl,by simpa using hl⟩
  ·exact ⟨o,by rw [n1 b e'];exact ho,Iff.rfl,rfl, λ_=>rfl⟩
 ·by_cases e':B=f a.block
  ·exact .inr ⟨a.block,_,hA,hb,e'.symm,hnl⟩
  ·exact .inl (n2 B e')
theorem Ag.new (h:Ag F f w W) {o O:Obj} (ho:BR F f w.heap.size o (some O)):Mv F f w W { w with heap:=w.heap.push o } { W with heap:=W.heap.push O }:=by
 have hn:=h.next 0;simp only [aH] at hn;refine ⟨⟨⟨λb hb KA=>?_, λb x KA hx=>?_⟩,h.tape, λj=>?_, λb hb=>h.Kt b (by simp at hb;omega),h.hol⟩,rfl,rfl,rfl,rfl,rfl,⟨0,rfl,rfl⟩,⟨1,by simp,by simp⟩, λb x hx=>⟨x,?_,Iff.rfl,rfl, λ_=>rfl⟩, λa v hv=>⟨v,?_⟩, λB hB=>.inl ?_⟩
 ·simp only [Array.size_push] at hb ⊢;rcases bu b w.heap.size with hlt|hge
  ·exact Nat.lt_succ_of_lt (h.wr.lt b hlt KA)
  ·obtain rfl:b=w.heap.size:=by omega
   omega
 ·rcases bu b w.heap.size with hlt|hge
  ·rw [Array.getElem?_push_lt hlt] at hx;have :=h.wr.blk b x KA (by rw [aX hlt];exact hx);rw [Array.getElem?_push_lt (h.wr.lt b hlt KA)]
   rwa [aX (h.wr.lt b hlt KA)] at this
  ·have hb:b<w.heap.size+1:=by simpa using (aI.1 hx).1
   obtain rfl:b=w.heap.size:=by omega
   simp only [Array.getElem?_push_size] at hx;cases hx;rw [hn];simpa using ho
 ·have :=h.next (j+1);simp only [Array.size_push];rw [show w.heap.size+1+j=w.heap.size+(j+1) from by omega,this];omega
 ·have :=(aI.1 hx).1;rw [Array.getElem?_push_lt this, <-aX this];exact hx
 ·unfold World.cell? at hv ⊢;cases hb:w.heap[a.block]? with
  |none=>rw [hb] at hv;cases hv
  |some y=>
   rw [hb] at hv;have :=(aI.1 hb).1;rw [Array.getElem?_push_lt this, <-aX this,hb];exact hv
 ·simp only [];rw [Array.getElem?_push_lt hB,aX hB]
end
end Par
end
