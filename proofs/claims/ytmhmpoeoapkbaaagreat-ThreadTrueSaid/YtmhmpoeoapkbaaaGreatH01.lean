/- Part 1. -/
import Derived.Maps.AppendAt
import Derived.Below
set_option maxRecDepth 100000
set_option maxHeartbeats 0
set_option linter.all false
section
abbrev aa:=@if_neg
abbrev aj:=@if_pos
abbrev ak:=@Option.getD_some
abbrev au:=@Array.getElem?_setIfInBounds_ne
abbrev ax:=@List.not_mem_nil
abbrev ay:=@Option.map_some
abbrev az:=@False.elim
abbrev aA:=@Array.getD_eq_getD_getElem?
abbrev aB:=@List.mem_toArray
abbrev aC:=@List.map_cons
abbrev aD:=@Array.getElem?_setIfInBounds_self_of_lt
abbrev aF:=@List.drop_length
abbrev aG:=@Array.getElem?_map
abbrev aH:=@Nat.add_zero
abbrev aI:=@Array.getElem?_eq_some_iff
abbrev aJ:=@Nat.le_refl
abbrev aK:=@Nat.lt_of_lt_of_le
abbrev aM:=@And.intro
abbrev aN:=@List.getElem?_eq_getElem
abbrev aO:=@Option.bind_eq_some_iff
abbrev aP:=@List.mem_cons_self
abbrev aQ:=@List.mem_cons_of_mem
abbrev aR:=@List.mem_singleton
abbrev aS:=@Nat.le_trans
abbrev aT:=@Option.some.inj
abbrev aU:=@Array.all_eq_true_iff_forall_mem
abbrev aV:=@List.drop_eq_getElem_cons
abbrev aW:=@Array.getElem?_eq_getElem
abbrev aX:=@List.getElem_mem
abbrev aY:=@List.getElem?_eq_some_iff
abbrev aZ:=@Array.mem_of_getElem?
abbrev bg:=@Nat.zero_le
abbrev bn:=@Classical.byContradiction
abbrev bq:=@Nat.lt_or_ge
abbrev bu:=@List.take_succ_eq_append_getElem
abbrev bz:=@Array.getElem?_modify
abbrev bB:=@Bool.and_eq_true
abbrev bC:=@Bool.false_eq_true
abbrev bD:=@List.mem_cons
abbrev bE:=@List.mem_of_mem_take
abbrev bF:=@List.all_eq_true
abbrev bG:=@Array.mem_or_eq_of_mem_setIfInBounds
namespace Par
open Go
class Sh where
 lk:Nat->Bool
 sh:Nat->Nat
 bad:TypeId
 Xp:∀b,lk b=false->sh b=0
 hol:Nat->Bool
 aa2:∀b,hol b=true->lk b=true
@[reducible] def noSh:Sh:=⟨λ_=>false, λ_=>0,0, λ_ _=>rfl, λ_=>false, λ_ h=>by cases h⟩
section
variable [Sh]
theorem LM{b:Nat}(h:Sh.lk b=false):Sh.hol b=false:=by
 cases hx:Sh.hol b with
 |false=>rfl
 |true=>rw[Sh.aa2 b hx]at h;cases h
def ra(f:Nat->Nat)(a:Addr):Addr:={ a with block:=f a.block,off:=a.off+Sh.sh a.block }
@[simp] theorem Fu (f:Nat->Nat) (a:Addr):(ra f a).off=a.off+Sh.sh a.block:=rfl
@[simp] theorem LQ (f:Nat->Nat) (a:Addr):(ra f a).spot=a.spot:=rfl
@[simp] theorem qW (f:Nat->Nat) (a:Addr):(ra f a).block=f a.block:=rfl
@[simp] theorem zl (f:Nat->Nat) (a:Addr) (n:Nat):ra f (a.add n)=(ra f a).add n:=by
  unfold Addr.add;split
  .rfl
  .simp only[ra];congr 1;omega
def T9(f:Nat->Nat):Fn->Fn
 | .yield l=>.yield (f l)
 |x=>x
mutual
def rv(f:Nat->Nat):Value->Value
 | .bool b=>.bool b
 | .int k n=>.int k n
 | .float k b=>.float k b
 | .complex k a b=>.complex k a b
 | .string s=>.string s
 | .pointer a=>.pointer (a.map (ra f))
 | .slice a l c=>.slice (a.map (ra f)) l c
 | .map r=>.map (r.map f)
 | .chan r=>.chan (r.map f)
 | .func fn first cap=>.func (T9 f fn) (LU f first) (LU f cap)
 | .nilFunc=>.nilFunc
 | .iface t v=>.iface t (rv f v)
 | .nilIface=>.nilIface
 | .agg cs=>.agg (LU f cs)
 | .tuple vs=>.tuple (LU f vs)
def LU(f:Nat->Nat):Array Value->Array Value
 |⟨l⟩=>⟨GY f l⟩
def GY(f:Nat->Nat):List Value->List Value
 | []=>[]
 |v::l=>rv f v::GY f l
end
theorem PW(f:Nat->Nat):∀l:List Value,GY f l=l.map (rv f)
 | []=>by rw[GY];rfl
 |v::l=>by rw[GY,PW f l];rfl
@[simp] theorem Xq (f:Nat->Nat) (a:Array Value):LU f a=a.map (rv f):=by
  obtain⟨l⟩:=a;rw[LU,PW];simp
@[simp] theorem jZ (f:Nat->Nat) (b:Bool):rv f (.bool b)=.bool b:=by rw[rv]
@[simp] theorem iC (f:Nat->Nat) (k:IntKind) (n:Int):rv f (.int k n)=.int k n:=by rw[rv]
@[simp] theorem gF (f:Nat->Nat) (s:ByteArray):rv f (.string s)=.string s:=by rw[rv]
@[simp] theorem qX (f:Nat->Nat) (k:FloatKind) (b:Nat):rv f (.float k b)=.float k b:=by rw[rv]
@[simp] theorem mP (f:Nat->Nat) (k:FloatKind) (a b:Nat):rv f (.complex k a b)=.complex k a b:=by rw[rv]
@[simp] theorem dX (f:Nat->Nat) (a:Option Addr):rv f (.pointer a)=.pointer (a.map (ra f)):=by rw[rv]
@[simp] theorem fD (f:Nat->Nat) (a:Option Addr) (l c:Nat):rv f (.slice a l c)=.slice (a.map (ra f)) l c:=by rw[rv]
@[simp] theorem nW (f:Nat->Nat) (r:Option Nat):rv f (.map r)=.map (r.map f):=by rw[rv]
@[simp] theorem su (f:Nat->Nat) (r:Option Nat):rv f (.chan r)=.chan (r.map f):=by rw[rv]
@[simp] theorem oh (f:Nat->Nat) (fn:Fn) (a b:Array Value):rv f (.func fn a b)=.func (T9 f fn) (a.map (rv f)) (b.map (rv f)):=by rw[rv];simp
@[simp] theorem kV (f:Nat->Nat):rv f .nilFunc=.nilFunc:=by rw[rv]
@[simp] theorem jh (f:Nat->Nat):rv f .nilIface=.nilIface:=by rw[rv]
@[simp] theorem oP (f:Nat->Nat) (t:TypeId) (v:Value):rv f (.iface t v)=.iface t (rv f v):=by rw[rv]
@[simp] theorem nX (f:Nat->Nat) (a:Array Value):rv f (.agg a)=.agg (a.map (rv f)):=by rw[rv];simp
@[simp] theorem qY (f:Nat->Nat) (a:Array Value):rv f (.tuple a)=.tuple (a.map (rv f)):=by rw[rv];simp
@[simp] theorem GZ (f:Nat->Nat):rv f undef=undef:=by simp[undef]
@[simp] theorem JJ (f:Nat->Nat):rv f (default:Value)=default:=by
  show rv f (.bool _)=.bool _;simp
theorem qZ(f:Nat->Nat)(v:Value):(rv f v).cells=v.cells.map (rv f):=by
 cases v<;>simp[Value.cells]
def rd(f:Nat->Nat)(d:Deferred):Deferred:=
 { target:=match d.target with
    | .fn fn cap=>.fn (T9 f fn) (cap.map (rv f))
    | .collected r=>.collected (f r)
    | .coroexit c=>.coroexit (f c)
    |t=>t
   args:=d.args.map (rv f) }
def re(f:Nat->Nat)(e:MapEntry):MapEntry:={ key:=rv f e.key,val:=rv f e.val,born:=e.born }
def ro(f:Nat->Nat):Obj->Obj
 | .cells c e fr=>.cells (c.map (rv f)) e fr
 | .pending c e=>.pending (c.map (rv f)) e
 | .view a t=>.view (ra f a) t
 | .number a b=>.number (ra f a) b
 | .map es c=>.map (es.map (re f)) c
 | .chan cap buf cl s r t=>.chan cap (buf.map (rv f)) cl s r t
 | .stringIter s p=>.stringIter s p
 | .mapIter m a b c=>.mapIter (m.map f) a b c
 | .loop l=>.loop { l with tmps:=l.tmps.map (rv f),defers:=f l.defers }
 | .deferred ds=>.deferred (ds.map (·.map (rd f)))
 | .coro p=>.coro p
 | .finalizers fs r=>.finalizers (fs.map λx=>(f x.1,rd f x.2)) r
theorem En(f:Nat->Nat)(o:Obj):(ro f o).isChan=o.isChan:=by cases o<;>rfl
def rm(f:Nat->Nat):Mark->Mark
 | .acquire a=>.acquire (ra f a)
 | .release a=>.release (ra f a)
 | .releaseMerge a=>.releaseMerge (ra f a)
 | .read a=>.read (ra f a)
 | .write a=>.write (ra f a)
 |m=>m
def rl(f:Nat->Nat):Loc->Loc
 | .cell a=>.cell (ra f a)
 | .obj r=>.obj (f r)
 | .mark m=>.mark (rm f m)
 |l=>l
def rev(f:Nat->Nat)(e:Event):Event:={ e with loc:=rl f e.loc }
end
end Par
end
namespace Par
open Go
def rw'{α:Type}:Result α->World
 | .ok _ w=>w
 | .halt _ w=>w
theorem BB{P:Program}{w w':World}{a b:Addr}{u:TypeId}{v:Value}{x:Bool}{l:List Addr}(h:w.viewStore P a u b v x=.ok (w',l)):w'.heap.size=w.heap.size:=by
 unfold World.viewStore at h;simp only[bind,Except.bind,pure,Except.pure,MonadExcept.throw,throwThe,MonadExceptOf.throw]at h
 repeat' (first|split at h|(cases h;done))
 all_goals(try(cases h;simp))
theorem D8{P:Program}{w w':World}{a:Addr}{v:Value}{x:Bool}{l:List Addr}(h:w.farStore P a v x=.ok (w',l)):w'.heap.size=w.heap.size:=by
 unfold World.farStore at h;split at h
 .split at h
  .cases h;rename_i h;exact BB h
  .cases h
 .cases h
theorem BC{α:Type}:∀(m:Ask α)(w:World),(w.ask m).2.heap=w.heap
 | .done a,w=>rfl
 | .ask q r k,w=>by
   unfold World.ask;dsimp only;split
   .exact BC _ w
   .exact BC _ _
theorem G5(w:World)(c:Sys):(w.sys c).2.heap=w.heap:=by
 unfold World.sys;have :=BC (Kernel.perform c w.os) w;split
 .rfl
 .rename_i h;rw[h]at this;exact this
theorem G6(w:World)(a:Addr)(n:Nat):(w.freeze a n).heap.size=w.heap.size:=by
 unfold World.freeze;split<;>simp
theorem runT_size{P:Program}{α:Type}(m:Sem α):∀(w:World)(es:Array Event),w.heap.size<=(rw' (m.runT P w es).1).heap.size:=by
 induction m with
 |pure a=>intro w es;exact aJ _
 |load m a k ih=>
  intro w es;simp only[Sem.runT];split
  .exact ih _ _ _
  .split
   .exact ih _ _ _
   .exact aJ _
 |store m a v k ih=>
  intro w es;have:∀(w w':World)es,w'.heap.size=w.heap.size->w.heap.size<=(rw' (k.runT P w' es).1).heap.size:= λw w' es h=>by rw[<-h];exact ih _ _
  cases v<;>first
   |(simp only[Sem.runT];exact aJ _)
   |(simp only[Sem.runT];split
     .split
      .exact aJ _
      .exact this _ _ _ (by simp[World.setCell])
     .split
      .rename_i h;exact this _ _ _ (D8 h)
      .exact aJ _)
 |new o k ih=>
  intro w es;simp only[Sem.runT];have :=ih w.heap.size { w with heap:=w.heap.push o } es;simp only[Array.size_push]at this;omega
 |shape r k ih=>intro w es;simp only[Sem.runT];exact ih _ _ _
 |freeze a n k ih=>intro w es;simp only[Sem.runT];have :=ih (w.freeze a n) es;rw[G6]at this;exact this
 |frozen a k ih=>intro w es;simp only[Sem.runT];exact ih _ _ _
 |getObj r k ih=>
  intro w es;simp only[Sem.runT];split
  .exact aJ _
  .exact ih _ _ _
  .exact aJ _
 |setObj r o k ih=>
  intro w es;simp only[Sem.runT];split
  .exact aJ _
  .have :=ih { w with heap:=w.heap.setIfInBounds r o } (es.push ⟨.obj r,true,o.isChan⟩);simpa using this
  .exact aJ _
 |choose q k ih=>
  intro w es;simp only[Sem.runT];split
  .exact ih _ _ _
  .exact ih _ { w with drawn:=w.drawn+1 } _
 |sys c k ih=>
  intro w es;simp only[Sem.runT];have :=ih (w.sys c).1 (w.sys c).2 (es.push ⟨.output,true,false⟩);rw[G5]at this;exact this
 |program k ih=>intro w es;simp only[Sem.runT];exact ih _ _ _
 |mark m k ih=>intro w es;simp only[Sem.runT];exact ih _ _
 |halt h=>intro w es;exact aJ _
end Par
section
def Go.Program.stub(P:Go.Program)(q:Go.FuncId)(c:Go.Code):Go.Program:={ P with funcs:=P.funcs.modify q λfn=>{ fn with body:=some c } }
namespace Par
open Go
variable [Sh]
structure Fit where
 S:FuncId->Bool
 A:Nat->Bool
 code:Code->Bool
 V:FuncId->Bool
def Wi(F:Fit):Fn->Bool
 | .func g=>F.V g
 | .yield l=>F.A l
 |_=>false
def opA(F:Fit):Option Nat->Bool
 |none=>true
 |some r=>F.A r
def Ua(F:Fit):Option Addr->Bool
 |none=>true
 |some a=>F.A a.block
def JG(F:Fit)(a:Option Addr)(l c:Nat):Bool:=Ua F a||(a.any (λa=>Sh.hol a.block)&&(l==0&&c==0))
mutual
def vs(F:Fit):Value->Bool
 | .func fn first cap=>Wi F fn&&JK F first &&JK F cap
 | .iface _ v=>vs F v
 | .agg cs=>JK F cs
 | .tuple cs=>JK F cs
 | .bool _=>true
 | .int _ _=>true
 | .float _ _=>false
 | .complex _ _ _=>false
 | .string _=>true
 | .pointer a=>Ua F a
 | .slice a l c=>JG F a l c
 | .map r=>opA F r
 | .chan r=>r.isNone
 | .nilFunc=>true
 | .nilIface=>true
def JK(F:Fit):Array Value->Bool
 |⟨l⟩=>JH F l
def JH(F:Fit):List Value->Bool
 | []=>true
 |v::l=>vs F v&&JH F l
end
section
variable {F:Fit}
theorem LV:∀{l:List Value},JH F l=true↔∀v∈l,vs F v=true
 | []=>by rw[JH];simp
 |v::l=>by rw[JH];simp[LV (l:=l)]
theorem Bl{a:Array Value}:JK F a=true↔∀v∈a,vs F v=true:=by
 obtain⟨l⟩:=a;rw[JK,LV];simp
end
def VS(F:Fit)(a:Array Value):Prop:=∀v∈a,vs F v=true
section
variable {F:Fit}
@[simp] theorem sw (b:Bool):vs F (.bool b)=true:=by rw[vs]
@[simp] theorem Fv (k:IntKind) (n:Int):vs F (.int k n)=true:=by rw[vs]
@[simp] theorem ZM (s:ByteArray):vs F (.string s)=true:=by rw[vs]
@[simp] theorem aa3 (k:FloatKind) (b:Nat):vs F (.float k b)=false:=by rw[vs]
@[simp] theorem Xr (k:FloatKind) (a b:Nat):vs F (.complex k a b)=false:=by rw[vs]
@[simp] theorem BD (a:Option Addr):vs F (.pointer a)=Ua F a:=by rw[vs]
@[simp] theorem gY (a:Option Addr) (l c:Nat):vs F (.slice a l c)=JG F a l c:=by rw[vs]
@[simp] theorem am2 (r:Option Nat):vs F (.map r)=opA F r:=by rw[vs]
@[simp] theorem al5 (r:Option Nat):vs F (.chan r)=r.isNone:=by rw[vs]
@[simp] theorem Xt:vs F .nilFunc=true:=by rw[vs]
@[simp] theorem Wj:vs F .nilIface=true:=by rw[vs]
@[simp] theorem aa4 (t:TypeId) (v:Value):vs F (.iface t v)=vs F v:=by rw[vs]
@[simp] theorem aa5:Ua F none=true:=rfl
@[simp] theorem uk (a:Addr):Ua F (some a)=F.A a.block:=rfl
@[simp] theorem aa6 (l c:Nat):JG F none l c=true:=rfl
theorem qH{a:Option Addr}{l c:Nat}(h:Ua F a=true):JG F a l c=true:=by unfold JG;rw[h];rfl
theorem nL{a:Addr}{l c:Nat}(h:JG F (some a) l c=true):F.A a.block=true∨(Sh.hol a.block=true∧l=0∧c=0):=by
 simpa[JG]using h
theorem um(F:Fit)(a:Addr)(l c:Nat): @JG noSh F (some a) l c=F.A a.block:=by simp[JG]
@[simp] theorem aa7:opA F none=true:=rfl
@[simp] theorem aa8 (r:Nat):opA F (some r)=F.A r:=rfl
theorem lV{a:Array Value}:vs F (.agg a)=true↔VS F a:=by rw[vs,Bl];rfl
theorem q9{a:Array Value}:vs F (.tuple a)=true↔VS F a:=by rw[vs,Bl];rfl
theorem sD{fn:Fn}{a b:Array Value}:vs F (.func fn a b)=true↔Wi F fn=true∧VS F a∧VS F b:=by
 rw[vs,bB,bB,Bl,Bl,and_assoc];rfl
@[simp] theorem oQ:vs F undef=true:=by unfold undef;rw[q9];intro v hv;simp at hv
@[simp] theorem JL:vs F (default:Value)=true:=by show vs F (.bool _)=true;simp
theorem VS.cells{v:Value}(h:vs F v=true):VS F v.cells:=by
 cases v<;>first|exact lV.1 h|(intro x hx;simp[Value.cells]at hx;subst hx;exact h)
end
def oS(F:Fit):Obj->Prop
 | .cells c _ _=>VS F c
 | .number a _=>F.A a.block=true
 | .map es _=>∀e∈es,vs F e.key=true∧vs F e.val=true
 | .stringIter .. =>True
 | .mapIter m .. =>opA F m=true
 | .loop l=>VS F l.tmps∧F.S l.fn=true∧F.A l.defers=true∧F.code l.assign=true∧F.code l.body=true∧(∀c,l.pending=some c->F.code c=true)
 | .deferred ds=>ds=some []∨ds=none
 |_=>False
def iZ(o:Obj):Prop:=∃c e fr,o=.cells c e fr∧∀i,i<c.size->fr.1<=i∧i<fr.2
def isCells:Obj->Bool
 | .cells .. =>true
 |_=>false
def BR(F:Fit)(f:Nat->Nat)(b:Nat)(o:Obj)(O:Option Obj):Prop:=
 (Sh.lk b=false∧oS F o∧isCells o=false∧O=some (ro f o))∨
 (Sh.lk b=false∧∃c e fr fr',o=.cells c e fr∧VS F c∧O=some (.cells (c.map (rv f)) e fr')∧∀i,i<c.size->fr'.1<=i->i<fr'.2->fr.1<=i∧i<fr.2)∨
 (Sh.lk b=true∧∃c fr C e' fr',o=.cells c Sh.bad fr∧VS F c∧(∀i,i<c.size->fr.1<=i∧i<fr.2)∧O=some (.cells C e' fr')∧∀i v,c[i]?=some v->C[i+Sh.sh b]?=some (rv f v))
structure WR(F:Fit)(f:Nat->Nat)(w W:World):Prop where
 lt:∀b,b<w.heap.size->F.A b=true->f b<W.heap.size
 blk:∀b o,F.A b=true->w.heap[b]?=some o->BR F f b o W.heap[f b]?
def G7:Halt->Prop
 | .panic _| .stuck _=>True
 | .unsupported (.initOrder _)=>False
 | .unsupported _=>True
 |_=>False
def DK(w w':World):Prop:=∀(r:Nat)ds,w'.heap[r]?=some (Obj.deferred ds)->w.heap[r]?=some (Obj.deferred ds)
theorem DK.refl{w:World}:DK w w:= λ_ _ h=>h
theorem DK.trans{a b c:World}(h:DK a b)(k:DK b c):DK a c:= λr ds x=>h r ds (k r ds x)
def BF(F:Fit)(w:World):Prop:=∀(r:Nat)ds,F.A r=true->w.heap[r]?=some (Obj.deferred ds)->ds=some []∨ds=none
def Alike(P Q:Program):Prop:=∃fs:Array Func,Q={ P with funcs:=fs }∧∀g:FuncId,∃h:Func->Func,fs[g]?=(P.funcs[g]?).map h∧∀fn,∃b,h fn={ fn with body:=b }∧(fn.body.isSome=true->b.isSome=true)
theorem Alike.refl(P:Program):Alike P P:=⟨P.funcs,rfl, λ_=>⟨id,by simp, λfn=>⟨fn.body,rfl,id⟩⟩⟩
inductive dF(P:Program)(F:Fit)(f:Nat->Nat){α β:Type}(R:α->β->Prop):Sem α->Sem β->Prop
 |pure {a:α} {b:β} (h:R a b):dF P F f R (.pure a) (.pure b)
 |load {a:Addr} {k:Value->Sem α} {k':Value->Sem β} (hA:F.A a.block=true) (h:∀v,vs F v=true->dF P F f R (k v) (k' (rv f v))):dF P F f R (.load .plain a k) (.load .plain (ra f a) k')
 |store {a:Addr} {v:Value} {k:Sem α} {k':Sem β} (hA:F.A a.block=true) (hv:vs F v=true) (h:dF P F f R k k'):dF P F f R (.store .plain a v k) (.store .plain (ra f a) (rv f v) k')
 |new {o:Obj} {k:Nat->Sem α} {k':Nat->Sem β} (ho:oS F o) (h:∀r,F.A r=true->Sh.lk r=false->dF P F f R (k r) (k' (f r))):dF P F f R (.new o k) (.new (ro f o) k')
 |mQ {c:Array Value} {e:TypeId} {k0:Nat->Option (TypeId×Nat)->Sem α} {k0':Nat->Option (TypeId×Nat)->Sem β} {k:Nat->Sem α} {k':Nat->Sem β} (ho:VS F c)
   (e1:∀r,k0 r (some (e,c.size))=.freeze ⟨r,c.size,none⟩ 1 (k r)) (e2:∀r,k0' r (some (e,c.size))=.freeze ⟨r,c.size,none⟩ 1 (k' r))
   (h:∀r,F.A r=true->Sh.lk r=false->dF P F f R (k r) (k' (f r))):dF P F f R (.new (.cells c e (0,0)) λr=>.shape r (k0 r)) (.new (.cells (c.map (rv f)) e (0,0)) λr=>.shape r (k0' r))
 |shape {r:Nat} {k:Option (TypeId×Nat)->Sem α} {k':Option (TypeId×Nat)->Sem β} (hA:F.A r=true) (h:∀s,(Sh.lk r=true->s=none)->dF P F f R (k s) (k' s)) (hl:Sh.lk r=true->∀n s,dF P F f R (k (some (Sh.bad,n))) (k' (some s))):dF P F f R (.shape r k) (.shape (f r) k')
 |getObj {r:Nat} {k:Obj->Sem α} {k':Obj->Sem β} (hA:F.A r=true) (h:∀o,oS F o->isCells o=false->Sh.lk r=false->dF P F f R (k o) (k' (ro f o))):dF P F f R (.getObj r k) (.getObj (f r) k')
 |BG {r:Nat} {k:Obj->Sem α} {m':Sem β} (hA:F.A r=true) (hl:Sh.lk r=true):dF P F f R (.getObj r k) m'
 |setObj {r:Nat} {o:Obj} {k:Sem α} {k':Sem β} (hA:F.A r=true) (ho:oS F o) (hc:isCells o=false) (h:dF P F f R k k'):dF P F f R (.setObj r o k) (.setObj (f r) (ro f o) k')
 |choose {q:Question} {k:Nat->Sem α} {k':Nat->Sem β} (h:∀n,dF P F f R (k n) (k' n)):dF P F f R (.choose q k) (.choose q k')
 |program {k:Program->Sem α} {k':Program->Sem β} (e:∀Q,Alike P Q->k' Q=k' P) (h:dF P F f R (k P) (k' P)):dF P F f R (.program k) (.program k')
 |noRoom {k:Sem α} {k':Sem β} (h:dF P F f R k k'):dF P F f R (.mark .noRoom k) (.mark .noRoom k')
 |lW {m:Sem α} {m':Sem β} (h:∀w es,∃x w' es',m.runT P w es=(.halt x w',es')∧G7 x∧DK w w'):dF P F f R m m'
theorem dF.bad{P:Program}{F:Fit}{f:Nat->Nat}{α β:Type}{R:α->β->Prop}{h:Halt}{m':Sem β}(hb:G7 h):dF P F f R (.halt h) m':=.lW λ_ _=>⟨_,_,_,rfl,hb,DK.refl⟩
structure Ag(F:Fit)(f:Nat->Nat)(w W:World):Prop where
 wr:WR F f w W
 tape:∀j q,w.tape (w.drawn+j) q=W.tape (W.drawn+j) q
 next :∀j,f (w.heap.size+j)=W.heap.size+j
 GV:∀b,w.heap.size<=b->Sh.lk b=false
 hol:∀b,F.A b=true->Sh.hol b=false
def Wl(F:Fit)(w:World)(e:Event):Prop:=
 e.sync=(match e.loc with | .mark _=>true|_=>false)∧
 match e.loc with
 | .cell a=>F.A a.block=true∧(∃v,w.cell? a=some v)∧(e.write=true->∃o:Obj,w.heap[a.block]?=some o∧¬iZ o)
 | .obj r=>F.A r=true∧∃o:Obj,w.heap[r]?=some o∧isCells o=false
 | .mark m=>m=.noRoom
 |_=>False
structure Mv(F:Fit)(f:Nat->Nat)(w W w1 W1:World):Prop where
 ag:Ag F f w1 W1
 tape:w1.tape=w.tape
 tape':W1.tape=W.tape
 os:w1.os=w.os
 os':W1.os=W.os
 out':W1.output=W.output
 drawn:∃k,w1.drawn=w.drawn+k∧W1.drawn=W.drawn+k
 size:∃k,w1.heap.size=w.heap.size+k∧W1.heap.size=W.heap.size+k
 lock:∀(b:Nat)(o:Obj),w.heap[b]?=some o->∃o1:Obj,w1.heap[b]?=some o1∧(iZ o1↔iZ o)∧isCells o1=isCells o∧(iZ o->o1=o)
 cell:∀a v,w.cell? a=some v->∃v1,w1.cell? a=some v1
 frame:∀B:Nat,B<W.heap.size->W1.heap[B]?=W.heap[B]?∨∃(b:Nat)(o:Obj),F.A b=true∧w.heap[b]?=some o∧f b=B∧¬iZ o
theorem Wl.mono{F:Fit}{f:Nat->Nat}{w W w1 W1:World}(h:Mv F f w W w1 W1){e:Event}(he:Wl F w e):Wl F w1 e:=by
 obtain⟨loc,wr,sy⟩:=e;refine⟨he.1,?_⟩;have h2:=he.2;cases loc with
 |cell a=>
  obtain⟨hA,⟨v,hv⟩,hw⟩:=h2;refine⟨hA,h.cell a v hv, λx=>?_⟩;obtain⟨o,ho,hl⟩:=hw x;obtain⟨o1,ho1,hl1,_⟩:=h.lock _ o ho;exact⟨o1,ho1, λy=>hl (hl1.1 y)⟩
 |obj r=>
  obtain⟨hA,o,ho,hl⟩:=h2;obtain⟨o1,ho1,_,hc,_⟩:=h.lock _ o ho;exact⟨hA,o1,ho1,hc.trans hl⟩
 |output=>exact h2
 |goroutines=>exact h2
 |mark m=>exact h2
theorem Mv.refl{F:Fit}{f:Nat->Nat}{w W:World}(h:Ag F f w W):Mv F f w W w W:=
 ⟨h,rfl,rfl,rfl,rfl,rfl,⟨0,rfl,rfl⟩,⟨0,rfl,rfl⟩, λ_ o ho=>⟨o,ho,Iff.rfl,rfl, λ_=>rfl⟩, λ_ v hv=>⟨v,hv⟩, λ_ _=>.inl rfl⟩
theorem Mv.trans{F:Fit}{f:Nat->Nat}{w W w1 W1 w2 W2:World}(h0:Ag F f w W)(h:Mv F f w W w1 W1)(k:Mv F f w1 W1 w2 W2):Mv F f w W w2 W2:=by
 obtain⟨k1,a1,b1⟩:=h.drawn;obtain⟨k2,a2,b2⟩:=k.drawn;obtain⟨s1,c1,d1⟩:=h.size;obtain⟨s2,c2,d2⟩:=k.size;refine⟨k.ag,k.tape.trans h.tape,k.tape'.trans h.tape',k.os.trans h.os,k.os'.trans h.os',k.out'.trans h.out',⟨k1+k2,by omega,by omega⟩,⟨s1+s2,by omega,by omega⟩, λb o ho=>?_, λa v hv=>?_, λB hB=>?_⟩
 .obtain⟨o1,ho1,hl1,hc1,he1⟩:=h.lock b o ho;obtain⟨o2,ho2,hl2,hc2,he2⟩:=k.lock b o1 ho1;exact⟨o2,ho2,hl2.trans hl1,hc2.trans hc1, λhl=>(he2 (hl1.2 hl)).trans (he1 hl)⟩
 .obtain⟨v1,hv1⟩:=h.cell a v hv;exact k.cell a v1 hv1
 .rcases k.frame B (by omega)with e|⟨b,o1,hA,ho1,hb,hl⟩
  .rcases h.frame B hB with e'|x
   .exact .inl (e.trans e')
   .exact .inr x
  ·
   by_cases hlt:b<w.heap.size
   .have ho:w.heap[b]?=some w.heap[b]:=by simp[hlt]
    obtain⟨o1',aa9,hl1,_⟩:=h.lock b _ ho;rw[ho1]at aa9;cases aa9;exact .inr ⟨b,_,hA,ho,hb, λy=>hl (hl1.2 y)⟩
   .exfalso;have :=h0.next (b-w.heap.size);rw[show w.heap.size+(b-w.heap.size)=b from by omega]at this;omega
section
variable {F:Fit} {f:Nat->Nat} {w W:World}
theorem WR.cell(h:WR F f w W){a:Addr}{v:Value}(hA:F.A a.block=true)(hv:w.cell? a=some v):W.cell? (ra f a)=some (rv f v)∧vs F v=true:=by
 unfold World.cell? at hv⊢;cases hb:w.heap[a.block]? with
 |none=>rw[hb]at hv;cases hv
 |some o=>
  rw[hb]at hv;cases o with
  |cells c e fr=>
   dsimp only at hv
   by_cases hs:a.spot.isSome=true
   .rw[aj hs]at hv;cases hv
   .rw[aa hs]at hv;rcases h.blk _ _ hA hb with⟨_,_,h1,_⟩|⟨hl,c',e',fr',ab0,h1,hS,h2,_⟩|⟨hl,c',qh,C,e',fr',h1,hS,_,h2,h3⟩
    .cases h1
    .cases h1;refine⟨?_,hS v (aZ hv)⟩;simp only[qW,h2];rw[aa (show¬(ra f a).spot.isSome=true from hs)];simp[hv,Sh.Xp _ hl]
    .cases h1;refine⟨?_,hS v (aZ hv)⟩;simp only[qW,h2];rw[aa (show¬(ra f a).spot.isSome=true from hs)];exact h3 _ _ hv
  |_=>cases hv
theorem WR.frozen(h:WR F f w W){a:Addr}{v:Value}(hA:F.A a.block=true)(hv:w.cell? a=some v)(hf:w.frozen? a=false):W.frozen? (ra f a)=false:=by
 unfold World.cell? at hv;unfold World.frozen? at hf⊢;cases hb:w.heap[a.block]? with
 |none=>rw[hb]at hv;cases hv
 |some o=>
  rw[hb]at hv hf;cases o with
  |cells c e fr=>
   dsimp only at hv hf
   by_cases hs:a.spot.isSome=true
   .rw[aj hs]at hv;cases hv
   .rw[aa hs]at hv;have hlt:a.off<c.size:=(aI.1 hv).1;rcases h.blk _ _ hA hb with⟨_,_,h1,_⟩|⟨hl,c',e',fr',ab0,h1,hS,h2,h3⟩|⟨hl,c',qh,C,e',fr',h1,hS,h3,h2,_⟩
    .cases h1
    .cases h1;simp only[qW,h2,Fu,Sh.Xp _ hl,aH];have :=h3 a.off hlt;rw[Bool.eq_false_iff]at hf⊢;intro hx;rw[bB]at hx;have :=this (of_decide_eq_true hx.1) (of_decide_eq_true hx.2);exact hf (by simp[this.1,this.2])
    .cases h1;have :=h3 a.off hlt;simp[this.1,this.2]at hf
  |_=>cases hv
theorem WR.Fw(h:WR F f w W){r:Nat}(hA:F.A r=true)(hl:Sh.lk r=true):w.heap[r]?=none∨∃c fr,w.heap[r]?=some (.cells c Sh.bad fr):=by
 cases hr:w.heap[r]? with
 |none=>exact .inl rfl
 |some o=>
  rcases h.blk r o hA hr with⟨h4,_⟩|⟨h4,_⟩|⟨_,c,fr,C,e',fr',rfl,_⟩
  .rw[h4]at hl;cases hl
  .rw[h4]at hl;cases hl
  .exact .inr ⟨c,fr,rfl⟩
theorem WR.noCell(h:WR F f w W)(a:Addr)(hA:F.A a.block=true)(what:String):G7 (w.noCell a what)∧∀P b,∃x,w.farLoad P a b=.error x∧G7 x:=by
 have key:∀o,w.heap[a.block]?=some o->(∀c e,o≠ .pending c e)∧∀c e,o≠ .view c e:=by
  intro o ho;rcases h.blk _ _ hA ho with⟨_,hS,_,_⟩|⟨_,c,e,fr,fr',rfl,_⟩|⟨_,c,fr,C,e',fr',rfl,_⟩
  .constructor<;>(rintro c e rfl;exact hS)
  .exact⟨by simp,by simp⟩
  .exact⟨by simp,by simp⟩
 have hn:∀what,G7 (w.noCell a what):=by
  intro what;unfold World.noCell;cases hb:w.heap[a.block]? with
  |none=>exact trivial
  |some o=>
   have :=key o hb;cases o<;>first|(exact trivial)|exact absurd rfl (this.1 _ _)|exact absurd rfl (this.2 _ _)
 refine⟨hn what, λP b=>?_⟩;unfold World.farLoad;cases hb:w.heap[a.block]? with
 |none=>exact⟨_,rfl,hn _⟩
 |some o=>
  have :=key o hb;cases o<;>first|exact⟨_,rfl,hn _⟩|exact absurd rfl (this.2 _ _)
theorem WR.LX(h:WR F f w W)(a:Addr)(hA:F.A a.block=true)(P:Program)(v:Value)(b:Bool):∃x,w.farStore P a v b=.error x∧G7 x:=by
 have key:∀o,w.heap[a.block]?=some o->(∀c e,o≠ .pending c e)∧∀c e,o≠ .view c e:=by
  intro o ho;rcases h.blk _ _ hA ho with⟨_,hS,_,_⟩|⟨_,c,e,fr,fr',rfl,_⟩|⟨_,c,fr,C,e',fr',rfl,_⟩
  .constructor<;>(rintro c e rfl;exact hS)
  .exact⟨by simp,by simp⟩
  .exact⟨by simp,by simp⟩
 unfold World.farStore;cases hb:w.heap[a.block]? with
 |none=>exact⟨_,rfl,(h.noCell a hA _).1⟩
 |some o=>
  have :=key o hb;cases o<;>first|exact⟨_,rfl,(h.noCell a hA _).1⟩|exact absurd rfl (this.2 _ _)
theorem Aa{w:World}{a b:Addr}{v x:Value}(h:w.cell? b=some x):∃y,(w.setCell a v).cell? b=some y:=by
 unfold World.cell? at h⊢;unfold World.setCell;simp only[bz];cases hb:w.heap[b.block]? with
 |none=>rw[hb]at h;cases h
 |some o=>
  rw[hb]at h
  by_cases e:a.block=b.block
  .rw[aj e];cases o with
   |cells c el fr=>
    dsimp only at h
    by_cases hs:b.spot.isSome=true
    .rw[aj hs]at h;cases h
    .rw[aa hs]at h;have hlt:=(aI.1 h).1;simp only[ay];rw[aa hs]
     by_cases ha:a.spot.isSome=true
     .rw[aj ha];exact⟨x,h⟩
     .rw[aa ha];exact⟨_,aI.2 ⟨by simpa using hlt,rfl⟩⟩
   |_=>cases h
  .rw[aa e];exact⟨x,h⟩
theorem iZ.set{o:Obj}{i:Nat}{v:Value}{s:Bool}:iZ (match o with | .cells c e fr=>.cells (if s then c else c.setIfInBounds i v) e fr|o=>o)↔iZ o:=by
 cases o with
 |cells c e fr=>
  constructor
  .rintro⟨c',e',fr',h,hl⟩;cases h;refine⟨c,e,fr,rfl, λi hi=>hl i ?_⟩;split<;>simpa using hi
  .rintro⟨c',e',fr',h,hl⟩;cases h;refine⟨_,e,fr,rfl, λi hi=>hl i ?_⟩;split at hi<;>simpa using hi
 |_=>exact Iff.rfl
theorem Ag.store(hf:∀a b,Sh.lk a=false->Sh.hol b=false->f a=f b->a=b)(h:Ag F f w W){a:Addr}{v x:Value}(hA:F.A a.block=true)(hc:w.cell? a=some x)(hz:w.frozen? a=false)(hv:vs F v=true):
 Mv F f w W (w.setCell a v) (W.setCell (ra f a) (rv f v))∧∃o,w.heap[a.block]?=some o∧¬iZ o:=by
 have hspot:a.spot.isSome=false∧∃c e fr,w.heap[a.block]?=some (.cells c e fr)∧c[a.off]?=some x:=by
  unfold World.cell? at hc;cases hb:w.heap[a.block]? with
  |none=>rw[hb]at hc;cases hc
  |some o=>
   rw[hb]at hc;cases o with
   |cells c e fr=>
    dsimp only at hc
    by_cases hs:a.spot.isSome=true
    .rw[aj hs]at hc;cases hc
    .rw[aa hs]at hc;exact⟨by simpa using hs,c,e,fr,rfl,hc⟩
   |_=>cases hc
 obtain⟨hs,c,e,fr,hb,hcx⟩:=hspot;have hlt:=(aI.1 hcx).1
 have hnl:¬iZ (Obj.cells c e fr):=by
  rintro⟨c',e',fr',h',hl⟩;cases h';have :=hl a.off hlt;unfold World.frozen? at hz;rw[hb]at hz;simp[this.1,this.2]at hz
 obtain⟨hlk,hS,fr',hW,hfr⟩:Sh.lk a.block=false∧VS F c∧∃fr',W.heap[f a.block]?=some (.cells (c.map (rv f)) e fr')∧∀i,i<c.size->fr'.1<=i->i<fr'.2->fr.1<=i∧i<fr.2:=by
  rcases h.wr.blk _ _ hA hb with⟨_,_,h1,_⟩|⟨hl,c',e',fr',ab0,h1,hS,h2,h3⟩|⟨hl,c',qh,C,e',fr',h1,hS,h3,h2,_⟩
  .cases h1
  .cases h1;exact⟨hl,hS,_,h2,h3⟩
  .cases h1;exact absurd ⟨_,_,_,rfl,h3⟩ hnl
 have hbl:=(aI.1 hb).1
 have e1:(w.setCell a v).heap[a.block]?=some (.cells (c.setIfInBounds a.off v) e fr):=by
  unfold World.setCell;simp[bz,hb,hs]
 have e2:(W.setCell (ra f a) (rv f v)).heap[f a.block]?=some (.cells ((c.map (rv f)).setIfInBounds a.off (rv f v)) e fr'):=by
  unfold World.setCell;simp[bz,hW,hs,Sh.Xp _ hlk]
 have n1:∀b,b≠a.block->(w.setCell a v).heap[b]?=w.heap[b]?:= λb hne=>by
  unfold World.setCell;simp[bz,Ne.symm hne]
 have n2:∀b,b≠f a.block->(W.setCell (ra f a) (rv f v)).heap[b]?=W.heap[b]?:= λb hne=>by
  unfold World.setCell;simp[bz,Ne.symm hne]
 have s1:(w.setCell a v).heap.size=w.heap.size:=by simp[World.setCell]
 have s2:(W.setCell (ra f a) (rv f v)).heap.size=W.heap.size:=by simp[World.setCell]
 refine⟨⟨⟨⟨λb hb' G8=>by rw[s2];exact h.wr.lt b (by rw[s1]at hb';exact hb') G8, λb o G8 ho=>?_⟩,h.tape, λj=>by rw[s1,s2];exact h.next j, λb hb=>h.GV b (by rwa [s1]at hb),h.hol⟩,rfl,rfl,rfl,rfl,rfl,⟨0,rfl,rfl⟩,⟨0,by rw[s1];rfl,by rw[s2];rfl⟩, λb o ho=>?_, λb y hy=>Aa hy, λB hB=>?_⟩,_,hb,hnl⟩
 .by_cases e:b=a.block
  .subst e;rw[e1]at ho;cases ho;refine .inr (.inl ⟨hlk,_,_,_,fr',rfl,?_,?_,?_⟩)
   .intro y hy;rcases bG hy with hy|rfl
    .exact hS y hy
    .exact hv
   .rw[e2,Array.map_setIfInBounds]
   .simpa using hfr
  .rw[n1 b e]at ho;rw[n2 (f b) (λx=>e (hf _ _ hlk (h.hol b G8) x.symm).symm)];exact h.wr.blk b o G8 ho
 .by_cases e':b=a.block
  .subst e';rw[hb]at ho;cases ho;refine⟨_,e1,?_,rfl, λhl=>absurd hl hnl⟩;constructor
   .rintro⟨c',e',fr',h',hl⟩;cases h';exact⟨c,e,fr,rfl,by simpa using hl⟩
   .rintro⟨c',e',fr',h',hl⟩;cases h';exact⟨_,e,fr,rfl,by simpa using hl⟩
  .exact⟨o,by rw[n1 b e'];exact ho,Iff.rfl,rfl, λ_=>rfl⟩
 .by_cases e':B=f a.block
  .exact .inr ⟨a.block,_,hA,hb,e'.symm,hnl⟩
  .exact .inl (n2 B e')
theorem Ag.new(h:Ag F f w W){o O:Obj}(ho:BR F f w.heap.size o (some O)):Mv F f w W { w with heap:=w.heap.push o } { W with heap:=W.heap.push O }:=by
 have hn:=h.next 0;simp only[aH]at hn;refine⟨⟨⟨λb hb G8=>?_, λb x G8 hx=>?_⟩,h.tape, λj=>?_, λb hb=>h.GV b (by simp at hb;omega),h.hol⟩,rfl,rfl,rfl,rfl,rfl,⟨0,rfl,rfl⟩,⟨1,by simp,by simp⟩, λb x hx=>⟨x,?_,Iff.rfl,rfl, λ_=>rfl⟩, λa v hv=>⟨v,?_⟩, λB hB=>.inl ?_⟩
 .simp only[Array.size_push]at hb⊢;rcases bq b w.heap.size with hlt|hge
  .exact Nat.lt_succ_of_lt (h.wr.lt b hlt G8)
  .obtain rfl:b=w.heap.size:=by omega
   omega
 .rcases bq b w.heap.size with hlt|hge
  .rw[Array.getElem?_push_lt hlt]at hx;have :=h.wr.blk b x G8 (by rw[aW hlt];exact hx);rw[Array.getElem?_push_lt (h.wr.lt b hlt G8)]
   rwa [aW (h.wr.lt b hlt G8)]at this
  .have hb:b<w.heap.size+1:=by simpa using(aI.1 hx).1
   obtain rfl:b=w.heap.size:=by omega
   simp only[Array.getElem?_push_size]at hx;cases hx;rw[hn];simpa using ho
 .have :=h.next (j+1);simp only[Array.size_push];rw[show w.heap.size+1+j=w.heap.size+(j+1)from by omega,this];omega
 .have :=(aI.1 hx).1;rw[Array.getElem?_push_lt this, <-aW this];exact hx
 .unfold World.cell? at hv⊢;cases hb:w.heap[a.block]? with
  |none=>rw[hb]at hv;cases hv
  |some y=>
   rw[hb]at hv;have :=(aI.1 hb).1;rw[Array.getElem?_push_lt this, <-aW this,hb];exact hv
 .simp only[];rw[Array.getElem?_push_lt hB,aW hB]
end
end Par
end
namespace Par
open Go
section
variable [Sh]
section
variable {P:Program} {F:Fit} {f:Nat->Nat} {α β:Type} {R:α->β->Prop}
theorem Ag.defs{w W:World}(h:Ag F f w W):BF F w:=by
 intro r ds hA hr;rcases h.wr.blk r _ hA hr with⟨_,hS,_⟩|⟨_,c,e,fr,fr',h,_⟩|⟨_,c,fr,C,e',fr',h,_⟩
 .exact hS
 .cases h
 .cases h
def zm(F:Fit)(f:Nat->Nat)(w1:World)(es es' x y:Array Event):Prop:=∃u:Array Event,x=es++u∧y=es'++u.map (rev f)∧∀e∈u,Wl F w1 e
def Out(F:Fit)(w w1:World):Prop:=∃b,w.heap.size<=b∧b<w1.heap.size∧F.A b=false
theorem Out.mono{F:Fit}{w w0 w1:World}(h:Out F w0 w1)(hs:w.heap.size<=w0.heap.size):Out F w w1:=let⟨b,h1,h2,h3⟩:=h;⟨b,aS hs h1,h2,h3⟩
def qI(F:Fit)(f:Nat->Nat){α β:Type}(R:α->β->Prop)(w W:World)(es es':Array Event)(x:Result α×Array Event)(y:Result β×Array Event):Prop:=
 Out F w (rw' x.1)∨match x.1 with
 | .ok a w1=>∃b W1,y.1=.ok b W1∧R a b∧Mv F f w W w1 W1∧zm F f w1 es es' x.2 y.2
 | .halt h w1=>G7 h∧BF F w1
theorem zm.Bn{w0 W0 w1 W1:World}{es es' x y u0:Array Event}(h0:∀e∈u0,Wl F w0 e)(hm:Mv F f w0 W0 w1 W1)(h:zm F f w1 (es++u0) (es'++u0.map (rev f)) x y):zm F f w1 es es' x y:=by
 obtain⟨u,rfl,rfl,hu⟩:=h;refine⟨u0++u,by simp[Array.append_assoc],by simp[Array.append_assoc], λe he=>?_⟩;rcases Array.mem_append.1 he with he|he
 .exact(h0 e he).mono hm
 .exact hu e he
theorem qI.Bn{w W w0 W0:World}{es es' u0:Array Event}{x:Result α×Array Event}{y:Result β×Array Event}(ha:Ag F f w W)(hm:Mv F f w W w0 W0)(h0:∀e∈u0,Wl F w0 e)
 (h:qI F f R w0 W0 (es++u0) (es'++u0.map (rev f)) x y):qI F f R w W es es' x y:=by
 obtain⟨x1,x2⟩:=x;cases x1 with
 |ok a w1=>
  rcases h with ho|⟨b,W1,h1,h2,h3,h4⟩
  .obtain⟨k,hk,_⟩:=hm.size;exact .inl (ho.mono (by omega))
  .exact .inr ⟨b,W1,h1,h2,hm.trans ha h3,h4.Bn h0 h3⟩
 |halt k w1=>
  rcases h with ho|h
  .obtain⟨k,hk,_⟩:=hm.size;exact .inl (ho.mono (by omega))
  .exact .inr h
theorem qI.uo{w W w0 W0:World}{es es':Array Event}{e:Event}{x:Result α×Array Event}{y:Result β×Array Event}(ha:Ag F f w W)(hm:Mv F f w W w0 W0)(h0:Wl F w0 e)
 (h:qI F f R w0 W0 (es.push e) (es'.push (rev f e)) x y):qI F f R w W es es' x y:=by
 refine qI.Bn (u0:= #[e]) ha hm (by simpa using h0) ?_
 rw[show es++ #[e]=es.push e from by simp,show es'++ #[e].map (rev f)=es'.push (rev f e)from by simp];exact h
theorem qI.BH{w W w0 W0:World}{es es':Array Event}{x:Result α×Array Event}{y:Result β×Array Event}(ha:Ag F f w W)(hm:Mv F f w W w0 W0)
 (h:qI F f R w0 W0 es es' x y):qI F f R w W es es' x y:=by
 refine qI.Bn (u0:= #[]) ha hm (by simp) ?_
 rw[show es++ #[]=es from by simp,show es'++ #[].map (rev f)=es' from by simp];exact h
theorem Ag.setObj{w W:World}(hf:∀a b,Sh.lk a=false->Sh.hol b=false->f a=f b->a=b)(h:Ag F f w W){r:Nat}{o x:Obj}(hA:F.A r=true)(hx:w.heap[r]?=some x)(D9:isCells x=false)(ho:oS F o)(hoc:isCells o=false):
 Mv F f w W { w with heap:=w.heap.setIfInBounds r o } { W with heap:=W.heap.setIfInBounds (f r) (ro f o) }:=by
 have hr:=(aI.1 hx).1;have hR:=h.wr.lt r hr hA;have hnl:∀y:Obj,isCells y=false->¬iZ y:=by rintro y hy⟨c,e,fr,rfl,_⟩;cases hy
 have hlk:Sh.lk r=false:=by
  rcases h.wr.blk _ _ hA hx with⟨h1,_⟩|⟨h1,_⟩|⟨_,c,fr,C,e',fr',rfl,_⟩
  .exact h1
  .exact h1
  .cases D9
 refine⟨⟨⟨λb hb G8=>by simpa using h.wr.lt b (by simpa using hb) G8, λb y G8 hy=>?_⟩,h.tape, λj=>by simpa using h.next j, λb hb=>h.GV b (by simpa using hb),h.hol⟩,rfl,rfl,rfl,rfl,rfl,⟨0,rfl,rfl⟩,⟨0,by simp,by simp⟩, λb y hy=>?_, λa v hv=>⟨v,?_⟩, λB hB=>?_⟩
 .by_cases e:r=b
  .subst e;rw[aD hr]at hy;cases hy;refine .inl ⟨hlk,ho,hoc,?_⟩;simp only[];rw[aD hR]
  .rw[au e]at hy;simp only[];rw[au (λx=>e (hf _ _ hlk (h.hol b G8) x))];exact h.wr.blk b y G8 hy
 .by_cases e:r=b
  .subst e;rw[hx]at hy;cases hy;exact⟨o,by simp only[];rw[aD hr],iff_of_false (hnl _ hoc) (hnl _ D9),hoc.trans D9.symm, λhl=>absurd hl (hnl _ D9)⟩
  .exact⟨y,by simp only[];rw[au e];exact hy,Iff.rfl,rfl, λ_=>rfl⟩
 .unfold World.cell? at hv⊢;simp only[]
  by_cases e:r=a.block
  .rw[<-e,hx]at hv;cases x<;>first|cases hv|cases D9
  .rw[au e];exact hv
 .by_cases e:f r=B
  .exact .inr ⟨r,x,hA,hx,e,hnl _ D9⟩
  .exact .inl (by simp only[];rw[au e])
omit [Sh]in
theorem uq(w:World)(c:Array Value)(e:TypeId):
 ({ w with heap:=w.heap.push (.cells c e (0,0)) }:World).freeze ⟨w.heap.size,c.size,none⟩ 1= { w with heap:=w.heap.push (.cells c e (c.size,c.size+1)) }:=by
 unfold World.freeze;simp only[Nat.one_ne_zero,if_false];congr 1;apply Array.ext
 .simp
 .intro i h1 h2;simp only[Array.size_modify,Array.size_push]at h1;rw[Array.getElem_modify]
  by_cases hi:i=w.heap.size
  .subst hi;simp
  .rw[aa (Ne.symm hi)];rw[Array.getElem_push_lt (by omega),Array.getElem_push_lt (by omega)]
theorem xL{o:Obj}(h:oS F o):o.isChan=false:=by
 cases o<;>first|rfl|exact h.elim
theorem G9(o:Obj):isCells (ro f o)=isCells o:=by cases o<;>rfl
omit [Sh]in
theorem sF{γ:Type}{w:World}{r:Nat}{o:Obj}(k:Obj->Sem γ)(es:Array Event)(hr:w.heap[r]?=some o)(hc:isCells o=false):
 Sem.runT P (.getObj r k) w es=(k o).runT P w (es.push ⟨.obj r,false,o.isChan⟩):=by
 cases o<;>first|(cases hc;done)|(simp only[Sem.runT,hr])
omit [Sh]in
theorem oU{γ:Type}{w:World}{r:Nat}{x:Obj}(o:Obj)(k:Sem γ)(es:Array Event)(hr:w.heap[r]?=some x)(hc:isCells x=false):
 Sem.runT P (.setObj r o k) w es=k.runT P { w with heap:=w.heap.setIfInBounds r o } (es.push ⟨.obj r,true,o.isChan⟩):=by
 cases x<;>first|(cases hc;done)|(simp only[Sem.runT,hr])
theorem dF.BI{Q:Program}(hQ:Alike P Q)(hf:∀a b,Sh.lk a=false->Sh.hol b=false->f a=f b->a=b){m:Sem α}{m':Sem β}(h:dF P F f R m m'):
 ∀(w W:World)(es es':Array Event),Ag F f w W->qI F f R w W es es' (m.runT P w es) (m'.runT Q W es'):=by
 have ev0:∀(w:World)(es es':Array Event),zm F f w es es' es es':= λw es es'=>⟨#[],by simp,by simp,by simp⟩
 induction h with
 |pure h=>intro w W es es' ha;exact .inr ⟨_,W,rfl,h,Mv.refl ha,ev0 ..⟩
 | @load a k k' hA h ih=>
   intro w W es es' ha;simp only[Sem.runT];cases hc:w.cell? a with
   |none=>
    obtain⟨x,hx,hb⟩:=(ha.wr.noCell a hA "").2 P (Mode.plain==Mode.atomic);simp only[hx];exact .inr ⟨hb,ha.defs⟩
   |some v=>
    obtain⟨h1,h2⟩:=ha.wr.cell hA hc;simp only[h1];exact qI.uo (e:=⟨.cell a,false,false⟩) ha (Mv.refl ha) ⟨rfl,hA,⟨v,hc⟩,by simp⟩ (ih v h2 w W _ _ ha)
 | @store a v k k' hA hv h ih=>
   intro w W es es' ha
   have hs:(∃c,v=.agg c∨v=.tuple c)∨((∀c,v≠ .agg c∧v≠ .tuple c)):=by
    cases v<;>first|(refine .inr λc=>⟨?_,?_⟩<;>(intro h;cases h;done))|exact .inl ⟨_,.inl rfl⟩|exact .inl ⟨_,.inr rfl⟩
   rcases hs with⟨c,rfl|rfl⟩|hs
   .simp only[Sem.runT];exact .inr ⟨trivial,ha.defs⟩
   .simp only[Sem.runT];exact .inr ⟨trivial,ha.defs⟩
   .have e1:∀(w:World)(es:Array Event),Sem.runT P (.store .plain a v k) w es=match w.cell? a with
     |some _=>if w.frozen? a then(.halt (.unsupported (.unsafePointer "a write to bytes that a string shares")) w,es)else k.runT P (w.setCell a v) (es.push ⟨.cell a,true,false⟩)
     |none=>match w.farStore P a v false with
      | .ok (w,touched)=>k.runT P w (es++touched.toArray.map (⟨.cell ·,true,false⟩))
      | .error h=>(.halt h w,es):=by
     intro w es;cases v<;>first|rfl|exact absurd rfl (hs _).1|exact absurd rfl (hs _).2
    have e2:∀(w:World)(es:Array Event),Sem.runT Q (.store .plain (ra f a) (rv f v) k') w es=match w.cell? (ra f a)with
     |some _=>if w.frozen? (ra f a)then(.halt (.unsupported (.unsafePointer "a write to bytes that a string shares")) w,es)else k'.runT Q (w.setCell (ra f a) (rv f v)) (es.push ⟨.cell (ra f a),true,false⟩)
     |none=>match w.farStore Q (ra f a) (rv f v) false with
      | .ok (w,touched)=>k'.runT Q w (es++touched.toArray.map (⟨.cell ·,true,false⟩))
      | .error h=>(.halt h w,es):=by
     intro w es;cases v<;>first|(simp only[jZ,iC,qX,mP,gF,dX,fD,nW,su,oh,kV,oP,jh];rfl)|exact absurd rfl (hs _).1|exact absurd rfl (hs _).2
    rw[e1,e2];cases hc:w.cell? a with
    |none=>
     obtain⟨x,hx,hb⟩:=ha.wr.LX a hA P v false;simp only[hx];exact .inr ⟨hb,ha.defs⟩
    |some x=>
     obtain⟨h1,_⟩:=ha.wr.cell hA hc;simp only[h1];cases hz:w.frozen? a with
     |true=>simp only[if_true];exact .inr ⟨trivial,ha.defs⟩
     |false=>
      rw[ha.wr.frozen hA hc hz];simp only[bC,if_false];obtain⟨hm,o,ho,hl⟩:=ha.store hf hA hc hz hv;obtain⟨o1,ho1,hl1,_⟩:=hm.lock _ o ho;exact qI.uo (e:=⟨.cell a,true,false⟩) ha hm ⟨rfl,hA,Aa hc, λ_=>⟨o1,ho1, λy=>hl (hl1.1 y)⟩⟩ (ih _ _ _ _ hm.ag)
 | @new o k k' ho h ih=>
   intro w W es es' ha;simp only[Sem.runT];have hn:f w.heap.size=W.heap.size:=by simpa using ha.next 0
   have hm:Mv F f w W { w with heap:=w.heap.push o } { W with heap:=W.heap.push (ro f o) }:=ha.new (by
    cases o with
    |cells c e fr=>exact .inr (.inl ⟨ha.GV _ (aJ _),c,e,fr,fr,rfl,ho,rfl, λi _ h1 h2=>⟨h1,h2⟩⟩)
    |_=>exact .inl ⟨ha.GV _ (aJ _),ho,rfl,rfl⟩)
   rw[<-hn];cases hA:F.A w.heap.size with
   |true=>exact qI.BH ha hm (ih _ hA (ha.GV _ (aJ _)) _ _ _ _ hm.ag)
   |false=>
    have :=runT_size (P:=P) (k w.heap.size) { w with heap:=w.heap.push o } es;simp only[Array.size_push]at this;exact .inl ⟨w.heap.size,aJ _,by omega,hA⟩
 | @mQ c e k0 k0' k k' ho e1 e2 h ih=>
   intro w W es es' ha;have hn:f w.heap.size=W.heap.size:=by simpa using ha.next 0
   have hsh:∀(w:World)(c:Array Value),World.shape? { w with heap:=w.heap.push (.cells c e (0,0)) } w.heap.size=some (e,c.size):=by
    intro w c;simp[World.shape?]
   simp only[Sem.runT];have ab1:=hsh W (c.map (rv f));rw[Array.size_map]at ab1;rw[hsh w c,ab1,e1, <-hn,e2,hn];simp only[Sem.runT];have hfr:=uq W (c.map (rv f)) e;rw[Array.size_map]at hfr;rw[uq,hfr]
   have hm:Mv F f w W { w with heap:=w.heap.push (.cells c e (c.size,c.size+1)) } { W with heap:=W.heap.push (.cells (c.map (rv f)) e (c.size,c.size+1)) }:=
    ha.new (.inr (.inl ⟨ha.GV _ (aJ _),c,e,_,(c.size,c.size+1),rfl,ho,rfl, λi _ h1 h2=>⟨h1,h2⟩⟩))
   cases hA:F.A w.heap.size with
   |true=>
    have :=ih w.heap.size hA (ha.GV _ (aJ _)) _ _ es es' hm.ag;rw[hn]at this;exact qI.BH ha hm this
   |false=>
    have :=runT_size (P:=P) (k w.heap.size) { w with heap:=w.heap.push (.cells c e (c.size,c.size+1)) } es;simp only[Array.size_push]at this;exact .inl ⟨w.heap.size,aJ _,by omega,hA⟩
 | @shape r k k' hA h hl ih ihl=>
   intro w W es es' ha;simp only[Sem.runT]
   by_cases hk:∃c fr C e' fr',w.heap[r]?=some (.cells c Sh.bad fr)∧W.heap[f r]?=some (.cells C e' fr')∧Sh.lk r=true
   .obtain⟨c,fr,C,e',fr',h1,h2,h3⟩:=hk;have e1:w.shape? r=some (Sh.bad,c.size):=by unfold World.shape?;rw[h1]
    have e2:W.shape? (f r)=some (e',C.size):=by unfold World.shape?;rw[h2]
    rw[e1,e2];exact ihl h3 _ _ w W es es' ha
   have:W.shape? (f r)=w.shape? r:=by
    unfold World.shape?;cases hr:w.heap[r]? with
    |none=>
     have h1:w.heap.size<=r:=by
      rcases bq r w.heap.size with h|h
      .simp[h]at hr
      .exact h
     have h2:=ha.next (r-w.heap.size);rw[show w.heap.size+(r-w.heap.size)=r from by omega]at h2;have:W.heap[f r]?=none:=by simp;omega
     rw[this]
    |some o=>
     rcases ha.wr.blk r o hA hr with⟨_,_,hc,hO⟩|⟨_,c,e,fr,fr',rfl,_,hO,_⟩|⟨h3,c,fr,C,e',fr',rfl,_,_,h2,_⟩
     .rw[hO];cases o<;>first|rfl|cases hc
     .rw[hO];simp
     .exact absurd ⟨c,fr,C,e',fr',hr,h2,h3⟩ hk
   rw[this];refine ih _ (λh3=>?_) w W es es' ha;unfold World.shape?;cases hr:w.heap[r]? with
   |none=>rfl
   |some o=>
    rcases ha.wr.blk r o hA hr with⟨h4,_⟩|⟨h4,_⟩|⟨_,c,fr,C,e',fr',rfl,_,_,h2,_⟩
    .rw[h4]at h3;cases h3
    .rw[h4]at h3;cases h3
    .exact absurd ⟨c,fr,C,e',fr',hr,h2,h3⟩ hk
 | @getObj r k k' hA h ih=>
   intro w W es es' ha;cases hr:w.heap[r]? with
   |none=>simp only[Sem.runT,hr];exact .inr ⟨trivial,ha.defs⟩
   |some o=>
    by_cases hc:isCells o=true
    .cases o<;>first|(simp only[Sem.runT,hr];exact .inr ⟨trivial,ha.defs⟩)|cases hc
    .have hc':isCells o=false:=by simpa using hc
     rcases ha.wr.blk r o hA hr with⟨hlk,hS,_,hO⟩|⟨_,c,e,fr,fr',rfl,_⟩|⟨_,c,fr,C,e',fr',rfl,_⟩
     .have hch:=xL hS;rw[sF k es hr hc',sF k' es' hO ((G9 o).trans hc'),En,hch];exact qI.uo (e:=⟨.obj r,false,false⟩) ha (Mv.refl ha) ⟨rfl,hA,o,hr,hc'⟩ (ih o hS hc' hlk w W _ _ ha)
     .cases hc'
     .cases hc'
 | @BG r k m' hA hl=>
   intro w W es es' ha;rcases ha.wr.Fw hA hl with hr|⟨c,fr,hr⟩<;>(simp only[Sem.runT,hr];exact .inr ⟨trivial,ha.defs⟩)
 | @setObj r o k k' hA ho hc h ih=>
   intro w W es es' ha;cases hr:w.heap[r]? with
   |none=>simp only[Sem.runT,hr];exact .inr ⟨trivial,ha.defs⟩
   |some x=>
    by_cases D9:isCells x=true
    .cases x<;>first|(simp only[Sem.runT,hr];exact .inr ⟨trivial,ha.defs⟩)|cases D9
    .have Ea:isCells x=false:=by simpa using D9
     rcases ha.wr.blk r x hA hr with⟨_,hS,_,hO⟩|⟨_,c,e,fr,fr',rfl,_⟩|⟨_,c,fr,C,e',fr',rfl,_⟩
     .have hch:=xL ho;rw[oU o k es hr Ea,oU (ro f o) k' es' hO ((G9 x).trans Ea),En,hch];have hm:=ha.setObj hf hA hr Ea ho hc;obtain⟨o1,ho1,_,hc1,_⟩:=hm.lock r x hr;exact qI.uo (e:=⟨.obj r,true,false⟩) ha hm ⟨rfl,hA,o1,ho1,hc1.trans Ea⟩ (ih _ _ _ _ hm.ag)
     .cases Ea
     .cases Ea
 | @choose q k k' h ih=>
   intro w W es es' ha;simp only[Sem.runT]
   by_cases hq:q.forced=true
   .simp only[hq,if_true];exact ih 0 w W es es' ha
   .simp only[hq,if_false,bC];have ht:=ha.tape 0 q;simp only[aH]at ht;rw[ht]
    have hm:Mv F f w W { w with drawn:=w.drawn+1 } { W with drawn:=W.drawn+1 }:=
     ⟨⟨⟨ha.wr.lt,ha.wr.blk⟩, λj q'=>by have :=ha.tape (1+j) q';simpa[Nat.add_assoc]using this,ha.next,ha.GV,ha.hol⟩,rfl,rfl,rfl,rfl,rfl,⟨1,rfl,rfl⟩,⟨0,rfl,rfl⟩, λ_ o ho=>⟨o,ho,Iff.rfl,rfl, λ_=>rfl⟩, λ_ v hv=>⟨v,hv⟩, λ_ _=>.inl rfl⟩
    exact qI.BH ha hm (ih _ _ _ es es' hm.ag)
 |program e h ih=>intro w W es es' ha;simp only[Sem.runT];rw[e Q hQ];exact ih w W es es' ha
 |noRoom h ih=>
  intro w W es es' ha;simp only[Sem.runT];exact qI.uo (e:=⟨.mark .noRoom,false,true⟩) ha (Mv.refl ha) ⟨rfl,rfl⟩ (ih w W _ _ ha)
 |lW h=>
  intro w W es es' ha;obtain⟨x,w',es1,h1,h2,h3⟩:=h w es;rw[h1];exact .inr ⟨h2, λr ds hA hr=>ha.defs r ds hA (h3 r ds hr)⟩
theorem dF.run(hf:∀a b,Sh.lk a=false->Sh.hol b=false->f a=f b->a=b){m:Sem α}{m':Sem β}(h:dF P F f R m m'):
 ∀(w W:World)(es es':Array Event),Ag F f w W->qI F f R w W es es' (m.runT P w es) (m'.runT P W es'):=h.BI (Alike.refl P) hf
end
end
section
variable [Sh]
def eF:Value->Bool
 | .bool _| .int .. | .string _| .nilFunc| .nilIface=>true
 | .pointer a=>a.isNone
 | .slice a .. =>a.isNone
 | .map a=>a.isNone
 | .chan a=>a.isNone
 |_=>false
def PX:Value->Bool
 | .agg cs=>cs.all eF
 |v=>eF v
def plain0:Value->Bool
 | .tuple cs=>cs.all PX
 |v=>eF v
def oV:Value->Bool
 | .agg cs=>cs.all plain0
 |v=>plain0 v
theorem iP{F:Fit}{f:Nat->Nat}{v:Value}(h:eF v=true):rv f v=v∧vs F v=true:=by
 cases v with
 |pointer a=>cases a<;>first|(cases h;done)|simp
 |slice a _ _=>cases a<;>first|(cases h;done)|simp
 |map a=>cases a<;>first|(cases h;done)|simp
 |chan a=>cases a<;>first|(cases h;done)|simp
 |_=>first|(cases h;done)|simp
theorem NH{F:Fit}{f:Nat->Nat}{v:Value}(h:PX v=true):rv f v=v∧vs F v=true:=by
 cases v with
 |agg cs=>
  have key:∀x∈cs,rv f x=x∧vs F x=true:= λx hx=>iP (aU.1 h x hx)
  refine⟨?_,lV.2 λx hx=>(key x hx).2⟩;rw[nX];congr 1;exact(Array.map_congr_left λx hx=>(key x hx).1).trans (Array.map_id _)
 |_=>exact iP h
theorem Eo{F:Fit}{f:Nat->Nat}{v:Value}(h:plain0 v=true):rv f v=v∧vs F v=true:=by
 cases v with
 |tuple cs=>
  have key:∀x∈cs,rv f x=x∧vs F x=true:= λx hx=>NH (aU.1 h x hx)
  refine⟨?_,q9.2 λx hx=>(key x hx).2⟩;rw[qY];congr 1;exact(Array.map_congr_left λx hx=>(key x hx).1).trans (Array.map_id _)
 |_=>exact iP h
theorem zn{F:Fit}{f:Nat->Nat}{v:Value}(h:oV v=true):rv f v=v∧vs F v=true:=by
 cases v with
 |agg cs=>
  have key:∀x∈cs,rv f x=x∧vs F x=true:= λx hx=>Eo (aU.1 h x hx)
  refine⟨?_,lV.2 λx hx=>(key x hx).2⟩;rw[nX];congr 1;exact(Array.map_congr_left λx hx=>(key x hx).1).trans (Array.map_id _)
 |_=>exact Eo h
theorem Ab{v:Value}(h:oV v=true):v.cells.all plain0=true:=by
 cases v with
 |agg cs=>exact h
 |_=>simpa[Value.cells,oV]using h
def mR(info:TypeId->Option TypeInfo):Prop:=∀t i v,info t=some i->i.zero=some v->oV v=true
theorem Ep{σ:Type}(I:σ->Prop){γ:Type}(body:γ->σ->Option (ForInStep σ))(hb:∀a s s',I s->body a s=some s'->match s' with | .yield x=>I x| .done x=>I x):
 ∀(l:List γ)(s s':σ),I s->forIn l s body=some s'->I s'
 | [],s,s',h,e=>by simp at e;exact e ▸ h
 |a::l,s,s',h,e=>by
  rw[List.forIn_cons]at e;cases hx:body a s with
  |none=>rw[hx]at e;cases e
  |some y=>
   rw[hx]at e;have :=hb a s y h hx;cases y with
   |done x=>cases e;exact this
   |yield x=>exact Ep I body hb l x s' this e
theorem NI{info:TypeId->Option TypeInfo}(hi:mR info){t:TypeId}{i:TypeInfo}(h:info t=some i){z:Option (Array Value)}{n:Nat}(hz:∀a,z=some a->a.all plain0=true):
 ∀a,(if n> Made.mostCells then none else do pure ((<-z)++(<-i.zero).cells))=some a->a.all plain0=true:=by
 intro a ha;split at ha
 .cases ha
 .obtain⟨x,hx,ha⟩:=aO.1 ha;obtain⟨y,hy,ha⟩:=aO.1 ha;cases ha;have h1:=hz x hx;have h2:=Ab (hi t i y h hy);rw[aU]at h1 h2⊢;intro v hv;rcases Array.mem_append.1 hv with hv|hv
  .exact h1 v hv
  .exact h2 v hv
theorem wM{info:TypeId->Option TypeInfo}(hi:mR info){fs:Array Field}{i:TypeInfo}{v:Value}(h:Made.reckonStruct info fs=some i)(hv:i.zero=some v):oV v=true:=by
 unfold Made.reckonStruct at h;simp only[<-Array.forIn_toList]at h;obtain⟨s,hs,h⟩:=aO.1 h
 have hI:=Ep (λs:Array Field×Nat×Nat×Nat×Nat×Bool×Bool×Option (Array Value)×String=>∀a,s.2.2.2.2.2.2.2.1=some a->a.all plain0=true) _ (λf s s' hI e=>by
  obtain⟨i,hii,e⟩:=aO.1 e;have key:=NI (n:=s.2.1+i.size) hi hii hI
  by_cases c1:i.str.isEmpty=true
  .rw[aj c1]at e;cases e
  rw[aa c1]at e
  by_cases c2:f.embedded=true
  .rw[aj c2]at e;cases e
  rw[aa c2]at e
  by_cases c3:f.tag.isEmpty=true
  .rw[aj c3]at e;obtain⟨tag,_,e⟩:=aO.1 e
   by_cases c4:i.bytes=0
   .rw[aj c4]at e;cases e;exact key
   .rw[aa c4]at e;cases e;exact key
  .rw[aa c3]at e;obtain⟨tag,_,e⟩:=aO.1 e
   by_cases c4:i.bytes=0
   .rw[aj c4]at e;cases e;exact key
   .rw[aa c4]at e;cases e;exact key) _ _ _ (by intro a ha;cases ha;simp) hs
 have fin:∀j:TypeInfo,some j=some i->j.zero=s.2.2.2.2.2.2.2.1.map .agg->oV v=true:=by
  intro j e hj;cases e;rw[hj]at hv;obtain⟨a,ha,rfl⟩:=Option.map_eq_some_iff.1 hv;exact hI a ha
 split at h<;>exact fin _ h rfl
theorem Fx{info:TypeId->Option TypeInfo}(hi:mR info){d:TypeDesc}{i:TypeInfo}{v:Value}(h:Made.reckon info d=some i)(hv:i.zero=some v):oV v=true:=by
 unfold Made.reckon at h;cases d with
 |pointer e=>
  obtain⟨j,_,h⟩:=aO.1 h;split at h
  .cases h
  .split at h
   .cases h
   .obtain⟨x,_,h⟩:=aO.1 h;cases h;cases hv;rfl
  .obtain⟨x,_,h⟩:=aO.1 h;cases h;cases hv;rfl
 |slice e=>
  obtain⟨j,_,h⟩:=aO.1 h;obtain⟨x,_,h⟩:=aO.1 h;cases h;cases hv;rfl
 |map k e=>
  obtain⟨j,_,h⟩:=aO.1 h;obtain⟨x,_,h⟩:=aO.1 h;obtain⟨j',_,h⟩:=aO.1 h;obtain⟨x',_,h⟩:=aO.1 h;cases h;cases hv;rfl
 |chan dir e=>
  obtain⟨j,_,h⟩:=aO.1 h;obtain⟨x,_,h⟩:=aO.1 h;cases h;cases hv;rfl
 |func ps rs vr=>
  obtain⟨x,_,h⟩:=aO.1 h;cases h;cases hv;rfl
 |array n e=>
  obtain⟨j,hj,h⟩:=aO.1 h;obtain⟨x,_,h⟩:=aO.1 h;cases h;dsimp only at hv;split at hv
  .cases hv
  .split at hv
   .cases hv;simp[oV]
   .obtain⟨z,hz,rfl⟩:=Option.map_eq_some_iff.1 hv;have :=Ab (hi e j z hj hz);show(Array.flatten _).all plain0=true;rw[aU]at this⊢;intro y hy;obtain⟨c,hc,hyc⟩:=Array.mem_flatten.1 hy;rw[(Array.mem_replicate.1 hc).2]at hyc;exact this y hyc
 |struct fs=>exact wM hi h hv
 |_=>cases h
theorem xM{T:Tables}(hT:mR λt=>T.types[t]?):∀n,mR (Made.infoAt T n)
 |0=>by intro t i v h;cases h
 |n+1=>by
  intro t i v h hv;unfold Made.infoAt at h;split at h
  .exact hT t i v h hv
  .obtain⟨d,_,h⟩:=aO.1 h;exact Fx (xM hT n) h hv
theorem JM{T:Tables}(hT:mR λt=>T.types[t]?):mR T.info?:=by
 intro t i v h hv;unfold Tables.info? at h;split at h
 .exact hT t i v h hv
 .exact xM hT _ t i v h hv
def iA(P:Program):Bool:=P.types.all λi=>match i.zero with |some v=>oV v|none=>true
structure Rn(P:Program)(f:Nat->Nat):Prop where
 inj:∀a b,Sh.lk a=false->Sh.hol b=false->f a=f b->a=b
 ja:∀b,b<=P.globals.size->f b=b
 gD:iA P=true
 ZN:∀b,b<=P.globals.size->Sh.lk b=false
 bad:∀b,Sh.lk b=true->P.info? Sh.bad=none
 cc:∀b,Sh.lk b=true->∀t i,P.info? t=some i->∀u,i.desc≠ .named "sync.copyChecker" u
def VR(F:Fit)(f:Nat->Nat)(v v':Value):Prop:=v'=rv f v∧vs F v=true
def AR(F:Fit)(f:Nat->Nat)(a a':Addr):Prop:=a'=ra f a∧F.A a.block=true
def jf(F:Fit)(f:Nat->Nat)(v v':Array Value):Prop:=v'=v.map (rv f)∧VS F v
section
variable {P:Program} {F:Fit} {f:Nat->Nat} {α β γ δ:Type}
theorem dF.mono{R R':α->β->Prop}{m:Sem α}{m':Sem β}(h:dF P F f R m m')(hr:∀a b,R a b->R' a b):dF P F f R' m m':=by
 induction h with
 |pure h=>exact .pure (hr _ _ h)
 |load hA h ih=>exact .load hA λv hv=>ih v hv
 |store hA hv h ih=>exact .store hA hv ih
 |new ho h ih=>exact .new ho ih
 |mQ ho e1 e2 h ih=>exact .mQ ho e1 e2 ih
 |shape hA h hl ih ihl=>exact .shape hA ih ihl
 |getObj hA h ih=>exact .getObj hA λo h1 h2 h3=>ih o h1 h2 h3
 |BG hA hl=>exact .BG hA hl
 |setObj hA ho hc h ih=>exact .setObj hA ho hc ih
 |choose h ih=>exact .choose ih
 |program e h ih=>exact .program e ih
 |noRoom h ih=>exact .noRoom ih
 |lW h=>exact .lW h
theorem runT_bind(m:Sem α)(k:α->Sem γ):∀(w:World)(es:Array Event),Sem.runT P (m.bind k) w es=match Sem.runT P m w es with
 |(.ok a w',es')=>Sem.runT P (k a) w' es'
 |(.halt h w',es')=>(.halt h w',es'):=by
 induction m with
 |pure a=>intro w es;rfl
 |load m a k' ih=>
  intro w es;simp only[Sem.bind,Sem.runT];cases w.cell? a with
  |some v=>exact ih v _ _
  |none=>
   dsimp only;cases w.farLoad P a (m== .atomic)with
   |ok x=>exact ih _ _ _
   |error x=>rfl
 |store m a v k' ih=>
  intro w es
  cases v<;>first
   |rfl
   |(simp only[Sem.bind,Sem.runT];cases w.cell? a with
     |some x=>
      dsimp only
      by_cases hz:w.frozen? a=true
      .simp only[hz,if_true]
      .simp only[hz,if_false,bC];exact ih _ _
     |none=>
      dsimp only;cases w.farStore P a _ (m== .atomic)with
      |ok x=>exact ih _ _
      |error x=>rfl)
 |new o k' ih=>intro w es;exact ih _ _ _
 |shape r k' ih=>intro w es;exact ih _ _ _
 |freeze a n k' ih=>intro w es;exact ih _ _
 |frozen a k' ih=>intro w es;exact ih _ _ _
 |getObj r k' ih=>
  intro w es;simp only[Sem.bind,Sem.runT];cases hr:w.heap[r]? with
  |none=>rfl
  |some o=>cases o<;>first|rfl|exact ih _ _ _
 |setObj r o k' ih=>
  intro w es;simp only[Sem.bind,Sem.runT];cases hr:w.heap[r]? with
  |none=>rfl
  |some o=>cases o<;>first|rfl|exact ih _ _
 |choose q k' ih=>
  intro w es;simp only[Sem.bind,Sem.runT]
  by_cases hq:q.forced=true
  .simp only[hq,if_true];exact ih _ _ _
  .simp only[hq,if_false,bC];exact ih _ _ _
 |sys c k' ih=>intro w es;exact ih _ _ _
 |program k' ih=>intro w es;exact ih _ _ _
 |mark m k' ih=>intro w es;exact ih _ _
 |halt h=>intro w es;rfl
theorem dF.PY{R:α->β->Prop}{R':γ->δ->Prop}{m:Sem α}{m':Sem β}{k:α->Sem γ}{k':β->Sem δ}(h:dF P F f R m m')(hk:∀a b,R a b->dF P F f R' (k a) (k' b)):
 dF P F f R' (m.bind k) (m'.bind k'):=by
 induction h with
 |pure h=>exact hk _ _ h
 |load hA h ih=>exact .load hA λv hv=>ih v hv
 |store hA hv h ih=>exact .store hA hv ih
 |new ho h ih=>exact .new ho ih
 |mQ ho e1 e2 h ih=>exact .mQ (k:= λr=>(_:Sem α).bind k) (k':= λr=>(_:Sem β).bind k') ho (λr=>by rw[e1];rfl) (λr=>by rw[e2];rfl) ih
 |shape hA h hl ih ihl=>exact .shape hA ih ihl
 |getObj hA h ih=>exact .getObj hA λo h1 h2 h3=>ih o h1 h2 h3
 |BG hA hl=>exact .BG hA hl
 |setObj hA ho hc h ih=>exact .setObj hA ho hc ih
 |choose h ih=>exact .choose ih
 |program e h ih=>exact .program (λQ hQ=>by show(_:Sem β).bind _=_;rw[e Q hQ]) ih
 |noRoom h ih=>exact .noRoom ih
 |lW h=>
  refine .lW λw es=>?_
  obtain⟨x,w',es',h1,h2⟩:=h w es;exact⟨x,w',es',by rw[runT_bind,h1],h2⟩
theorem dF.bind{R:α->β->Prop}{R':γ->δ->Prop}{m:Sem α}{m':Sem β}{k:α->Sem γ}{k':β->Sem δ}(h:dF P F f R m m')(hk:∀a b,R a b->dF P F f R' (k a) (k' b)):
 dF P F f R' (m>>=k) (m'>>=k'):=h.PY hk
theorem dF.dL{R':γ->δ->Prop}{m m':Sem α}{k:α->Sem γ}{k':α->Sem δ}(h:dF P F f Eq m m')(hk:∀a,dF P F f R' (k a) (k' a)):dF P F f R' (m>>=k) (m'>>=k'):=
 h.bind λa b e=>by subst e;exact hk a
theorem dF.ret{R:α->β->Prop}{a:α}{b:β}(h:R a b):dF P F f R (Pure.pure a) (Pure.pure b):=.pure h
theorem vk(s:String):G7 (.stuck s):=trivial
theorem gL{R:α->β->Prop}(s:String)(m':Sem β):dF P F f R (stuck s) m':=.bad (vk s)
theorem uu{R:α->β->Prop}{u:Unsupported}(h:∀g,u≠ .initOrder g)(m':Sem β):dF P F f R (unsupported u) m':=.bad (by cases u<;>first|trivial|exact absurd rfl (h _))
theorem LY(a:Addr)(hA:F.A a.block=true):dF P F f (VR F f) (load a) (load (ra f a)):=.load hA λ_ hv=>.pure ⟨rfl,hv⟩
theorem PZ(a:Addr)(hA:F.A a.block=true){v:Value}(hv:vs F v=true):dF P F f Eq (store a v) (store (ra f a) (rv f v)):=.store hA hv (.pure rfl)
theorem oI{o:Obj}(ho:oS F o):dF P F f (λr r'=>r'=f r∧F.A r=true∧Sh.lk r=false) (newObj o) (newObj (ro f o)):=.new ho λ_ h hl=>.pure ⟨rfl,h,hl⟩
theorem BJ{r n:Nat}{x:Option Nat}(h:Sh.lk r=false):ra f ⟨r,n,x⟩=⟨f r,n,x⟩:=by unfold ra;simp[Sh.Xp _ h]
theorem jc(r:Nat)(hA:F.A r=true):dF P F f (λo o'=>o'=ro f o∧oS F o∧isCells o=false) (getObj r) (getObj (f r)):=.getObj hA λ_ h1 h2 _=>.pure ⟨rfl,h1,h2⟩
theorem JN(r:Nat)(hA:F.A r=true):dF P F f (λo o'=>o'=ro f o∧oS F o∧isCells o=false∧Sh.lk r=false) (getObj r) (getObj (f r)):=.getObj hA λ_ h1 h2 h3=>.pure ⟨rfl,h1,h2,h3⟩
theorem mU(r:Nat)(hA:F.A r=true){o:Obj}(ho:oS F o)(hc:isCells o=false):dF P F f Eq (setObj r o) (setObj (f r) (ro f o)):=.setObj hA ho hc (.pure rfl)
theorem lu(q:Question):dF P F f Eq (choose q) (choose q):=.choose λ_=>.pure rfl
section
variable {P Q:Program}
theorem P5(P:Program)(q:FuncId)(c:Code)(g:FuncId):(P.stub q c).funcs[g]?=(P.funcs[g]?).map λfn=>if g=q then{ fn with body:=some c }else fn:=by
 show(P.funcs.modify q _)[g]?=_
 rw[bz]
 by_cases e:q=g
 .subst e;simp
 .rw[aa e];cases P.funcs[g]? with
  |none=>rfl
  |some fn=>
   show some fn=some (if g=q then _ else fn);rw[aa λh:g=q=>e h.symm]
theorem Alike.get(hQ:Alike P Q)(g:FuncId):∃h:Func->Func,Q.funcs[g]?=(P.funcs[g]?).map h∧∀fn,∃b,h fn= { fn with body:=b }∧(fn.body.isSome=true->b.isSome=true):=by
 obtain⟨fs,rfl,h⟩:=hQ;exact h g
theorem Alike.stub(P:Program)(q:FuncId)(c:Code):Alike P (P.stub q c):=⟨(P.stub q c).funcs,rfl, λg=>by
 refine⟨_,P5 P q c g, λfn=>?_⟩;split
 .exact⟨_,rfl, λ_=>rfl⟩
 .exact⟨fn.body,rfl,id⟩⟩
theorem Alike.trans{R:Program}(h:Alike P Q)(k:Alike Q R):Alike P R:=by
 obtain⟨fs,rfl,h⟩:=h;obtain⟨gs,rfl,k⟩:=k;refine⟨gs,rfl, λg=>?_⟩
 obtain⟨x,h1,h2⟩:=h g;obtain⟨y,k1,k2⟩:=k g;refine⟨λfn=>y (x fn),?_, λfn=>?_⟩
 .rw[k1];show(fs[g]?).map y=_;rw[h1,Option.map_map];rfl
 .obtain⟨b,e1,e2⟩:=h2 fn;obtain⟨b',e3,e4⟩:=k2 (x fn);rw[e1]at e4;refine⟨b',?_, λz=>e4 (e2 z)⟩;dsimp only;rw[e3,e1]
theorem Alike.underlying(h:Alike P Q)(t:TypeId):Q.underlying t=P.underlying t:=by obtain⟨_,rfl,_⟩:=h;rfl
theorem Alike.info(h:Alike P Q)(t:TypeId):Q.info? t=P.info? t:=by obtain⟨_,rfl,_⟩:=h;rfl
theorem Alike.cellsOf(h:Alike P Q)(t:TypeId):Q.cellsOf t=P.cellsOf t:=by obtain⟨_,rfl,_⟩:=h;rfl
theorem Alike.bytesOf(h:Alike P Q)(t:TypeId):Q.bytesOf t=P.bytesOf t:=by obtain⟨_,rfl,_⟩:=h;rfl
theorem Alike.depth(h:Alike P Q):Q.depth=P.depth:=by obtain⟨_,rfl,_⟩:=h;rfl
theorem Alike.globals(h:Alike P Q):Q.globals=P.globals:=by obtain⟨_,rfl,_⟩:=h;rfl
theorem Alike.underlyingId(h:Alike P Q)(t:TypeId):Q.underlyingId t=P.underlyingId t:=by obtain⟨_,rfl,_⟩:=h;rfl
theorem Alike.cutTypes(h:Alike P Q):Q.cutTypes=P.cutTypes:=by obtain⟨_,rfl,_⟩:=h;rfl
theorem Alike.tags(h:Alike P Q):∀n t u,Q.alikeButTags n t u=P.alikeButTags n t u
 |0,_,_=>rfl
 |n+1,t,u=>by
  unfold Go.Program.alikeButTags;simp only[h.underlying,h.info,h.underlyingId,Alike.tags h n]
theorem Alike.stoodInHeld(h:Alike P Q)(t:TypeId):Q.stoodInHeld t=P.stoodInHeld t:=by
 unfold Go.Program.stoodInHeld Go.Program.stoodInAs;simp only[h.underlying,h.info,h.underlyingId,h.depth,h.cutTypes,h.tags]
theorem Alike.byteOfCell(h:Alike P Q):∀d t off,Go.byteOfCell Q d t off=Go.byteOfCell P d t off
 |0,_,_=>rfl
 |d+1,t,off=>by
  unfold Go.byteOfCell;simp only[h.underlying,h.cellsOf,h.bytesOf,Alike.byteOfCell h d]
theorem Alike.cellOfByte(h:Alike P Q):∀d t b,Go.cellOfByte Q d t b=Go.cellOfByte P d t b
 |0,_,_=>rfl
 |d+1,t,b=>by
  unfold Go.cellOfByte;simp only[h.underlying,h.cellsOf,h.bytesOf,Alike.cellOfByte h d]
theorem Alike.cellAtBytes(h:Alike P Q)(d:Nat)(e:TypeId)(n o:Nat)(b:Int):Go.cellAtBytes Q d e n o b=Go.cellAtBytes P d e n o b:=by
 unfold Go.cellAtBytes;simp only[h.cellsOf,h.bytesOf,h.byteOfCell,h.cellOfByte]
theorem Alike.eqGuardType(h:Alike P Q):∀d t,Q.eqGuardType d t=P.eqGuardType d t
 |0,_=>rfl
 |d+1,t=>by
  unfold Go.Program.eqGuardType;simp only[h.underlying,Alike.eqGuardType h d]
end
theorem dF.rq{R:α->β->Prop}{k:Program->Sem α}{k':Program->Sem β}(h:dF P F f R (k P) (k' P))(e:∀Q,Alike P Q->k' Q=k' P:=by rintro _⟨_,rfl,_⟩;rfl):dF P F f R (Go.program>>=k) (Go.program>>=k'):=.program e h
theorem NJ:dF P F f Eq (mark .noRoom) (mark .noRoom):=.noRoom (.pure rfl)
theorem Ae(t:TypeId):dF P F f (λa b=>a=b∧P.info? t=some a) (typeInfo t) (typeInfo t):=by
 unfold typeInfo;refine .rq ?_
 split
 .exact .ret ⟨rfl,by assumption⟩
 .exact gL _ _
theorem iR(t:TypeId):dF P F f Eq (typeInfo t) (typeInfo t):=(Ae t).mono λ_ _ h=>h.1
theorem dQ(t:TypeId):dF P F f Eq (underlying t) (underlying t):=by
 unfold underlying;refine .rq ?_
 split
 .exact .ret rfl
 .exact gL _ _
theorem gZ(t:TypeId):dF P F f Eq (Go.sizeOf t) (Go.sizeOf t):=by
 unfold Go.sizeOf;exact(iR t).dL λ_=>.ret rfl
theorem He(t:TypeId):dF P F f Eq (isAgg t) (isAgg t):=by
 unfold isAgg;refine(dQ t).dL λd=>?_
 split<;>exact .ret rfl
theorem Un(hz:iA P=true){t:TypeId}{i:TypeInfo}{v:Value}(h:P.info? t=some i)(hv:i.zero=some v):rv f v=v∧vs F v=true:=by
 refine zn (JM (λt i v h hv=>?_) t i v h hv);have hm:i∈P.types:=aZ h;have :=aU.1 hz i hm
 rwa [hv]at this
theorem kr(hz:iA P=true)(t:TypeId):dF P F f (λv v'=>v'=v∧rv f v=v∧vs F v=true) (zeroValue t) (zeroValue t):=by
 unfold zeroValue;refine(Ae t).bind ?_
 rintro i _⟨rfl,hi⟩;split
 .exact .ret ⟨rfl,Un hz hi (by assumption)⟩
 .exact uu (by simp) _
theorem BK(hz:iA P=true)(t:TypeId):dF P F f (VR F f) (zeroValue t) (zeroValue t):=(kr hz t).mono λ_ _ h=>⟨h.1.trans h.2.1.symm,h.2.2⟩
theorem add_block'(a:Addr)(n:Nat):(a.add n).block=a.block:=by unfold Addr.add;split<;>rfl
theorem ru(a:Addr)(hA:F.A a.block=true):∀(n i:Nat)(acc:Array Value),VS F acc->dF P F f (jf F f) (loadCellsFrom a i n acc) (loadCellsFrom (ra f a) i n (acc.map (rv f)))
 |0,_,_,h=>.ret ⟨rfl,h⟩
 |n+1,i,acc,h=>by
  unfold loadCellsFrom;refine(dF.bind (by rw[<-zl];exact LY _ (by rw[add_block'];exact hA)) ?_);rintro v _⟨rfl,hv⟩;rw[<-Array.map_push]
  exact ru a hA n (i+1) _ λx hx=>by
   rcases Array.mem_push.1 hx with hx|rfl
   .exact h x hx
   .exact hv
theorem xN(a:Addr)(hA:F.A a.block=true)(n:Nat):dF P F f (jf F f) (loadCells a n) (loadCells (ra f a) n):=by
 have :=ru (P:=P) (F:=F) (f:=f) a hA n 0 #[] (by intro x hx;simp at hx);simpa[loadCells]using this
theorem nG(a:Addr)(hA:F.A a.block=true):∀(l:List Value)(i:Nat),(∀v∈l,vs F v=true)->dF P F f Eq (storeCells a l i) (storeCells (ra f a) (l.map (rv f)) i)
 | [],_,_=>.ret rfl
 |v::l,i,h=>by
  simp only[aC];unfold storeCells;refine dF.dL (by rw[<-zl];exact PZ _ (by rw[add_block'];exact hA) (h v (by simp))) λ_=>?_
  exact nG a hA l (i+1) λx hx=>h x (by simp[hx])
theorem BL(t:TypeId)(a:Addr)(hA:F.A a.block=true):dF P F f (VR F f) (loadVar t a) (loadVar t (ra f a)):=by
 unfold loadVar;refine(He t).dL λb=>?_
 cases b
 .simpa using LY a hA
 .simp only[if_true];refine(gZ t).dL λn=>?_
  refine(xN a hA n).bind ?_
  rintro c _⟨rfl,hc⟩;exact .ret ⟨by simp,lV.2 hc⟩
theorem Hf(t:TypeId)(a:Addr)(hA:F.A a.block=true){v:Value}(hv:vs F v=true):dF P F f Eq (storeVar t a v) (storeVar t (ra f a) (rv f v)):=by
 unfold storeVar;refine(gZ t).dL λn=>?_
 rw[qZ,Array.size_map,Array.toList_map];split
 .exact(gL (R:=Eq) _ _).dL λ_=>nG a hA _ _ λx hx=>VS.cells hv x (by simpa using hx)
 .exact nG a hA _ _ λx hx=>VS.cells hv x (by simpa using hx)
theorem ry(e:TypeId){c:Array Value}(hc:VS F c):dF P F f (AR F f) (newRow e c) (newRow e (c.map (rv f))):=by
 unfold newRow;refine dF.bind (oI (o:=.cells c e) hc) ?_
 rintro r _⟨rfl,hr,hl⟩;exact .ret ⟨(BJ hl).symm,hr⟩
theorem Er(t:TypeId){v:Value}(hv:vs F v=true):dF P F f (AR F f) (newVar t v) (newVar t (rv f v)):=by
 unfold newVar;rw[qZ];exact ry t (VS.cells hv)
end
end
end Par
namespace Par
open Go Go.RowKit
section
def dU(w:World)(v:Value):Prop:=∀g,v.ownBlock=some g->∃cur e,w.heap[g]?=some (.cells cur e)∧∀x∈cur,eF x=true
theorem dU.nil(w:World):dU w (.slice none 0 0):= λg h=>by cases h
theorem dU.keep{w w':World}{v:Value}(h:dU w v)(hk:∀g,v.ownBlock=some g->w'.heap[g]?=w.heap[g]?):dU w' v:= λg hg=>by
 obtain⟨c,e,h1,h2⟩:=h g hg;exact⟨c,e,(hk g hg).trans h1,h2⟩
theorem dU.alloc{w:World}{v:Value}(h:dU w v)(o:Obj):dU (w.alloc o) v:= λg hg=>by
 obtain⟨c,e,h1,h2⟩:=h g hg;exact⟨c,e,(Below.heap_alloc _ _ _ (aI.1 h1).1).trans h1,h2⟩
theorem dU.setCell{w:World}{g n cap j:Nat}{v:Value}(h:dU w (.slice (some ⟨g,0,none⟩) n cap))(hv:eF v=true):dU (w.setCell ⟨g,j,none⟩ v) (.slice (some ⟨g,0,none⟩) n cap):= λg' hg=>by
 have e:g=g':=by simpa[Value.ownBlock]using hg
 subst e;obtain⟨c,e,h1,h2⟩:=h g rfl;refine⟨c.setIfInBounds j v,e,heap_setCell_same w g j c e v h1, λx hx=>?_⟩
 .rcases bG hx with hx|rfl
  .exact h2 x hx
  .exact hv
section
variable {P:Program} {w:World}
theorem mV(base:Nat)(t ty e:TypeId)(i:TypeInfo)(z:Value)(size bytes:Nat)(ht:P.underlying t=some (.slice e))(hi:P.info? e=some i)(hz:i.zero=some z)
 (hsize:i.size=size) (hby:i.bytes=bytes) (hzs:z.cells.size=size) (hsz:0<size)
 (v:Value) (n:Nat) (xs:List Value) (hown:w.ownsRow base e size v n xs)
 (a:Addr) (m c:Nat) (news:List Value) (hl:news.length=m*size) (hnews:∀j u,news[j]?=some u->w.cell? (a.add j)=some u) (h1:∀u∈news,u.oneCell'=true)
 (h63:n+m<=maxLen) (hbytes:(n+m)*bytes<=140737488355328) (hbase:base<=w.heap.size)
 (hpv:dU w v) (hpx:∀u∈news,eF u=true) (hpz:∀u∈z.cells,eF u=true) {v':Value} {w':World}
 (hr:(Builtin.append_ #[t,t] ty #[v,.slice (some a) m c]).run P w=.ok v' w'):dU w' v':=by
 subst hsize;subst hby;have hsmall:n+m<=9223372036854775807:=by simp only[maxLen]at h63;omega
 have zc:∀k,∀x∈Builtin.zeroCells z.cells k,eF x=true:=by
  intro k x hx;unfold Builtin.zeroCells at hx;simp at hx;obtain⟨q,_,rfl⟩:=hx;have hlt:q%z.cells.size<z.cells.size:=Nat.mod_lt _ (by omega);rw[getElem!_pos z.cells _ hlt];exact hpz _ (Array.getElem_mem hlt)
 rcases hown.2 with⟨rfl,rfl⟩|⟨g,cap,cur,rfl,hbg,hg,hnc,hcm,hcs,htake⟩
 .have hx:xs= []:=List.eq_nil_of_length_eq_zero (by simpa using hown.1);subst hx
  by_cases hm:m=0
  .subst hm;have hn:news= []:=List.eq_nil_of_length_eq_zero (by simpa using hl);subst hn
   have:(Builtin.append_ #[t,t] ty #[.slice none 0 0,.slice (some a) 0 c]).run P w=.ok (.slice none 0 0) w:=by
    simp[Builtin.append_,run_underlying ht,Go.sizeOf,Go.typeInfo,hi,Builtin.lenOf,Builtin.firstCells,loadCells,loadCellsFrom]
   rw[this]at hr;cases hr;exact .nil _
  .have hr2:=run_append_nil (P:=P) w t ty e i z ht hi hz a m c news hl hnews (by omega) (by omega) (by have hb:=hbytes;simp only[Nat.zero_add]at hb;omega);rw[hr2]at hr;cases hr;intro g hg;have e1:w.heap.size=g:=by simpa[Value.ownBlock]using hg
   subst e1;refine⟨_,_,heap_alloc_new w.drew _, λx hx=>?_⟩;simp only[Array.mem_append,aB]at hx;rcases hx with hx|hx
   .exact hpx x hx
   .exact zc _ x hx
 .by_cases hroom:n+m<=cap
  .have hfit:n*i.size+news.length<=cur.size:=by rw[hl,hcs, <-Nat.add_mul];exact Nat.mul_le_mul_right _ hroom
   have hr2:=run_append_room (P:=P) w t ty e i ht hi g n cap cur hg a m c news hl hnews h1 hroom hfit;rw[hr2]at hr;cases hr;intro g' hg';have e1:g=g':=by simpa[Value.ownBlock]using hg'
   subst e1;obtain⟨c',e',q1,q2⟩:=hpv g rfl;rw[hg]at q1;cases q1;refine⟨_,_,setRow_heap w g cur _ e _ hg, λx hx=>?_⟩;simp only[aB,List.mem_append]at hx;rcases hx with(hx|hx)|hx
   .exact q2 x (by have :=bE hx;simpa using this)
   .exact hpx x hx
   .exact q2 x (by have :=List.mem_of_mem_drop hx;simpa using this)
  .have holds:∀j u,xs[j]?=some u->w.cell? ((⟨g,0,none⟩:Addr).add j)=some u:=hown.cells (g:=g) rfl
   have hr2:=run_append_grow (P:=P) w t ty e i z ht hi hz ⟨g,0,none⟩ n cap xs hown.1 holds a m c news hl hnews (by omega) (by omega) (growslice_fits (by omega) hbytes);rw[hr2]at hr;cases hr;intro g' hg';have e1:w.heap.size=g':=by simpa[Value.ownBlock]using hg'
   subst e1;obtain⟨c',e',q1,q2⟩:=hpv g rfl;rw[hg]at q1;cases q1;refine⟨_,_,heap_alloc_new w.drew _, λx hx=>?_⟩;simp only[Array.mem_append,aB]at hx;rcases hx with(hx|hx)|hx
   .rw[<-htake]at hx;exact q2 x (by have :=bE hx;simpa using this)
   .exact hpx x hx
   .exact zc _ x hx
theorem fZ{ops:Array Oper}{rest:List Oper}{o:Oper}{a:Act}{Q:Exit->Act->World->Prop}(hgd:o.guard=none)(s x:Operand)(t:TypeId)
 (ho:o.op=.call { callee:=.builtin .append,args:= #[s,x],argTypes:= #[t,t] })
 (base:Nat) (e:TypeId) (i:TypeInfo) (z:Value) (size bytes:Nat) (ht:P.underlying t=some (.slice e)) (hi:P.info? e=some i) (hz:i.zero=some z)
 (hsize:i.size=size) (hby:i.bytes=bytes) (hzs:z.cells.size=size) (hsz:0<size)
 (v:Value) (n:Nat) (xs:List Value) (hs:a.eval s=v) (hown:w.ownsRow base e size v n xs)
 (ad:Addr) (m c:Nat) (news:List Value) (hx:a.eval x=.slice (some ad) m c) (hl:news.length=m*size) (hnews:∀j u,news[j]?=some u->w.cell? (ad.add j)=some u) (h1:∀u∈news,u.oneCell'=true)
 (h63:n+m<=maxLen) (hbytes:(n+m)*bytes<=140737488355328) (hbase:base<=w.heap.size) (hpv:dU w v) (hpx:∀u∈news,eF u=true) (hpz:∀u∈z.cells,eF u=true)
 (h:∀v' w',w'.ownsRow base e size v' (n+m) (xs++news)->w.grownBy w' v.ownBlock->(v'=.slice none 0 0↔v=.slice none 0 0∧m=0)->dU w' v'->wpList P ops Q rest (a.put o.dst v') w'):wpList P ops Q (o::rest) a w:=
 wpList_plain hgd λK hK=>by
  obtain⟨v',w',hr,h2,h3,h4⟩:=run_append_own (P:=P) w base t o.type e i z size bytes ht hi hz hsize hby hzs hsz v n xs hown ad m c news hl hnews h1 h63 hbytes hbase;have hp:=mV (P:=P) (w:=w) base t o.type e i z size bytes ht hi hz hsize hby hzs hsz v n xs hown ad m c news hl hnews h1 h63 hbytes hbase hpv hpx hpz hr;unfold Oper.wp execOp;simp only[ho,resolve,invoke,builtin,Sem.run_bind,Sem.run_pure,Result.andThen_ok,List.map_toArray,aC,List.map_nil,hs,hx,hr];exact hK _ _ (h v' w' h2 h3 h4 hp)
theorem xO{o:Oper}{a:Act}{K:Act->World->Prop}{Q:Exit->Act->World->Prop}(s x:Operand)(t:TypeId)
 (ho:o.op=.call { callee:=.builtin .append,args:= #[s,x],argTypes:= #[t,t] })
 (base:Nat) (e:TypeId) (i:TypeInfo) (z:Value) (size bytes:Nat) (ht:P.underlying t=some (.slice e)) (hi:P.info? e=some i) (hz:i.zero=some z)
 (hsize:i.size=size) (hby:i.bytes=bytes) (hzs:z.cells.size=size) (hsz:0<size)
 (v:Value) (n:Nat) (xs:List Value) (hs:a.eval s=v) (hown:w.ownsRow base e size v n xs)
 (ad:Addr) (m c:Nat) (news:List Value) (hx:a.eval x=.slice (some ad) m c) (hl:news.length=m*size) (hnews:∀j u,news[j]?=some u->w.cell? (ad.add j)=some u) (h1:∀u∈news,u.oneCell'=true)
 (hm:0<m) (h63:n+m<=maxLen) (hbytes:(n+m)*bytes<=140737488355328) (hbase:base<=w.heap.size) (H:Nat) (hH:w.heap.size=H) (hpv:dU w v) (hpx:∀u∈news,eF u=true) (hpz:∀u∈z.cells,eF u=true)
 (h:∀g cap w',w'.ownsRow base e size (.slice (some ⟨g,0,none⟩) (n+m) cap) (n+m) (xs++news)->w.grownBy w' v.ownBlock->(v.ownBlock=some g∨g=H)->g<w'.heap.size->dU w' (.slice (some ⟨g,0,none⟩) (n+m) cap)->K (a.put o.dst (.slice (some ⟨g,0,none⟩) (n+m) cap)) w'):
 Oper.wp P o a w K Q:=by
 obtain⟨v',w',hr,h2,h3,_,h5⟩:=run_append_own_at (P:=P) w base t o.type e i z size bytes ht hi hz hsize hby hzs hsz v n xs hown ad m c news hl hnews h1 h63 hbytes hbase;have hp:=mV (P:=P) (w:=w) base t o.type e i z size bytes ht hi hz hsize hby hzs hsz v n xs hown ad m c news hl hnews h1 h63 hbytes hbase hpv hpx hpz hr;unfold Oper.wp execOp;simp only[ho,resolve,invoke,builtin,Sem.run_bind,Sem.run_pure,Result.andThen_ok,List.map_toArray,aC,List.map_nil,hs,hx,hr];rcases h2.2 with⟨h0,_⟩|⟨g,cap,cur,rfl,hbg,hg,_⟩
 .omega
 .exact h g cap w' h2 h3 (by rcases h5 with h5|h5
                             .exact .inl (h5.symm.trans rfl)
                             .exact .inr (by have :=h5;simp[Value.ownBlock]at this;omega)) (aI.1 hg).1 hp
theorem lX{ops:Array Oper}{o:Oper}{a:Act}{K:Act->World->Prop}{Q:Exit->Act->World->Prop}{E:Prop}(hgd:o.guard=none)(s x:Operand)(t:TypeId)
 (ho:o.op=.call { callee:=.builtin .append,args:= #[s,x],argTypes:= #[t,t] })
 (base:Nat) (e:TypeId) (i:TypeInfo) (z:Value) (size bytes:Nat) (ht:P.underlying t=some (.slice e)) (hi:P.info? e=some i) (hz:i.zero=some z)
 (hsize:i.size=size) (hby:i.bytes=bytes) (hzs:z.cells.size=size) (hsz:0<size)
 (v:Value) (n:Nat) (xs:List Value) (hs:a.eval s=v) (hown:w.ownsRow base e size v n xs)
 (ad:Addr) (m c:Nat) (news:List Value) (hx:a.eval x=.slice (some ad) m c) (hl:news.length=m*size) (hnews:∀j u,news[j]?=some u->w.cell? (ad.add j)=some u) (h1:∀u∈news,u.oneCell'=true)
 (hm:0<m) (h63:n+m<=maxLen) (hbytes:(n+m)*bytes<=140737488355328) (hbase:base<=w.heap.size) (H:Nat) (hH:w.heap.size=H) (hpv:dU w v) (hpx:∀u∈news,eF u=true) (hpz:∀u∈z.cells,eF u=true)
 (h:∀g cap w',w'.ownsRow base e size (.slice (some ⟨g,0,none⟩) (n+m) cap) (n+m) (xs++news)->w.grownBy w' v.ownBlock->(v.ownBlock=some g∨g=H)->g<w'.heap.size->dU w' (.slice (some ⟨g,0,none⟩) (n+m) cap)->K (a.put o.dst (.slice (some ⟨g,0,none⟩) (n+m) cap)) w'):
 if Region.wanted o (yielded ops a.tmps)=true then Oper.wp P o a w K Q else E:=by
 have hw:Region.wanted o (yielded ops a.tmps)=true:=by simp[Region.wanted,hgd]
 rw[aj hw];exact xO s x t ho base e i z size bytes ht hi hz hsize hby hzs hsz v n xs hs hown ad m c news hx hl hnews h1 hm h63 hbytes hbase H hH hpv hpx hpz h
theorem zo{ops:Array Oper}{rest:List Oper}{o:Oper}{a:Act}{Q:Exit->Act->World->Prop}(hgd:o.guard=none)(s x:Operand)(t:TypeId)
 (ho:o.op=.call { callee:=.builtin .append,args:= #[s,x],argTypes:= #[t,t] })
 (base:Nat) (e:TypeId) (i:TypeInfo) (z:Value) (size bytes:Nat) (ht:P.underlying t=some (.slice e)) (hi:P.info? e=some i) (hz:i.zero=some z)
 (hsize:i.size=size) (hby:i.bytes=bytes) (hzs:z.cells.size=size) (hsz:0<size)
 (v:Value) (n:Nat) (xs:List Value) (hs:a.eval s=v) (hown:w.ownsRow base e size v n xs)
 (ad:Addr) (m c:Nat) (news:List Value) (hx:a.eval x=.slice (some ad) m c) (hl:news.length=m*size) (hnews:∀j u,news[j]?=some u->w.cell? (ad.add j)=some u) (h1:∀u∈news,u.oneCell'=true)
 (hm:0<m) (h63:n+m<=maxLen) (hbytes:(n+m)*bytes<=140737488355328) (hbase:base<=w.heap.size) (H:Nat) (hH:w.heap.size=H) (hpv:dU w v) (hpx:∀u∈news,eF u=true) (hpz:∀u∈z.cells,eF u=true)
 (h:∀g cap w',w'.ownsRow base e size (.slice (some ⟨g,0,none⟩) (n+m) cap) (n+m) (xs++news)->w.grownBy w' v.ownBlock->(v.ownBlock=some g∨g=H)->g<w'.heap.size->dU w' (.slice (some ⟨g,0,none⟩) (n+m) cap)->wpList P ops Q rest (a.put o.dst (.slice (some ⟨g,0,none⟩) (n+m) cap)) w'):wpList P ops Q (o::rest) a w:=
 wpList_plain hgd λ_ hK=>xO s x t ho base e i z size bytes ht hi hz hsize hby hzs hsz v n xs hs hown ad m c news hx hl hnews h1 hm h63 hbytes hbase H hH hpv hpx hpz λg cap w' a1 a2 a3 a4 a5=>hK _ _ (h g cap w' a1 a2 a3 a4 a5)
end
end
section
section
variable {P:Program} {w:World}
theorem BM(base:Nat)(t ty e:TypeId)(i:TypeInfo)(z:Value)(size bytes:Nat)(ht:P.underlying t=some (.slice e))(hi:P.info? e=some i)(hz:i.zero=some z)
 (hsize:i.size=size) (hby:i.bytes=bytes) (hzs:z.cells.size=size) (hsz:0<size)
 (v:Value) (n:Nat) (xs:List Value) (hown:w.ownsRow base e size v n xs)
 (a:Addr) (m c:Nat) (news:List Value) (hl:news.length=m*size) (hnews:∀j u,news[j]?=some u->w.cell? (a.add j)=some u) (h1:∀u∈news,u.oneCell'=true)
 (h63:n+m<=maxLen) (hbytes:(n+m)*bytes<=140737488355328) (hbase:base<=w.heap.size)
 (hpv:dU w v) (hpx:∀u∈news,eF u=true) (hpz:∀u∈z.cells,eF u=true) {v':Value} {w':World}
 (hr:(Builtin.append_ #[t,t] ty #[v,.slice (some a) m c]).run P w=.ok v' w'):dU w' v:=by
 subst hsize;subst hby;have hsmall:n+m<=9223372036854775807:=by simp only[maxLen]at h63;omega
 have zc:∀k,∀x∈Builtin.zeroCells z.cells k,eF x=true:=by
  intro k x hx;unfold Builtin.zeroCells at hx;simp at hx;obtain⟨q,_,rfl⟩:=hx;have hlt:q%z.cells.size<z.cells.size:=Nat.mod_lt _ (by omega);rw[getElem!_pos z.cells _ hlt];exact hpz _ (Array.getElem_mem hlt)
 rcases hown.2 with⟨rfl,rfl⟩|⟨g,cap,cur,rfl,hbg,hg,hnc,hcm,hcs,htake⟩
 .have hx:xs= []:=List.eq_nil_of_length_eq_zero (by simpa using hown.1);subst hx
  by_cases hm:m=0
  .subst hm;have hn:news= []:=List.eq_nil_of_length_eq_zero (by simpa using hl);subst hn
   have:(Builtin.append_ #[t,t] ty #[.slice none 0 0,.slice (some a) 0 c]).run P w=.ok (.slice none 0 0) w:=by
    simp[Builtin.append_,run_underlying ht,Go.sizeOf,Go.typeInfo,hi,Builtin.lenOf,Builtin.firstCells,loadCells,loadCellsFrom]
   rw[this]at hr;cases hr;exact .nil _
  .have hr2:=run_append_nil (P:=P) w t ty e i z ht hi hz a m c news hl hnews (by omega) (by omega) (by have hb:=hbytes;simp only[Nat.zero_add]at hb;omega);rw[hr2]at hr;cases hr;exact .nil _
 .by_cases hroom:n+m<=cap
  .have hfit:n*i.size+news.length<=cur.size:=by rw[hl,hcs, <-Nat.add_mul];exact Nat.mul_le_mul_right _ hroom
   have hr2:=run_append_room (P:=P) w t ty e i ht hi g n cap cur hg a m c news hl hnews h1 hroom hfit;rw[hr2]at hr;cases hr;intro g' hg';have e1:g=g':=by simpa[Value.ownBlock]using hg'
   subst e1;obtain⟨c',e',q1,q2⟩:=hpv g rfl;rw[hg]at q1;cases q1;refine⟨_,_,setRow_heap w g cur _ e _ hg, λx hx=>?_⟩;simp only[aB,List.mem_append]at hx;rcases hx with(hx|hx)|hx
   .exact q2 x (by have :=bE hx;simpa using this)
   .exact hpx x hx
   .exact q2 x (by have :=List.mem_of_mem_drop hx;simpa using this)
  .have holds:∀j u,xs[j]?=some u->w.cell? ((⟨g,0,none⟩:Addr).add j)=some u:=hown.cells (g:=g) rfl
   have hr2:=run_append_grow (P:=P) w t ty e i z ht hi hz ⟨g,0,none⟩ n cap xs hown.1 holds a m c news hl hnews (by omega) (by omega) (growslice_fits (by omega) hbytes);rw[hr2]at hr;cases hr;refine hpv.keep λg' hg'=>?_
   have e1:g=g':=by simpa[Value.ownBlock]using hg'
   subst e1;exact Below.heap_alloc w.drew _ _ (aI.1 hg).1
theorem Eb{o:Oper}{a:Act}{K:Act->World->Prop}{Q:Exit->Act->World->Prop}(s x:Operand)(t:TypeId)
 (ho:o.op=.call { callee:=.builtin .append,args:= #[s,x],argTypes:= #[t,t] })
 (base:Nat) (e:TypeId) (i:TypeInfo) (z:Value) (size bytes:Nat) (ht:P.underlying t=some (.slice e)) (hi:P.info? e=some i) (hz:i.zero=some z)
 (hsize:i.size=size) (hby:i.bytes=bytes) (hzs:z.cells.size=size) (hsz:0<size)
 (v:Value) (n:Nat) (xs:List Value) (hs:a.eval s=v) (hown:w.ownsRow base e size v n xs)
 (ad:Addr) (m c:Nat) (news:List Value) (hx:a.eval x=.slice (some ad) m c) (hl:news.length=m*size) (hnews:∀j u,news[j]?=some u->w.cell? (ad.add j)=some u) (h1:∀u∈news,u.oneCell'=true)
 (hm:0<m) (h63:n+m<=maxLen) (hbytes:(n+m)*bytes<=140737488355328) (hbase:base<=w.heap.size) (H:Nat) (hH:w.heap.size=H) (hpv:dU w v) (hpx:∀u∈news,eF u=true) (hpz:∀u∈z.cells,eF u=true)
 (h:∀g cap w',w'.ownsRow base e size (.slice (some ⟨g,0,none⟩) (n+m) cap) (n+m) (xs++news)->w.grownBy w' v.ownBlock->(v.ownBlock=some g∨g=H)->g<w'.heap.size->dU w' (.slice (some ⟨g,0,none⟩) (n+m) cap)->dU w' v->K (a.put o.dst (.slice (some ⟨g,0,none⟩) (n+m) cap)) w'):
 Oper.wp P o a w K Q:=by
 obtain⟨v',w',hr,h2,h3,_,h5⟩:=run_append_own_at (P:=P) w base t o.type e i z size bytes ht hi hz hsize hby hzs hsz v n xs hown ad m c news hl hnews h1 h63 hbytes hbase;have hp:=mV (P:=P) (w:=w) base t o.type e i z size bytes ht hi hz hsize hby hzs hsz v n xs hown ad m c news hl hnews h1 h63 hbytes hbase hpv hpx hpz hr;have hq:=BM (P:=P) (w:=w) base t o.type e i z size bytes ht hi hz hsize hby hzs hsz v n xs hown ad m c news hl hnews h1 h63 hbytes hbase hpv hpx hpz hr;unfold Oper.wp execOp;simp only[ho,resolve,invoke,builtin,Sem.run_bind,Sem.run_pure,Result.andThen_ok,List.map_toArray,aC,List.map_nil,hs,hx,hr];rcases h2.2 with⟨h0,_⟩|⟨g,cap,cur,rfl,hbg,hg,_⟩
 .omega
 .exact h g cap w' h2 h3 (by rcases h5 with h5|h5
                             .exact .inl (h5.symm.trans rfl)
                             .exact .inr (by have :=h5;simp[Value.ownBlock]at this;omega)) (aI.1 hg).1 hp hq
theorem qi{ops:Array Oper}{rest:List Oper}{o:Oper}{a:Act}{Q:Exit->Act->World->Prop}(hgd:o.guard=none)(s x:Operand)(t:TypeId)
 (ho:o.op=.call { callee:=.builtin .append,args:= #[s,x],argTypes:= #[t,t] })
 (base:Nat) (e:TypeId) (i:TypeInfo) (z:Value) (size bytes:Nat) (ht:P.underlying t=some (.slice e)) (hi:P.info? e=some i) (hz:i.zero=some z)
 (hsize:i.size=size) (hby:i.bytes=bytes) (hzs:z.cells.size=size) (hsz:0<size)
 (v:Value) (n:Nat) (xs:List Value) (hs:a.eval s=v) (hown:w.ownsRow base e size v n xs)
 (ad:Addr) (m c:Nat) (news:List Value) (hx:a.eval x=.slice (some ad) m c) (hl:news.length=m*size) (hnews:∀j u,news[j]?=some u->w.cell? (ad.add j)=some u) (h1:∀u∈news,u.oneCell'=true)
 (hm:0<m) (h63:n+m<=maxLen) (hbytes:(n+m)*bytes<=140737488355328) (hbase:base<=w.heap.size) (H:Nat) (hH:w.heap.size=H) (hpv:dU w v) (hpx:∀u∈news,eF u=true) (hpz:∀u∈z.cells,eF u=true)
 (h:∀g cap w',w'.ownsRow base e size (.slice (some ⟨g,0,none⟩) (n+m) cap) (n+m) (xs++news)->w.grownBy w' v.ownBlock->(v.ownBlock=some g∨g=H)->g<w'.heap.size->dU w' (.slice (some ⟨g,0,none⟩) (n+m) cap)->dU w' v->wpList P ops Q rest (a.put o.dst (.slice (some ⟨g,0,none⟩) (n+m) cap)) w'):wpList P ops Q (o::rest) a w:=
 wpList_plain hgd λ_ hK=>Eb s x t ho base e i z size bytes ht hi hz hsize hby hzs hsz v n xs hs hown ad m c news hx hl hnews h1 hm h63 hbytes hbase H hH hpv hpx hpz λg cap w' a1 a2 a3 a4 a5 a6=>hK _ _ (h g cap w' a1 a2 a3 a4 a5 a6)
end
end
end Par
namespace Par
open Go
section
variable [Sh]
theorem BN{α:Type}{a:Array α}{i j:Nat}{x:α}(h:x∈a.extract i j):x∈a:=by
 obtain⟨k,hk⟩:=Array.getElem?_of_mem h;rw[Array.getElem?_extract]at hk;split at hk
 .exact aZ hk
 .cases hk
theorem jf.size{F:Fit}{f:Nat->Nat}{a a':Array Value}(h:jf F f a a'):a'.size=a.size:=by rw[h.1];simp
theorem jf.get{F:Fit}{f:Nat->Nat}{a a':Array Value}(h:jf F f a a')(i:Nat):(a[i]?=none∧a'[i]?=none)∨∃v,a[i]?=some v∧a'[i]?=some (rv f v)∧vs F v=true:=by
 rw[h.1,aG];cases hi:a[i]? with
 |none=>exact .inl ⟨rfl,rfl⟩
 |some v=>exact .inr ⟨v,rfl,rfl,h.2 v (aZ hi)⟩
theorem jf.cells{F:Fit}{f:Nat->Nat}{v v':Value}(h:VR F f v v'):jf F f v.cells v'.cells:=⟨by rw[h.1,qZ],VS.cells h.2⟩
theorem jf.nil{F:Fit}{f:Nat->Nat}:jf F f #[] #[]:=⟨by simp,by intro x hx;simp at hx⟩
theorem jf.append{F:Fit}{f:Nat->Nat}{a a' b b':Array Value}(h:jf F f a a')(k:jf F f b b'):jf F f (a++b) (a'++b'):=
 ⟨by rw[h.1,k.1,Array.map_append], λx hx=>(Array.mem_append.1 hx).elim (h.2 x) (k.2 x)⟩
theorem jf.push{F:Fit}{f:Nat->Nat}{a a':Array Value}{b b':Value}(h:jf F f a a')(k:VR F f b b'):jf F f (a.push b) (a'.push b'):=
 ⟨by rw[h.1,k.1,Array.map_push], λx hx=>(Array.mem_push.1 hx).elim (h.2 x) (λe=>e ▸ k.2)⟩
theorem jf.extract{F:Fit}{f:Nat->Nat}{a a':Array Value}(h:jf F f a a')(i j:Nat):jf F f (a.extract i j) (a'.extract i j):=
 ⟨by rw[h.1,Array.map_extract], λx hx=>h.2 x (BN hx)⟩
theorem VR.int{F:Fit}{f:Nat->Nat}{k:IntKind}{n:Int}:VR F f (.int k n) (.int k n):=⟨by simp,by simp⟩
theorem VR.bool{F:Fit}{f:Nat->Nat}{b:Bool}:VR F f (.bool b) (.bool b):=⟨by simp,by simp⟩
theorem VR.str{F:Fit}{f:Nat->Nat}{b:ByteArray}:VR F f (.string b) (.string b):=⟨by simp,by simp⟩
theorem VR.goInt{F:Fit}{f:Nat->Nat}{n:Int}:VR F f (goInt n) (goInt n):=VR.int
theorem VR.agg{F:Fit}{f:Nat->Nat}{a a':Array Value}(h:jf F f a a'):VR F f (.agg a) (.agg a'):=⟨by rw[h.1];simp,lV.2 h.2⟩
theorem VR.tuple{F:Fit}{f:Nat->Nat}{a a':Array Value}(h:jf F f a a'):VR F f (.tuple a) (.tuple a'):=⟨by rw[h.1];simp,q9.2 h.2⟩
theorem VR.ptr{F:Fit}{f:Nat->Nat}{a a':Addr}(h:AR F f a a'):VR F f (.pointer (some a)) (.pointer (some a')):=⟨by rw[h.1];simp,by simpa using h.2⟩
theorem VR.iface{F:Fit}{f:Nat->Nat}{t:TypeId}{v v':Value}(h:VR F f v v'):VR F f (.iface t v) (.iface t v'):=⟨by rw[h.1];simp,by simpa using h.2⟩
section
variable {P:Program} {F:Fit} {f:Nat->Nat} {α β γ δ:Type}
theorem DK.push{w:World}{o:Obj}(h:∀ds,o≠ .deferred ds):DK w { w with heap:=w.heap.push o }:=by
 intro r ds hr;simp only[Array.getElem?_push]at hr;split at hr
 .exact absurd (aT hr) (h ds)
 .exact hr
theorem jJ{m:Sem γ}{k:γ->Sem α}(hm:∀w es,(∃x w' es',Sem.runT P m w es=(.halt x w',es')∧G7 x∧DK w w')∨∃a w' es',Sem.runT P m w es=(.ok a w',es')∧DK w w')(hk:∀a w es,∃x w' es',Sem.runT P (k a) w es=(.halt x w',es')∧G7 x∧DK w w'):
 ∀w es,∃x w' es',Sem.runT P (m>>=k) w es=(.halt x w',es')∧G7 x∧DK w w':=by
 intro w es;have e:Sem.runT P (m>>=k) w es=_:=runT_bind m k w es;rcases hm w es with⟨x,w',es',h1,h2⟩|⟨a,w',es',h1,hd⟩
 .exact⟨x,w',es',by rw[e,h1],h2⟩
 .obtain⟨x,w2,es2,h3,h4,h5⟩:=hk a w' es';exact⟨x,w2,es2,by rw[e,h1];exact h3,h4,hd.trans h5⟩
theorem oo(e:RuntimeError):∀w es,∃x w' es',Sem.runT P (runtimePanic e:Sem α) w es=(.halt x w',es')∧G7 x∧DK w w':=by
 have gp:∀(v:Value)(w:World)(es:Array Event),∃x w' es',Sem.runT P (goPanic v:Sem α) w es=(.halt x w',es')∧G7 x∧DK w w':= λv w es=>⟨_,_,_,rfl,trivial,DK.refl⟩
 have st:∀{γ:Type}(s:String)(w:World)(es:Array Event),(∃x w' es',Sem.runT P (stuck s:Sem γ) w es=(.halt x w',es')∧G7 x∧DK w w')∨∃a w' es',Sem.runT P (stuck s:Sem γ) w es=(.ok a w',es')∧DK w w':= λs w es=>.inl ⟨_,_,_,rfl,vk s,DK.refl⟩
 have el:∀(t:TypeId)(w:World)(es:Array Event),(∃x w' es',Sem.runT P (elemOf t) w es=(.halt x w',es')∧G7 x∧DK w w')∨∃a w' es',Sem.runT P (elemOf t) w es=(.ok a w',es')∧DK w w':=by
  intro t w es;unfold elemOf underlying;simp only[Go.program,Bind.bind,Sem.bind,Sem.runT];cases P.underlying t with
  |none=>exact st _ _ _
  |some d=>cases d<;>first|exact st _ _ _|exact .inr ⟨_,_,_,rfl,DK.refl⟩
 have nv:∀(t:TypeId)(v:Value)(w:World)(es:Array Event),(∃x w' es',Sem.runT P (newVar t v) w es=(.halt x w',es')∧G7 x∧DK w w')∨∃a w' es',Sem.runT P (newVar t v) w es=(.ok a w',es')∧DK w w':= λt v w es=>.inr ⟨_,_,_,rfl,DK.push (by intro ds h;cases h)⟩
 intro w es;unfold runtimePanic;simp only[Go.program,Bind.bind,Sem.bind,Sem.runT];cases e with
 |typeAssertion i c a m=>exact jJ (el _) (λt=>jJ (nv t _) λr=>gp _) w es
 |panicNil=>exact jJ (el _) (λt=>jJ (nv t _) λr=>gp _) w es
 |_=>exact gp _ w es
theorem eZ{R:α->β->Prop}(e:RuntimeError)(m':Sem β):dF P F f R (runtimePanic e) m':=.lW (oo e)
theorem jK{R:α->β->Prop}(k:IntKind)(x y:Int)(c:BoundsCode)(m':Sem β):dF P F f R (boundsPanic k x y c) m':=by
 unfold boundsPanic;refine .lW ?_
 split
 .refine jJ (m:=Functor.map (· ==1) (choose (.extern "runtime.boundsError.signed" 2))) (λw es=>.inr ?_) λs=>oo _
  show∃a w' es',Sem.runT P ((choose (.extern "runtime.boundsError.signed" 2)).bind λa=>Pure.pure (a==1)) w es=_∧DK w w';rw[runT_bind];simp only[choose,Sem.runT,Question.forced];exact⟨_,_,_,rfl,DK.refl⟩
 .exact jJ (m:=Pure.pure (k !=.u64)) (λw es=>.inr ⟨_,_,_,rfl,DK.refl⟩) λs=>oo _
theorem sG{v v':Value}(h:VR F f v v'):dF P F f Eq (asIntOf v) (asIntOf v'):=by
 obtain⟨rfl,_⟩:=h;cases v with
 |int k n=>rw[iC];exact .ret rfl
 |pointer a=>cases a<;>first|exact uu (by simp) _|exact gL _ _
 |_=>exact gL _ _
theorem rz{v v':Value}(h:VR F f v v'):dF P F f Eq (asInt v) (asInt v'):=by
 unfold asInt;exact(sG h).dL λ_=>.ret rfl
theorem zq{v v':Value}(h:VR F f v v'):dF P F f Eq (asBool v) (asBool v'):=by
 obtain⟨rfl,_⟩:=h;cases v with
 |bool b=>rw[jZ];exact .ret rfl
 |_=>exact gL _ _
theorem P6{v v':Value}(h:VR F f v v'):dF P F f (jf F f) (asAgg v) (asAgg v'):=by
 obtain⟨rfl,hs⟩:=h;cases v with
 |agg b=>rw[nX];exact .ret ⟨rfl,lV.1 hs⟩
 |_=>exact gL _ _
theorem nM{v v':Value}(h:VR F f v v'):dF P F f (AR F f) (Instr.sureAddr v) (Instr.sureAddr v'):=by
 obtain⟨rfl,hs⟩:=h;cases v with
 |pointer a=>cases a with
  |none=>exact gL _ _
  |some a=>rw[dX];exact .ret ⟨rfl,by simpa using hs⟩
 |_=>exact gL _ _
theorem Es{v v':Value}(hv:VR F f v v'):dF P F f (AR F f) (asAddr v) (asAddr v'):=by
 obtain⟨rfl,hs⟩:=hv;cases v with
 |pointer a=>cases a with
  |none=>rw[dX];exact eZ (α:=Addr) .nilDeref _
  |some a=>rw[dX];exact .ret ⟨rfl,by simpa using hs⟩
 |_=>exact gL _ _
theorem xP(t:TypeId){cs cs':Array Value}(h:jf F f cs cs')(off:Nat):dF P F f (VR F f) (part t cs off) (part t cs' off):=by
 unfold part;refine(He t).dL λb=>?_
 cases b
 .simp only[if_false,bC];rcases h.get off with⟨h1,h2⟩|⟨v,h1,h2,h3⟩
  .rw[h1];exact gL _ _
  .rw[h1,h2];exact .ret ⟨rfl,h3⟩
 .simp only[if_true];exact(gZ t).dL λn=>.ret (VR.agg (h.extract _ _))
theorem P7(h:iA P=true)(t:TypeId):dF P F f (VR F f) (Instr.alloc t true (.tuple #[])) (Instr.alloc t true (.tuple #[])):=by
 unfold Instr.alloc;refine(BK h t).bind ?_
 rintro v _⟨rfl,hv⟩;refine dF.bind (Er t hv) ?_
 rintro a _ ha;exact .ret (VR.ptr ha)
theorem Xu(t:TypeId){v v':Value}(hv:VR F f v v'):dF P F f (VR F f) (Instr.box t v) (Instr.box t v'):=by
 obtain⟨rfl,hs⟩:=hv;unfold Instr.box;refine dF.bind (Er t hs) ?_
 rintro a _ ha;exact .ret (VR.ptr ha)
theorem NK(t:TypeId){v v':Value}(hv:VR F f v v'):dF P F f (VR F f) (Instr.loadAt t v) (Instr.loadAt t v'):=by
 unfold Instr.loadAt;refine(nM hv).bind ?_
 rintro a _⟨rfl,hA⟩;exact BL t a hA
theorem JO(t:TypeId){v v' x x':Value}(hv:VR F f v v')(hx:VR F f x x'):dF P F f Eq (Instr.storeAt t v x) (Instr.storeAt t v' x'):=by
 obtain⟨rfl,hs⟩:=hx;unfold Instr.storeAt;refine(nM hv).bind ?_
 rintro a _⟨rfl,hA⟩;exact Hf t a hA hs
def Fy(P:Program)(t:TypeId)(i:Nat):Bool:=
 match P.underlying t with
 |some (.struct fs)=>match fs[i]? with
  |some x=>match P.info? x.type with
   |some j=>j.size !=0
   |none=>false
  |none=>false
 |_=>false
theorem JP{t:TypeId}{i:Nat}(ho:Fy P t i=true){v v':Value}(hv:VR F f v v'):dF P F f (VR F f) (Instr.fieldAt t v i) (Instr.fieldAt t v' i):=by
 unfold Instr.fieldAt underlying;refine dF.bind (R:= λa b=>a=b∧P.underlying t=some a) (.rq ?_) ?_
 .cases hu:P.underlying t with
  |none=>exact gL _ _
  |some d=>exact .ret ⟨rfl,rfl⟩
 rintro d _⟨rfl,hu⟩;unfold Fy at ho;rw[hu]at ho;cases d with
 |struct fs=>
  dsimp only at ho⊢;cases hf:fs[i]? with
  |none=>exact gL _ _
  |some x=>
   rw[hf]at ho;dsimp only at ho⊢;refine(nM hv).bind ?_
   rintro a _⟨rfl,hA⟩;unfold fieldPlace Go.sizeOf typeInfo;refine dF.bind (R:=AR F f) (dF.bind (R:= λm n=>m=n∧m≠0) (dF.bind (R:= λa b=>a=b∧P.info? x.type=some a) (.rq ?_) ?_) ?_) ?_
   .cases hu:P.info? x.type with
    |none=>exact gL _ _
    |some d=>exact .ret ⟨rfl,rfl⟩
   .rintro j _⟨rfl,hj⟩;rw[hj]at ho;exact .ret ⟨rfl,by simpa using ho⟩
   .rintro m _⟨rfl,hm⟩;rw[aa hm,aa hm];exact .ret ⟨(zl ..).symm,by rw[add_block'];exact hA⟩
   .rintro b _ hb;exact .ret (VR.ptr hb)
 |_=>exact gL _ _
theorem P8(t:TypeId){v v':Value}(hv:VR F f v v')(i:Nat):dF P F f (VR F f) (Instr.field t v i) (Instr.field t v' i):=by
 unfold Instr.field;refine(dQ t).dL λd=>?_
 cases d with
 |struct fs=>
  dsimp only;split
  .exact(P6 hv).bind λa b h=>xP _ h _
  .exact gL _ _
 |_=>exact gL _ _
theorem P9(t:TypeId){v v' x x':Value}(hv:VR F f v v')(hx:VR F f x x'):dF P F f (VR F f) (Instr.index t v x) (Instr.index t v' x'):=by
 unfold Instr.index;refine(sG hx).dL λki=>?_
 obtain⟨k,i⟩:=ki;refine(dQ t).dL λd=>?_
 obtain⟨rfl,hs⟩:=hv
 cases d<;>cases v<;>first
  |exact gL _ _
  |(simp only[nX];split
    .exact(gZ _).dL λn=>xP _ ⟨rfl,lV.1 hs⟩ _
    .exact jK ..)
  |(simp only[gF];split
    .exact .ret VR.int
    .exact jK ..)
theorem JQ(t:TypeId){v v' x x':Value}(hv:VR F f v v')(hx:VR F f x x'):dF P F f (VR F f) (Instr.indexAt t v x) (Instr.indexAt t v' x'):=by
 unfold Instr.indexAt;refine(sG hx).dL λki=>?_
 obtain⟨k,i⟩:=ki;refine(dQ t).dL λd=>?_
 dsimp only
 have ab2:∀{J J':Option Addr×Nat×TypeId->Sem Value}(b:Option Addr)(len:Nat)(e:TypeId),dF P F f (VR F f) (J (b,len,e)) (J' (b.map (ra f),len,e))->
  dF P F f (VR F f) (Pure.pure (b,len,e)>>=J) (Pure.pure (b.map (ra f),len,e)>>=J'):= λb len e h=>h
 have fin:∀(tiny:Bool)(len:Nat),dF P F f (VR F f) (if tiny=true then unsupported (.noEntry "op/indexAddr.an index out of range at an array of length 0 or 1 (ledger 616)")else boundsPanic k i len .index)
  (if tiny=true then unsupported (.noEntry "op/indexAddr.an index out of range at an array of length 0 or 1 (ledger 616)")else boundsPanic k i len .index):=by
  intro tiny len;cases tiny
  .exact jK ..
  .exact .bad trivial
 cases d with
 |array len e=>
  refine(nM hv).bind ?_
  rintro a _⟨rfl,hA⟩;refine ab2 (some a) len e ?_
  refine(dQ t).dL λd2=>?_
  simp only[ay]
  by_cases hb:0<=i∧i<len
  .rw[aj hb,aj hb];exact(gZ e).dL λn=>.ret (VR.ptr ⟨(zl ..).symm,by rw[add_block'];first|exact hA|simpa using hs⟩)
  .rw[aa hb,aa hb];exact fin _ _
 |slice e=>
  obtain⟨rfl,hs⟩:=hv;cases v with
  |slice b len cap=>
   rw[fD];refine ab2 b len e ?_
   refine(dQ t).dL λd2=>?_
   cases b with
   |none=>exact jK ..
   |some a=>
    simp only[ay]
    by_cases hb:0<=i∧i<len
    .rw[aj hb,aj hb];have hA:F.A a.block=true:=(nL (by simpa using hs)).resolve_right λh=>by omega
     exact(gZ e).dL λn=>.ret (VR.ptr ⟨(zl ..).symm,by rw[add_block'];exact hA⟩)
    .rw[aa hb,aa hb];exact fin _ _
  |_=>exact .bad (vk _)
 |_=>exact .bad (vk _)
end
end
section
variable [Sh]
def PL(F:Fit)(f:Nat->Nat)(o o':Option Value):Prop:=(o=none∧o'=none)∨∃v,o=some v∧o'=some (rv f v)∧vs F v=true
section
variable {P:Program} {F:Fit} {f:Nat->Nat} {α β γ δ:Type}
theorem jA{v:Value}(hv:vs F v=true)(y:Nat)(c:BoundsCode):dF P F f (λa b=>a=b∧a<=y) (Instr.sliceBound v y c) (Instr.sliceBound (rv f v) y c):=by
 unfold Instr.sliceBound;refine(sG ⟨rfl,hv⟩).dL λki=>?_
 obtain⟨k,i⟩:=ki;dsimp only
 by_cases hb:0<=i∧i<=y
 .rw[aj hb];exact .ret ⟨rfl,by omega⟩
 .rw[aa hb];exact jK ..
def BdR(len cap:Nat)(a b:Nat×Nat×Nat):Prop:=a=b∧(len=0->cap=0->a.2.1=0∧a.2.2=0)
theorem lY(Wm:Bool)(len cap:Nat){lo hi mx lo' hi' mx':Option Value}(h1:PL F f lo lo')(h2:PL F f hi hi')(h3:PL F f mx mx'):
 dF P F f (BdR len cap) (Instr.sliceBounds Wm len cap lo hi mx) (Instr.sliceBounds Wm len cap lo' hi' mx'):=by
 unfold Instr.sliceBounds;have k0:∀n:Nat,dF P F f (λa b:Nat=>a=b∧a=n) (pure n) (pure n):= λn=>.pure ⟨rfl,rfl⟩
 rcases h3 with⟨rfl,rfl⟩|⟨m,rfl,rfl,hm⟩
 .refine dF.bind (k0 cap) ?_
  rintro m _⟨rfl,rfl⟩;rcases h2 with⟨rfl,rfl⟩|⟨v,rfl,rfl,hv⟩
  .refine dF.bind (k0 len) ?_
   rintro hh _⟨rfl,rfl⟩;rcases h1 with⟨rfl,rfl⟩|⟨v,rfl,rfl,hv⟩
   .exact dF.dL (.ret rfl) λl=>.ret ⟨rfl, λa b=>⟨a,b⟩⟩
   .exact dF.bind (jA hv ..) (by rintro l _⟨rfl,_⟩;exact .ret ⟨rfl, λa b=>⟨a,b⟩⟩)
  .refine dF.bind (jA hv ..) ?_
   rintro hh _⟨rfl,hle⟩;rcases h1 with⟨rfl,rfl⟩|⟨v,rfl,rfl,hv⟩
   .exact dF.dL (.ret rfl) λl=>.ret ⟨rfl, λa b=>⟨by dsimp only;omega,b⟩⟩
   .exact dF.bind (jA hv ..) (by rintro l _⟨rfl,_⟩;exact .ret ⟨rfl, λa b=>⟨by dsimp only;omega,b⟩⟩)
 .refine dF.bind (jA hm ..) ?_
  rintro m1 _⟨rfl,hle⟩;rcases h2 with⟨rfl,rfl⟩|⟨v,rfl,rfl,hv⟩
  .exact .bad trivial
  .refine dF.bind (jA hv ..) ?_
   rintro hh _⟨rfl,hle2⟩;rcases h1 with⟨rfl,rfl⟩|⟨v,rfl,rfl,hv⟩
   .exact dF.dL (.ret rfl) λl=>.ret ⟨rfl, λa b=>⟨by dsimp only;omega,by dsimp only;omega⟩⟩
   .exact dF.bind (jA hv ..) (by rintro l _⟨rfl,_⟩;exact .ret ⟨rfl, λa b=>⟨by dsimp only;omega,by dsimp only;omega⟩⟩)
theorem NL{a:Option Addr}{l0 c0:Nat}(hA:JG F a l0 c0=true)(m l n k sz:Nat)(h0:l0=0->c0=0->n=0∧k=0):VR F f (.slice (if m=l then a else a.map (·.add (l*sz))) n k) (.slice (if m=l then a.map (ra f)else(a.map (ra f)).map (·.add (l*sz))) n k):=by
 refine⟨?_,?_⟩
 .rw[fD];split
  .rfl
  .cases a<;>simp
 .rw[gY];cases a with
  |none=>split<;>rfl
  |some a=>
   have e:∀x:Addr,x.block=a.block->JG F (some x) n k=true:= λx hx=>by
    rcases nL hA with h|⟨h,h1,h2⟩
    .exact qH (by rw[uk,hx];exact h)
    .obtain⟨rfl,rfl⟩:=h0 h1 h2;unfold JG;simp[hx,h]
   split
   .exact e _ rfl
   .rw[ay];exact e _ (add_block' ..)
theorem vX{a:Addr}(hA:F.A a.block=true)(m l n k sz:Nat):VR F f (.slice (some (if m=l then a else a.add (l*sz))) n k) (.slice (some (if m=l then ra f a else(ra f a).add (l*sz))) n k):=by
 refine⟨?_,?_⟩
 .rw[fD];split<;>simp
 .rw[gY];refine qH ?_
  rw[uk];split
  .exact hA
  .rw[add_block'];exact hA
theorem Qa(t:TypeId){v v':Value}(hv:VR F f v v'){lo hi mx lo' hi' mx':Option Value}(h1:PL F f lo lo')(h2:PL F f hi hi')(h3:PL F f mx mx'):
 dF P F f (VR F f) (Instr.slice t v lo hi mx) (Instr.slice t v' lo' hi' mx'):=by
 unfold Instr.slice;have hn:PL F f none none:=.inl ⟨rfl,rfl⟩;refine(dQ t).dL λd=>?_
 obtain⟨rfl,hs⟩:=hv;cases d with
 |string=>
  cases v with
  |string s=>
   rw[gF];dsimp only;have:mx'.isSome=mx.isSome:=by rcases h3 with⟨rfl,rfl⟩|⟨m,rfl,rfl,hm⟩<;>rfl
   rw[this];cases mx.isSome
   .simp only[bC,if_false];exact(lY _ _ _ h1 h2 hn).bind (by rintro r _⟨rfl,_⟩;exact .ret VR.str)
   .exact .bad trivial
  |_=>exact .bad trivial
 |slice e=>
  cases v with
  |slice a len cap=>
   rw[fD];refine(lY _ _ _ h1 h2 h3).bind ?_
   rintro⟨l,hh,m⟩_⟨rfl,hz⟩;dsimp only at hz;exact(gZ e).dL λn=>.ret (NL (l0:=len) (c0:=cap) (by simpa using hs) _ _ _ _ _ λa b=>by obtain⟨x,y⟩:=hz a b;omega)
  |_=>exact .bad trivial
 |pointer arr=>
  have e:(match TypeDesc.pointer arr,v with | .string,.string s=>True|_,_=>True):=by cases v<;>trivial
  refine dF.bind (R:=AR F f) (?_:dF P F f (AR F f) (asAddr v) (asAddr (rv f v))) ?_
  .exact Es ⟨rfl,hs⟩
  .rintro a _⟨rfl,hA⟩;refine(dQ arr).dL λd2=>?_
   cases d2 with
   |array n e=>
    refine(lY _ _ _ h1 h2 h3).bind ?_
    rintro⟨l,hh,m⟩_⟨rfl,_⟩;exact(gZ e).dL λn=>.ret (vX hA ..)
   |_=>exact .bad trivial
 |_=>exact .bad trivial
theorem JR(t:TypeId){v v':Value}(hv:VR F f v v'){lo hi mx lo' hi' mx':Option Value}(h1:PL F f lo lo')(h2:PL F f hi hi')(h3:PL F f mx mx'):
 dF P F f (VR F f) (Instr.sliceAt t v lo hi mx) (Instr.sliceAt t v' lo' hi' mx'):=by
 unfold Instr.sliceAt;refine(dQ t).dL λd=>?_
 cases d with
 |array n e=>
  refine(nM hv).bind ?_
  rintro a _⟨rfl,hA⟩;refine(lY _ _ _ h1 h2 h3).bind ?_
  rintro⟨l,hh,m⟩_⟨rfl,_⟩;exact(gZ e).dL λn=>.ret (vX hA ..)
 |_=>exact Qa t hv h1 h2 h3
theorem jf.gD{z:Value}(hz:rv f z=z∧vs F z=true)(n:Nat):jf F f ((Array.range n).map (z.cells[· %z.cells.size]!)) ((Array.range n).map (z.cells[· %z.cells.size]!)):=by
 have hc:z.cells.map (rv f)=z.cells:=by rw[<-qZ,hz.1]
 have key:∀i,rv f (z.cells[i%z.cells.size]!)=z.cells[i%z.cells.size]!∧vs F (z.cells[i%z.cells.size]!)=true:=by
  intro i
  by_cases hlt:i%z.cells.size<z.cells.size
  .rw[getElem!_pos z.cells _ hlt];refine⟨?_,VS.cells hz.2 _ (Array.getElem_mem hlt)⟩;have :=congrArg (λa=>a[i%z.cells.size]?) hc;simpa[hlt]using this
  .rw[getElem!_neg z.cells _ hlt];exact⟨JJ f,JL⟩
 refine⟨?_, λx hx=>?_⟩
 .rw[Array.map_map];exact Array.map_congr_left λi _=>(key i).1.symm
 .obtain⟨i,_,rfl⟩:=Array.mem_map.1 hx;exact(key i).2
theorem lZ{R:γ->δ->Prop}(e:RuntimeError){k:α->Sem γ}{k':β->Sem δ}:dF P F f R (runtimePanic e>>=k) (runtimePanic e>>=k'):=
 dF.bind (R:= λ_ _=>False) (eZ e _) λ_ _ x=>x.elim
theorem BO(n:Nat):dF P F f Eq (askRoom n) (askRoom n):=by
 unfold askRoom;split
 .exact NJ
 .exact .ret rfl
theorem Fz(hz0:iA P=true)(t:TypeId){l l' c c':Value}(hl:VR F f l l')(hc:VR F f c c'):dF P F f (VR F f) (Instr.makeSlice t l c) (Instr.makeSlice t l' c'):=by
 unfold Instr.makeSlice;refine(dQ t).dL λd=>?_
 cases d with
 |slice e=>
  refine(rz hl).dL λlen=>?_
  refine(rz hc).dL λcap=>?_
  refine(iR e).dL λi=>?_
  dsimp only;split
  .split
   .exact lZ _
   .split
    .exact lZ _
    .refine dF.dL (lu _) λn=>?_
     exact lZ _
  .refine(BO _).dL λ_=>?_
   refine(gZ e).dL λsz=>?_
   split
   .rename_i hn;rw[hn];refine dF.dL (.ret rfl) λz=>?_
    refine dF.bind (R:=AR F f) (by have :=ry (P:=P) (F:=F) (f:=f) e (c:= #[]) (by intro x hx;simp at hx);rw[show Array.range 0= #[]from rfl,Array.map_empty];simpa only[Array.map_empty]using this) ?_
    rintro a _ ha;exact .ret ⟨by rw[ha.1];simp,by rw[gY];exact qH (by simpa using ha.2)⟩
   .refine(kr hz0 e).bind ?_
    rintro _ z⟨rfl,hz⟩;refine dF.bind (R:= λa b=>b=a∧a=z.cells) (.ret ⟨rfl,rfl⟩) ?_
    rintro _ _⟨rfl,rfl⟩;have hz':=jf.gD (F:=F) (f:=f) hz ((IntKind.i64.wrap cap).toNat*sz);refine dF.bind (R:=AR F f) (by have :=ry (P:=P) (F:=F) (f:=f) e hz'.2;rw[<-hz'.1]at this;exact this) ?_
    rintro a _ ha;exact .ret ⟨by rw[ha.1];simp,by rw[gY];exact qH (by simpa using ha.2)⟩
 |_=>exact .bad trivial
theorem Bo{place:Nat->Option (Nat×Nat)}:∀(l l':List (Nat×Value)){c c':Array Value},jf F f c c'->l'=l.map (λx=>(x.1,rv f x.2))->(∀x∈l,vs F x.2=true)->
 (Instr.fill place c l=none∧Instr.fill place c' l'=none)∨∃a b,Instr.fill place c l=some a∧Instr.fill place c' l'=some b∧jf F f a b
 | [],_,c,c',hc,e,_=>by subst e;exact .inr ⟨c,c',rfl,rfl,hc⟩
 |(i,v)::l,_,c,c',hc,e,hs=>by
  subst e;simp only[aC,Instr.fill];cases hp:place i with
  |none=>exact .inl ⟨rfl,rfl⟩
  |some os=>
   obtain⟨off,size⟩:=os;dsimp only;rw[qZ,Array.size_map,hc.size];split
   .exact .inl ⟨rfl,rfl⟩
   .refine Bo l _ ?_ rfl λx hx=>hs x (aQ _ hx)
    have hv:=VS.cells (hs (i,v) (aP ..))
    have key:∀(xs:List (Value×Nat))(a b:Array Value),jf F f a b->(∀x∈xs,vs F x.1=true)->
     jf F f (xs.foldl (λcs (x:Value×Nat)=>cs.setIfInBounds (off+x.2) x.1) a) ((xs.map λx=>(rv f x.1,x.2)).foldl (λcs (x:Value×Nat)=>cs.setIfInBounds (off+x.2) x.1) b):=by
     intro xs
     induction xs with
     |nil=>intro a b h _;exact h
     |cons x xs ih=>
      intro a b h hx;simp only[aC,List.foldl_cons];refine ih _ _ ⟨by rw[h.1,Array.map_setIfInBounds], λy hy=>?_⟩ λy hy=>hx y (aQ _ hy)
      rcases bG hy with hy|rfl
      .exact h.2 y hy
      .exact hx x (aP ..)
    have e1:∀(c:Array Value)(a:Array Value),c.zipIdx.foldl (λcs (x:Value×Nat)=>cs.setIfInBounds (off+x.2) x.1) a=c.toList.zipIdx.foldl (λcs (x:Value×Nat)=>cs.setIfInBounds (off+x.2) x.1) a:=by
     intro c a;rw[<-Array.foldl_toList,Array.toList_zipIdx]
    have :=key v.cells.toList.zipIdx c c' hc (λx hx=>hv x.1 (by
     have :=List.mem_zipIdx hx;obtain⟨_,_,h3⟩:=this;rw[h3];simp))
    rw[show(v.cells.toList.zipIdx.map λx=>(rv f x.1,x.2))=((v.cells.map (rv f)).toList.zipIdx)from by
     rw[Array.toList_map,List.zipIdx_map];rfl]at this
    rw[<-e1, <-e1]at this;exact this
theorem Qb(hz0:iA P=true)(t:TypeId){ps ps':Array (Nat×Value)}(e:ps'=ps.map λx=>(x.1,rv f x.2))(hs:∀x∈ps,vs F x.2=true):
 dF P F f (VR F f) (Instr.build t ps) (Instr.build t ps'):=by
 unfold Instr.build;refine(kr hz0 t).bind ?_
 rintro _ z⟨rfl,hz⟩;refine(dQ t).dL λd=>?_
 have hc:jf F f z.cells z.cells:=⟨by rw[<-qZ,hz.1],VS.cells hz.2⟩;have he:ps'.toList=ps.toList.map λx=>(x.1,rv f x.2):=by rw[e];simp
 cases d with
 |struct fs=>
  dsimp only;refine dF.dL ?_ λplaces=>?_
  .have:∀l:List Field,dF P F f Eq (l.mapM λx=>(do pure (x.offset, <-Go.sizeOf x.type):Sem (Nat×Nat))) (l.mapM λx=>(do pure (x.offset, <-Go.sizeOf x.type):Sem (Nat×Nat))):=by
    intro l
    induction l with
    |nil=>rw[List.mapM_nil];exact .ret rfl
    |cons x l ih=>
     rw[List.mapM_cons];refine dF.dL ((gZ _).dL λ_=>.ret rfl) λa=>?_
     exact ih.dL λb=>.ret rfl
   rw[Array.mapM_eq_mapM_toList];exact(this fs.toList).PY λa b e=>by subst e;exact .ret rfl
  .rcases Bo (place:=(places[·]?)) ps.toList _ hc he (λx hx=>hs x (by simpa using hx))with⟨h1,h2⟩|⟨a,b,h1,h2,h3⟩
   .rw[h1,h2];exact .bad trivial
   .rw[h1,h2];exact .ret (VR.agg h3)
 |array n e=>
  dsimp only;refine(gZ e).dL λsz=>?_
  rcases Bo (place:= λi=>some (i*sz,sz)) ps.toList _ hc he (λx hx=>hs x (by simpa using hx))with⟨h1,h2⟩|⟨a,b,h1,h2,h3⟩
  .rw[h1,h2];exact .bad trivial
  .rw[h1,h2];exact .ret (VR.agg h3)
 |_=>exact .bad trivial
theorem Ec(hz0:iA P=true)(t:TypeId)(len:Nat){ps ps':Array (Nat×Value)}(e:ps'=ps.map λx=>(x.1,rv f x.2))(hs:∀x∈ps,vs F x.2=true):
 dF P F f (VR F f) (Instr.buildSlice t len ps) (Instr.buildSlice t len ps'):=by
 unfold Instr.buildSlice;refine(dQ t).dL λd=>?_
 have he:ps'.toList=ps.toList.map λx=>(x.1,rv f x.2):=by rw[e];simp
 cases d with
 |slice e=>
  dsimp only;refine(gZ e).dL λsz=>?_
  split
  .exact .bad trivial
  .have fin:∀{c c':Array Value},jf F f c c'->dF P F f (VR F f)
    (match Instr.fill (λi=>some (i*sz,sz)) c ps.toList with
      |some cells=>do pure (Value.slice (some (<-newRow e cells)) len len)
      |_=>stuck "buildSlice: a part of the wrong size")
    (match Instr.fill (λi=>some (i*sz,sz)) c' ps'.toList with
      |some cells=>do pure (Value.slice (some (<-newRow e cells)) len len)
      |_=>stuck "buildSlice: a part of the wrong size"):=by
    intro c c' hc;rcases Bo (place:= λi=>some (i*sz,sz)) ps.toList _ hc he (λx hx=>hs x (by simpa using hx))with⟨h1,h2⟩|⟨a,b,h1,h2,h3⟩
    .rw[h1,h2];exact .bad trivial
    .rw[h1,h2];refine dF.bind (R:=AR F f) (by have :=ry (P:=P) (F:=F) (f:=f) e h3.2;rw[<-h3.1]at this;exact this) ?_
     rintro a _ ha;exact .ret ⟨by rw[ha.1];simp,by rw[gY];exact qH (by simpa using ha.2)⟩
   split
   .rename_i hn;rw[hn];exact dF.dL (.ret rfl) λz=>fin (by rw[show Array.range 0= #[]from rfl,Array.map_empty];exact jf.nil)
   .refine(kr hz0 e).bind ?_
    rintro _ z⟨rfl,hz⟩;refine dF.bind (R:= λa b=>b=a∧a=z.cells) (.ret ⟨rfl,rfl⟩) ?_
    rintro _ _⟨rfl,rfl⟩;exact fin (jf.gD hz _)
 |_=>exact .bad trivial
end
end
section
variable [Sh]
section
variable {P:Program} {F:Fit} {f:Nat->Nat} {α β γ δ:Type}
def LZ(F:Fit)(v:Value)(n:Nat):Prop:=∀a l c,v=.slice (some a) l c->F.A a.block=true∨n=0
theorem Hg{v v':Value}(hv:VR F f v v'):dF P F f (λa b=>a=b∧LZ F v a) (Builtin.lenOf v) (Builtin.lenOf v'):=by
 obtain⟨rfl,hs⟩:=hv;cases v with
 |slice a n c=>
  rw[fD];refine .ret ⟨rfl, λa' l' c' e=>?_⟩;cases e;exact(nL (by simpa using hs)).imp id λh=>h.2.1
 |string s=>rw[gF];exact .ret ⟨rfl, λa l c e=>by cases e⟩
 |_=>exact .bad trivial
theorem qJ(sz n:Nat){v v':Value}(hv:VR F f v v')(hn:LZ F v n):dF P F f (λc c'=>jf F f c c'∧(n=0->c= #[])) (Builtin.firstCells sz n v) (Builtin.firstCells sz n v'):=by
 obtain⟨rfl,hs⟩:=hv;cases v with
 |slice a _ _=>
  rw[fD];cases a with
  |none=>exact .ret ⟨jf.nil, λ_=>rfl⟩
  |some a=>
   by_cases h0:n=0
   .subst h0;show dF P F f _ (loadCells a (0*sz)) (loadCells (ra f a) (0*sz));rw[Nat.zero_mul];exact .ret ⟨jf.nil, λ_=>rfl⟩
   .exact(xN a ((hn _ _ _ rfl).resolve_right h0) _).mono λ_ _ h=>⟨h, λh=>absurd h h0⟩
 |string s=>
  rw[gF];refine .ret ⟨⟨?_, λx hx=>?_⟩, λh=>by subst h;simp⟩
  .rw[Array.map_map];exact Array.map_congr_left λb _=>by simp
  .obtain⟨b,_,rfl⟩:=Array.mem_map.1 hx;simp
 |_=>exact .bad trivial
theorem FB(sz sLen n:Nat)(b:Option Addr)(x:Value)(w:World)(es:Array Event):∃r,Sem.runT P (Builtin.mayShare sz sLen n b x) w es=(.ok r w,es):=by
 have hh:∀(a:Addr)(n:Nat),∃r,Sem.runT P (Builtin.holdsCells a n) w es=(.ok r w,es):=by
  intro a n;unfold Builtin.holdsCells;simp only[Go.shape,Bind.bind,Sem.bind,Sem.runT];cases w.shape? a.block<;>exact⟨_,rfl⟩
 have step:∀{γ δ:Type}{m:Sem γ}{k:γ->Sem δ},(∃r,Sem.runT P m w es=(.ok r w,es))->(∀r,∃q,Sem.runT P (k r) w es=(.ok q w,es))->∃q,Sem.runT P (m>>=k) w es=(.ok q w,es):=by
  rintro γ δ m k⟨r,hr⟩hk;obtain⟨q,hq⟩:=hk r;exact⟨q,by show Sem.runT P (m.bind k) w es=_;rw[runT_bind,hr];exact hq⟩
 unfold Builtin.mayShare
 have last:∃r,Sem.runT P (match x with
  | .slice (some b') _ _=>do pure (!(<-Builtin.holdsCells b' (n*sz))||b.any (·.block==b'.block))
  |_=>pure false:Sem Bool) w es=(.ok r w,es):=by
  cases x with
  |slice a _ _=>
   cases a with
   |none=>exact⟨_,rfl⟩
   |some a=>exact step (hh a _) λr=>⟨_,rfl⟩
  |_=>exact⟨_,rfl⟩
 cases b with
 |none=>
  refine step ⟨true,rfl⟩ λr=>?_
  cases r
  .exact⟨_,rfl⟩
  .exact last
 |some a=>
  have h2:∀r:Bool,∃q,Sem.runT P (if(!r)=true then pure true else(match x with
   | .slice (some b') _ _=>do pure (!(<-Builtin.holdsCells b' (n*sz))||(some a).any (·.block==b'.block))
   |_=>pure false:Sem Bool)) w es=(.ok q w,es):=by
   intro r;cases r
   .exact⟨_,rfl⟩
   .exact last
  exact step (hh a (sLen*sz)) λr=>step (k:= λz=>_) ⟨_,rfl⟩ λz=>step (m:=Pure.pure _) ⟨_,rfl⟩ h2
theorem jf.zeroCells{z:Value}(hz:rv f z=z∧vs F z=true)(n:Nat):jf F f (Builtin.zeroCells z.cells n) (Builtin.zeroCells z.cells n):=jf.gD hz _
theorem Et(a:Addr)(hA:F.A a.block=true){c c':Array Value}(h:jf F f c c'):dF P F f Eq (storeCells a c.toList) (storeCells (ra f a) c'.toList):=by
 have :=nG (P:=P) (F:=F) (f:=f) a hA c.toList 0 λv hv=>h.2 v (by simpa using hv)
 rw[h.1,Array.toList_map];exact this
theorem BP(a:Addr):dF P F f Eq (storeCells a (#[]:Array Value).toList) (storeCells (ra f a) ((#[]:Array Value).map (rv f)).toList):=by
 rw[Array.map_empty];unfold storeCells;exact .pure rfl
theorem NM(hz0:iA P=true)(ts:Array TypeId)(t:TypeId){aS as':Array Value}(ha:jf F f aS as'):dF P F f (VR F f) (Builtin.append_ ts t aS) (Builtin.append_ ts t as'):=by
 unfold Builtin.append_;cases hts:ts[0]? with
 |none=>exact .bad trivial
 |some sType=>
 rcases ha.get 0 with⟨h0,h0'⟩|⟨s,h0,h0',hs⟩
 .rw[h0];exact .bad trivial
 rcases ha.get 1 with⟨h1,h1'⟩|⟨x,h1,h1',hx⟩
 .rw[h0,h1];exact .bad trivial
 rw[h0,h0',h1,h1'];have hxv:VR F f x (rv f x):=⟨rfl,hx⟩;have hsv:VR F f s (rv f s):=⟨rfl,hs⟩;refine(dQ sType).dL λd=>?_
 cases d with
 |slice e=>
  cases s with
  |slice base sLen sCap=>
   rw[fD];refine(gZ e).dL λsz=>?_
   extract_lets j1 j2 j2'
   have hj2:∀gD,dF P F f (VR F f) (j2 gD) (j2' gD):=by
    intro gD;dsimp -zeta only[j2,j2']
    extract_lets j3 j3'
    have app:∀n,(gD=false->LZ F x n)->dF P F f (λc c'=>jf F f c c'∧(n=0->c= #[])) (if(!gD)=true then Builtin.firstCells sz n x else if n*sz=0 then pure #[]else do pure (Builtin.zeroCells (<-zeroValue e).cells n))
     (if(!gD)=true then Builtin.firstCells sz n (rv f x)else if n*sz=0 then pure #[]else do pure (Builtin.zeroCells (<-zeroValue e).cells n)):=by
     intro n hlo;cases gD
     .exact qJ sz n hxv (hlo rfl)
     .simp only[Bool.not_true,bC,if_false];split
      .exact .ret ⟨jf.nil, λ_=>rfl⟩
      .rename_i hne;refine(kr hz0 e).bind ?_
       rintro _ z⟨rfl,hz⟩;exact .ret ⟨jf.zeroCells hz n, λh=>absurd (by rw[h,Nat.zero_mul]) hne⟩
    have hj3:∀n,(gD=false->LZ F x n)->dF P F f (VR F f) (j3 n) (j3' n):=by
     intro n hlo;dsimp -zeta only[j3,j3']
     extract_lets ap need j6 j5 j4 ap' j6' j5' j4'
     have Wn:dF P F f (λc c'=>jf F f c c'∧(n=0->c= #[])) ap ap':=app n hlo;have happ:dF P F f (jf F f) ap ap':=Wn.mono λ_ _ h=>h.1
     by_cases hn:need<=sCap
     .rw[aj hn,aj hn];refine Wn.bind ?_
      rintro c c'⟨hc,hc0⟩;dsimp only[j6,j6'];cases base with
      |none=>exact .ret ⟨by simp,by simp⟩
      |some a=>
       simp only[ay];rw[<-zl];rcases nL (by simpa using hs)with hA|⟨hh,h1,h2⟩
       .exact(Et _ (by rw[add_block'];exact hA) hc).dL λ_=>.ret ⟨by simp,by rw[gY];exact qH hA⟩
       .have hn0:n=0:=by have hn:sLen+n<=sCap:=hn;omega
        have hc1:=hc.1;rw[hc0 hn0]at hc1⊢;subst hc1;have hl:need=0:=by show sLen+n=0;omega
        exact dF.dL (show dF P F f Eq (storeCells (a.add (sLen*sz)) (#[]:Array Value).toList) (storeCells (ra f (a.add (sLen*sz))) ((#[]:Array Value).map (rv f)).toList)from BP _) λ_=>.ret ⟨by simp,by rw[gY,hl,h2];unfold JG;simp[hh]⟩
     .rw[aa hn,aa hn];refine(iR e).dL λi=>?_
      have hj4:∀u,dF P F f (VR F f) (j4 u) (j4' u):=by
       intro u;dsimp -zeta only[j4,j4'];refine(iR e).dL λi=>?_
       have hj5:∀u,dF P F f (VR F f) (j5 u) (j5' u):=by
        intro u;dsimp only[j5,j5'];refine(lu _).dL λnewCap=>?_
        refine(iR e).dL λi=>?_
        refine(BO _).dL λ_=>?_
        refine dF.bind (R:= λc c'=>jf F f c c'∧(sLen=0->c= #[])) (by have :=qJ (P:=P) (F:=F) (f:=f) sz sLen hsv (λa l c e=>by cases e;exact(nL (by simpa using hs)).imp id λh=>h.2.1);rwa [fD]at this) ?_
        rintro o o'⟨ho,_⟩;refine happ.bind ?_
        rintro c c' hc;refine(kr hz0 e).bind ?_
        rintro _ z⟨rfl,hz⟩;have hall:=(ho.append hc).append (jf.zeroCells (F:=F) (f:=f) hz (newCap-need));refine dF.bind (R:=AR F f) (by have :=ry (P:=P) (F:=F) (f:=f) e hall.2;rw[<-hall.1]at this;exact this) ?_
        rintro a _ ha;exact .ret ⟨by rw[ha.1];simp,by rw[gY];exact qH (by simpa using ha.2)⟩
       split
       .refine dF.bind (R:= λ_ _=>False) ?_ λ_ _ x=>x.elim
        cases gD
        .refine .lW λw es=>?_
         obtain⟨r,hr⟩:=FB (P:=P) sz sLen n base x w es;simp only[bC,if_false];have:∀{γ δ:Type}(m:Sem γ)(k:γ->Sem δ),(m>>=k)=m.bind k:= λ_ _=>rfl
         rw[this,runT_bind,hr];cases r
         .exact⟨_,_,_,rfl,trivial,DK.refl⟩
         .exact⟨_,_,_,rfl,trivial,DK.refl⟩
        .simp only[if_true];exact eZ _ _
       .exact hj5 ()
      split
      .exact dF.bind (R:= λ_ _=>False) (eZ _ _) λ_ _ x=>x.elim
      .exact hj4 ()
    cases gD
    .simp only[bC,if_false];refine(Hg hxv).bind ?_
     rintro n _⟨rfl,hlo⟩;exact hj3 n λ_=>hlo
    .simp only[if_true];refine(rz hxv).dL λl=>?_
     split
     .exact lZ _
     .refine(iR e).dL λi=>?_
      split
      .exact(lu _).dL λm=>lZ _
      .exact hj3 _ λh=>by cases h
   cases ts[1]? with
   |none=>exact hj2 false
   |some xt=>exact(dQ xt).dL λd=>hj2 _
  |_=>exact .bad trivial
 |_=>exact .bad trivial
theorem Uo(ts:Array TypeId)(t:TypeId){aS as':Array Value}(ha:jf F f aS as'):dF P F f (VR F f) (Builtin.copy_ ts t aS) (Builtin.copy_ ts t as'):=by
 unfold Builtin.copy_;cases hts:ts[0]? with
 |none=>exact .bad trivial
 |some sType=>
 rcases ha.get 0 with⟨h0,h0'⟩|⟨s,h0,h0',hs⟩
 .rw[h0];exact .bad trivial
 rcases ha.get 1 with⟨h1,h1'⟩|⟨x,h1,h1',hx⟩
 .rw[h0,h1];exact .bad trivial
 rw[h0,h0',h1,h1'];have hxv:VR F f x (rv f x):=⟨rfl,hx⟩;refine(dQ sType).dL λd=>?_
 cases d with
 |slice e=>
  cases s with
  |slice base dLen dCap=>
   rw[fD];refine(Hg hxv).bind ?_
   rintro n _⟨rfl,hlo⟩;dsimp only;refine(gZ e).dL λsz=>?_
   refine(qJ sz _ hxv λa l c e=>(hlo a l c e).imp id λh=>by rw[h];exact Nat.zero_min _).bind ?_
   rintro c c'⟨hc,hc0⟩;cases base with
   |none=>exact .ret VR.goInt
   |some a=>
    rcases nL (by simpa using hs)with hA|⟨_,h1,_⟩
    .exact(Et a hA hc).dL λ_=>.ret VR.goInt
    .have hc1:=hc.1;rw[hc0 (by rw[h1];exact Nat.min_zero _)]at hc1⊢;subst hc1;exact dF.dL (show dF P F f Eq (storeCells a (#[]:Array Value).toList) (storeCells (ra f a) ((#[]:Array Value).map (rv f)).toList)from BP _) λ_=>.ret VR.goInt
  |_=>exact .bad trivial
 |_=>exact .bad trivial
theorem Xv(ts:Array TypeId)(t:TypeId){aS as':Array Value}(ha:jf F f aS as'):dF P F f (VR F f) (Builtin.len_ ts t aS) (Builtin.len_ ts t as'):=by
 unfold Builtin.len_;cases hts:ts[0]? with
 |none=>exact .bad trivial
 |some sType=>
 rcases ha.get 0 with⟨h0,h0'⟩|⟨s,h0,h0',hs⟩
 .rw[h0];exact .bad trivial
 rw[h0,h0'];refine(dQ sType).dL λd=>?_
 cases d with
 |string=>cases s<;>first|exact .bad trivial|(rw[gF];exact .ret VR.goInt)
 |array n e=>exact .ret VR.goInt
 |pointer e=>
  refine(dQ e).dL λd=>?_
  cases d<;>first|exact .bad trivial|exact .ret VR.goInt
 |slice e=>cases s<;>first|exact .bad trivial|(rw[fD];exact .ret VR.goInt)
 |map k e=>
  cases s with
  |map r=>
   rw[nW];cases r with
   |none=>exact .ret VR.goInt
   |some r=>
    refine(jc r (by simpa using hs)).bind ?_
    rintro o _⟨rfl,h1,h2⟩;cases o<;>first|exact .bad trivial|(exact .ret ⟨by simp[goInt],by simp[goInt]⟩)
  |_=>exact .bad trivial
 |chan k e=>
  cases s with
  |chan r=>
   rw[su];cases r with
   |none=>exact .ret VR.goInt
   |some r=>
    simp at hs
  |_=>exact .bad trivial
 |_=>exact .bad trivial
theorem Xw(ts:Array TypeId)(t:TypeId){aS as':Array Value}(ha:jf F f aS as'):dF P F f (VR F f) (Builtin.cap_ ts t aS) (Builtin.cap_ ts t as'):=by
 unfold Builtin.cap_;cases hts:ts[0]? with
 |none=>exact .bad trivial
 |some sType=>
 rcases ha.get 0 with⟨h0,h0'⟩|⟨s,h0,h0',hs⟩
 .rw[h0];exact .bad trivial
 rw[h0,h0'];refine(dQ sType).dL λd=>?_
 cases d with
 |array n e=>exact .ret VR.goInt
 |pointer e=>
  refine(dQ e).dL λd=>?_
  cases d<;>first|exact .bad trivial|exact .ret VR.goInt
 |slice e=>cases s<;>first|exact .bad trivial|(rw[fD];exact .ret VR.goInt)
 |chan k e=>
  cases s with
  |chan r=>
   rw[su];cases r with
   |none=>exact .ret VR.goInt
   |some r=>
    simp at hs
  |_=>exact .bad trivial
 |_=>exact .bad trivial
theorem nN(op:BinOp)(x y:ByteArray):dF P F f (VR F f) (Op.stringOp op x y) (Op.stringOp op x y):=by
 unfold Op.stringOp;cases op<;>first|exact .bad trivial|exact .ret VR.bool|skip
 dsimp only;split
 .exact .bad trivial
 .exact .ret VR.str
theorem Uq{v v' x x':Value}(hv:VR F f v v')(hx:VR F f x x'):dF P F f (VR F f) (Builtin.max2 v x) (Builtin.max2 v' x'):=by
 obtain⟨rfl,hs⟩:=hv;obtain⟨rfl,hs'⟩:=hx;cases v with
 |int k a=>
  cases x with
  |int k' b=>simp only[iC];exact .ret VR.int
  |pointer a=>cases a<;>exact .bad trivial
  |_=>exact .bad trivial
 |float k a=>simp at hs
 |string a=>
  cases x with
  |string b=>
   simp only[gF];exact(nN .geq a b).bind λc c' hc=>(zq hc).dL λt=>.ret VR.str
  |pointer a=>cases a<;>exact .bad trivial
  |_=>exact .bad trivial
 |pointer p=>
  cases p with
  |some p=>exact .bad trivial
  |none=>
   cases x with
   |pointer a=>cases a<;>exact .bad trivial
   |_=>exact .bad trivial
 |_=>
  cases x with
  |pointer a=>cases a<;>exact .bad trivial
  |_=>exact .bad trivial
theorem Ur{v v' x x':Value}(hv:VR F f v v')(hx:VR F f x x'):dF P F f (VR F f) (Builtin.min2 v x) (Builtin.min2 v' x'):=by
 obtain⟨rfl,hs⟩:=hv;obtain⟨rfl,hs'⟩:=hx;cases v with
 |int k a=>
  cases x with
  |int k' b=>simp only[iC];exact .ret VR.int
  |pointer a=>cases a<;>exact .bad trivial
  |_=>exact .bad trivial
 |float k a=>simp at hs
 |string a=>
  cases x with
  |string b=>
   simp only[gF];exact(nN .leq a b).bind λc c' hc=>(zq hc).dL λt=>.ret VR.str
  |pointer a=>cases a<;>exact .bad trivial
  |_=>exact .bad trivial
 |pointer p=>
  cases p with
  |some p=>exact .bad trivial
  |none=>
   cases x with
   |pointer a=>cases a<;>exact .bad trivial
   |_=>exact .bad trivial
 |_=>
  cases x with
  |pointer a=>cases a<;>exact .bad trivial
  |_=>exact .bad trivial
theorem BQ{g:Value->Value->Sem Value}(hg:∀{v v' x x':Value},VR F f v v'->VR F f x x'->dF P F f (VR F f) (g v x) (g v' x')):
 ∀(l:List Value){v v':Value},VR F f v v'->(∀x∈l,vs F x=true)->dF P F f (VR F f) (l.foldlM g v) ((l.map (rv f)).foldlM g v')
 | [],_,_,hv,_=>by rw[List.map_nil,List.foldlM_nil,List.foldlM_nil];exact .ret hv
 |x::l,_,_,hv,hl=>by
  rw[aC,List.foldlM_cons,List.foldlM_cons];exact(hg hv ⟨rfl,hl x (aP ..)⟩).bind λa b h=>BQ hg l h λy hy=>hl y (aQ _ hy)
theorem Xx(ts:Array TypeId)(t:TypeId){aS as':Array Value}(ha:jf F f aS as'):dF P F f (VR F f) (Builtin.max_ ts t aS) (Builtin.max_ ts t as'):=by
 unfold Builtin.max_;rw[ha.1,Array.toList_map];have hs:∀x∈aS.toList,vs F x=true:= λx hx=>ha.2 x (by simpa using hx)
 generalize aS.toList=l at hs;cases l with
 |nil=>exact .bad trivial
 |cons x l=>exact BQ Uq l ⟨rfl,hs x (aP ..)⟩ λy hy=>hs y (aQ _ hy)
theorem Xy(ts:Array TypeId)(t:TypeId){aS as':Array Value}(ha:jf F f aS as'):dF P F f (VR F f) (Builtin.min_ ts t aS) (Builtin.min_ ts t as'):=by
 unfold Builtin.min_;rw[ha.1,Array.toList_map];have hs:∀x∈aS.toList,vs F x=true:= λx hx=>ha.2 x (by simpa using hx)
 generalize aS.toList=l at hs;cases l with
 |nil=>exact .bad trivial
 |cons x l=>exact BQ Ur l ⟨rfl,hs x (aP ..)⟩ λy hy=>hs y (aQ _ hy)
theorem Af(op:BinOp)(k:IntKind)(x y:Int):dF P F f (VR F f) (Op.intArith op k x y) (Op.intArith op k x y):=by
 unfold Op.intArith;cases op<;>first|exact .bad trivial|exact .ret VR.int
theorem NN(op:BinOp)(k:IntKind)(x y:Int):dF P F f (VR F f) (Op.intDiv op k x y) (Op.intDiv op k x y):=by
 unfold Op.intDiv;split
 .exact eZ _ _
 .cases op<;>first|exact .bad trivial|exact .ret VR.int
theorem BS(op:BinOp)(k:IntKind)(x y:Int):dF P F f (VR F f) (Op.intBits op k x y) (Op.intBits op k x y):=by
 unfold Op.intBits;cases op<;>first|exact .bad trivial|exact .ret VR.int
theorem NP(op:BinOp)(x y:Int):dF P F f (VR F f) (Op.intCmp op x y) (Op.intCmp op x y):=by
 unfold Op.intCmp;cases op<;>first|exact .bad trivial|exact .ret VR.bool
theorem Qc(op:BinOp)(k yk:IntKind)(x y:Int):dF P F f (VR F f) (Op.shift op k x yk y) (Op.shift op k x yk y):=by
 unfold Op.shift;split
 .exact eZ _ _
 .cases op<;>first|exact .bad trivial|exact .ret VR.int
theorem Qd(op:UnOp){v v':Value}(hv:VR F f v v'):dF P F f (VR F f) (Op.unary op v) (Op.unary op v'):=by
 obtain⟨rfl,hs⟩:=hv;cases v with
 |int k n=>rw[iC];cases op<;>simp only[Op.unary]<;>first|exact .bad trivial|exact Af .. |exact BS ..
 |float k n=>simp at hs
 |complex k n m=>simp at hs
 |bool b=>rw[jZ];cases op<;>first|exact .bad trivial|exact .ret VR.bool
 |pointer a=>cases a<;>cases op<;>exact .bad trivial
 |_=>cases op<;>exact .bad trivial
end
end
section
variable [Sh]
section
variable {P:Program} {F:Fit} {f:Nat->Nat} {α β γ δ:Type}
theorem eU(t:TypeId):dF P F f (λa b=>a=b∧P.underlying t=some a) (underlying t) (underlying t):=by
 unfold underlying;refine .rq ?_
 cases hu:P.underlying t with
 |none=>exact gL _ _
 |some d=>exact .ret ⟨rfl,rfl⟩
def ShR(r:Nat)(s s':Option (TypeId×Nat)):Prop:=(s=s'∧(Sh.lk r=true->s=none))∨(Sh.lk r=true∧∃n x,s=some (Sh.bad,n)∧s'=some x)
theorem uw(r:Nat)(hA:F.A r=true):dF P F f (ShR r) (Go.shape r) (Go.shape (f r)):=.shape hA (λ_ h=>.pure (.inl ⟨rfl,h⟩)) λh n s=>.pure (.inr ⟨h,n,s,rfl,rfl⟩)
theorem ShR.eq{r:Nat}{s s':Option (TypeId×Nat)}(h:ShR r s s')(hl:Sh.lk r=false):s'=s:=by
 rcases h with⟨rfl,_⟩|⟨h,_⟩
 .rfl
 .rw[hl]at h;cases h
theorem Eu(r:Nat)(hA:F.A r=true):dF P F f (λa b=>a=none∧b=none) (viewAt r) (viewAt (f r)):=by
 unfold viewAt;refine(uw r hA).bind ?_
 rintro s s'(⟨rfl,_⟩|⟨_,n,x,rfl,rfl⟩)
 rotate_left
 .exact .ret ⟨rfl,rfl⟩
 split
 .exact .ret ⟨rfl,rfl⟩
 .refine(jc r hA).bind ?_
  rintro o _⟨rfl,h1,h2⟩;cases o<;>first|exact h1.elim|exact .ret ⟨rfl,rfl⟩
theorem Ai(r:Nat)(hA:F.A r=true):dF P F f (λa b=>(a=none∧b=none)∨(Sh.lk r=false∧∃x l,a=some (x,l)∧b=some (ra f x,l)∧F.A x.block=true)) (numberAt r) (numberAt (f r)):=by
 unfold numberAt;refine(uw r hA).bind ?_
 rintro s s'(⟨rfl,_⟩|⟨_,n,x,rfl,rfl⟩)
 rotate_left
 .exact .ret (.inl ⟨rfl,rfl⟩)
 split
 .exact .ret (.inl ⟨rfl,rfl⟩)
 .refine(JN r hA).bind ?_
  rintro o _⟨rfl,h1,h2,h3⟩;cases o<;>first|exact h1.elim|exact .ret (.inl ⟨rfl,rfl⟩)|exact .ret (.inr ⟨h3,_,_,rfl,rfl,h1⟩)
theorem mW(a:Addr)(hA:F.A a.block=true):dF P F f (λx y=>AR F f x.1 y.1∧x.2=y.2∧(Sh.lk a.block=true->x.1=a)) (behindNumber a) (behindNumber (ra f a)):=by
 unfold behindNumber;refine(Ai a.block hA).bind ?_
 rintro x y(⟨rfl,rfl⟩|⟨hl,x,l,rfl,rfl,h⟩)
 .exact .ret ⟨⟨rfl,hA⟩,rfl, λ_=>rfl⟩
 .exact .ret ⟨⟨rfl,h⟩,rfl, λh=>by rw[hl]at h;cases h⟩
theorem jw(a:Addr)(hA:F.A a.block=true):dF P F f (λx y=>AR F f x.1 y.1∧x.2=y.2) (behindNumber a) (behindNumber (ra f a)):=(mW a hA).mono λ_ _ h=>⟨h.1,h.2.1⟩
theorem NQ(a:Addr)(hA:F.A a.block=true):dF P F f Eq (noView a) (noView (ra f a)):=by
 unfold noView;refine(Eu a.block hA).bind ?_
 rintro x y⟨rfl,rfl⟩;exact .ret rfl
theorem rA(a:Addr)(hA:F.A a.block=true)(hl:Sh.lk a.block=false):dF P F f Eq (byteOf a) (byteOf (ra f a)):=by
 unfold byteOf;simp only[LQ];cases a.spot with
 |some s=>exact .ret rfl
 |none=>
  dsimp only;refine .rq ?_ (λQ hQ=>by simp only[hQ.cellsOf,hQ.byteOfCell,hQ.depth,hQ.bytesOf])
  refine(NQ a hA).dL λ_=>?_
  refine(uw a.block hA).bind ?_
  intro s s' hs';obtain rfl:=(hs'.eq hl).symm;clear hs';cases s with
  |none=>exact .bad trivial
  |some s=>
   obtain⟨e,n⟩:=s;simp only[Fu,Sh.Xp _ hl,aH];split
   .exact .ret rfl
   .split
    .exact .ret rfl
    .exact .bad trivial
theorem Rn.Qe(h:Rn P f)(b:Nat)(hb:Sh.lk b=false):(f b≥ P.globals.size↔b≥ P.globals.size)∧(f b<P.globals.size↔b<P.globals.size):=by
 have key:b<P.globals.size->f b=b:= λx=>h.ja b (Nat.le_of_lt x)
 have ab3:f b<P.globals.size->b<P.globals.size:= λx=>by
  have h1:=h.ja (f b) (Nat.le_of_lt x);have :=h.inj _ _ (h.ZN _ (Nat.le_of_lt x)) (LM hb) h1;omega
 constructor
 .constructor
  .intro x;rcases bq b P.globals.size with h1|h1
   .rw[key h1]at x;omega
   .exact h1
  .intro x;rcases bq (f b) P.globals.size with h1|h1
   .have :=ab3 h1;omega
   .exact h1
 .exact⟨ab3, λx=>by rw[key x];exact x⟩
theorem Rn.ge(h:Rn P f)(b:Nat)(hb:Sh.lk b=true):b≥ P.globals.size:=by
 rcases bq b P.globals.size with h1|h1
 .rw[h.ZN b (Nat.le_of_lt h1)]at hb;cases hb
 .exact h1
theorem xQ(h:Rn P f)(a b:Addr)(hA:F.A a.block=true)(hB:F.A b.block=true):dF P F f Eq (Op.twoPlaces a b) (Op.twoPlaces (ra f a) (ra f b)):=by
 unfold Op.twoPlaces;refine .rq ?_
 by_cases hc:a.block=b.block∧a.block<P.globals.size
 .have hla:Sh.lk a.block=false:=h.ZN _ (Nat.le_of_lt hc.2);have hlb:Sh.lk b.block=false:=hc.1 ▸ hla;have e1:(f a.block !=f b.block)=(a.block !=b.block):=by simp[hc.1]
  have e2:(f a.block≥ P.globals.size)↔a.block≥ P.globals.size:=(h.Qe _ hla).1;simp only[qW,e1,e2];split
  .exact .bad trivial
  .refine(rA a hA hla).dL λx=>?_
   exact(rA b hB hlb).dL λy=>.ret rfl
 .rw[aj (by
   simp only[bne_iff_ne,Bool.or_eq_true,decide_eq_true_eq]
   by_cases e:a.block=b.block
   .exact .inr (Nat.le_of_not_lt λx=>hc ⟨e,x⟩)
   .exact .inl e)]
  exact .bad trivial
theorem JS(h:Rn P f)(k:IntKind){a a' b b':Addr}(ha:AR F f a a')(hb:AR F f b b'):dF P F f (VR F f) (Op.addrSub k a b) (Op.addrSub k a' b'):=by
 obtain⟨rfl,hA⟩:=ha;obtain⟨rfl,hB⟩:=hb;unfold Op.addrSub;exact(xQ h a b hA hB).dL λx=>.ret VR.int
theorem JU(h:Rn P f)(op:BinOp){a a' b b':Addr}(ha:AR F f a a')(hb:AR F f b b'):dF P F f (VR F f) (Op.addrCmp op a b) (Op.addrCmp op a' b'):=by
 obtain⟨rfl,hA⟩:=ha;obtain⟨rfl,hB⟩:=hb;unfold Op.addrCmp;refine(xQ h a b hA hB).dL λx=>?_
 cases op<;>first|exact .ret VR.bool|exact .bad trivial
theorem AZ{e:TypeId}(hb:P.info? e=none)(k:TypeInfo->Sem α)(m':Sem β){R:α->β->Prop}:dF P F f R (typeInfo e>>=k) m':=by
 refine .lW λw es=>?_
 refine⟨.stuck "no such type",w,es,?_,trivial,DK.refl⟩;show Sem.runT P ((typeInfo e).bind k) w es=_;rw[runT_bind];unfold typeInfo;simp only[program,Bind.bind,Sem.bind,Sem.runT,hb];rfl
theorem BU(h:Rn P f)(k:IntKind){a a':Addr}(ha:AR F f a a')(n:Int):dF P F f (VR F f) (Op.addrMod k a n) (Op.addrMod k a' n):=by
 obtain⟨rfl,hA⟩:=ha;unfold Op.addrMod;refine(uw a.block hA).bind ?_
 rintro s s' hs;cases hl:Sh.lk a.block with
 |true=>
  rcases hs with⟨rfl,h0⟩|⟨_,m,x,rfl,rfl⟩
  .rw[h0 hl];exact .bad trivial
  .exact AZ (h.bad _ hl) _ _
 |false=>
  obtain rfl:=(hs.eq hl).symm;cases s with
  |none=>exact .bad trivial
  |some s=>
   obtain⟨e,c⟩:=s;refine(iR e).dL λi=>?_
   dsimp only;split
   .exact .bad trivial
   .exact(rA a hA hl).dL λy=>.ret VR.int
theorem sH(h:Rn P f)(ts:Array TypeId)(t:TypeId){p p' y y':Value}(hp:VR F f p p')(hy:VR F f y y'):dF P F f (VR F f) (Builtin.unsafeAdd_ ts t #[p,y]) (Builtin.unsafeAdd_ ts t #[p',y']):=by
 obtain⟨rfl,hs⟩:=hp;unfold Builtin.unsafeAdd_;cases p with
 |pointer a=>
  rw[dX];refine(rz hy).dL λn=>?_
  by_cases h0:n=0
  .rw[aj h0,aj h0];cases a with
   |none=>exact .bad trivial
   |some a=>
    refine(Eu a.block (by simpa using hs)).bind ?_
    rintro x y⟨rfl,rfl⟩;exact .ret ⟨by simp,hs⟩
  .rw[aa h0,aa h0]
   by_cases h1:n<0
   .rw[aj h1];exact .bad trivial
   .rw[aa h1,aa h1];cases a with
    |none=>exact .bad trivial
    |some a=>
     refine(uw a.block (by simpa using hs)).bind ?_
     intro s s' hss;cases hl:Sh.lk a.block with
     |true=>
      rcases hss with⟨rfl,h0⟩|⟨_,m,x,rfl,rfl⟩
      .rw[h0 hl];exact .bad trivial
      .have h3:P.cellsOf Sh.bad=0:=by unfold Program.cellsOf;rw[h.bad _ hl];rfl
       refine .lW λw es=>?_
       refine⟨.unsupported (.unsafePointer "Add"),w,es,?_,trivial,DK.refl⟩;simp only[program,Bind.bind,Sem.bind,Sem.runT,cellAtBytes,h3];rfl
     |false=>
      obtain rfl:=(hss.eq hl).symm;cases s with
      |none=>exact .bad trivial
      |some s=>
       obtain⟨e,c⟩:=s;refine .rq ?_ (λQ hQ=>by simp only[hQ.cellsOf,hQ.byteOfCell,hQ.depth,hQ.bytesOf,hQ.info,hQ.cellAtBytes])
       simp only[Fu,Sh.Xp _ hl,aH];split
       .exact .ret ⟨by simp[ra,Sh.Xp _ hl],by simpa using hs⟩
       .exact .bad trivial
 |_=>exact .bad trivial
theorem Hl{a a':Addr}(ha:AR F f a a')(l:Bool):dF P F f (VR F f) (asNumber a l) (asNumber a' l):=by
 obtain⟨rfl,hA⟩:=ha;unfold asNumber;refine dF.bind (oI (o:=.number a l) hA) ?_
 rintro r _⟨rfl,hr,hl⟩;exact .ret ⟨by simp[BJ hl],by simpa using hr⟩
theorem jL(h:Rn P f)(t:TypeId){x x' y y':Value}(hx:VR F f x x')(hy:VR F f y y'):dF P F f (VR F f) (movedNumber t x y) (movedNumber t x' y'):=by
 unfold movedNumber;refine(dQ t).dL λd=>?_
 obtain⟨rfl,hs⟩:=hx;cases x with
 |pointer a=>
  cases a with
  |none=>
   have hn0:VR F f (.pointer none) (.pointer none):=⟨by simp,by simp⟩;rw[dX];cases d
   case unsafePointer=>exact .bad trivial
   all_goals exact sH h #[] t hn0 hy
  |some n=>
   rw[dX];cases d
   case unsafePointer=>exact .bad trivial
   all_goals
    refine(jw n (by simpa using hs)).bind ?_
    rintro⟨a,l⟩⟨a',l'⟩⟨h1,rfl⟩;refine(sH h _ _ (VR.ptr h1) hy).bind ?_
    rintro v _⟨rfl,hv⟩;cases v with
    |pointer b=>
     cases b with
     |none=>rw[dX];exact .ret ⟨by simp,by simp⟩
     |some b=>rw[dX];exact Hl ⟨rfl,by simpa using hv⟩ l
    |_=>exact .ret ⟨rfl,hv⟩
 |_=>cases d<;>unfold Builtin.unsafeAdd_<;>exact .bad trivial
theorem A7(h:Rn P f)(t:TypeId){x x' y y':Value}(hx:VR F f x x')(hy:VR F f y y'):dF P F f (VR F f) (movedPointer t x y) (movedPointer t x' y'):=by
 unfold movedPointer;have last:=sH (P:=P) h #[] t hx hy;obtain⟨rfl,hs⟩:=hx;cases x with
 |pointer a=>
  cases a with
  |none=>exact last
  |some n=>
   refine(Ai n.block (by simpa using hs)).bind ?_
   rintro p q(⟨rfl,rfl⟩|⟨_,x,l,rfl,rfl,_⟩)
   .exact last
   .exact .bad trivial
 |_=>exact last
def Wo(P:Program):Nat->TypeId->Bool
 |0,_=>false
 |n+1,t=>match P.underlying t with
  |some .bool|some (.int _)|some .string|some (.slice _)|some (.map ..)|some (.func ..)=>true
  |some (.struct fs)=>!P.stoodInHeld t&&fs.all λx=>Wo P n x.type
  |_=>false
theorem BV{σ γ:Type}{b b':γ->σ->Sem (ForInStep σ)}:∀(l:List γ)(s:σ),(∀a∈l,∀s,dF P F f Eq (b a s) (b' a s))->dF P F f Eq (forIn l s b) (forIn l s b')
 | [],s,_=>by simp only[List.forIn_nil];exact .ret rfl
 |a::l,s,h=>by
  simp only[List.forIn_cons];refine(h a (aP ..) s).dL λr=>?_
  cases r with
  |done s=>exact .ret rfl
  |yield s=>exact BV l s λa ha=>h a (aQ _ ha)
def SB(f:Nat->Nat)(a b:Value):Prop:=Instr.sameBits 10000 (rv f a) (rv f b)=Instr.sameBits 10000 a b
theorem BX(h:Rn P f)(d:Nat){t:TypeId}{k:IntKind}(hu:P.underlying t=some (.int k)){x x' y y':Value}(hx:VR F f x x')(hy:VR F f y y'):dF P F f (λb b'=>b=b'∧(b=true->SB f y x)) (Op.equalIn (d+1) t x y) (Op.equalIn (d+1) t x' y'):=by
 unfold Op.equalIn;refine(eU t).bind ?_
 rintro u _⟨rfl,hu'⟩;rw[hu]at hu';cases hu';obtain⟨rfl,hxs⟩:=hx;obtain⟨rfl,hys⟩:=hy;cases x with
 |int k1 a=>
  cases y with
  |int k2 b=>
   simp only[iC];split
   .exact .ret ⟨rfl, λ_=>by simp[SB,Instr.sameBits]⟩
   .exact .bad trivial
  |pointer b=>
   cases b with
   |none=>exact .bad trivial
   |some b=>
    simp only[iC,dX,ay]
    by_cases ha:a=0
    .subst ha;exact .ret ⟨rfl, λh=>by cases h⟩
    .split<;>first|exact .bad trivial|(exfalso;simp_all;done)
  |_=>exact .bad trivial
 |pointer a=>
  cases a with
  |none=>cases y<;>first|exact .bad trivial|(rename_i b;cases b<;>exact .bad trivial)
  |some a=>
   cases y with
   |int k2 b=>
    simp only[iC,dX,ay]
    by_cases hb:b=0
    .subst hb;exact .ret ⟨rfl, λh=>by cases h⟩
    .split<;>first|exact .bad trivial|(exfalso;simp_all;done)
   |pointer b=>
    cases b with
    |none=>exact .bad trivial
    |some b=>
     simp only[dX,ay];refine(mW a (by simpa using hxs)).bind ?_
     rintro⟨a1,l1⟩⟨a2,l2⟩⟨⟨h1,hA⟩,h1e,h1l⟩;refine(mW b (by simpa using hys)).bind ?_
     rintro⟨b1,m1⟩⟨b2,m2⟩⟨⟨h2,hB⟩,h2e,h2l⟩;dsimp only at h1 h2 hA hB h1e h2e h1l h2l⊢;subst h1;subst h2
     by_cases hl:Sh.lk a1.block=true∨Sh.lk b1.block=true
     ·
      have hcc:∀t i,P.info? t=some i->∀u,i.desc≠ .named "sync.copyChecker" u:=hl.elim (h.cc _) (h.cc _)
      have hneg:¬(a1.block=b1.block∧a1.block<P.globals.size):=by
       rintro⟨e1,e2⟩;have h3:=h.ZN _ (Nat.le_of_lt e2);rcases hl with x|x
       .rw[h3]at x;cases x
       .rw[<-e1,h3]at x;cases x
      refine .lW λw es=>?_
      cases ht:P.info? t with
      |none=>
       refine⟨.stuck "no such type",w,es,?_,trivial,DK.refl⟩;simp only[program,Bind.bind,Sem.bind,Sem.runT,typeInfo];rw[aa (by simpa using hneg)];simp only[program,Bind.bind,Sem.bind,Sem.runT,ht];rfl
      |some i=>
       refine⟨.unsupported .addressObserved,w,es,?_,trivial,DK.refl⟩;simp only[program,Bind.bind,Sem.bind,Sem.runT,typeInfo];rw[aa (by simpa using hneg)];simp only[program,Bind.bind,Sem.bind,Sem.runT,ht];have :=hcc t i ht;show Sem.runT P (Sem.bind (Pure.pure i) _) w es=_;simp only[Pure.pure,Sem.bind]
       first
        |rfl
        |(split
          .rename_i u hu2;exact absurd hu2 (this _)
          .rfl)
     have hla:Sh.lk a1.block=false:=by simpa usingλx=>hl (.inl x)
     have hlb:Sh.lk b1.block=false:=by simpa usingλx=>hl (.inr x)
     have hlo:Sh.lk a.block=false:=by
      cases hx:Sh.lk a.block with
      |false=>rfl
      |true=>rw[<-h1l hx,hla]at hx;cases hx
     have hlo2:Sh.lk b.block=false:=by
      cases hx:Sh.lk b.block with
      |false=>rfl
      |true=>rw[<-h2l hx,hlb]at hx;cases hx
     have ab4:∀(a1 b1:Addr),Sh.lk a1.block=false->Sh.lk b1.block=false->(ra f a1==ra f b1)=(a1==b1):=by
      intro a1 b1 hla hlb;rw[Bool.eq_iff_iff];simp only[beq_iff_eq]
      constructor
      .intro x;have h3:=congrArg Addr.block x;have h4:=congrArg Addr.off x;have h5:=congrArg Addr.spot x;simp only[qW,Fu,LQ]at h3 h4 h5;have :=h.inj _ _ hla (LM hlb) h3;have e1:Sh.sh a1.block=Sh.sh b1.block:=by rw[this]
       cases a1;cases b1;simp_all
      .intro x;rw[x]
     have hsb:SB f (.pointer (some b)) (.pointer (some a)):=by
      have :=ab4 a b hlo hlo2;have e:∀x y:Addr,(x==y)=(y==x):= λx y=>by rw[Bool.eq_iff_iff];simp only[beq_iff_eq];exact⟨Eq.symm,Eq.symm⟩
      simp only[SB,dX,ay,Instr.sameBits];have k1:∀x y:Addr,(some x==some y)=(x==y):= λx y=>by rw[Bool.eq_iff_iff];simp
      rw[k1,k1,e,this,e]
     refine .rq ?_
     have e1:(f a1.block==f b1.block)=(a1.block==b1.block):=by
      rw[Bool.eq_iff_iff];simp only[beq_iff_eq]
      exact⟨λx=>h.inj _ _ hla (LM hlb) x, λx=>by rw[x]⟩
     have e2:(f a1.block<P.globals.size)↔a1.block<P.globals.size:=(h.Qe _ hla).2;have e3:(ra f a1==ra f b1)=(a1==b1):=ab4 a1 b1 hla hlb;simp only[qW,e1,e2,e3];split
     .refine(rA a1 hA hla).dL λp=>?_
      exact(rA b1 hB hlb).dL λq=>.ret ⟨rfl, λ_=>hsb⟩
     .refine(iR t).dL λi=>?_
      split
      .split
       .exact .ret ⟨rfl, λ_=>hsb⟩
       .exact .bad trivial
      .exact .bad trivial
   |_=>exact .bad trivial
 |_=>cases y<;>first|exact .bad trivial|(rename_i b;cases b<;>exact .bad trivial)
theorem NS(h:Rn P f)(d:Nat){t:TypeId}{k:IntKind}(hu:P.underlying t=some (.int k)){x x' y y':Value}(hx:VR F f x x')(hy:VR F f y y'):dF P F f Eq (Op.equalIn (d+1) t x y) (Op.equalIn (d+1) t x' y'):=(BX h d hu hx hy).mono λ_ _ h=>h.1
theorem Hq(d:Nat){t e:TypeId}(hu:P.underlying t=some (.slice e)){x x' y y':Value}(hx:VR F f x x')(hy:VR F f y y'):dF P F f Eq (Op.equalIn (d+1) t x y) (Op.equalIn (d+1) t x' y'):=by
 unfold Op.equalIn;refine(eU t).bind ?_
 rintro u _⟨rfl,hu'⟩;rw[hu]at hu';cases hu';obtain⟨rfl,hxs⟩:=hx;obtain⟨rfl,hys⟩:=hy;cases x with
 |slice a _ _=>
  cases y with
  |slice b _ _=>
   simp only[fD];cases a with
   |none=>exact .ret (by simp)
   |some a=>cases b with
    |none=>exact .ret rfl
    |some b=>exact .bad trivial
  |_=>cases a<;>exact .bad trivial
 |_=>cases y<;>exact .bad trivial
theorem NT(d:Nat){t k e:TypeId}(hu:P.underlying t=some (.map k e)){x x' y y':Value}(hx:VR F f x x')(hy:VR F f y y'):dF P F f Eq (Op.equalIn (d+1) t x y) (Op.equalIn (d+1) t x' y'):=by
 unfold Op.equalIn;refine(eU t).bind ?_
 rintro u _⟨rfl,hu'⟩;rw[hu]at hu';cases hu';obtain⟨rfl,hxs⟩:=hx;obtain⟨rfl,hys⟩:=hy;cases x with
 |map a=>
  cases y with
  |map b=>
   simp only[nW];cases a with
   |none=>exact .ret (by simp)
   |some a=>cases b with
    |none=>exact .ret rfl
    |some b=>exact .bad trivial
  |_=>cases a<;>exact .bad trivial
 |_=>cases y<;>exact .bad trivial
theorem JV(d:Nat){t:TypeId}{a b:Array TypeId}{c:Bool}(hu:P.underlying t=some (.func a b c)){x x' y y':Value}(hx:VR F f x x')(hy:VR F f y y'):dF P F f Eq (Op.equalIn (d+1) t x y) (Op.equalIn (d+1) t x' y'):=by
 unfold Op.equalIn;refine(eU t).bind ?_
 rintro u _⟨rfl,hu'⟩;rw[hu]at hu';cases hu';obtain⟨rfl,hxs⟩:=hx;obtain⟨rfl,hys⟩:=hy;cases x<;>cases y<;>first|exact .bad trivial|(simp only[oh,kV];exact .ret rfl)
theorem Aj(d:Nat){t:TypeId}(hu:P.underlying t=some .bool){x x' y y':Value}(hx:VR F f x x')(hy:VR F f y y'):dF P F f (λb b'=>b=b'∧(b=true->SB f y x)) (Op.equalIn (d+1) t x y) (Op.equalIn (d+1) t x' y'):=by
 unfold Op.equalIn;refine(eU t).bind ?_
 rintro u _⟨rfl,hu'⟩;rw[hu]at hu';cases hu';obtain⟨rfl,hxs⟩:=hx;obtain⟨rfl,hys⟩:=hy;cases x<;>cases y<;>first|exact .bad trivial|(simp only[jZ];exact .ret ⟨rfl, λ_=>by simp[SB,Instr.sameBits]⟩)
theorem JX(d:Nat){t:TypeId}(hu:P.underlying t=some .bool){x x' y y':Value}(hx:VR F f x x')(hy:VR F f y y'):dF P F f Eq (Op.equalIn (d+1) t x y) (Op.equalIn (d+1) t x' y'):=(Aj d hu hx hy).mono λ_ _ h=>h.1
theorem vY(d:Nat){t:TypeId}(hu:P.underlying t=some .string){x x' y y':Value}(hx:VR F f x x')(hy:VR F f y y'):dF P F f (λb b'=>b=b'∧(b=true->SB f y x)) (Op.equalIn (d+1) t x y) (Op.equalIn (d+1) t x' y'):=by
 unfold Op.equalIn;refine(eU t).bind ?_
 rintro u _⟨rfl,hu'⟩;rw[hu]at hu';cases hu';obtain⟨rfl,hxs⟩:=hx;obtain⟨rfl,hys⟩:=hy;cases x<;>cases y<;>first|exact .bad trivial|(simp only[gF];exact .ret ⟨rfl, λ_=>by simp[SB,Instr.sameBits]⟩)
theorem FC(d:Nat){t:TypeId}(hu:P.underlying t=some .string){x x' y y':Value}(hx:VR F f x x')(hy:VR F f y y'):dF P F f Eq (Op.equalIn (d+1) t x y) (Op.equalIn (d+1) t x' y'):=(vY d hu hx hy).mono λ_ _ h=>h.1
theorem FD(d:Nat){t:TypeId}{fs:Array Field}(hu:P.underlying t=some (.struct fs))(ht:P.stoodInHeld t=false)(ih:∀fl∈fs.toList,∀{x x' y y':Value},VR F f x x'->VR F f y y'->dF P F f Eq (Op.equalIn d fl.type x y) (Op.equalIn d fl.type x' y')){x x' y y':Value}(hx:VR F f x x')(hy:VR F f y y'):dF P F f Eq (Op.equalIn (d+1) t x y) (Op.equalIn (d+1) t x' y'):=by
 unfold Op.equalIn;refine(eU t).bind ?_
 rintro u _⟨rfl,hu'⟩;rw[hu]at hu';cases hu';obtain⟨rfl,hxs⟩:=hx;obtain⟨rfl,hys⟩:=hy;cases x with
 |agg xs=>
  cases y with
  |agg ys=>
   simp only[nX];refine .rq ?_ (λQ hQ=>by simp only[hQ.stoodInHeld])
   rw[ht];simp only[bC,if_false];refine dF.dL ?_ λr=>?_
   .rw[<-Array.forIn_toList, <-Array.forIn_toList];refine BV fs.toList _ λfl hfl s=>?_
    split
    .refine(xP fl.type ⟨rfl,lV.1 hxs⟩ _).bind ?_
     intro p p' hp;refine(xP fl.type ⟨rfl,lV.1 hys⟩ _).bind ?_
     intro q q' hq;refine(ih fl hfl hp hq).dL λr=>?_
     split<;>exact .ret rfl
    .exact .ret rfl
   .split<;>exact .ret rfl
  |_=>exact .bad trivial
 |_=>cases y<;>exact .bad trivial
theorem BZ(h:Rn P f):∀(n d:Nat)(t:TypeId),Wo P n t=true->∀{x x' y y':Value},VR F f x x'->VR F f y y'->dF P F f Eq (Op.equalIn d t x y) (Op.equalIn d t x' y')
 |0,_,_,h0,_,_,_,_,_,_=>by cases h0
 |n+1,0,_,_,_,_,_,_,_,_=>.bad trivial
 |n+1,d+1,t,ht,x,_,y,_,hx,hy=>by
  unfold Wo at ht;cases hu:P.underlying t with
  |none=>rw[hu]at ht;cases ht
  |some u=>
   rw[hu]at ht;cases u with
   |bool=>exact JX d hu hx hy
   |string=>exact FC d hu hx hy
   |int k=>exact NS h d hu hx hy
   |slice e=>exact Hq d hu hx hy
   |map k e=>exact NT d hu hx hy
   |func a b c=>exact JV d hu hx hy
   |struct fs=>
    rw[bB,Bool.not_eq_true']at ht;exact FD d hu ht.1 (λfl hfl=>BZ h n d fl.type (aU.1 ht.2 fl (by simpa using hfl))) hx hy
   |_=>cases ht
end
end
end Par
