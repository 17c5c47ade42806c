/- Part 1. -/
import Derived.Maps.AppendAt
import Derived.Below
import Derived.Conc.MuSpec
set_option maxRecDepth 100000
set_option maxHeartbeats 0
set_option linter.all false
section
abbrev aa:=@if_neg
abbrev aj:=@if_pos
abbrev ak:=@Option.getD_some
abbrev au:=@Array.getElem?_setIfInBounds_ne
abbrev ax:=@List.not_mem_nil
abbrev ay:=@Option.map_some
abbrev az:=@False.elim
abbrev aA:=@Array.getD_eq_getD_getElem?
abbrev aB:=@List.mem_toArray
abbrev aC:=@List.map_cons
abbrev aD:=@Array.getElem?_setIfInBounds_self_of_lt
abbrev aF:=@List.drop_length
abbrev aG:=@Array.getElem?_map
abbrev aH:=@Nat.add_zero
abbrev aI:=@Array.getElem?_eq_some_iff
abbrev aJ:=@Nat.le_refl
abbrev aK:=@Nat.lt_of_lt_of_le
abbrev aM:=@And.intro
abbrev aN:=@List.getElem?_eq_getElem
abbrev aO:=@Option.bind_eq_some_iff
abbrev aP:=@List.mem_cons_self
abbrev aQ:=@List.mem_cons_of_mem
abbrev aR:=@List.mem_singleton
abbrev aS:=@Nat.le_trans
abbrev aT:=@Option.some.inj
abbrev aU:=@Array.all_eq_true_iff_forall_mem
abbrev aV:=@List.drop_eq_getElem_cons
abbrev aW:=@Array.getElem?_eq_getElem
abbrev aX:=@List.getElem_mem
abbrev aY:=@List.getElem?_eq_some_iff
abbrev aZ:=@Array.mem_of_getElem?
abbrev bg:=@Nat.zero_le
abbrev bn:=@Classical.byContradiction
abbrev bq:=@Nat.lt_or_ge
abbrev bu:=@List.take_succ_eq_append_getElem
abbrev bz:=@Array.getElem?_modify
abbrev bB:=@Bool.and_eq_true
abbrev bC:=@Bool.false_eq_true
abbrev bD:=@List.mem_cons
abbrev bE:=@List.mem_of_mem_take
abbrev bF:=@List.all_eq_true
abbrev bG:=@Array.mem_or_eq_of_mem_setIfInBounds
namespace cS
open Go
class Sh where
 lk:Nat->Bool
 sh:Nat->Nat
 bad:TypeId
 Xp:∀b,lk b=false->sh b=0
 hol:Nat->Bool
 Ln:∀b,hol b=true->lk b=true
@[reducible] def noSh:Sh:=⟨λ_=>false, λ_=>0,0, λ_ _=>rfl, λ_=>false, λ_ h=>by cases h⟩
section
variable [Sh]
def LM{b:Nat}(h:Sh.lk b=false):Sh.hol b=false:=by
 cases hx:Sh.hol b with
 |false=>rfl
 |true=>rw[Sh.Ln b hx]at h;cases h
def ra(f:Nat->Nat)(a:Addr):Addr:={ a with block:=f a.block,off:=a.off+Sh.sh a.block }
@[simp] theorem Fu (f:Nat->Nat) (a:Addr):(ra f a).off=a.off+Sh.sh a.block:=rfl
@[simp] theorem LQ (f:Nat->Nat) (a:Addr):(ra f a).spot=a.spot:=rfl
@[simp] theorem qW (f:Nat->Nat) (a:Addr):(ra f a).block=f a.block:=rfl
@[simp] theorem zl (f:Nat->Nat) (a:Addr) (n:Nat):ra f (a.add n)=(ra f a).add n:=by
  unfold Addr.add;split
  .rfl
  .simp only[ra];congr 1;omega
def T9(f:Nat->Nat):Fn->Fn
 | .yield l=>.yield (f l)
 |x=>x
mutual
def rv(f:Nat->Nat):Value->Value
 | .bool b=>.bool b
 | .int k n=>.int k n
 | .float k b=>.float k b
 | .complex k a b=>.complex k a b
 | .string s=>.string s
 | .pointer a=>.pointer (a.map (ra f))
 | .slice a l c=>.slice (a.map (ra f)) l c
 | .map r=>.map (r.map f)
 | .chan r=>.chan (r.map f)
 | .func fn first cap=>.func (T9 f fn) (LU f first) (LU f cap)
 | .nilFunc=>.nilFunc
 | .iface t v=>.iface t (rv f v)
 | .nilIface=>.nilIface
 | .agg cs=>.agg (LU f cs)
 | .tuple vs=>.tuple (LU f vs)
def LU(f:Nat->Nat):Array Value->Array Value
 |⟨l⟩=>⟨GY f l⟩
def GY(f:Nat->Nat):List Value->List Value
 | []=>[]
 |v::l=>rv f v::GY f l
end
def PW(f:Nat->Nat):∀l:List Value,GY f l=l.map (rv f)
 | []=>by rw[GY];rfl
 |v::l=>by rw[GY,PW f l];rfl
@[simp] theorem Xq (f:Nat->Nat) (a:Array Value):LU f a=a.map (rv f):=by obtain⟨l⟩:=a;rw[LU,PW];simp
@[simp] theorem jZ (f:Nat->Nat) (b:Bool):rv f (.bool b)=.bool b:=by rw[rv]
@[simp] theorem iC (f:Nat->Nat) (k:IntKind) (n:Int):rv f (.int k n)=.int k n:=by rw[rv]
@[simp] theorem gF (f:Nat->Nat) (s:ByteArray):rv f (.string s)=.string s:=by rw[rv]
@[simp] theorem qX (f:Nat->Nat) (k:FloatKind) (b:Nat):rv f (.float k b)=.float k b:=by rw[rv]
@[simp] theorem mP (f:Nat->Nat) (k:FloatKind) (a b:Nat):rv f (.complex k a b)=.complex k a b:=by rw[rv]
@[simp] theorem dX (f:Nat->Nat) (a:Option Addr):rv f (.pointer a)=.pointer (a.map (ra f)):=by rw[rv]
@[simp] theorem fD (f:Nat->Nat) (a:Option Addr) (l c:Nat):rv f (.slice a l c)=.slice (a.map (ra f)) l c:=by rw[rv]
@[simp] theorem nW (f:Nat->Nat) (r:Option Nat):rv f (.map r)=.map (r.map f):=by rw[rv]
@[simp] theorem su (f:Nat->Nat) (r:Option Nat):rv f (.chan r)=.chan (r.map f):=by rw[rv]
@[simp] theorem oh (f:Nat->Nat) (fn:Fn) (a b:Array Value):rv f (.func fn a b)=.func (T9 f fn) (a.map (rv f)) (b.map (rv f)):=by rw[rv];simp
@[simp] theorem kV (f:Nat->Nat):rv f .nilFunc=.nilFunc:=by rw[rv]
@[simp] theorem jh (f:Nat->Nat):rv f .nilIface=.nilIface:=by rw[rv]
@[simp] theorem oP (f:Nat->Nat) (t:TypeId) (v:Value):rv f (.iface t v)=.iface t (rv f v):=by rw[rv]
@[simp] theorem nX (f:Nat->Nat) (a:Array Value):rv f (.agg a)=.agg (a.map (rv f)):=by rw[rv];simp
@[simp] theorem qY (f:Nat->Nat) (a:Array Value):rv f (.tuple a)=.tuple (a.map (rv f)):=by rw[rv];simp
@[simp] theorem GZ (f:Nat->Nat):rv f undef=undef:=by simp[undef]
@[simp] theorem JJ (f:Nat->Nat):rv f (default:Value)=default:=by show rv f (.bool _)=.bool _;simp
def qZ(f:Nat->Nat)(v:Value):(rv f v).cells=v.cells.map (rv f):=by cases v<;>simp[Value.cells]
def rd(f:Nat->Nat)(d:Deferred):Deferred:=
 { target:=match d.target with
    | .fn fn cap=>.fn (T9 f fn) (cap.map (rv f))
    | .collected r=>.collected (f r)
    | .coroexit c=>.coroexit (f c)
    |t=>t
   args:=d.args.map (rv f) }
def re(f:Nat->Nat)(e:MapEntry):MapEntry:={ key:=rv f e.key,val:=rv f e.val,born:=e.born }
def ro(f:Nat->Nat):Obj->Obj
 | .cells c e fr=>.cells (c.map (rv f)) e fr
 | .pending c e=>.pending (c.map (rv f)) e
 | .view a t=>.view (ra f a) t
 | .number a b=>.number (ra f a) b
 | .map es c=>.map (es.map (re f)) c
 | .chan cap buf cl s r t=>.chan cap (buf.map (rv f)) cl s r t
 | .stringIter s p=>.stringIter s p
 | .mapIter m a b c=>.mapIter (m.map f) a b c
 | .loop l=>.loop { l with tmps:=l.tmps.map (rv f),defers:=f l.defers }
 | .deferred ds=>.deferred (ds.map (·.map (rd f)))
 | .coro p=>.coro p
 | .finalizers fs r=>.finalizers (fs.map λx=>(f x.1,rd f x.2)) r
def En(f:Nat->Nat)(o:Obj):(ro f o).isChan=o.isChan:=by cases o<;>rfl
def rm(f:Nat->Nat):Mark->Mark
 | .acquire a=>.acquire (ra f a)
 | .release a=>.release (ra f a)
 | .releaseMerge a=>.releaseMerge (ra f a)
 | .read a=>.read (ra f a)
 | .write a=>.write (ra f a)
 |m=>m
def rl(f:Nat->Nat):Loc->Loc
 | .cell a=>.cell (ra f a)
 | .obj r=>.obj (f r)
 | .mark m=>.mark (rm f m)
 |l=>l
def rev(f:Nat->Nat)(e:Event):Event:={ e with loc:=rl f e.loc }
end
end cS
end
namespace cS
open Go
def rw'{α:Type}:Result α->World
 | .ok _ w=>w
 | .halt _ w=>w
def BB{P:Program}{w w':World}{a b:Addr}{u:TypeId}{v:Value}{x:Bool}{l:List Addr}(h:w.viewStore P a u b v x=.ok (w',l)):w'.heap.size=w.heap.size:=by
 unfold World.viewStore at h;simp only[bind,Except.bind,pure,Except.pure,MonadExcept.throw,throwThe,MonadExceptOf.throw]at h
 repeat' (first|split at h|(cases h;done))
 all_goals(try(cases h;simp))
def D8{P:Program}{w w':World}{a:Addr}{v:Value}{x:Bool}{l:List Addr}(h:w.farStore P a v x=.ok (w',l)):w'.heap.size=w.heap.size:=by
 unfold World.farStore at h;split at h
 .split at h
  .cases h;rename_i h;exact BB h
  .cases h
 .cases h
def BC{α:Type}:∀(m:Ask α)(w:World),(w.ask m).2.heap=w.heap
 | .done a,w=>rfl
 | .ask q r k,w=>by
   unfold World.ask;dsimp only;split
   .exact BC _ w
   .exact BC _ _
def G5(w:World)(c:Sys):(w.sys c).2.heap=w.heap:=by
 unfold World.sys;have :=BC (Kernel.perform c w.os) w;split
 .rfl
 .rename_i h;rw[h]at this;exact this
def G6(w:World)(a:Addr)(n:Nat):(w.freeze a n).heap.size=w.heap.size:=by unfold World.freeze;split<;>simp
def runT_size{P:Program}{α:Type}(m:Sem α):∀(w:World)(es:Array Event),w.heap.size<=(rw' (m.runT P w es).1).heap.size:=by
 induction m with
 |pure a=>intro w es;exact aJ _
 |load m a k ih=>
  intro w es;simp only[Sem.runT];split
  .exact ih _ _ _
  .split
   .exact ih _ _ _
   .exact aJ _
 |store m a v k ih=>
  intro w es;have:∀(w w':World)es,w'.heap.size=w.heap.size->w.heap.size<=(rw' (k.runT P w' es).1).heap.size:= λw w' es h=>by rw[<-h];exact ih _ _
  cases v<;>first
   |(simp only[Sem.runT];exact aJ _)
   |(simp only[Sem.runT];split
     .split
      .exact aJ _
      .exact this _ _ _ (by simp[World.setCell])
     .split
      .rename_i h;exact this _ _ _ (D8 h)
      .exact aJ _)
 |new o k ih=>
  intro w es;simp only[Sem.runT];have :=ih w.heap.size { w with heap:=w.heap.push o } es;simp only[Array.size_push]at this;omega
 |shape r k ih=>intro w es;simp only[Sem.runT];exact ih _ _ _
 |freeze a n k ih=>intro w es;simp only[Sem.runT];have :=ih (w.freeze a n) es;rw[G6]at this;exact this
 |frozen a k ih=>intro w es;simp only[Sem.runT];exact ih _ _ _
 |getObj r k ih=>
  intro w es;simp only[Sem.runT];split
  .exact aJ _
  .exact ih _ _ _
  .exact aJ _
 |setObj r o k ih=>
  intro w es;simp only[Sem.runT];split
  .exact aJ _
  .have :=ih { w with heap:=w.heap.setIfInBounds r o } (es.push ⟨.obj r,true,o.isChan⟩);simpa using this
  .exact aJ _
 |choose q k ih=>
  intro w es;simp only[Sem.runT];split
  .exact ih _ _ _
  .exact ih _ { w with drawn:=w.drawn+1 } _
 |sys c k ih=>
  intro w es;simp only[Sem.runT];have :=ih (w.sys c).1 (w.sys c).2 (es.push ⟨.output,true,false⟩);rw[G5]at this;exact this
 |program k ih=>intro w es;simp only[Sem.runT];exact ih _ _ _
 |mark m k ih=>intro w es;simp only[Sem.runT];exact ih _ _
 |halt h=>intro w es;exact aJ _
end cS
section
def Go.Program.stub(P:Go.Program)(q:Go.FuncId)(c:Go.Code):Go.Program:={ P with funcs:=P.funcs.modify q λfn=>{ fn with body:=some c } }
namespace cS
open Go
variable [Sh]
structure Fit where
 S:FuncId->Bool
 A:Nat->Bool
 code:Code->Bool
 V:FuncId->Bool
def Wi(F:Fit):Fn->Bool
 | .func g=>F.V g
 | .yield l=>F.A l
 |_=>false
def Ha(F:Fit):Option Nat->Bool
 |none=>true
 |some r=>F.A r
def Ua(F:Fit):Option Addr->Bool
 |none=>true
 |some a=>F.A a.block
def JG(F:Fit)(a:Option Addr)(l c:Nat):Bool:=Ua F a||(a.any (λa=>Sh.hol a.block)&&(l==0&&c==0))
mutual
def vs(F:Fit):Value->Bool
 | .func fn first cap=>Wi F fn&&JK F first &&JK F cap
 | .iface _ v=>vs F v
 | .agg cs=>JK F cs
 | .tuple cs=>JK F cs
 | .bool _=>true
 | .int _ _=>true
 | .float _ _=>false
 | .complex _ _ _=>false
 | .string _=>true
 | .pointer a=>Ua F a
 | .slice a l c=>JG F a l c
 | .map r=>Ha F r
 | .chan r=>r.isNone
 | .nilFunc=>true
 | .nilIface=>true
def JK(F:Fit):Array Value->Bool
 |⟨l⟩=>JH F l
def JH(F:Fit):List Value->Bool
 | []=>true
 |v::l=>vs F v&&JH F l
end
section
variable {F:Fit}
def LV:∀{l:List Value},JH F l=true↔∀v∈l,vs F v=true
 | []=>by rw[JH];simp
 |v::l=>by rw[JH];simp[LV (l:=l)]
def Bl{a:Array Value}:JK F a=true↔∀v∈a,vs F v=true:=by obtain⟨l⟩:=a;rw[JK,LV];simp
end
def VS(F:Fit)(a:Array Value):Prop:=∀v∈a,vs F v=true
section
variable {F:Fit}
@[simp] theorem sw (b:Bool):vs F (.bool b)=true:=by rw[vs]
@[simp] theorem Fv (k:IntKind) (n:Int):vs F (.int k n)=true:=by rw[vs]
@[simp] theorem ZM (s:ByteArray):vs F (.string s)=true:=by rw[vs]
@[simp] theorem aa3 (k:FloatKind) (b:Nat):vs F (.float k b)=false:=by rw[vs]
@[simp] theorem Xr (k:FloatKind) (a b:Nat):vs F (.complex k a b)=false:=by rw[vs]
@[simp] theorem BD (a:Option Addr):vs F (.pointer a)=Ua F a:=by rw[vs]
@[simp] theorem gY (a:Option Addr) (l c:Nat):vs F (.slice a l c)=JG F a l c:=by rw[vs]
@[simp] theorem am2 (r:Option Nat):vs F (.map r)=Ha F r:=by rw[vs]
@[simp] theorem al5 (r:Option Nat):vs F (.chan r)=r.isNone:=by rw[vs]
@[simp] theorem Xt:vs F .nilFunc=true:=by rw[vs]
@[simp] theorem Wj:vs F .nilIface=true:=by rw[vs]
@[simp] theorem aa4 (t:TypeId) (v:Value):vs F (.iface t v)=vs F v:=by rw[vs]
@[simp] theorem aa5:Ua F none=true:=rfl
@[simp] theorem uk (a:Addr):Ua F (some a)=F.A a.block:=rfl
@[simp] theorem aa6 (l c:Nat):JG F none l c=true:=rfl
def qH{a:Option Addr}{l c:Nat}(h:Ua F a=true):JG F a l c=true:=by unfold JG;rw[h];rfl
def nL{a:Addr}{l c:Nat}(h:JG F (some a) l c=true):F.A a.block=true∨(Sh.hol a.block=true∧l=0∧c=0):=by simpa[JG]using h
def um(F:Fit)(a:Addr)(l c:Nat): @JG noSh F (some a) l c=F.A a.block:=by simp[JG]
@[simp] theorem aa7:Ha F none=true:=rfl
@[simp] theorem aa8 (r:Nat):Ha F (some r)=F.A r:=rfl
def lV{a:Array Value}:vs F (.agg a)=true↔VS F a:=by rw[vs,Bl];rfl
def q9{a:Array Value}:vs F (.tuple a)=true↔VS F a:=by rw[vs,Bl];rfl
def sD{fn:Fn}{a b:Array Value}:vs F (.func fn a b)=true↔Wi F fn=true∧VS F a∧VS F b:=by rw[vs,bB,bB,Bl,Bl,and_assoc];rfl
@[simp] theorem oQ:vs F undef=true:=by unfold undef;rw[q9];intro v hv;simp at hv
@[simp] theorem JL:vs F (default:Value)=true:=by show vs F (.bool _)=true;simp
def VS.cells{v:Value}(h:vs F v=true):VS F v.cells:=by cases v<;>first|exact lV.1 h|(intro x hx;simp[Value.cells]at hx;subst hx;exact h)
end
def oS(F:Fit):Obj->Prop
 | .cells c _ _=>VS F c
 | .number a _=>F.A a.block=true
 | .map es _=>∀e∈es,vs F e.key=true∧vs F e.val=true
 | .stringIter .. =>True
 | .mapIter m .. =>Ha F m=true
 | .loop l=>VS F l.tmps∧F.S l.fn=true∧F.A l.defers=true∧F.code l.assign=true∧F.code l.body=true∧(∀c,l.pending=some c->F.code c=true)
 | .deferred ds=>ds=some []∨ds=none
 |_=>False
def iZ(o:Obj):Prop:=∃c e fr,o=.cells c e fr∧∀i,i<c.size->fr.1<=i∧i<fr.2
def isCells:Obj->Bool
 | .cells .. =>true
 |_=>false
def BR(F:Fit)(f:Nat->Nat)(b:Nat)(o:Obj)(O:Option Obj):Prop:=
 (Sh.lk b=false∧oS F o∧isCells o=false∧O=some (ro f o))∨
 (Sh.lk b=false∧∃c e fr fr',o=.cells c e fr∧VS F c∧O=some (.cells (c.map (rv f)) e fr')∧∀i,i<c.size->fr'.1<=i->i<fr'.2->fr.1<=i∧i<fr.2)∨
 (Sh.lk b=true∧∃c fr C e' fr',o=.cells c Sh.bad fr∧VS F c∧(∀i,i<c.size->fr.1<=i∧i<fr.2)∧O=some (.cells C e' fr')∧∀i v,c[i]?=some v->C[i+Sh.sh b]?=some (rv f v))
structure WR(F:Fit)(f:Nat->Nat)(w W:World):Prop where
 lt:∀b,b<w.heap.size->F.A b=true->f b<W.heap.size
 blk:∀b o,F.A b=true->w.heap[b]?=some o->BR F f b o W.heap[f b]?
def G7:Halt->Prop
 | .panic _| .stuck _=>True
 | .unsupported (.initOrder _)=>False
 | .unsupported _=>True
 |_=>False
def DK(w w':World):Prop:=∀(r:Nat)ds,w'.heap[r]?=some (Obj.deferred ds)->w.heap[r]?=some (Obj.deferred ds)
def DK.refl{w:World}:DK w w:= λ_ _ h=>h
def DK.trans{a b c:World}(h:DK a b)(k:DK b c):DK a c:= λr ds x=>h r ds (k r ds x)
def BF(F:Fit)(w:World):Prop:=∀(r:Nat)ds,F.A r=true->w.heap[r]?=some (Obj.deferred ds)->ds=some []∨ds=none
def Alike(P Q:Program):Prop:=∃fs:Array Func,Q={ P with funcs:=fs }∧∀g:FuncId,∃h:Func->Func,fs[g]?=(P.funcs[g]?).map h∧∀fn,∃b,h fn={ fn with body:=b }∧(fn.body.isSome=true->b.isSome=true)
def Alike.refl(P:Program):Alike P P:=⟨P.funcs,rfl, λ_=>⟨id,by simp, λfn=>⟨fn.body,rfl,id⟩⟩⟩
inductive dF(P:Program)(F:Fit)(f:Nat->Nat){α β:Type}(R:α->β->Prop):Sem α->Sem β->Prop
 |pure {a:α} {b:β} (h:R a b):dF P F f R (.pure a) (.pure b)
 |load {a:Addr} {k:Value->Sem α} {k':Value->Sem β} (hA:F.A a.block=true) (h:∀v,vs F v=true->dF P F f R (k v) (k' (rv f v))):dF P F f R (.load .plain a k) (.load .plain (ra f a) k')
 |store {a:Addr} {v:Value} {k:Sem α} {k':Sem β} (hA:F.A a.block=true) (hv:vs F v=true) (h:dF P F f R k k'):dF P F f R (.store .plain a v k) (.store .plain (ra f a) (rv f v) k')
 |new {o:Obj} {k:Nat->Sem α} {k':Nat->Sem β} (ho:oS F o) (h:∀r,F.A r=true->Sh.lk r=false->dF P F f R (k r) (k' (f r))):dF P F f R (.new o k) (.new (ro f o) k')
 |mQ {c:Array Value} {e:TypeId} {k0:Nat->Option (TypeId×Nat)->Sem α} {Pa:Nat->Option (TypeId×Nat)->Sem β} {k:Nat->Sem α} {k':Nat->Sem β} (ho:VS F c)
   (e1:∀r,k0 r (some (e,c.size))=.freeze ⟨r,c.size,none⟩ 1 (k r)) (e2:∀r,Pa r (some (e,c.size))=.freeze ⟨r,c.size,none⟩ 1 (k' r))
   (h:∀r,F.A r=true->Sh.lk r=false->dF P F f R (k r) (k' (f r))):dF P F f R (.new (.cells c e (0,0)) λr=>.shape r (k0 r)) (.new (.cells (c.map (rv f)) e (0,0)) λr=>.shape r (Pa r))
 |shape {r:Nat} {k:Option (TypeId×Nat)->Sem α} {k':Option (TypeId×Nat)->Sem β} (hA:F.A r=true) (h:∀s,(Sh.lk r=true->s=none)->dF P F f R (k s) (k' s)) (hl:Sh.lk r=true->∀n s,dF P F f R (k (some (Sh.bad,n))) (k' (some s))):dF P F f R (.shape r k) (.shape (f r) k')
 |getObj {r:Nat} {k:Obj->Sem α} {k':Obj->Sem β} (hA:F.A r=true) (h:∀o,oS F o->isCells o=false->Sh.lk r=false->dF P F f R (k o) (k' (ro f o))):dF P F f R (.getObj r k) (.getObj (f r) k')
 |BG {r:Nat} {k:Obj->Sem α} {m':Sem β} (hA:F.A r=true) (hl:Sh.lk r=true):dF P F f R (.getObj r k) m'
 |setObj {r:Nat} {o:Obj} {k:Sem α} {k':Sem β} (hA:F.A r=true) (ho:oS F o) (hc:isCells o=false) (h:dF P F f R k k'):dF P F f R (.setObj r o k) (.setObj (f r) (ro f o) k')
 |choose {q:Question} {k:Nat->Sem α} {k':Nat->Sem β} (h:∀n,dF P F f R (k n) (k' n)):dF P F f R (.choose q k) (.choose q k')
 |program {k:Program->Sem α} {k':Program->Sem β} (e:∀Q,Alike P Q->k' Q=k' P) (h:dF P F f R (k P) (k' P)):dF P F f R (.program k) (.program k')
 |noRoom {k:Sem α} {k':Sem β} (h:dF P F f R k k'):dF P F f R (.mark .noRoom k) (.mark .noRoom k')
 |lW {m:Sem α} {m':Sem β} (h:∀w es,∃x w' es',m.runT P w es=(.halt x w',es')∧G7 x∧DK w w'):dF P F f R m m'
def dF.bad{P:Program}{F:Fit}{f:Nat->Nat}{α β:Type}{R:α->β->Prop}{h:Halt}{m':Sem β}(hb:G7 h):dF P F f R (.halt h) m':=.lW λ_ _=>⟨_,_,_,rfl,hb,DK.refl⟩
structure Ag(F:Fit)(f:Nat->Nat)(w W:World):Prop where
 wr:WR F f w W
 tape:∀j q,w.tape (w.drawn+j) q=W.tape (W.drawn+j) q
 next :∀j,f (w.heap.size+j)=W.heap.size+j
 GV:∀b,w.heap.size<=b->Sh.lk b=false
 hol:∀b,F.A b=true->Sh.hol b=false
def Wl(F:Fit)(w:World)(e:Event):Prop:=
 e.sync=(match e.loc with | .mark _=>true|_=>false)∧
 match e.loc with
 | .cell a=>F.A a.block=true∧(∃v,w.cell? a=some v)∧(e.write=true->∃o:Obj,w.heap[a.block]?=some o∧¬iZ o)
 | .obj r=>F.A r=true∧∃o:Obj,w.heap[r]?=some o∧isCells o=false
 | .mark m=>m=.noRoom
 |_=>False
structure Mv(F:Fit)(f:Nat->Nat)(w W w1 W1:World):Prop where
 ag:Ag F f w1 W1
 tape:w1.tape=w.tape
 tape':W1.tape=W.tape
 os:w1.os=w.os
 os':W1.os=W.os
 out':W1.output=W.output
 drawn:∃k,w1.drawn=w.drawn+k∧W1.drawn=W.drawn+k
 size:∃k,w1.heap.size=w.heap.size+k∧W1.heap.size=W.heap.size+k
 lock:∀(b:Nat)(o:Obj),w.heap[b]?=some o->∃o1:Obj,w1.heap[b]?=some o1∧(iZ o1↔iZ o)∧isCells o1=isCells o∧(iZ o->o1=o)
 cell:∀a v,w.cell? a=some v->∃v1,w1.cell? a=some v1
 frame:∀B:Nat,B<W.heap.size->W1.heap[B]?=W.heap[B]?∨∃(b:Nat)(o:Obj),F.A b=true∧w.heap[b]?=some o∧f b=B∧¬iZ o
def Wl.mono{F:Fit}{f:Nat->Nat}{w W w1 W1:World}(h:Mv F f w W w1 W1){e:Event}(he:Wl F w e):Wl F w1 e:=by
 obtain⟨loc,wr,sy⟩:=e;refine⟨he.1,?_⟩;have h2:=he.2;cases loc with
 |cell a=>
  obtain⟨hA,⟨v,hv⟩,hw⟩:=h2;refine⟨hA,h.cell a v hv, λx=>?_⟩;obtain⟨o,ho,hl⟩:=hw x;obtain⟨o1,ho1,hl1,_⟩:=h.lock _ o ho;exact⟨o1,ho1, λy=>hl (hl1.1 y)⟩
 |obj r=>
  obtain⟨hA,o,ho,hl⟩:=h2;obtain⟨o1,ho1,_,hc,_⟩:=h.lock _ o ho;exact⟨hA,o1,ho1,hc.trans hl⟩
 |output=>exact h2
 |goroutines=>exact h2
 |mark m=>exact h2
def Mv.refl{F:Fit}{f:Nat->Nat}{w W:World}(h:Ag F f w W):Mv F f w W w W:=
 ⟨h,rfl,rfl,rfl,rfl,rfl,⟨0,rfl,rfl⟩,⟨0,rfl,rfl⟩, λ_ o ho=>⟨o,ho,Iff.rfl,rfl, λ_=>rfl⟩, λ_ v hv=>⟨v,hv⟩, λ_ _=>.inl rfl⟩
def Mv.trans{F:Fit}{f:Nat->Nat}{w W w1 W1 w2 W2:World}(h0:Ag F f w W)(h:Mv F f w W w1 W1)(k:Mv F f w1 W1 w2 W2):Mv F f w W w2 W2:=by
 obtain⟨k1,a1,b1⟩:=h.drawn;obtain⟨k2,a2,b2⟩:=k.drawn;obtain⟨s1,c1,d1⟩:=h.size;obtain⟨s2,c2,d2⟩:=k.size;refine⟨k.ag,k.tape.trans h.tape,k.tape'.trans h.tape',k.os.trans h.os,k.os'.trans h.os',k.out'.trans h.out',⟨k1+k2,by omega,by omega⟩,⟨s1+s2,by omega,by omega⟩, λb o ho=>?_, λa v hv=>?_, λB hB=>?_⟩
 .obtain⟨o1,ho1,hl1,hc1,he1⟩:=h.lock b o ho;obtain⟨o2,ho2,hl2,hc2,he2⟩:=k.lock b o1 ho1;exact⟨o2,ho2,hl2.trans hl1,hc2.trans hc1, λhl=>(he2 (hl1.2 hl)).trans (he1 hl)⟩
 .obtain⟨v1,hv1⟩:=h.cell a v hv;exact k.cell a v1 hv1
 .rcases k.frame B (by omega)with e|⟨b,o1,hA,ho1,hb,hl⟩
  .rcases h.frame B hB with e'|x
   .exact .inl (e.trans e')
   .exact .inr x
  ·
   by_cases hlt:b<w.heap.size
   .have ho:w.heap[b]?=some w.heap[b]:=by simp[hlt]
    obtain⟨o1',Mn,hl1,_⟩:=h.lock b _ ho;rw[ho1]at Mn;cases Mn;exact .inr ⟨b,_,hA,ho,hb, λy=>hl (hl1.2 y)⟩
   .exfalso;have :=h0.next (b-w.heap.size);rw[show w.heap.size+(b-w.heap.size)=b from by omega]at this;omega
section
variable {F:Fit} {f:Nat->Nat} {w W:World}
def WR.cell(h:WR F f w W){a:Addr}{v:Value}(hA:F.A a.block=true)(hv:w.cell? a=some v):W.cell? (ra f a)=some (rv f v)∧vs F v=true:=by
 unfold World.cell? at hv⊢;cases hb:w.heap[a.block]? with
 |none=>rw[hb]at hv;cases hv
 |some o=>
  rw[hb]at hv;cases o with
  |cells c e fr=>
   dsimp only at hv
   by_cases hs:a.spot.isSome=true
   .rw[aj hs]at hv;cases hv
   .rw[aa hs]at hv;rcases h.blk _ _ hA hb with⟨_,_,h1,_⟩|⟨hl,c',e',fr',eo,h1,hS,h2,_⟩|⟨hl,c',qh,C,e',fr',h1,hS,_,h2,h3⟩
    .cases h1
    .cases h1;refine⟨?_,hS v (aZ hv)⟩;simp only[qW,h2];rw[aa (show¬(ra f a).spot.isSome=true from hs)];simp[hv,Sh.Xp _ hl]
    .cases h1;refine⟨?_,hS v (aZ hv)⟩;simp only[qW,h2];rw[aa (show¬(ra f a).spot.isSome=true from hs)];exact h3 _ _ hv
  |_=>cases hv
def WR.frozen(h:WR F f w W){a:Addr}{v:Value}(hA:F.A a.block=true)(hv:w.cell? a=some v)(hf:w.frozen? a=false):W.frozen? (ra f a)=false:=by
 unfold World.cell? at hv;unfold World.frozen? at hf⊢;cases hb:w.heap[a.block]? with
 |none=>rw[hb]at hv;cases hv
 |some o=>
  rw[hb]at hv hf;cases o with
  |cells c e fr=>
   dsimp only at hv hf
   by_cases hs:a.spot.isSome=true
   .rw[aj hs]at hv;cases hv
   .rw[aa hs]at hv;have hlt:a.off<c.size:=(aI.1 hv).1;rcases h.blk _ _ hA hb with⟨_,_,h1,_⟩|⟨hl,c',e',fr',eo,h1,hS,h2,h3⟩|⟨hl,c',qh,C,e',fr',h1,hS,h3,h2,_⟩
    .cases h1
    .cases h1;simp only[qW,h2,Fu,Sh.Xp _ hl,aH];have :=h3 a.off hlt;rw[Bool.eq_false_iff]at hf⊢;intro hx;rw[bB]at hx;have :=this (of_decide_eq_true hx.1) (of_decide_eq_true hx.2);exact hf (by simp[this.1,this.2])
    .cases h1;have :=h3 a.off hlt;simp[this.1,this.2]at hf
  |_=>cases hv
def WR.Fw(h:WR F f w W){r:Nat}(hA:F.A r=true)(hl:Sh.lk r=true):w.heap[r]?=none∨∃c fr,w.heap[r]?=some (.cells c Sh.bad fr):=by
 cases hr:w.heap[r]? with
 |none=>exact .inl rfl
 |some o=>
  rcases h.blk r o hA hr with⟨h4,_⟩|⟨h4,_⟩|⟨_,c,fr,C,e',fr',rfl,_⟩
  .rw[h4]at hl;cases hl
  .rw[h4]at hl;cases hl
  .exact .inr ⟨c,fr,rfl⟩
def WR.noCell(h:WR F f w W)(a:Addr)(hA:F.A a.block=true)(what:String):G7 (w.noCell a what)∧∀P b,∃x,w.farLoad P a b=.error x∧G7 x:=by
 have key:∀o,w.heap[a.block]?=some o->(∀c e,o≠ .pending c e)∧∀c e,o≠ .view c e:=by
  intro o ho;rcases h.blk _ _ hA ho with⟨_,hS,_,_⟩|⟨_,c,e,fr,fr',rfl,_⟩|⟨_,c,fr,C,e',fr',rfl,_⟩
  .constructor<;>(rintro c e rfl;exact hS)
  .exact⟨by simp,by simp⟩
  .exact⟨by simp,by simp⟩
 have hn:∀what,G7 (w.noCell a what):=by
  intro what;unfold World.noCell;cases hb:w.heap[a.block]? with
  |none=>exact trivial
  |some o=>
   have :=key o hb;cases o<;>first|(exact trivial)|exact absurd rfl (this.1 _ _)|exact absurd rfl (this.2 _ _)
 refine⟨hn what, λP b=>?_⟩;unfold World.farLoad;cases hb:w.heap[a.block]? with
 |none=>exact⟨_,rfl,hn _⟩
 |some o=>
  have :=key o hb;cases o<;>first|exact⟨_,rfl,hn _⟩|exact absurd rfl (this.2 _ _)
def WR.LX(h:WR F f w W)(a:Addr)(hA:F.A a.block=true)(P:Program)(v:Value)(b:Bool):∃x,w.farStore P a v b=.error x∧G7 x:=by
 have key:∀o,w.heap[a.block]?=some o->(∀c e,o≠ .pending c e)∧∀c e,o≠ .view c e:=by
  intro o ho;rcases h.blk _ _ hA ho with⟨_,hS,_,_⟩|⟨_,c,e,fr,fr',rfl,_⟩|⟨_,c,fr,C,e',fr',rfl,_⟩
  .constructor<;>(rintro c e rfl;exact hS)
  .exact⟨by simp,by simp⟩
  .exact⟨by simp,by simp⟩
 unfold World.farStore;cases hb:w.heap[a.block]? with
 |none=>exact⟨_,rfl,(h.noCell a hA _).1⟩
 |some o=>
  have :=key o hb;cases o<;>first|exact⟨_,rfl,(h.noCell a hA _).1⟩|exact absurd rfl (this.2 _ _)
def Aa{w:World}{a b:Addr}{v x:Value}(h:w.cell? b=some x):∃y,(w.setCell a v).cell? b=some y:=by
 unfold World.cell? at h⊢;unfold World.setCell;simp only[bz];cases hb:w.heap[b.block]? with
 |none=>rw[hb]at h;cases h
 |some o=>
  rw[hb]at h
  by_cases e:a.block=b.block
  .rw[aj e];cases o with
   |cells c el fr=>
    dsimp only at h
    by_cases hs:b.spot.isSome=true
    .rw[aj hs]at h;cases h
    .rw[aa hs]at h;have hlt:=(aI.1 h).1;simp only[ay];rw[aa hs]
     by_cases ha:a.spot.isSome=true
     .rw[aj ha];exact⟨x,h⟩
     .rw[aa ha];exact⟨_,aI.2 ⟨by simpa using hlt,rfl⟩⟩
   |_=>cases h
  .rw[aa e];exact⟨x,h⟩
def iZ.set{o:Obj}{i:Nat}{v:Value}{s:Bool}:iZ (match o with | .cells c e fr=>.cells (if s then c else c.setIfInBounds i v) e fr|o=>o)↔iZ o:=by
 cases o with
 |cells c e fr=>
  constructor
  .rintro⟨c',e',fr',h,hl⟩;cases h;refine⟨c,e,fr,rfl, λi hi=>hl i ?_⟩;split<;>simpa using hi
  .rintro⟨c',e',fr',h,hl⟩;cases h;refine⟨_,e,fr,rfl, λi hi=>hl i ?_⟩;split at hi<;>simpa using hi
 |_=>exact Iff.rfl
def Ag.store(hf:∀a b,Sh.lk a=false->Sh.hol b=false->f a=f b->a=b)(h:Ag F f w W){a:Addr}{v x:Value}(hA:F.A a.block=true)(hc:w.cell? a=some x)(hz:w.frozen? a=false)(hv:vs F v=true):
 Mv F f w W (w.setCell a v) (W.setCell (ra f a) (rv f v))∧∃o,w.heap[a.block]?=some o∧¬iZ o:=by
 have hspot:a.spot.isSome=false∧∃c e fr,w.heap[a.block]?=some (.cells c e fr)∧c[a.off]?=some x:=by
  unfold World.cell? at hc;cases hb:w.heap[a.block]? with
  |none=>rw[hb]at hc;cases hc
  |some o=>
   rw[hb]at hc;cases o with
   |cells c e fr=>
    dsimp only at hc
    by_cases hs:a.spot.isSome=true
    .rw[aj hs]at hc;cases hc
    .rw[aa hs]at hc;exact⟨by simpa using hs,c,e,fr,rfl,hc⟩
   |_=>cases hc
 obtain⟨hs,c,e,fr,hb,hcx⟩:=hspot;have hlt:=(aI.1 hcx).1
 have hnl:¬iZ (Obj.cells c e fr):=by rintro⟨c',e',fr',h',hl⟩;cases h';have :=hl a.off hlt;unfold World.frozen? at hz;rw[hb]at hz;simp[this.1,this.2]at hz
 obtain⟨hlk,hS,fr',hW,hfr⟩:Sh.lk a.block=false∧VS F c∧∃fr',W.heap[f a.block]?=some (.cells (c.map (rv f)) e fr')∧∀i,i<c.size->fr'.1<=i->i<fr'.2->fr.1<=i∧i<fr.2:=by
  rcases h.wr.blk _ _ hA hb with⟨_,_,h1,_⟩|⟨hl,c',e',fr',eo,h1,hS,h2,h3⟩|⟨hl,c',qh,C,e',fr',h1,hS,h3,h2,_⟩
  .cases h1
  .cases h1;exact⟨hl,hS,_,h2,h3⟩
  .cases h1;exact absurd ⟨_,_,_,rfl,h3⟩ hnl
 have hbl:=(aI.1 hb).1
 have e1:(w.setCell a v).heap[a.block]?=some (.cells (c.setIfInBounds a.off v) e fr):=by unfold World.setCell;simp[bz,hb,hs]
 have e2:(W.setCell (ra f a) (rv f v)).heap[f a.block]?=some (.cells ((c.map (rv f)).setIfInBounds a.off (rv f v)) e fr'):=by unfold World.setCell;simp[bz,hW,hs,Sh.Xp _ hlk]
 have n1:∀b,b≠a.block->(w.setCell a v).heap[b]?=w.heap[b]?:= λb hne=>by unfold World.setCell;simp[bz,Ne.symm hne]
 have n2:∀b,b≠f a.block->(W.setCell (ra f a) (rv f v)).heap[b]?=W.heap[b]?:= λb hne=>by unfold World.setCell;simp[bz,Ne.symm hne]
 have s1:(w.setCell a v).heap.size=w.heap.size:=by simp[World.setCell]
 have s2:(W.setCell (ra f a) (rv f v)).heap.size=W.heap.size:=by simp[World.setCell]
 refine⟨⟨⟨⟨λb hb' G8=>by rw[s2];exact h.wr.lt b (by rw[s1]at hb';exact hb') G8, λb o G8 ho=>?_⟩,h.tape, λj=>by rw[s1,s2];exact h.next j, λb hb=>h.GV b (by rwa [s1]at hb),h.hol⟩,rfl,rfl,rfl,rfl,rfl,⟨0,rfl,rfl⟩,⟨0,by rw[s1];rfl,by rw[s2];rfl⟩, λb o ho=>?_, λb y hy=>Aa hy, λB hB=>?_⟩,_,hb,hnl⟩
 .by_cases e:b=a.block
  .subst e;rw[e1]at ho;cases ho;refine .inr (.inl ⟨hlk,_,_,_,fr',rfl,?_,?_,?_⟩)
   .intro y hy;rcases bG hy with hy|rfl
    .exact hS y hy
    .exact hv
   .rw[e2,Array.map_setIfInBounds]
   .simpa using hfr
  .rw[n1 b e]at ho;rw[n2 (f b) (λx=>e (hf _ _ hlk (h.hol b G8) x.symm).symm)];exact h.wr.blk b o G8 ho
 .by_cases e':b=a.block
  .subst e';rw[hb]at ho;cases ho;refine⟨_,e1,?_,rfl, λhl=>absurd hl hnl⟩;constructor
   .rintro⟨c',e',fr',h',hl⟩;cases h';exact⟨c,e,fr,rfl,by simpa using hl⟩
   .rintro⟨c',e',fr',h',hl⟩;cases h';exact⟨_,e,fr,rfl,by simpa using hl⟩
  .exact⟨o,by rw[n1 b e'];exact ho,Iff.rfl,rfl, λ_=>rfl⟩
 .by_cases e':B=f a.block
  .exact .inr ⟨a.block,_,hA,hb,e'.symm,hnl⟩
  .exact .inl (n2 B e')
def Ag.new(h:Ag F f w W){o O:Obj}(ho:BR F f w.heap.size o (some O)):Mv F f w W { w with heap:=w.heap.push o } { W with heap:=W.heap.push O }:=by
 have hn:=h.next 0;simp only[aH]at hn;refine⟨⟨⟨λb hb G8=>?_, λb x G8 hx=>?_⟩,h.tape, λj=>?_, λb hb=>h.GV b (by simp at hb;omega),h.hol⟩,rfl,rfl,rfl,rfl,rfl,⟨0,rfl,rfl⟩,⟨1,by simp,by simp⟩, λb x hx=>⟨x,?_,Iff.rfl,rfl, λ_=>rfl⟩, λa v hv=>⟨v,?_⟩, λB hB=>.inl ?_⟩
 .simp only[Array.size_push]at hb⊢;rcases bq b w.heap.size with hlt|hge
  .exact Nat.lt_succ_of_lt (h.wr.lt b hlt G8)
  .obtain rfl:b=w.heap.size:=by omega
   omega
 .rcases bq b w.heap.size with hlt|hge
  .rw[Array.getElem?_push_lt hlt]at hx;have :=h.wr.blk b x G8 (by rw[aW hlt];exact hx);rw[Array.getElem?_push_lt (h.wr.lt b hlt G8)]
   rwa [aW (h.wr.lt b hlt G8)]at this
  .have hb:b<w.heap.size+1:=by simpa using(aI.1 hx).1
   obtain rfl:b=w.heap.size:=by omega
   simp only[Array.getElem?_push_size]at hx;cases hx;rw[hn];simpa using ho
 .have :=h.next (j+1);simp only[Array.size_push];rw[show w.heap.size+1+j=w.heap.size+(j+1)from by omega,this];omega
 .have :=(aI.1 hx).1;rw[Array.getElem?_push_lt this, <-aW this];exact hx
 .unfold World.cell? at hv⊢;cases hb:w.heap[a.block]? with
  |none=>rw[hb]at hv;cases hv
  |some y=>
   rw[hb]at hv;have :=(aI.1 hb).1;rw[Array.getElem?_push_lt this, <-aW this,hb];exact hv
 .simp only[];rw[Array.getElem?_push_lt hB,aW hB]
end
end cS
end
namespace cS
open Go
section
variable [Sh]
section
variable {P:Program} {F:Fit} {f:Nat->Nat} {α β:Type} {R:α->β->Prop}
def Ag.defs{w W:World}(h:Ag F f w W):BF F w:=by
 intro r ds hA hr;rcases h.wr.blk r _ hA hr with⟨_,hS,_⟩|⟨_,c,e,fr,fr',h,_⟩|⟨_,c,fr,C,e',fr',h,_⟩
 .exact hS
 .cases h
 .cases h
def zm(F:Fit)(f:Nat->Nat)(w1:World)(es es' x y:Array Event):Prop:=∃u:Array Event,x=es++u∧y=es'++u.map (rev f)∧∀e∈u,Wl F w1 e
def Out(F:Fit)(w w1:World):Prop:=∃b,w.heap.size<=b∧b<w1.heap.size∧F.A b=false
def Out.mono{F:Fit}{w w0 w1:World}(h:Out F w0 w1)(hs:w.heap.size<=w0.heap.size):Out F w w1:=let⟨b,h1,h2,h3⟩:=h;⟨b,aS hs h1,h2,h3⟩
def qI(F:Fit)(f:Nat->Nat){α β:Type}(R:α->β->Prop)(w W:World)(es es':Array Event)(x:Result α×Array Event)(y:Result β×Array Event):Prop:=
 Out F w (rw' x.1)∨match x.1 with
 | .ok a w1=>∃b W1,y.1=.ok b W1∧R a b∧Mv F f w W w1 W1∧zm F f w1 es es' x.2 y.2
 | .halt h w1=>G7 h∧BF F w1
def zm.Bn{w0 W0 w1 W1:World}{es es' x y u0:Array Event}(h0:∀e∈u0,Wl F w0 e)(hm:Mv F f w0 W0 w1 W1)(h:zm F f w1 (es++u0) (es'++u0.map (rev f)) x y):zm F f w1 es es' x y:=by
 obtain⟨u,rfl,rfl,hu⟩:=h;refine⟨u0++u,by simp[Array.append_assoc],by simp[Array.append_assoc], λe he=>?_⟩;rcases Array.mem_append.1 he with he|he
 .exact(h0 e he).mono hm
 .exact hu e he
def qI.Bn{w W w0 W0:World}{es es' u0:Array Event}{x:Result α×Array Event}{y:Result β×Array Event}(ha:Ag F f w W)(hm:Mv F f w W w0 W0)(h0:∀e∈u0,Wl F w0 e)
 (h:qI F f R w0 W0 (es++u0) (es'++u0.map (rev f)) x y):qI F f R w W es es' x y:=by
 obtain⟨x1,x2⟩:=x;cases x1 with
 |ok a w1=>
  rcases h with ho|⟨b,W1,h1,h2,h3,h4⟩
  .obtain⟨k,hk,_⟩:=hm.size;exact .inl (ho.mono (by omega))
  .exact .inr ⟨b,W1,h1,h2,hm.trans ha h3,h4.Bn h0 h3⟩
 |halt k w1=>
  rcases h with ho|h
  .obtain⟨k,hk,_⟩:=hm.size;exact .inl (ho.mono (by omega))
  .exact .inr h
def qI.uo{w W w0 W0:World}{es es':Array Event}{e:Event}{x:Result α×Array Event}{y:Result β×Array Event}(ha:Ag F f w W)(hm:Mv F f w W w0 W0)(h0:Wl F w0 e)
 (h:qI F f R w0 W0 (es.push e) (es'.push (rev f e)) x y):qI F f R w W es es' x y:=by
 refine qI.Bn (u0:= #[e]) ha hm (by simpa using h0) ?_
 rw[show es++ #[e]=es.push e from by simp,show es'++ #[e].map (rev f)=es'.push (rev f e)from by simp];exact h
def qI.BH{w W w0 W0:World}{es es':Array Event}{x:Result α×Array Event}{y:Result β×Array Event}(ha:Ag F f w W)(hm:Mv F f w W w0 W0)
 (h:qI F f R w0 W0 es es' x y):qI F f R w W es es' x y:=by
 refine qI.Bn (u0:= #[]) ha hm (by simp) ?_
 rw[show es++ #[]=es from by simp,show es'++ #[].map (rev f)=es' from by simp];exact h
def Ag.setObj{w W:World}(hf:∀a b,Sh.lk a=false->Sh.hol b=false->f a=f b->a=b)(h:Ag F f w W){r:Nat}{o x:Obj}(hA:F.A r=true)(hx:w.heap[r]?=some x)(D9:isCells x=false)(ho:oS F o)(hoc:isCells o=false):
 Mv F f w W { w with heap:=w.heap.setIfInBounds r o } { W with heap:=W.heap.setIfInBounds (f r) (ro f o) }:=by
 have hr:=(aI.1 hx).1;have hR:=h.wr.lt r hr hA;have hnl:∀y:Obj,isCells y=false->¬iZ y:=by rintro y hy⟨c,e,fr,rfl,_⟩;cases hy
 have hlk:Sh.lk r=false:=by
  rcases h.wr.blk _ _ hA hx with⟨h1,_⟩|⟨h1,_⟩|⟨_,c,fr,C,e',fr',rfl,_⟩
  .exact h1
  .exact h1
  .cases D9
 refine⟨⟨⟨λb hb G8=>by simpa using h.wr.lt b (by simpa using hb) G8, λb y G8 hy=>?_⟩,h.tape, λj=>by simpa using h.next j, λb hb=>h.GV b (by simpa using hb),h.hol⟩,rfl,rfl,rfl,rfl,rfl,⟨0,rfl,rfl⟩,⟨0,by simp,by simp⟩, λb y hy=>?_, λa v hv=>⟨v,?_⟩, λB hB=>?_⟩
 .by_cases e:r=b
  .subst e;rw[aD hr]at hy;cases hy;refine .inl ⟨hlk,ho,hoc,?_⟩;simp only[];rw[aD hR]
  .rw[au e]at hy;simp only[];rw[au (λx=>e (hf _ _ hlk (h.hol b G8) x))];exact h.wr.blk b y G8 hy
 .by_cases e:r=b
  .subst e;rw[hx]at hy;cases hy;exact⟨o,by simp only[];rw[aD hr],iff_of_false (hnl _ hoc) (hnl _ D9),hoc.trans D9.symm, λhl=>absurd hl (hnl _ D9)⟩
  .exact⟨y,by simp only[];rw[au e];exact hy,Iff.rfl,rfl, λ_=>rfl⟩
 .unfold World.cell? at hv⊢;simp only[]
  by_cases e:r=a.block
  .rw[<-e,hx]at hv;cases x<;>first|cases hv|cases D9
  .rw[au e];exact hv
 .by_cases e:f r=B
  .exact .inr ⟨r,x,hA,hx,e,hnl _ D9⟩
  .exact .inl (by simp only[];rw[au e])
omit [Sh]in
def uq(w:World)(c:Array Value)(e:TypeId):
 ({ w with heap:=w.heap.push (.cells c e (0,0)) }:World).freeze ⟨w.heap.size,c.size,none⟩ 1= { w with heap:=w.heap.push (.cells c e (c.size,c.size+1)) }:=by
 unfold World.freeze;simp only[Nat.one_ne_zero,if_false];congr 1;apply Array.ext
 .simp
 .intro i h1 h2;simp only[Array.size_modify,Array.size_push]at h1;rw[Array.getElem_modify]
  by_cases hi:i=w.heap.size
  .subst hi;simp
  .rw[aa (Ne.symm hi)];rw[Array.getElem_push_lt (by omega),Array.getElem_push_lt (by omega)]
def xL{o:Obj}(h:oS F o):o.isChan=false:=by cases o<;>first|rfl|exact h.elim
def G9(o:Obj):isCells (ro f o)=isCells o:=by cases o<;>rfl
omit [Sh]in
def sF{γ:Type}{w:World}{r:Nat}{o:Obj}(k:Obj->Sem γ)(es:Array Event)(hr:w.heap[r]?=some o)(hc:isCells o=false):
 Sem.runT P (.getObj r k) w es=(k o).runT P w (es.push ⟨.obj r,false,o.isChan⟩):=by
 cases o<;>first|(cases hc;done)|(simp only[Sem.runT,hr])
omit [Sh]in
def oU{γ:Type}{w:World}{r:Nat}{x:Obj}(o:Obj)(k:Sem γ)(es:Array Event)(hr:w.heap[r]?=some x)(hc:isCells x=false):
 Sem.runT P (.setObj r o k) w es=k.runT P { w with heap:=w.heap.setIfInBounds r o } (es.push ⟨.obj r,true,o.isChan⟩):=by
 cases x<;>first|(cases hc;done)|(simp only[Sem.runT,hr])
def dF.BI{Q:Program}(hQ:Alike P Q)(hf:∀a b,Sh.lk a=false->Sh.hol b=false->f a=f b->a=b){m:Sem α}{m':Sem β}(h:dF P F f R m m'):
 ∀(w W:World)(es es':Array Event),Ag F f w W->qI F f R w W es es' (m.runT P w es) (m'.runT Q W es'):=by
 have ev0:∀(w:World)(es es':Array Event),zm F f w es es' es es':= λw es es'=>⟨#[],by simp,by simp,by simp⟩
 induction h with
 |pure h=>intro w W es es' ha;exact .inr ⟨_,W,rfl,h,Mv.refl ha,ev0 ..⟩
 | @load a k k' hA h ih=>
   intro w W es es' ha;simp only[Sem.runT];cases hc:w.cell? a with
   |none=>
    obtain⟨x,hx,hb⟩:=(ha.wr.noCell a hA "").2 P (Mode.plain==Mode.atomic);simp only[hx];exact .inr ⟨hb,ha.defs⟩
   |some v=>
    obtain⟨h1,h2⟩:=ha.wr.cell hA hc;simp only[h1];exact qI.uo (e:=⟨.cell a,false,false⟩) ha (Mv.refl ha) ⟨rfl,hA,⟨v,hc⟩,by simp⟩ (ih v h2 w W _ _ ha)
 | @store a v k k' hA hv h ih=>
   intro w W es es' ha
   have hs:(∃c,v=.agg c∨v=.tuple c)∨((∀c,v≠ .agg c∧v≠ .tuple c)):=by cases v<;>first|(refine .inr λc=>⟨?_,?_⟩<;>(intro h;cases h;done))|exact .inl ⟨_,.inl rfl⟩|exact .inl ⟨_,.inr rfl⟩
   rcases hs with⟨c,rfl|rfl⟩|hs
   .simp only[Sem.runT];exact .inr ⟨trivial,ha.defs⟩
   .simp only[Sem.runT];exact .inr ⟨trivial,ha.defs⟩
   .have e1:∀(w:World)(es:Array Event),Sem.runT P (.store .plain a v k) w es=match w.cell? a with
     |some _=>if w.frozen? a then(.halt (.unsupported (.unsafePointer "a write to bytes that a string shares")) w,es)else k.runT P (w.setCell a v) (es.push ⟨.cell a,true,false⟩)
     |none=>match w.farStore P a v false with
      | .ok (w,touched)=>k.runT P w (es++touched.toArray.map (⟨.cell ·,true,false⟩))
      | .error h=>(.halt h w,es):=by
     intro w es;cases v<;>first|rfl|exact absurd rfl (hs _).1|exact absurd rfl (hs _).2
    have e2:∀(w:World)(es:Array Event),Sem.runT Q (.store .plain (ra f a) (rv f v) k') w es=match w.cell? (ra f a)with
     |some _=>if w.frozen? (ra f a)then(.halt (.unsupported (.unsafePointer "a write to bytes that a string shares")) w,es)else k'.runT Q (w.setCell (ra f a) (rv f v)) (es.push ⟨.cell (ra f a),true,false⟩)
     |none=>match w.farStore Q (ra f a) (rv f v) false with
      | .ok (w,touched)=>k'.runT Q w (es++touched.toArray.map (⟨.cell ·,true,false⟩))
      | .error h=>(.halt h w,es):=by
     intro w es;cases v<;>first|(simp only[jZ,iC,qX,mP,gF,dX,fD,nW,su,oh,kV,oP,jh];rfl)|exact absurd rfl (hs _).1|exact absurd rfl (hs _).2
    rw[e1,e2];cases hc:w.cell? a with
    |none=>
     obtain⟨x,hx,hb⟩:=ha.wr.LX a hA P v false;simp only[hx];exact .inr ⟨hb,ha.defs⟩
    |some x=>
     obtain⟨h1,_⟩:=ha.wr.cell hA hc;simp only[h1];cases hz:w.frozen? a with
     |true=>simp only[if_true];exact .inr ⟨trivial,ha.defs⟩
     |false=>
      rw[ha.wr.frozen hA hc hz];simp only[bC,if_false];obtain⟨hm,o,ho,hl⟩:=ha.store hf hA hc hz hv;obtain⟨o1,ho1,hl1,_⟩:=hm.lock _ o ho;exact qI.uo (e:=⟨.cell a,true,false⟩) ha hm ⟨rfl,hA,Aa hc, λ_=>⟨o1,ho1, λy=>hl (hl1.1 y)⟩⟩ (ih _ _ _ _ hm.ag)
 | @new o k k' ho h ih=>
   intro w W es es' ha;simp only[Sem.runT];have hn:f w.heap.size=W.heap.size:=by simpa using ha.next 0
   have hm:Mv F f w W { w with heap:=w.heap.push o } { W with heap:=W.heap.push (ro f o) }:=ha.new (by
    cases o with
    |cells c e fr=>exact .inr (.inl ⟨ha.GV _ (aJ _),c,e,fr,fr,rfl,ho,rfl, λi _ h1 h2=>⟨h1,h2⟩⟩)
    |_=>exact .inl ⟨ha.GV _ (aJ _),ho,rfl,rfl⟩)
   rw[<-hn];cases hA:F.A w.heap.size with
   |true=>exact qI.BH ha hm (ih _ hA (ha.GV _ (aJ _)) _ _ _ _ hm.ag)
   |false=>
    have :=runT_size (P:=P) (k w.heap.size) { w with heap:=w.heap.push o } es;simp only[Array.size_push]at this;exact .inl ⟨w.heap.size,aJ _,by omega,hA⟩
 | @mQ c e k0 Pa k k' ho e1 e2 h ih=>
   intro w W es es' ha;have hn:f w.heap.size=W.heap.size:=by simpa using ha.next 0
   have hsh:∀(w:World)(c:Array Value),World.shape? { w with heap:=w.heap.push (.cells c e (0,0)) } w.heap.size=some (e,c.size):=by intro w c;simp[World.shape?]
   simp only[Sem.runT];have po:=hsh W (c.map (rv f));rw[Array.size_map]at po;rw[hsh w c,po,e1, <-hn,e2,hn];simp only[Sem.runT];have hfr:=uq W (c.map (rv f)) e;rw[Array.size_map]at hfr;rw[uq,hfr]
   have hm:Mv F f w W { w with heap:=w.heap.push (.cells c e (c.size,c.size+1)) } { W with heap:=W.heap.push (.cells (c.map (rv f)) e (c.size,c.size+1)) }:=
    ha.new (.inr (.inl ⟨ha.GV _ (aJ _),c,e,_,(c.size,c.size+1),rfl,ho,rfl, λi _ h1 h2=>⟨h1,h2⟩⟩))
   cases hA:F.A w.heap.size with
   |true=>
    have :=ih w.heap.size hA (ha.GV _ (aJ _)) _ _ es es' hm.ag;rw[hn]at this;exact qI.BH ha hm this
   |false=>
    have :=runT_size (P:=P) (k w.heap.size) { w with heap:=w.heap.push (.cells c e (c.size,c.size+1)) } es;simp only[Array.size_push]at this;exact .inl ⟨w.heap.size,aJ _,by omega,hA⟩
 | @shape r k k' hA h hl ih ihl=>
   intro w W es es' ha;simp only[Sem.runT]
   by_cases hk:∃c fr C e' fr',w.heap[r]?=some (.cells c Sh.bad fr)∧W.heap[f r]?=some (.cells C e' fr')∧Sh.lk r=true
   .obtain⟨c,fr,C,e',fr',h1,h2,h3⟩:=hk;have e1:w.shape? r=some (Sh.bad,c.size):=by unfold World.shape?;rw[h1]
    have e2:W.shape? (f r)=some (e',C.size):=by unfold World.shape?;rw[h2]
    rw[e1,e2];exact ihl h3 _ _ w W es es' ha
   have:W.shape? (f r)=w.shape? r:=by
    unfold World.shape?;cases hr:w.heap[r]? with
    |none=>
     have h1:w.heap.size<=r:=by
      rcases bq r w.heap.size with h|h
      .simp[h]at hr
      .exact h
     have h2:=ha.next (r-w.heap.size);rw[show w.heap.size+(r-w.heap.size)=r from by omega]at h2;have:W.heap[f r]?=none:=by simp;omega
     rw[this]
    |some o=>
     rcases ha.wr.blk r o hA hr with⟨_,_,hc,hO⟩|⟨_,c,e,fr,fr',rfl,_,hO,_⟩|⟨h3,c,fr,C,e',fr',rfl,_,_,h2,_⟩
     .rw[hO];cases o<;>first|rfl|cases hc
     .rw[hO];simp
     .exact absurd ⟨c,fr,C,e',fr',hr,h2,h3⟩ hk
   rw[this];refine ih _ (λh3=>?_) w W es es' ha;unfold World.shape?;cases hr:w.heap[r]? with
   |none=>rfl
   |some o=>
    rcases ha.wr.blk r o hA hr with⟨h4,_⟩|⟨h4,_⟩|⟨_,c,fr,C,e',fr',rfl,_,_,h2,_⟩
    .rw[h4]at h3;cases h3
    .rw[h4]at h3;cases h3
    .exact absurd ⟨c,fr,C,e',fr',hr,h2,h3⟩ hk
 | @getObj r k k' hA h ih=>
   intro w W es es' ha;cases hr:w.heap[r]? with
   |none=>simp only[Sem.runT,hr];exact .inr ⟨trivial,ha.defs⟩
   |some o=>
    by_cases hc:isCells o=true
    .cases o<;>first|(simp only[Sem.runT,hr];exact .inr ⟨trivial,ha.defs⟩)|cases hc
    .have hc':isCells o=false:=by simpa using hc
     rcases ha.wr.blk r o hA hr with⟨hlk,hS,_,hO⟩|⟨_,c,e,fr,fr',rfl,_⟩|⟨_,c,fr,C,e',fr',rfl,_⟩
     .have hch:=xL hS;rw[sF k es hr hc',sF k' es' hO ((G9 o).trans hc'),En,hch];exact qI.uo (e:=⟨.obj r,false,false⟩) ha (Mv.refl ha) ⟨rfl,hA,o,hr,hc'⟩ (ih o hS hc' hlk w W _ _ ha)
     .cases hc'
     .cases hc'
 | @BG r k m' hA hl=>
   intro w W es es' ha;rcases ha.wr.Fw hA hl with hr|⟨c,fr,hr⟩<;>(simp only[Sem.runT,hr];exact .inr ⟨trivial,ha.defs⟩)
 | @setObj r o k k' hA ho hc h ih=>
   intro w W es es' ha;cases hr:w.heap[r]? with
   |none=>simp only[Sem.runT,hr];exact .inr ⟨trivial,ha.defs⟩
   |some x=>
    by_cases D9:isCells x=true
    .cases x<;>first|(simp only[Sem.runT,hr];exact .inr ⟨trivial,ha.defs⟩)|cases D9
    .have Ea:isCells x=false:=by simpa using D9
     rcases ha.wr.blk r x hA hr with⟨_,hS,_,hO⟩|⟨_,c,e,fr,fr',rfl,_⟩|⟨_,c,fr,C,e',fr',rfl,_⟩
     .have hch:=xL ho;rw[oU o k es hr Ea,oU (ro f o) k' es' hO ((G9 x).trans Ea),En,hch];have hm:=ha.setObj hf hA hr Ea ho hc;obtain⟨o1,ho1,_,hc1,_⟩:=hm.lock r x hr;exact qI.uo (e:=⟨.obj r,true,false⟩) ha hm ⟨rfl,hA,o1,ho1,hc1.trans Ea⟩ (ih _ _ _ _ hm.ag)
     .cases Ea
     .cases Ea
 | @choose q k k' h ih=>
   intro w W es es' ha;simp only[Sem.runT]
   by_cases hq:q.forced=true
   .simp only[hq,if_true];exact ih 0 w W es es' ha
   .simp only[hq,if_false,bC];have ht:=ha.tape 0 q;simp only[aH]at ht;rw[ht]
    have hm:Mv F f w W { w with drawn:=w.drawn+1 } { W with drawn:=W.drawn+1 }:=
     ⟨⟨⟨ha.wr.lt,ha.wr.blk⟩, λj q'=>by have :=ha.tape (1+j) q';simpa[Nat.add_assoc]using this,ha.next,ha.GV,ha.hol⟩,rfl,rfl,rfl,rfl,rfl,⟨1,rfl,rfl⟩,⟨0,rfl,rfl⟩, λ_ o ho=>⟨o,ho,Iff.rfl,rfl, λ_=>rfl⟩, λ_ v hv=>⟨v,hv⟩, λ_ _=>.inl rfl⟩
    exact qI.BH ha hm (ih _ _ _ es es' hm.ag)
 |program e h ih=>intro w W es es' ha;simp only[Sem.runT];rw[e Q hQ];exact ih w W es es' ha
 |noRoom h ih=>
  intro w W es es' ha;simp only[Sem.runT];exact qI.uo (e:=⟨.mark .noRoom,false,true⟩) ha (Mv.refl ha) ⟨rfl,rfl⟩ (ih w W _ _ ha)
 |lW h=>
  intro w W es es' ha;obtain⟨x,w',es1,h1,h2,h3⟩:=h w es;rw[h1];exact .inr ⟨h2, λr ds hA hr=>ha.defs r ds hA (h3 r ds hr)⟩
def dF.run(hf:∀a b,Sh.lk a=false->Sh.hol b=false->f a=f b->a=b){m:Sem α}{m':Sem β}(h:dF P F f R m m'):
 ∀(w W:World)(es es':Array Event),Ag F f w W->qI F f R w W es es' (m.runT P w es) (m'.runT P W es'):=h.BI (Alike.refl P) hf
end
end
section
variable [Sh]
def eF:Value->Bool
 | .bool _| .int .. | .string _| .nilFunc| .nilIface=>true
 | .pointer a=>a.isNone
 | .slice a .. =>a.isNone
 | .map a=>a.isNone
 | .chan a=>a.isNone
 |_=>false
def PX:Value->Bool
 | .agg cs=>cs.all eF
 |v=>eF v
def plain0:Value->Bool
 | .tuple cs=>cs.all PX
 |v=>eF v
def oV:Value->Bool
 | .agg cs=>cs.all plain0
 |v=>plain0 v
def iP{F:Fit}{f:Nat->Nat}{v:Value}(h:eF v=true):rv f v=v∧vs F v=true:=by
 cases v with
 |pointer a=>cases a<;>first|(cases h;done)|simp
 |slice a _ _=>cases a<;>first|(cases h;done)|simp
 |map a=>cases a<;>first|(cases h;done)|simp
 |chan a=>cases a<;>first|(cases h;done)|simp
 |_=>first|(cases h;done)|simp
def NH{F:Fit}{f:Nat->Nat}{v:Value}(h:PX v=true):rv f v=v∧vs F v=true:=by
 cases v with
 |agg cs=>
  have key:∀x∈cs,rv f x=x∧vs F x=true:= λx hx=>iP (aU.1 h x hx)
  refine⟨?_,lV.2 λx hx=>(key x hx).2⟩;rw[nX];congr 1;exact(Array.map_congr_left λx hx=>(key x hx).1).trans (Array.map_id _)
 |_=>exact iP h
def Eo{F:Fit}{f:Nat->Nat}{v:Value}(h:plain0 v=true):rv f v=v∧vs F v=true:=by
 cases v with
 |tuple cs=>
  have key:∀x∈cs,rv f x=x∧vs F x=true:= λx hx=>NH (aU.1 h x hx)
  refine⟨?_,q9.2 λx hx=>(key x hx).2⟩;rw[qY];congr 1;exact(Array.map_congr_left λx hx=>(key x hx).1).trans (Array.map_id _)
 |_=>exact iP h
def zn{F:Fit}{f:Nat->Nat}{v:Value}(h:oV v=true):rv f v=v∧vs F v=true:=by
 cases v with
 |agg cs=>
  have key:∀x∈cs,rv f x=x∧vs F x=true:= λx hx=>Eo (aU.1 h x hx)
  refine⟨?_,lV.2 λx hx=>(key x hx).2⟩;rw[nX];congr 1;exact(Array.map_congr_left λx hx=>(key x hx).1).trans (Array.map_id _)
 |_=>exact Eo h
def Ab{v:Value}(h:oV v=true):v.cells.all plain0=true:=by
 cases v with
 |agg cs=>exact h
 |_=>simpa[Value.cells,oV]using h
def mR(info:TypeId->Option TypeInfo):Prop:=∀t i v,info t=some i->i.zero=some v->oV v=true
def Ep{σ:Type}(I:σ->Prop){γ:Type}(body:γ->σ->Option (ForInStep σ))(hb:∀a s s',I s->body a s=some s'->match s' with | .yield x=>I x| .done x=>I x):
 ∀(l:List γ)(s s':σ),I s->forIn l s body=some s'->I s'
 | [],s,s',h,e=>by simp at e;exact e ▸ h
 |a::l,s,s',h,e=>by
  rw[List.forIn_cons]at e;cases hx:body a s with
  |none=>rw[hx]at e;cases e
  |some y=>
   rw[hx]at e;have :=hb a s y h hx;cases y with
   |done x=>cases e;exact this
   |yield x=>exact Ep I body hb l x s' this e
def NI{info:TypeId->Option TypeInfo}(hi:mR info){t:TypeId}{i:TypeInfo}(h:info t=some i){z:Option (Array Value)}{n:Nat}(hz:∀a,z=some a->a.all plain0=true):
 ∀a,(if n> Made.mostCells then none else do pure ((<-z)++(<-i.zero).cells))=some a->a.all plain0=true:=by
 intro a ha;split at ha
 .cases ha
 .obtain⟨x,hx,ha⟩:=aO.1 ha;obtain⟨y,hy,ha⟩:=aO.1 ha;cases ha;have h1:=hz x hx;have h2:=Ab (hi t i y h hy);rw[aU]at h1 h2⊢;intro v hv;rcases Array.mem_append.1 hv with hv|hv
  .exact h1 v hv
  .exact h2 v hv
def wM{info:TypeId->Option TypeInfo}(hi:mR info){fs:Array Field}{i:TypeInfo}{v:Value}(h:Made.reckonStruct info fs=some i)(hv:i.zero=some v):oV v=true:=by
 unfold Made.reckonStruct at h;simp only[<-Array.forIn_toList]at h;obtain⟨s,hs,h⟩:=aO.1 h
 have hI:=Ep (λs:Array Field×Nat×Nat×Nat×Nat×Bool×Bool×Option (Array Value)×String=>∀a,s.2.2.2.2.2.2.2.1=some a->a.all plain0=true) _ (λf s s' hI e=>by
  obtain⟨i,hii,e⟩:=aO.1 e;have key:=NI (n:=s.2.1+i.size) hi hii hI
  by_cases c1:i.str.isEmpty=true
  .rw[aj c1]at e;cases e
  rw[aa c1]at e
  by_cases c2:f.embedded=true
  .rw[aj c2]at e;cases e
  rw[aa c2]at e
  by_cases c3:f.tag.isEmpty=true
  .rw[aj c3]at e;obtain⟨tag,_,e⟩:=aO.1 e
   by_cases c4:i.bytes=0
   .rw[aj c4]at e;cases e;exact key
   .rw[aa c4]at e;cases e;exact key
  .rw[aa c3]at e;obtain⟨tag,_,e⟩:=aO.1 e
   by_cases c4:i.bytes=0
   .rw[aj c4]at e;cases e;exact key
   .rw[aa c4]at e;cases e;exact key) _ _ _ (by intro a ha;cases ha;simp) hs
 have fin:∀j:TypeInfo,some j=some i->j.zero=s.2.2.2.2.2.2.2.1.map .agg->oV v=true:=by intro j e hj;cases e;rw[hj]at hv;obtain⟨a,ha,rfl⟩:=Option.map_eq_some_iff.1 hv;exact hI a ha
 split at h<;>exact fin _ h rfl
def Fx{info:TypeId->Option TypeInfo}(hi:mR info){d:TypeDesc}{i:TypeInfo}{v:Value}(h:Made.reckon info d=some i)(hv:i.zero=some v):oV v=true:=by
 unfold Made.reckon at h;cases d with
 |pointer e=>
  obtain⟨j,_,h⟩:=aO.1 h;split at h
  .cases h
  .split at h
   .cases h
   .obtain⟨x,_,h⟩:=aO.1 h;cases h;cases hv;rfl
  .obtain⟨x,_,h⟩:=aO.1 h;cases h;cases hv;rfl
 |slice e=>
  obtain⟨j,_,h⟩:=aO.1 h;obtain⟨x,_,h⟩:=aO.1 h;cases h;cases hv;rfl
 |map k e=>
  obtain⟨j,_,h⟩:=aO.1 h;obtain⟨x,_,h⟩:=aO.1 h;obtain⟨j',_,h⟩:=aO.1 h;obtain⟨x',_,h⟩:=aO.1 h;cases h;cases hv;rfl
 |chan dir e=>
  obtain⟨j,_,h⟩:=aO.1 h;obtain⟨x,_,h⟩:=aO.1 h;cases h;cases hv;rfl
 |func ps rs vr=>
  obtain⟨x,_,h⟩:=aO.1 h;cases h;cases hv;rfl
 |array n e=>
  obtain⟨j,hj,h⟩:=aO.1 h;obtain⟨x,_,h⟩:=aO.1 h;cases h;dsimp only at hv;split at hv
  .cases hv
  .split at hv
   .cases hv;simp[oV]
   .obtain⟨z,hz,rfl⟩:=Option.map_eq_some_iff.1 hv;have :=Ab (hi e j z hj hz);show(Array.flatten _).all plain0=true;rw[aU]at this⊢;intro y hy;obtain⟨c,hc,xo⟩:=Array.mem_flatten.1 hy;rw[(Array.mem_replicate.1 hc).2]at xo;exact this y xo
 |struct fs=>exact wM hi h hv
 |_=>cases h
def xM{T:Tables}(hT:mR λt=>T.types[t]?):∀n,mR (Made.infoAt T n)
 |0=>by intro t i v h;cases h
 |n+1=>by
  intro t i v h hv;unfold Made.infoAt at h;split at h
  .exact hT t i v h hv
  .obtain⟨d,_,h⟩:=aO.1 h;exact Fx (xM hT n) h hv
def JM{T:Tables}(hT:mR λt=>T.types[t]?):mR T.info?:=by
 intro t i v h hv;unfold Tables.info? at h;split at h
 .exact hT t i v h hv
 .exact xM hT _ t i v h hv
def iA(P:Program):Bool:=P.types.all λi=>match i.zero with |some v=>oV v|none=>true
structure Rn(P:Program)(f:Nat->Nat):Prop where
 inj:∀a b,Sh.lk a=false->Sh.hol b=false->f a=f b->a=b
 ja:∀b,b<=P.globals.size->f b=b
 gD:iA P=true
 ZN:∀b,b<=P.globals.size->Sh.lk b=false
 bad:∀b,Sh.lk b=true->P.info? Sh.bad=none
 cc:∀b,Sh.lk b=true->∀t i,P.info? t=some i->∀u,i.desc≠ .named "sync.copyChecker" u
def VR(F:Fit)(f:Nat->Nat)(v v':Value):Prop:=v'=rv f v∧vs F v=true
def AR(F:Fit)(f:Nat->Nat)(a a':Addr):Prop:=a'=ra f a∧F.A a.block=true
def jf(F:Fit)(f:Nat->Nat)(v v':Array Value):Prop:=v'=v.map (rv f)∧VS F v
section
variable {P:Program} {F:Fit} {f:Nat->Nat} {α β γ δ:Type}
def dF.mono{R R':α->β->Prop}{m:Sem α}{m':Sem β}(h:dF P F f R m m')(hr:∀a b,R a b->R' a b):dF P F f R' m m':=by
 induction h with
 |pure h=>exact .pure (hr _ _ h)
 |load hA h ih=>exact .load hA λv hv=>ih v hv
 |store hA hv h ih=>exact .store hA hv ih
 |new ho h ih=>exact .new ho ih
 |mQ ho e1 e2 h ih=>exact .mQ ho e1 e2 ih
 |shape hA h hl ih ihl=>exact .shape hA ih ihl
 |getObj hA h ih=>exact .getObj hA λo h1 h2 h3=>ih o h1 h2 h3
 |BG hA hl=>exact .BG hA hl
 |setObj hA ho hc h ih=>exact .setObj hA ho hc ih
 |choose h ih=>exact .choose ih
 |program e h ih=>exact .program e ih
 |noRoom h ih=>exact .noRoom ih
 |lW h=>exact .lW h
def runT_bind(m:Sem α)(k:α->Sem γ):∀(w:World)(es:Array Event),Sem.runT P (m.bind k) w es=match Sem.runT P m w es with
 |(.ok a w',es')=>Sem.runT P (k a) w' es'
 |(.halt h w',es')=>(.halt h w',es'):=by
 induction m with
 |pure a=>intro w es;rfl
 |load m a k' ih=>
  intro w es;simp only[Sem.bind,Sem.runT];cases w.cell? a with
  |some v=>exact ih v _ _
  |none=>
   dsimp only;cases w.farLoad P a (m== .atomic)with
   |ok x=>exact ih _ _ _
   |error x=>rfl
 |store m a v k' ih=>
  intro w es
  cases v<;>first
   |rfl
   |(simp only[Sem.bind,Sem.runT];cases w.cell? a with
     |some x=>
      dsimp only
      by_cases hz:w.frozen? a=true
      .simp only[hz,if_true]
      .simp only[hz,if_false,bC];exact ih _ _
     |none=>
      dsimp only;cases w.farStore P a _ (m== .atomic)with
      |ok x=>exact ih _ _
      |error x=>rfl)
 |new o k' ih=>intro w es;exact ih _ _ _
 |shape r k' ih=>intro w es;exact ih _ _ _
 |freeze a n k' ih=>intro w es;exact ih _ _
 |frozen a k' ih=>intro w es;exact ih _ _ _
 |getObj r k' ih=>
  intro w es;simp only[Sem.bind,Sem.runT];cases hr:w.heap[r]? with
  |none=>rfl
  |some o=>cases o<;>first|rfl|exact ih _ _ _
 |setObj r o k' ih=>
  intro w es;simp only[Sem.bind,Sem.runT];cases hr:w.heap[r]? with
  |none=>rfl
  |some o=>cases o<;>first|rfl|exact ih _ _
 |choose q k' ih=>
  intro w es;simp only[Sem.bind,Sem.runT]
  by_cases hq:q.forced=true
  .simp only[hq,if_true];exact ih _ _ _
  .simp only[hq,if_false,bC];exact ih _ _ _
 |sys c k' ih=>intro w es;exact ih _ _ _
 |program k' ih=>intro w es;exact ih _ _ _
 |mark m k' ih=>intro w es;exact ih _ _
 |halt h=>intro w es;rfl
def dF.PY{R:α->β->Prop}{R':γ->δ->Prop}{m:Sem α}{m':Sem β}{k:α->Sem γ}{k':β->Sem δ}(h:dF P F f R m m')(hk:∀a b,R a b->dF P F f R' (k a) (k' b)):
 dF P F f R' (m.bind k) (m'.bind k'):=by
 induction h with
 |pure h=>exact hk _ _ h
 |load hA h ih=>exact .load hA λv hv=>ih v hv
 |store hA hv h ih=>exact .store hA hv ih
 |new ho h ih=>exact .new ho ih
 |mQ ho e1 e2 h ih=>exact .mQ (k:= λr=>(_:Sem α).bind k) (k':= λr=>(_:Sem β).bind k') ho (λr=>by rw[e1];rfl) (λr=>by rw[e2];rfl) ih
 |shape hA h hl ih ihl=>exact .shape hA ih ihl
 |getObj hA h ih=>exact .getObj hA λo h1 h2 h3=>ih o h1 h2 h3
 |BG hA hl=>exact .BG hA hl
 |setObj hA ho hc h ih=>exact .setObj hA ho hc ih
 |choose h ih=>exact .choose ih
 |program e h ih=>exact .program (λQ hQ=>by show(_:Sem β).bind _=_;rw[e Q hQ]) ih
 |noRoom h ih=>exact .noRoom ih
 |lW h=>
  refine .lW λw es=>?_
  obtain⟨x,w',es',h1,h2⟩:=h w es;exact⟨x,w',es',by rw[runT_bind,h1],h2⟩
def dF.bind{R:α->β->Prop}{R':γ->δ->Prop}{m:Sem α}{m':Sem β}{k:α->Sem γ}{k':β->Sem δ}(h:dF P F f R m m')(hk:∀a b,R a b->dF P F f R' (k a) (k' b)):
 dF P F f R' (m>>=k) (m'>>=k'):=h.PY hk
def dF.dL{R':γ->δ->Prop}{m m':Sem α}{k:α->Sem γ}{k':α->Sem δ}(h:dF P F f Eq m m')(hk:∀a,dF P F f R' (k a) (k' a)):dF P F f R' (m>>=k) (m'>>=k'):=
 h.bind λa b e=>by subst e;exact hk a
def dF.ret{R:α->β->Prop}{a:α}{b:β}(h:R a b):dF P F f R (Pure.pure a) (Pure.pure b):=.pure h
def vk(s:String):G7 (.stuck s):=trivial
def gL{R:α->β->Prop}(s:String)(m':Sem β):dF P F f R (stuck s) m':=.bad (vk s)
def uu{R:α->β->Prop}{u:Unsupported}(h:∀g,u≠ .initOrder g)(m':Sem β):dF P F f R (unsupported u) m':=.bad (by cases u<;>first|trivial|exact absurd rfl (h _))
def LY(a:Addr)(hA:F.A a.block=true):dF P F f (VR F f) (load a) (load (ra f a)):=.load hA λ_ hv=>.pure ⟨rfl,hv⟩
def PZ(a:Addr)(hA:F.A a.block=true){v:Value}(hv:vs F v=true):dF P F f Eq (store a v) (store (ra f a) (rv f v)):=.store hA hv (.pure rfl)
def oI{o:Obj}(ho:oS F o):dF P F f (λr r'=>r'=f r∧F.A r=true∧Sh.lk r=false) (newObj o) (newObj (ro f o)):=.new ho λ_ h hl=>.pure ⟨rfl,h,hl⟩
def BJ{r n:Nat}{x:Option Nat}(h:Sh.lk r=false):ra f ⟨r,n,x⟩=⟨f r,n,x⟩:=by unfold ra;simp[Sh.Xp _ h]
def jc(r:Nat)(hA:F.A r=true):dF P F f (λo o'=>o'=ro f o∧oS F o∧isCells o=false) (getObj r) (getObj (f r)):=.getObj hA λ_ h1 h2 _=>.pure ⟨rfl,h1,h2⟩
def JN(r:Nat)(hA:F.A r=true):dF P F f (λo o'=>o'=ro f o∧oS F o∧isCells o=false∧Sh.lk r=false) (getObj r) (getObj (f r)):=.getObj hA λ_ h1 h2 h3=>.pure ⟨rfl,h1,h2,h3⟩
def mU(r:Nat)(hA:F.A r=true){o:Obj}(ho:oS F o)(hc:isCells o=false):dF P F f Eq (setObj r o) (setObj (f r) (ro f o)):=.setObj hA ho hc (.pure rfl)
def lu(q:Question):dF P F f Eq (choose q) (choose q):=.choose λ_=>.pure rfl
section
variable {P Q:Program}
def P5(P:Program)(q:FuncId)(c:Code)(g:FuncId):(P.stub q c).funcs[g]?=(P.funcs[g]?).map λfn=>if g=q then{ fn with body:=some c }else fn:=by
 show(P.funcs.modify q _)[g]?=_
 rw[bz]
 by_cases e:q=g
 .subst e;simp
 .rw[aa e];cases P.funcs[g]? with
  |none=>rfl
  |some fn=>
   show some fn=some (if g=q then _ else fn);rw[aa λh:g=q=>e h.symm]
def Alike.get(hQ:Alike P Q)(g:FuncId):∃h:Func->Func,Q.funcs[g]?=(P.funcs[g]?).map h∧∀fn,∃b,h fn= { fn with body:=b }∧(fn.body.isSome=true->b.isSome=true):=by obtain⟨fs,rfl,h⟩:=hQ;exact h g
def Alike.stub(P:Program)(q:FuncId)(c:Code):Alike P (P.stub q c):=⟨(P.stub q c).funcs,rfl, λg=>by
 refine⟨_,P5 P q c g, λfn=>?_⟩;split
 .exact⟨_,rfl, λ_=>rfl⟩
 .exact⟨fn.body,rfl,id⟩⟩
def Alike.trans{R:Program}(h:Alike P Q)(k:Alike Q R):Alike P R:=by
 obtain⟨fs,rfl,h⟩:=h;obtain⟨gs,rfl,k⟩:=k;refine⟨gs,rfl, λg=>?_⟩
 obtain⟨x,h1,h2⟩:=h g;obtain⟨y,k1,k2⟩:=k g;refine⟨λfn=>y (x fn),?_, λfn=>?_⟩
 .rw[k1];show(fs[g]?).map y=_;rw[h1,Option.map_map];rfl
 .obtain⟨b,e1,e2⟩:=h2 fn;obtain⟨b',e3,e4⟩:=k2 (x fn);rw[e1]at e4;refine⟨b',?_, λz=>e4 (e2 z)⟩;dsimp only;rw[e3,e1]
def Alike.underlying(h:Alike P Q)(t:TypeId):Q.underlying t=P.underlying t:=by obtain⟨_,rfl,_⟩:=h;rfl
def Alike.info(h:Alike P Q)(t:TypeId):Q.info? t=P.info? t:=by obtain⟨_,rfl,_⟩:=h;rfl
def Alike.cellsOf(h:Alike P Q)(t:TypeId):Q.cellsOf t=P.cellsOf t:=by obtain⟨_,rfl,_⟩:=h;rfl
def Alike.bytesOf(h:Alike P Q)(t:TypeId):Q.bytesOf t=P.bytesOf t:=by obtain⟨_,rfl,_⟩:=h;rfl
def Alike.depth(h:Alike P Q):Q.depth=P.depth:=by obtain⟨_,rfl,_⟩:=h;rfl
def Alike.globals(h:Alike P Q):Q.globals=P.globals:=by obtain⟨_,rfl,_⟩:=h;rfl
def Alike.underlyingId(h:Alike P Q)(t:TypeId):Q.underlyingId t=P.underlyingId t:=by obtain⟨_,rfl,_⟩:=h;rfl
def Alike.cutTypes(h:Alike P Q):Q.cutTypes=P.cutTypes:=by obtain⟨_,rfl,_⟩:=h;rfl
def Alike.tags(h:Alike P Q):∀n t u,Q.alikeButTags n t u=P.alikeButTags n t u
 |0,_,_=>rfl
 |n+1,t,u=>by unfold Go.Program.alikeButTags;simp only[h.underlying,h.info,h.underlyingId,Alike.tags h n]
def Alike.stoodInHeld(h:Alike P Q)(t:TypeId):Q.stoodInHeld t=P.stoodInHeld t:=by unfold Go.Program.stoodInHeld Go.Program.stoodInAs;simp only[h.underlying,h.info,h.underlyingId,h.depth,h.cutTypes,h.tags]
def Alike.byteOfCell(h:Alike P Q):∀d t off,Go.byteOfCell Q d t off=Go.byteOfCell P d t off
 |0,_,_=>rfl
 |d+1,t,off=>by unfold Go.byteOfCell;simp only[h.underlying,h.cellsOf,h.bytesOf,Alike.byteOfCell h d]
def Alike.cellOfByte(h:Alike P Q):∀d t b,Go.cellOfByte Q d t b=Go.cellOfByte P d t b
 |0,_,_=>rfl
 |d+1,t,b=>by unfold Go.cellOfByte;simp only[h.underlying,h.cellsOf,h.bytesOf,Alike.cellOfByte h d]
def Alike.cellAtBytes(h:Alike P Q)(d:Nat)(e:TypeId)(n o:Nat)(b:Int):Go.cellAtBytes Q d e n o b=Go.cellAtBytes P d e n o b:=by unfold Go.cellAtBytes;simp only[h.cellsOf,h.bytesOf,h.byteOfCell,h.cellOfByte]
def Alike.eqGuardType(h:Alike P Q):∀d t,Q.eqGuardType d t=P.eqGuardType d t
 |0,_=>rfl
 |d+1,t=>by unfold Go.Program.eqGuardType;simp only[h.underlying,Alike.eqGuardType h d]
end
def dF.rq{R:α->β->Prop}{k:Program->Sem α}{k':Program->Sem β}(h:dF P F f R (k P) (k' P))(e:∀Q,Alike P Q->k' Q=k' P:=by rintro _⟨_,rfl,_⟩;rfl):dF P F f R (Go.program>>=k) (Go.program>>=k'):=.program e h
def NJ:dF P F f Eq (mark .noRoom) (mark .noRoom):=.noRoom (.pure rfl)
def Ae(t:TypeId):dF P F f (λa b=>a=b∧P.info? t=some a) (typeInfo t) (typeInfo t):=by
 unfold typeInfo;refine .rq ?_
 split
 .exact .ret ⟨rfl,by assumption⟩
 .exact gL _ _
def iR(t:TypeId):dF P F f Eq (typeInfo t) (typeInfo t):=(Ae t).mono λ_ _ h=>h.1
def dQ(t:TypeId):dF P F f Eq (underlying t) (underlying t):=by
 unfold underlying;refine .rq ?_
 split
 .exact .ret rfl
 .exact gL _ _
def gZ(t:TypeId):dF P F f Eq (Go.sizeOf t) (Go.sizeOf t):=by unfold Go.sizeOf;exact(iR t).dL λ_=>.ret rfl
def He(t:TypeId):dF P F f Eq (isAgg t) (isAgg t):=by
 unfold isAgg;refine(dQ t).dL λd=>?_
 split<;>exact .ret rfl
def Un(hz:iA P=true){t:TypeId}{i:TypeInfo}{v:Value}(h:P.info? t=some i)(hv:i.zero=some v):rv f v=v∧vs F v=true:=by
 refine zn (JM (λt i v h hv=>?_) t i v h hv);have hm:i∈P.types:=aZ h;have :=aU.1 hz i hm
 rwa [hv]at this
def kr(hz:iA P=true)(t:TypeId):dF P F f (λv v'=>v'=v∧rv f v=v∧vs F v=true) (zeroValue t) (zeroValue t):=by
 unfold zeroValue;refine(Ae t).bind ?_
 rintro i _⟨rfl,hi⟩;split
 .exact .ret ⟨rfl,Un hz hi (by assumption)⟩
 .exact uu (by simp) _
def BK(hz:iA P=true)(t:TypeId):dF P F f (VR F f) (zeroValue t) (zeroValue t):=(kr hz t).mono λ_ _ h=>⟨h.1.trans h.2.1.symm,h.2.2⟩
def add_block'(a:Addr)(n:Nat):(a.add n).block=a.block:=by unfold Addr.add;split<;>rfl
def ru(a:Addr)(hA:F.A a.block=true):∀(n i:Nat)(acc:Array Value),VS F acc->dF P F f (jf F f) (loadCellsFrom a i n acc) (loadCellsFrom (ra f a) i n (acc.map (rv f)))
 |0,_,_,h=>.ret ⟨rfl,h⟩
 |n+1,i,acc,h=>by
  unfold loadCellsFrom;refine(dF.bind (by rw[<-zl];exact LY _ (by rw[add_block'];exact hA)) ?_);rintro v _⟨rfl,hv⟩;rw[<-Array.map_push]
  exact ru a hA n (i+1) _ λx hx=>by
   rcases Array.mem_push.1 hx with hx|rfl
   .exact h x hx
   .exact hv
def xN(a:Addr)(hA:F.A a.block=true)(n:Nat):dF P F f (jf F f) (loadCells a n) (loadCells (ra f a) n):=by have :=ru (P:=P) (F:=F) (f:=f) a hA n 0 #[] (by intro x hx;simp at hx);simpa[loadCells]using this
def nG(a:Addr)(hA:F.A a.block=true):∀(l:List Value)(i:Nat),(∀v∈l,vs F v=true)->dF P F f Eq (storeCells a l i) (storeCells (ra f a) (l.map (rv f)) i)
 | [],_,_=>.ret rfl
 |v::l,i,h=>by
  simp only[aC];unfold storeCells;refine dF.dL (by rw[<-zl];exact PZ _ (by rw[add_block'];exact hA) (h v (by simp))) λ_=>?_
  exact nG a hA l (i+1) λx hx=>h x (by simp[hx])
def BL(t:TypeId)(a:Addr)(hA:F.A a.block=true):dF P F f (VR F f) (loadVar t a) (loadVar t (ra f a)):=by
 unfold loadVar;refine(He t).dL λb=>?_
 cases b
 .simpa using LY a hA
 .simp only[if_true];refine(gZ t).dL λn=>?_
  refine(xN a hA n).bind ?_
  rintro c _⟨rfl,hc⟩;exact .ret ⟨by simp,lV.2 hc⟩
def Hf(t:TypeId)(a:Addr)(hA:F.A a.block=true){v:Value}(hv:vs F v=true):dF P F f Eq (storeVar t a v) (storeVar t (ra f a) (rv f v)):=by
 unfold storeVar;refine(gZ t).dL λn=>?_
 rw[qZ,Array.size_map,Array.toList_map];split
 .exact(gL (R:=Eq) _ _).dL λ_=>nG a hA _ _ λx hx=>VS.cells hv x (by simpa using hx)
 .exact nG a hA _ _ λx hx=>VS.cells hv x (by simpa using hx)
def ry(e:TypeId){c:Array Value}(hc:VS F c):dF P F f (AR F f) (newRow e c) (newRow e (c.map (rv f))):=by
 unfold newRow;refine dF.bind (oI (o:=.cells c e) hc) ?_
 rintro r _⟨rfl,hr,hl⟩;exact .ret ⟨(BJ hl).symm,hr⟩
def Er(t:TypeId){v:Value}(hv:vs F v=true):dF P F f (AR F f) (newVar t v) (newVar t (rv f v)):=by unfold newVar;rw[qZ];exact ry t (VS.cells hv)
end
end
end cS
namespace cS
open Go Go.RowKit
section
def dU(w:World)(v:Value):Prop:=∀g,v.ownBlock=some g->∃cur e,w.heap[g]?=some (.cells cur e)∧∀x∈cur,eF x=true
def dU.nil(w:World):dU w (.slice none 0 0):= λg h=>by cases h
def dU.keep{w w':World}{v:Value}(h:dU w v)(hk:∀g,v.ownBlock=some g->w'.heap[g]?=w.heap[g]?):dU w' v:= λg hg=>by obtain⟨c,e,h1,h2⟩:=h g hg;exact⟨c,e,(hk g hg).trans h1,h2⟩
def dU.alloc{w:World}{v:Value}(h:dU w v)(o:Obj):dU (w.alloc o) v:= λg hg=>by obtain⟨c,e,h1,h2⟩:=h g hg;exact⟨c,e,(Below.heap_alloc _ _ _ (aI.1 h1).1).trans h1,h2⟩
def dU.setCell{w:World}{g n cap j:Nat}{v:Value}(h:dU w (.slice (some ⟨g,0,none⟩) n cap))(hv:eF v=true):dU (w.setCell ⟨g,j,none⟩ v) (.slice (some ⟨g,0,none⟩) n cap):= λg' hg=>by
 have e:g=g':=by simpa[Value.ownBlock]using hg
 subst e;obtain⟨c,e,h1,h2⟩:=h g rfl;refine⟨c.setIfInBounds j v,e,heap_setCell_same w g j c e v h1, λx hx=>?_⟩
 .rcases bG hx with hx|rfl
  .exact h2 x hx
  .exact hv
section
variable {P:Program} {w:World}
def mV(base:Nat)(t ty e:TypeId)(i:TypeInfo)(z:Value)(size bytes:Nat)(ht:P.underlying t=some (.slice e))(hi:P.info? e=some i)(hz:i.zero=some z)
 (hsize:i.size=size) (hby:i.bytes=bytes) (hzs:z.cells.size=size) (hsz:0<size)
 (v:Value) (n:Nat) (xs:List Value) (hown:w.ownsRow base e size v n xs)
 (a:Addr) (m c:Nat) (news:List Value) (hl:news.length=m*size) (hnews:∀j u,news[j]?=some u->w.cell? (a.add j)=some u) (h1:∀u∈news,u.oneCell'=true)
 (h63:n+m<=maxLen) (hbytes:(n+m)*bytes<=140737488355328) (hbase:base<=w.heap.size)
 (hpv:dU w v) (hpx:∀u∈news,eF u=true) (hpz:∀u∈z.cells,eF u=true) {v':Value} {w':World}
 (hr:(Builtin.append_ #[t,t] ty #[v,.slice (some a) m c]).run P w=.ok v' w'):dU w' v':=by
 subst hsize;subst hby;have hsmall:n+m<=9223372036854775807:=by simp only[maxLen]at h63;omega
 have zc:∀k,∀x∈Builtin.zeroCells z.cells k,eF x=true:=by intro k x hx;unfold Builtin.zeroCells at hx;simp at hx;obtain⟨q,_,rfl⟩:=hx;have hlt:q%z.cells.size<z.cells.size:=Nat.mod_lt _ (by omega);rw[getElem!_pos z.cells _ hlt];exact hpz _ (Array.getElem_mem hlt)
 rcases hown.2 with⟨rfl,rfl⟩|⟨g,cap,cur,rfl,hbg,hg,hnc,hcm,hcs,htake⟩
 .have hx:xs= []:=List.eq_nil_of_length_eq_zero (by simpa using hown.1);subst hx
  by_cases hm:m=0
  .subst hm;have hn:news= []:=List.eq_nil_of_length_eq_zero (by simpa using hl);subst hn
   have:(Builtin.append_ #[t,t] ty #[.slice none 0 0,.slice (some a) 0 c]).run P w=.ok (.slice none 0 0) w:=by simp[Builtin.append_,run_underlying ht,Go.sizeOf,Go.typeInfo,hi,Builtin.lenOf,Builtin.firstCells,loadCells,loadCellsFrom]
   rw[this]at hr;cases hr;exact .nil _
  .have hr2:=run_append_nil (P:=P) w t ty e i z ht hi hz a m c news hl hnews (by omega) (by omega) (by have hb:=hbytes;simp only[Nat.zero_add]at hb;omega);rw[hr2]at hr;cases hr;intro g hg;have e1:w.heap.size=g:=by simpa[Value.ownBlock]using hg
   subst e1;refine⟨_,_,heap_alloc_new w.drew _, λx hx=>?_⟩;simp only[Array.mem_append,aB]at hx;rcases hx with hx|hx
   .exact hpx x hx
   .exact zc _ x hx
 .by_cases hroom:n+m<=cap
  .have hfit:n*i.size+news.length<=cur.size:=by rw[hl,hcs, <-Nat.add_mul];exact Nat.mul_le_mul_right _ hroom
   have hr2:=run_append_room (P:=P) w t ty e i ht hi g n cap cur hg a m c news hl hnews h1 hroom hfit;rw[hr2]at hr;cases hr;intro g' hg';have e1:g=g':=by simpa[Value.ownBlock]using hg'
   subst e1;obtain⟨c',e',q1,q2⟩:=hpv g rfl;rw[hg]at q1;cases q1;refine⟨_,_,setRow_heap w g cur _ e _ hg, λx hx=>?_⟩;simp only[aB,List.mem_append]at hx;rcases hx with(hx|hx)|hx
   .exact q2 x (by have :=bE hx;simpa using this)
   .exact hpx x hx
   .exact q2 x (by have :=List.mem_of_mem_drop hx;simpa using this)
  .have holds:∀j u,xs[j]?=some u->w.cell? ((⟨g,0,none⟩:Addr).add j)=some u:=hown.cells (g:=g) rfl
   have hr2:=run_append_grow (P:=P) w t ty e i z ht hi hz ⟨g,0,none⟩ n cap xs hown.1 holds a m c news hl hnews (by omega) (by omega) (growslice_fits (by omega) hbytes);rw[hr2]at hr;cases hr;intro g' hg';have e1:w.heap.size=g':=by simpa[Value.ownBlock]using hg'
   subst e1;obtain⟨c',e',q1,q2⟩:=hpv g rfl;rw[hg]at q1;cases q1;refine⟨_,_,heap_alloc_new w.drew _, λx hx=>?_⟩;simp only[Array.mem_append,aB]at hx;rcases hx with(hx|hx)|hx
   .rw[<-htake]at hx;exact q2 x (by have :=bE hx;simpa using this)
   .exact hpx x hx
   .exact zc _ x hx
def fZ{ops:Array Oper}{rest:List Oper}{o:Oper}{a:Act}{Q:Exit->Act->World->Prop}(hgd:o.guard=none)(s x:Operand)(t:TypeId)
 (ho:o.op=.call { callee:=.builtin .append,args:= #[s,x],argTypes:= #[t,t] })
 (base:Nat) (e:TypeId) (i:TypeInfo) (z:Value) (size bytes:Nat) (ht:P.underlying t=some (.slice e)) (hi:P.info? e=some i) (hz:i.zero=some z)
 (hsize:i.size=size) (hby:i.bytes=bytes) (hzs:z.cells.size=size) (hsz:0<size)
 (v:Value) (n:Nat) (xs:List Value) (hs:a.eval s=v) (hown:w.ownsRow base e size v n xs)
 (ad:Addr) (m c:Nat) (news:List Value) (hx:a.eval x=.slice (some ad) m c) (hl:news.length=m*size) (hnews:∀j u,news[j]?=some u->w.cell? (ad.add j)=some u) (h1:∀u∈news,u.oneCell'=true)
 (h63:n+m<=maxLen) (hbytes:(n+m)*bytes<=140737488355328) (hbase:base<=w.heap.size) (hpv:dU w v) (hpx:∀u∈news,eF u=true) (hpz:∀u∈z.cells,eF u=true)
 (h:∀v' w',w'.ownsRow base e size v' (n+m) (xs++news)->w.grownBy w' v.ownBlock->(v'=.slice none 0 0↔v=.slice none 0 0∧m=0)->dU w' v'->wpList P ops Q rest (a.put o.dst v') w'):wpList P ops Q (o::rest) a w:=
 wpList_plain hgd λK hK=>by obtain⟨v',w',hr,h2,h3,h4⟩:=run_append_own (P:=P) w base t o.type e i z size bytes ht hi hz hsize hby hzs hsz v n xs hown ad m c news hl hnews h1 h63 hbytes hbase;have hp:=mV (P:=P) (w:=w) base t o.type e i z size bytes ht hi hz hsize hby hzs hsz v n xs hown ad m c news hl hnews h1 h63 hbytes hbase hpv hpx hpz hr;unfold Oper.wp execOp;simp only[ho,resolve,invoke,builtin,Sem.run_bind,Sem.run_pure,Result.andThen_ok,List.map_toArray,aC,List.map_nil,hs,hx,hr];exact hK _ _ (h v' w' h2 h3 h4 hp)
def xO{o:Oper}{a:Act}{K:Act->World->Prop}{Q:Exit->Act->World->Prop}(s x:Operand)(t:TypeId)
 (ho:o.op=.call { callee:=.builtin .append,args:= #[s,x],argTypes:= #[t,t] })
 (base:Nat) (e:TypeId) (i:TypeInfo) (z:Value) (size bytes:Nat) (ht:P.underlying t=some (.slice e)) (hi:P.info? e=some i) (hz:i.zero=some z)
 (hsize:i.size=size) (hby:i.bytes=bytes) (hzs:z.cells.size=size) (hsz:0<size)
 (v:Value) (n:Nat) (xs:List Value) (hs:a.eval s=v) (hown:w.ownsRow base e size v n xs)
 (ad:Addr) (m c:Nat) (news:List Value) (hx:a.eval x=.slice (some ad) m c) (hl:news.length=m*size) (hnews:∀j u,news[j]?=some u->w.cell? (ad.add j)=some u) (h1:∀u∈news,u.oneCell'=true)
 (hm:0<m) (h63:n+m<=maxLen) (hbytes:(n+m)*bytes<=140737488355328) (hbase:base<=w.heap.size) (H:Nat) (hH:w.heap.size=H) (hpv:dU w v) (hpx:∀u∈news,eF u=true) (hpz:∀u∈z.cells,eF u=true)
 (h:∀g cap w',w'.ownsRow base e size (.slice (some ⟨g,0,none⟩) (n+m) cap) (n+m) (xs++news)->w.grownBy w' v.ownBlock->(v.ownBlock=some g∨g=H)->g<w'.heap.size->dU w' (.slice (some ⟨g,0,none⟩) (n+m) cap)->K (a.put o.dst (.slice (some ⟨g,0,none⟩) (n+m) cap)) w'):
 Oper.wp P o a w K Q:=by
 obtain⟨v',w',hr,h2,h3,_,h5⟩:=run_append_own_at (P:=P) w base t o.type e i z size bytes ht hi hz hsize hby hzs hsz v n xs hown ad m c news hl hnews h1 h63 hbytes hbase;have hp:=mV (P:=P) (w:=w) base t o.type e i z size bytes ht hi hz hsize hby hzs hsz v n xs hown ad m c news hl hnews h1 h63 hbytes hbase hpv hpx hpz hr;unfold Oper.wp execOp;simp only[ho,resolve,invoke,builtin,Sem.run_bind,Sem.run_pure,Result.andThen_ok,List.map_toArray,aC,List.map_nil,hs,hx,hr];rcases h2.2 with⟨h0,_⟩|⟨g,cap,cur,rfl,hbg,hg,_⟩
 .omega
 .exact h g cap w' h2 h3 (by rcases h5 with h5|h5
                             .exact .inl (h5.symm.trans rfl)
                             .exact .inr (by have :=h5;simp[Value.ownBlock]at this;omega)) (aI.1 hg).1 hp
def lX{ops:Array Oper}{o:Oper}{a:Act}{K:Act->World->Prop}{Q:Exit->Act->World->Prop}{E:Prop}(hgd:o.guard=none)(s x:Operand)(t:TypeId)
 (ho:o.op=.call { callee:=.builtin .append,args:= #[s,x],argTypes:= #[t,t] })
 (base:Nat) (e:TypeId) (i:TypeInfo) (z:Value) (size bytes:Nat) (ht:P.underlying t=some (.slice e)) (hi:P.info? e=some i) (hz:i.zero=some z)
 (hsize:i.size=size) (hby:i.bytes=bytes) (hzs:z.cells.size=size) (hsz:0<size)
 (v:Value) (n:Nat) (xs:List Value) (hs:a.eval s=v) (hown:w.ownsRow base e size v n xs)
 (ad:Addr) (m c:Nat) (news:List Value) (hx:a.eval x=.slice (some ad) m c) (hl:news.length=m*size) (hnews:∀j u,news[j]?=some u->w.cell? (ad.add j)=some u) (h1:∀u∈news,u.oneCell'=true)
 (hm:0<m) (h63:n+m<=maxLen) (hbytes:(n+m)*bytes<=140737488355328) (hbase:base<=w.heap.size) (H:Nat) (hH:w.heap.size=H) (hpv:dU w v) (hpx:∀u∈news,eF u=true) (hpz:∀u∈z.cells,eF u=true)
 (h:∀g cap w',w'.ownsRow base e size (.slice (some ⟨g,0,none⟩) (n+m) cap) (n+m) (xs++news)->w.grownBy w' v.ownBlock->(v.ownBlock=some g∨g=H)->g<w'.heap.size->dU w' (.slice (some ⟨g,0,none⟩) (n+m) cap)->K (a.put o.dst (.slice (some ⟨g,0,none⟩) (n+m) cap)) w'):
 if Region.wanted o (yielded ops a.tmps)=true then Oper.wp P o a w K Q else E:=by
 have hw:Region.wanted o (yielded ops a.tmps)=true:=by simp[Region.wanted,hgd]
 rw[aj hw];exact xO s x t ho base e i z size bytes ht hi hz hsize hby hzs hsz v n xs hs hown ad m c news hx hl hnews h1 hm h63 hbytes hbase H hH hpv hpx hpz h
def zo{ops:Array Oper}{rest:List Oper}{o:Oper}{a:Act}{Q:Exit->Act->World->Prop}(hgd:o.guard=none)(s x:Operand)(t:TypeId)
 (ho:o.op=.call { callee:=.builtin .append,args:= #[s,x],argTypes:= #[t,t] })
 (base:Nat) (e:TypeId) (i:TypeInfo) (z:Value) (size bytes:Nat) (ht:P.underlying t=some (.slice e)) (hi:P.info? e=some i) (hz:i.zero=some z)
 (hsize:i.size=size) (hby:i.bytes=bytes) (hzs:z.cells.size=size) (hsz:0<size)
 (v:Value) (n:Nat) (xs:List Value) (hs:a.eval s=v) (hown:w.ownsRow base e size v n xs)
 (ad:Addr) (m c:Nat) (news:List Value) (hx:a.eval x=.slice (some ad) m c) (hl:news.length=m*size) (hnews:∀j u,news[j]?=some u->w.cell? (ad.add j)=some u) (h1:∀u∈news,u.oneCell'=true)
 (hm:0<m) (h63:n+m<=maxLen) (hbytes:(n+m)*bytes<=140737488355328) (hbase:base<=w.heap.size) (H:Nat) (hH:w.heap.size=H) (hpv:dU w v) (hpx:∀u∈news,eF u=true) (hpz:∀u∈z.cells,eF u=true)
 (h:∀g cap w',w'.ownsRow base e size (.slice (some ⟨g,0,none⟩) (n+m) cap) (n+m) (xs++news)->w.grownBy w' v.ownBlock->(v.ownBlock=some g∨g=H)->g<w'.heap.size->dU w' (.slice (some ⟨g,0,none⟩) (n+m) cap)->wpList P ops Q rest (a.put o.dst (.slice (some ⟨g,0,none⟩) (n+m) cap)) w'):wpList P ops Q (o::rest) a w:=
 wpList_plain hgd λ_ hK=>xO s x t ho base e i z size bytes ht hi hz hsize hby hzs hsz v n xs hs hown ad m c news hx hl hnews h1 hm h63 hbytes hbase H hH hpv hpx hpz λg cap w' a1 a2 a3 a4 a5=>hK _ _ (h g cap w' a1 a2 a3 a4 a5)
end
end
section
section
variable {P:Program} {w:World}
def BM(base:Nat)(t ty e:TypeId)(i:TypeInfo)(z:Value)(size bytes:Nat)(ht:P.underlying t=some (.slice e))(hi:P.info? e=some i)(hz:i.zero=some z)
 (hsize:i.size=size) (hby:i.bytes=bytes) (hzs:z.cells.size=size) (hsz:0<size)
 (v:Value) (n:Nat) (xs:List Value) (hown:w.ownsRow base e size v n xs)
 (a:Addr) (m c:Nat) (news:List Value) (hl:news.length=m*size) (hnews:∀j u,news[j]?=some u->w.cell? (a.add j)=some u) (h1:∀u∈news,u.oneCell'=true)
 (h63:n+m<=maxLen) (hbytes:(n+m)*bytes<=140737488355328) (hbase:base<=w.heap.size)
 (hpv:dU w v) (hpx:∀u∈news,eF u=true) (hpz:∀u∈z.cells,eF u=true) {v':Value} {w':World}
 (hr:(Builtin.append_ #[t,t] ty #[v,.slice (some a) m c]).run P w=.ok v' w'):dU w' v:=by
 subst hsize;subst hby;have hsmall:n+m<=9223372036854775807:=by simp only[maxLen]at h63;omega
 have zc:∀k,∀x∈Builtin.zeroCells z.cells k,eF x=true:=by intro k x hx;unfold Builtin.zeroCells at hx;simp at hx;obtain⟨q,_,rfl⟩:=hx;have hlt:q%z.cells.size<z.cells.size:=Nat.mod_lt _ (by omega);rw[getElem!_pos z.cells _ hlt];exact hpz _ (Array.getElem_mem hlt)
 rcases hown.2 with⟨rfl,rfl⟩|⟨g,cap,cur,rfl,hbg,hg,hnc,hcm,hcs,htake⟩
 .have hx:xs= []:=List.eq_nil_of_length_eq_zero (by simpa using hown.1);subst hx
  by_cases hm:m=0
  .subst hm;have hn:news= []:=List.eq_nil_of_length_eq_zero (by simpa using hl);subst hn
   have:(Builtin.append_ #[t,t] ty #[.slice none 0 0,.slice (some a) 0 c]).run P w=.ok (.slice none 0 0) w:=by simp[Builtin.append_,run_underlying ht,Go.sizeOf,Go.typeInfo,hi,Builtin.lenOf,Builtin.firstCells,loadCells,loadCellsFrom]
   rw[this]at hr;cases hr;exact .nil _
  .have hr2:=run_append_nil (P:=P) w t ty e i z ht hi hz a m c news hl hnews (by omega) (by omega) (by have hb:=hbytes;simp only[Nat.zero_add]at hb;omega);rw[hr2]at hr;cases hr;exact .nil _
 .by_cases hroom:n+m<=cap
  .have hfit:n*i.size+news.length<=cur.size:=by rw[hl,hcs, <-Nat.add_mul];exact Nat.mul_le_mul_right _ hroom
   have hr2:=run_append_room (P:=P) w t ty e i ht hi g n cap cur hg a m c news hl hnews h1 hroom hfit;rw[hr2]at hr;cases hr;intro g' hg';have e1:g=g':=by simpa[Value.ownBlock]using hg'
   subst e1;obtain⟨c',e',q1,q2⟩:=hpv g rfl;rw[hg]at q1;cases q1;refine⟨_,_,setRow_heap w g cur _ e _ hg, λx hx=>?_⟩;simp only[aB,List.mem_append]at hx;rcases hx with(hx|hx)|hx
   .exact q2 x (by have :=bE hx;simpa using this)
   .exact hpx x hx
   .exact q2 x (by have :=List.mem_of_mem_drop hx;simpa using this)
  .have holds:∀j u,xs[j]?=some u->w.cell? ((⟨g,0,none⟩:Addr).add j)=some u:=hown.cells (g:=g) rfl
   have hr2:=run_append_grow (P:=P) w t ty e i z ht hi hz ⟨g,0,none⟩ n cap xs hown.1 holds a m c news hl hnews (by omega) (by omega) (growslice_fits (by omega) hbytes);rw[hr2]at hr;cases hr;refine hpv.keep λg' hg'=>?_
   have e1:g=g':=by simpa[Value.ownBlock]using hg'
   subst e1;exact Below.heap_alloc w.drew _ _ (aI.1 hg).1
def Eb{o:Oper}{a:Act}{K:Act->World->Prop}{Q:Exit->Act->World->Prop}(s x:Operand)(t:TypeId)
 (ho:o.op=.call { callee:=.builtin .append,args:= #[s,x],argTypes:= #[t,t] })
 (base:Nat) (e:TypeId) (i:TypeInfo) (z:Value) (size bytes:Nat) (ht:P.underlying t=some (.slice e)) (hi:P.info? e=some i) (hz:i.zero=some z)
 (hsize:i.size=size) (hby:i.bytes=bytes) (hzs:z.cells.size=size) (hsz:0<size)
 (v:Value) (n:Nat) (xs:List Value) (hs:a.eval s=v) (hown:w.ownsRow base e size v n xs)
 (ad:Addr) (m c:Nat) (news:List Value) (hx:a.eval x=.slice (some ad) m c) (hl:news.length=m*size) (hnews:∀j u,news[j]?=some u->w.cell? (ad.add j)=some u) (h1:∀u∈news,u.oneCell'=true)
 (hm:0<m) (h63:n+m<=maxLen) (hbytes:(n+m)*bytes<=140737488355328) (hbase:base<=w.heap.size) (H:Nat) (hH:w.heap.size=H) (hpv:dU w v) (hpx:∀u∈news,eF u=true) (hpz:∀u∈z.cells,eF u=true)
 (h:∀g cap w',w'.ownsRow base e size (.slice (some ⟨g,0,none⟩) (n+m) cap) (n+m) (xs++news)->w.grownBy w' v.ownBlock->(v.ownBlock=some g∨g=H)->g<w'.heap.size->dU w' (.slice (some ⟨g,0,none⟩) (n+m) cap)->dU w' v->K (a.put o.dst (.slice (some ⟨g,0,none⟩) (n+m) cap)) w'):
 Oper.wp P o a w K Q:=by
 obtain⟨v',w',hr,h2,h3,_,h5⟩:=run_append_own_at (P:=P) w base t o.type e i z size bytes ht hi hz hsize hby hzs hsz v n xs hown ad m c news hl hnews h1 h63 hbytes hbase;have hp:=mV (P:=P) (w:=w) base t o.type e i z size bytes ht hi hz hsize hby hzs hsz v n xs hown ad m c news hl hnews h1 h63 hbytes hbase hpv hpx hpz hr;have hq:=BM (P:=P) (w:=w) base t o.type e i z size bytes ht hi hz hsize hby hzs hsz v n xs hown ad m c news hl hnews h1 h63 hbytes hbase hpv hpx hpz hr;unfold Oper.wp execOp;simp only[ho,resolve,invoke,builtin,Sem.run_bind,Sem.run_pure,Result.andThen_ok,List.map_toArray,aC,List.map_nil,hs,hx,hr];rcases h2.2 with⟨h0,_⟩|⟨g,cap,cur,rfl,hbg,hg,_⟩
 .omega
 .exact h g cap w' h2 h3 (by rcases h5 with h5|h5
                             .exact .inl (h5.symm.trans rfl)
                             .exact .inr (by have :=h5;simp[Value.ownBlock]at this;omega)) (aI.1 hg).1 hp hq
def qi{ops:Array Oper}{rest:List Oper}{o:Oper}{a:Act}{Q:Exit->Act->World->Prop}(hgd:o.guard=none)(s x:Operand)(t:TypeId)
 (ho:o.op=.call { callee:=.builtin .append,args:= #[s,x],argTypes:= #[t,t] })
 (base:Nat) (e:TypeId) (i:TypeInfo) (z:Value) (size bytes:Nat) (ht:P.underlying t=some (.slice e)) (hi:P.info? e=some i) (hz:i.zero=some z)
 (hsize:i.size=size) (hby:i.bytes=bytes) (hzs:z.cells.size=size) (hsz:0<size)
 (v:Value) (n:Nat) (xs:List Value) (hs:a.eval s=v) (hown:w.ownsRow base e size v n xs)
 (ad:Addr) (m c:Nat) (news:List Value) (hx:a.eval x=.slice (some ad) m c) (hl:news.length=m*size) (hnews:∀j u,news[j]?=some u->w.cell? (ad.add j)=some u) (h1:∀u∈news,u.oneCell'=true)
 (hm:0<m) (h63:n+m<=maxLen) (hbytes:(n+m)*bytes<=140737488355328) (hbase:base<=w.heap.size) (H:Nat) (hH:w.heap.size=H) (hpv:dU w v) (hpx:∀u∈news,eF u=true) (hpz:∀u∈z.cells,eF u=true)
 (h:∀g cap w',w'.ownsRow base e size (.slice (some ⟨g,0,none⟩) (n+m) cap) (n+m) (xs++news)->w.grownBy w' v.ownBlock->(v.ownBlock=some g∨g=H)->g<w'.heap.size->dU w' (.slice (some ⟨g,0,none⟩) (n+m) cap)->dU w' v->wpList P ops Q rest (a.put o.dst (.slice (some ⟨g,0,none⟩) (n+m) cap)) w'):wpList P ops Q (o::rest) a w:=
 wpList_plain hgd λ_ hK=>Eb s x t ho base e i z size bytes ht hi hz hsize hby hzs hsz v n xs hs hown ad m c news hx hl hnews h1 hm h63 hbytes hbase H hH hpv hpx hpz λg cap w' a1 a2 a3 a4 a5 a6=>hK _ _ (h g cap w' a1 a2 a3 a4 a5 a6)
def PK{ops:Array Oper}{o:Oper}{a:Act}{K:Act->World->Prop}{Q:Exit->Act->World->Prop}{E:Prop}(hgd:o.guard=none)(s x:Operand)(t:TypeId)
 (ho:o.op=.call { callee:=.builtin .append,args:= #[s,x],argTypes:= #[t,t] })
 (base:Nat) (e:TypeId) (i:TypeInfo) (z:Value) (size bytes:Nat) (ht:P.underlying t=some (.slice e)) (hi:P.info? e=some i) (hz:i.zero=some z)
 (hsize:i.size=size) (hby:i.bytes=bytes) (hzs:z.cells.size=size) (hsz:0<size)
 (v:Value) (n:Nat) (xs:List Value) (hs:a.eval s=v) (hown:w.ownsRow base e size v n xs)
 (ad:Addr) (m c:Nat) (news:List Value) (hx:a.eval x=.slice (some ad) m c) (hl:news.length=m*size) (hnews:∀j u,news[j]?=some u->w.cell? (ad.add j)=some u) (h1:∀u∈news,u.oneCell'=true)
 (h63:n+m<=maxLen) (hbytes:(n+m)*bytes<=140737488355328) (hbase:base<=w.heap.size)
 (h:∀v' w',w'.ownsRow base e size v' (n+m) (xs++news)->w.grownBy w' v.ownBlock->K (a.put o.dst v') w'):
 if Region.wanted o (yielded ops a.tmps)=true then Oper.wp P o a w K Q else E:=by
 have hw:Region.wanted o (yielded ops a.tmps)=true:=by simp[Region.wanted,hgd]
 rw[aj hw];obtain⟨v',w',hr,h2,h3,_⟩:=run_append_own (P:=P) w base t o.type e i z size bytes ht hi hz hsize hby hzs hsz v n xs hown ad m c news hl hnews h1 h63 hbytes hbase;unfold Oper.wp execOp;simp only[ho,resolve,invoke,builtin,Sem.run_bind,Sem.run_pure,Result.andThen_ok,List.map_toArray,aC,List.map_nil,hs,hx,hr];exact h v' w' h2 h3
end
end
end cS
namespace cS
open Go
section
variable [Sh]
def BN{α:Type}{a:Array α}{i j:Nat}{x:α}(h:x∈a.extract i j):x∈a:=by
 obtain⟨k,hk⟩:=Array.getElem?_of_mem h;rw[Array.getElem?_extract]at hk;split at hk
 .exact aZ hk
 .cases hk
def jf.size{F:Fit}{f:Nat->Nat}{a a':Array Value}(h:jf F f a a'):a'.size=a.size:=by rw[h.1];simp
def jf.get{F:Fit}{f:Nat->Nat}{a a':Array Value}(h:jf F f a a')(i:Nat):(a[i]?=none∧a'[i]?=none)∨∃v,a[i]?=some v∧a'[i]?=some (rv f v)∧vs F v=true:=by
 rw[h.1,aG];cases hi:a[i]? with
 |none=>exact .inl ⟨rfl,rfl⟩
 |some v=>exact .inr ⟨v,rfl,rfl,h.2 v (aZ hi)⟩
def jf.cells{F:Fit}{f:Nat->Nat}{v v':Value}(h:VR F f v v'):jf F f v.cells v'.cells:=⟨by rw[h.1,qZ],VS.cells h.2⟩
def jf.nil{F:Fit}{f:Nat->Nat}:jf F f #[] #[]:=⟨by simp,by intro x hx;simp at hx⟩
def jf.append{F:Fit}{f:Nat->Nat}{a a' b b':Array Value}(h:jf F f a a')(k:jf F f b b'):jf F f (a++b) (a'++b'):=
 ⟨by rw[h.1,k.1,Array.map_append], λx hx=>(Array.mem_append.1 hx).elim (h.2 x) (k.2 x)⟩
def jf.push{F:Fit}{f:Nat->Nat}{a a':Array Value}{b b':Value}(h:jf F f a a')(k:VR F f b b'):jf F f (a.push b) (a'.push b'):=
 ⟨by rw[h.1,k.1,Array.map_push], λx hx=>(Array.mem_push.1 hx).elim (h.2 x) (λe=>e ▸ k.2)⟩
def jf.extract{F:Fit}{f:Nat->Nat}{a a':Array Value}(h:jf F f a a')(i j:Nat):jf F f (a.extract i j) (a'.extract i j):=
 ⟨by rw[h.1,Array.map_extract], λx hx=>h.2 x (BN hx)⟩
def VR.int{F:Fit}{f:Nat->Nat}{k:IntKind}{n:Int}:VR F f (.int k n) (.int k n):=⟨by simp,by simp⟩
def VR.bool{F:Fit}{f:Nat->Nat}{b:Bool}:VR F f (.bool b) (.bool b):=⟨by simp,by simp⟩
def VR.str{F:Fit}{f:Nat->Nat}{b:ByteArray}:VR F f (.string b) (.string b):=⟨by simp,by simp⟩
def VR.goInt{F:Fit}{f:Nat->Nat}{n:Int}:VR F f (goInt n) (goInt n):=VR.int
def VR.agg{F:Fit}{f:Nat->Nat}{a a':Array Value}(h:jf F f a a'):VR F f (.agg a) (.agg a'):=⟨by rw[h.1];simp,lV.2 h.2⟩
def VR.tuple{F:Fit}{f:Nat->Nat}{a a':Array Value}(h:jf F f a a'):VR F f (.tuple a) (.tuple a'):=⟨by rw[h.1];simp,q9.2 h.2⟩
def VR.ptr{F:Fit}{f:Nat->Nat}{a a':Addr}(h:AR F f a a'):VR F f (.pointer (some a)) (.pointer (some a')):=⟨by rw[h.1];simp,by simpa using h.2⟩
def VR.iface{F:Fit}{f:Nat->Nat}{t:TypeId}{v v':Value}(h:VR F f v v'):VR F f (.iface t v) (.iface t v'):=⟨by rw[h.1];simp,by simpa using h.2⟩
section
variable {P:Program} {F:Fit} {f:Nat->Nat} {α β γ δ:Type}
def DK.push{w:World}{o:Obj}(h:∀ds,o≠ .deferred ds):DK w { w with heap:=w.heap.push o }:=by
 intro r ds hr;simp only[Array.getElem?_push]at hr;split at hr
 .exact absurd (aT hr) (h ds)
 .exact hr
def jJ{m:Sem γ}{k:γ->Sem α}(hm:∀w es,(∃x w' es',Sem.runT P m w es=(.halt x w',es')∧G7 x∧DK w w')∨∃a w' es',Sem.runT P m w es=(.ok a w',es')∧DK w w')(hk:∀a w es,∃x w' es',Sem.runT P (k a) w es=(.halt x w',es')∧G7 x∧DK w w'):
 ∀w es,∃x w' es',Sem.runT P (m>>=k) w es=(.halt x w',es')∧G7 x∧DK w w':=by
 intro w es;have e:Sem.runT P (m>>=k) w es=_:=runT_bind m k w es;rcases hm w es with⟨x,w',es',h1,h2⟩|⟨a,w',es',h1,hd⟩
 .exact⟨x,w',es',by rw[e,h1],h2⟩
 .obtain⟨x,w2,es2,h3,h4,h5⟩:=hk a w' es';exact⟨x,w2,es2,by rw[e,h1];exact h3,h4,hd.trans h5⟩
def oo(e:RuntimeError):∀w es,∃x w' es',Sem.runT P (runtimePanic e:Sem α) w es=(.halt x w',es')∧G7 x∧DK w w':=by
 have gp:∀(v:Value)(w:World)(es:Array Event),∃x w' es',Sem.runT P (goPanic v:Sem α) w es=(.halt x w',es')∧G7 x∧DK w w':= λv w es=>⟨_,_,_,rfl,trivial,DK.refl⟩
 have st:∀{γ:Type}(s:String)(w:World)(es:Array Event),(∃x w' es',Sem.runT P (stuck s:Sem γ) w es=(.halt x w',es')∧G7 x∧DK w w')∨∃a w' es',Sem.runT P (stuck s:Sem γ) w es=(.ok a w',es')∧DK w w':= λs w es=>.inl ⟨_,_,_,rfl,vk s,DK.refl⟩
 have el:∀(t:TypeId)(w:World)(es:Array Event),(∃x w' es',Sem.runT P (elemOf t) w es=(.halt x w',es')∧G7 x∧DK w w')∨∃a w' es',Sem.runT P (elemOf t) w es=(.ok a w',es')∧DK w w':=by
  intro t w es;unfold elemOf underlying;simp only[Go.program,Bind.bind,Sem.bind,Sem.runT];cases P.underlying t with
  |none=>exact st _ _ _
  |some d=>cases d<;>first|exact st _ _ _|exact .inr ⟨_,_,_,rfl,DK.refl⟩
 have nv:∀(t:TypeId)(v:Value)(w:World)(es:Array Event),(∃x w' es',Sem.runT P (newVar t v) w es=(.halt x w',es')∧G7 x∧DK w w')∨∃a w' es',Sem.runT P (newVar t v) w es=(.ok a w',es')∧DK w w':= λt v w es=>.inr ⟨_,_,_,rfl,DK.push (by intro ds h;cases h)⟩
 intro w es;unfold runtimePanic;simp only[Go.program,Bind.bind,Sem.bind,Sem.runT];cases e with
 |typeAssertion i c a m=>exact jJ (el _) (λt=>jJ (nv t _) λr=>gp _) w es
 |panicNil=>exact jJ (el _) (λt=>jJ (nv t _) λr=>gp _) w es
 |_=>exact gp _ w es
def eZ{R:α->β->Prop}(e:RuntimeError)(m':Sem β):dF P F f R (runtimePanic e) m':=.lW (oo e)
def jK{R:α->β->Prop}(k:IntKind)(x y:Int)(c:BoundsCode)(m':Sem β):dF P F f R (boundsPanic k x y c) m':=by
 unfold boundsPanic;refine .lW ?_
 split
 .refine jJ (m:=Functor.map (· ==1) (choose (.extern "runtime.boundsError.signed" 2))) (λw es=>.inr ?_) λs=>oo _
  show∃a w' es',Sem.runT P ((choose (.extern "runtime.boundsError.signed" 2)).bind λa=>Pure.pure (a==1)) w es=_∧DK w w';rw[runT_bind];simp only[choose,Sem.runT,Question.forced];exact⟨_,_,_,rfl,DK.refl⟩
 .exact jJ (m:=Pure.pure (k !=.u64)) (λw es=>.inr ⟨_,_,_,rfl,DK.refl⟩) λs=>oo _
def sG{v v':Value}(h:VR F f v v'):dF P F f Eq (asIntOf v) (asIntOf v'):=by
 obtain⟨rfl,_⟩:=h;cases v with
 |int k n=>rw[iC];exact .ret rfl
 |pointer a=>cases a<;>first|exact uu (by simp) _|exact gL _ _
 |_=>exact gL _ _
def rz{v v':Value}(h:VR F f v v'):dF P F f Eq (asInt v) (asInt v'):=by unfold asInt;exact(sG h).dL λ_=>.ret rfl
def zq{v v':Value}(h:VR F f v v'):dF P F f Eq (asBool v) (asBool v'):=by
 obtain⟨rfl,_⟩:=h;cases v with
 |bool b=>rw[jZ];exact .ret rfl
 |_=>exact gL _ _
def P6{v v':Value}(h:VR F f v v'):dF P F f (jf F f) (asAgg v) (asAgg v'):=by
 obtain⟨rfl,hs⟩:=h;cases v with
 |agg b=>rw[nX];exact .ret ⟨rfl,lV.1 hs⟩
 |_=>exact gL _ _
def nM{v v':Value}(h:VR F f v v'):dF P F f (AR F f) (Instr.sureAddr v) (Instr.sureAddr v'):=by
 obtain⟨rfl,hs⟩:=h;cases v with
 |pointer a=>cases a with
  |none=>exact gL _ _
  |some a=>rw[dX];exact .ret ⟨rfl,by simpa using hs⟩
 |_=>exact gL _ _
def Es{v v':Value}(hv:VR F f v v'):dF P F f (AR F f) (asAddr v) (asAddr v'):=by
 obtain⟨rfl,hs⟩:=hv;cases v with
 |pointer a=>cases a with
  |none=>rw[dX];exact eZ (α:=Addr) .nilDeref _
  |some a=>rw[dX];exact .ret ⟨rfl,by simpa using hs⟩
 |_=>exact gL _ _
def xP(t:TypeId){cs cs':Array Value}(h:jf F f cs cs')(off:Nat):dF P F f (VR F f) (part t cs off) (part t cs' off):=by
 unfold part;refine(He t).dL λb=>?_
 cases b
 .simp only[if_false,bC];rcases h.get off with⟨h1,h2⟩|⟨v,h1,h2,h3⟩
  .rw[h1];exact gL _ _
  .rw[h1,h2];exact .ret ⟨rfl,h3⟩
 .simp only[if_true];exact(gZ t).dL λn=>.ret (VR.agg (h.extract _ _))
def P7(h:iA P=true)(t:TypeId):dF P F f (VR F f) (Instr.alloc t true (.tuple #[])) (Instr.alloc t true (.tuple #[])):=by
 unfold Instr.alloc;refine(BK h t).bind ?_
 rintro v _⟨rfl,hv⟩;refine dF.bind (Er t hv) ?_
 rintro a _ ha;exact .ret (VR.ptr ha)
def Xu(t:TypeId){v v':Value}(hv:VR F f v v'):dF P F f (VR F f) (Instr.box t v) (Instr.box t v'):=by
 obtain⟨rfl,hs⟩:=hv;unfold Instr.box;refine dF.bind (Er t hs) ?_
 rintro a _ ha;exact .ret (VR.ptr ha)
def NK(t:TypeId){v v':Value}(hv:VR F f v v'):dF P F f (VR F f) (Instr.loadAt t v) (Instr.loadAt t v'):=by
 unfold Instr.loadAt;refine(nM hv).bind ?_
 rintro a _⟨rfl,hA⟩;exact BL t a hA
def JO(t:TypeId){v v' x x':Value}(hv:VR F f v v')(hx:VR F f x x'):dF P F f Eq (Instr.storeAt t v x) (Instr.storeAt t v' x'):=by
 obtain⟨rfl,hs⟩:=hx;unfold Instr.storeAt;refine(nM hv).bind ?_
 rintro a _⟨rfl,hA⟩;exact Hf t a hA hs
def Fy(P:Program)(t:TypeId)(i:Nat):Bool:=
 match P.underlying t with
 |some (.struct fs)=>match fs[i]? with
  |some x=>match P.info? x.type with
   |some j=>j.size !=0
   |none=>false
  |none=>false
 |_=>false
def JP{t:TypeId}{i:Nat}(ho:Fy P t i=true){v v':Value}(hv:VR F f v v'):dF P F f (VR F f) (Instr.fieldAt t v i) (Instr.fieldAt t v' i):=by
 unfold Instr.fieldAt underlying;refine dF.bind (R:= λa b=>a=b∧P.underlying t=some a) (.rq ?_) ?_
 .cases hu:P.underlying t with
  |none=>exact gL _ _
  |some d=>exact .ret ⟨rfl,rfl⟩
 rintro d _⟨rfl,hu⟩;unfold Fy at ho;rw[hu]at ho;cases d with
 |struct fs=>
  dsimp only at ho⊢;cases hf:fs[i]? with
  |none=>exact gL _ _
  |some x=>
   rw[hf]at ho;dsimp only at ho⊢;refine(nM hv).bind ?_
   rintro a _⟨rfl,hA⟩;unfold fieldPlace Go.sizeOf typeInfo;refine dF.bind (R:=AR F f) (dF.bind (R:= λm n=>m=n∧m≠0) (dF.bind (R:= λa b=>a=b∧P.info? x.type=some a) (.rq ?_) ?_) ?_) ?_
   .cases hu:P.info? x.type with
    |none=>exact gL _ _
    |some d=>exact .ret ⟨rfl,rfl⟩
   .rintro j _⟨rfl,hj⟩;rw[hj]at ho;exact .ret ⟨rfl,by simpa using ho⟩
   .rintro m _⟨rfl,hm⟩;rw[aa hm,aa hm];exact .ret ⟨(zl ..).symm,by rw[add_block'];exact hA⟩
   .rintro b _ hb;exact .ret (VR.ptr hb)
 |_=>exact gL _ _
def P8(t:TypeId){v v':Value}(hv:VR F f v v')(i:Nat):dF P F f (VR F f) (Instr.field t v i) (Instr.field t v' i):=by
 unfold Instr.field;refine(dQ t).dL λd=>?_
 cases d with
 |struct fs=>
  dsimp only;split
  .exact(P6 hv).bind λa b h=>xP _ h _
  .exact gL _ _
 |_=>exact gL _ _
def P9(t:TypeId){v v' x x':Value}(hv:VR F f v v')(hx:VR F f x x'):dF P F f (VR F f) (Instr.index t v x) (Instr.index t v' x'):=by
 unfold Instr.index;refine(sG hx).dL λki=>?_
 obtain⟨k,i⟩:=ki;refine(dQ t).dL λd=>?_
 obtain⟨rfl,hs⟩:=hv
 cases d<;>cases v<;>first
  |exact gL _ _
  |(simp only[nX];split
    .exact(gZ _).dL λn=>xP _ ⟨rfl,lV.1 hs⟩ _
    .exact jK ..)
  |(simp only[gF];split
    .exact .ret VR.int
    .exact jK ..)
def JQ(t:TypeId){v v' x x':Value}(hv:VR F f v v')(hx:VR F f x x'):dF P F f (VR F f) (Instr.indexAt t v x) (Instr.indexAt t v' x'):=by
 unfold Instr.indexAt;refine(sG hx).dL λki=>?_
 obtain⟨k,i⟩:=ki;refine(dQ t).dL λd=>?_
 dsimp only
 have Do:∀{J J':Option Addr×Nat×TypeId->Sem Value}(b:Option Addr)(len:Nat)(e:TypeId),dF P F f (VR F f) (J (b,len,e)) (J' (b.map (ra f),len,e))->
  dF P F f (VR F f) (Pure.pure (b,len,e)>>=J) (Pure.pure (b.map (ra f),len,e)>>=J'):= λb len e h=>h
 have fin:∀(tiny:Bool)(len:Nat),dF P F f (VR F f) (if tiny=true then unsupported (.noEntry "op/indexAddr.an index out of range at an array of length 0 or 1 (ledger 616)")else boundsPanic k i len .index)
  (if tiny=true then unsupported (.noEntry "op/indexAddr.an index out of range at an array of length 0 or 1 (ledger 616)")else boundsPanic k i len .index):=by
  intro tiny len;cases tiny
  .exact jK ..
  .exact .bad trivial
 cases d with
 |array len e=>
  refine(nM hv).bind ?_
  rintro a _⟨rfl,hA⟩;refine Do (some a) len e ?_
  refine(dQ t).dL λd2=>?_
  simp only[ay]
  by_cases hb:0<=i∧i<len
  .rw[aj hb,aj hb];exact(gZ e).dL λn=>.ret (VR.ptr ⟨(zl ..).symm,by rw[add_block'];first|exact hA|simpa using hs⟩)
  .rw[aa hb,aa hb];exact fin _ _
 |slice e=>
  obtain⟨rfl,hs⟩:=hv;cases v with
  |slice b len cap=>
   rw[fD];refine Do b len e ?_
   refine(dQ t).dL λd2=>?_
   cases b with
   |none=>exact jK ..
   |some a=>
    simp only[ay]
    by_cases hb:0<=i∧i<len
    .rw[aj hb,aj hb];have hA:F.A a.block=true:=(nL (by simpa using hs)).resolve_right λh=>by omega
     exact(gZ e).dL λn=>.ret (VR.ptr ⟨(zl ..).symm,by rw[add_block'];exact hA⟩)
    .rw[aa hb,aa hb];exact fin _ _
  |_=>exact .bad (vk _)
 |_=>exact .bad (vk _)
end
end
section
variable [Sh]
def PL(F:Fit)(f:Nat->Nat)(o o':Option Value):Prop:=(o=none∧o'=none)∨∃v,o=some v∧o'=some (rv f v)∧vs F v=true
section
variable {P:Program} {F:Fit} {f:Nat->Nat} {α β γ δ:Type}
def jA{v:Value}(hv:vs F v=true)(y:Nat)(c:BoundsCode):dF P F f (λa b=>a=b∧a<=y) (Instr.sliceBound v y c) (Instr.sliceBound (rv f v) y c):=by
 unfold Instr.sliceBound;refine(sG ⟨rfl,hv⟩).dL λki=>?_
 obtain⟨k,i⟩:=ki;dsimp only
 by_cases hb:0<=i∧i<=y
 .rw[aj hb];exact .ret ⟨rfl,by omega⟩
 .rw[aa hb];exact jK ..
def BdR(len cap:Nat)(a b:Nat×Nat×Nat):Prop:=a=b∧(len=0->cap=0->a.2.1=0∧a.2.2=0)
def lY(Wm:Bool)(len cap:Nat){lo hi mx lo' hi' mx':Option Value}(h1:PL F f lo lo')(h2:PL F f hi hi')(h3:PL F f mx mx'):
 dF P F f (BdR len cap) (Instr.sliceBounds Wm len cap lo hi mx) (Instr.sliceBounds Wm len cap lo' hi' mx'):=by
 unfold Instr.sliceBounds;have k0:∀n:Nat,dF P F f (λa b:Nat=>a=b∧a=n) (pure n) (pure n):= λn=>.pure ⟨rfl,rfl⟩
 rcases h3 with⟨rfl,rfl⟩|⟨m,rfl,rfl,hm⟩
 .refine dF.bind (k0 cap) ?_
  rintro m _⟨rfl,rfl⟩;rcases h2 with⟨rfl,rfl⟩|⟨v,rfl,rfl,hv⟩
  .refine dF.bind (k0 len) ?_
   rintro hh _⟨rfl,rfl⟩;rcases h1 with⟨rfl,rfl⟩|⟨v,rfl,rfl,hv⟩
   .exact dF.dL (.ret rfl) λl=>.ret ⟨rfl, λa b=>⟨a,b⟩⟩
   .exact dF.bind (jA hv ..) (by rintro l _⟨rfl,_⟩;exact .ret ⟨rfl, λa b=>⟨a,b⟩⟩)
  .refine dF.bind (jA hv ..) ?_
   rintro hh _⟨rfl,hle⟩;rcases h1 with⟨rfl,rfl⟩|⟨v,rfl,rfl,hv⟩
   .exact dF.dL (.ret rfl) λl=>.ret ⟨rfl, λa b=>⟨by dsimp only;omega,b⟩⟩
   .exact dF.bind (jA hv ..) (by rintro l _⟨rfl,_⟩;exact .ret ⟨rfl, λa b=>⟨by dsimp only;omega,b⟩⟩)
 .refine dF.bind (jA hm ..) ?_
  rintro m1 _⟨rfl,hle⟩;rcases h2 with⟨rfl,rfl⟩|⟨v,rfl,rfl,hv⟩
  .exact .bad trivial
  .refine dF.bind (jA hv ..) ?_
   rintro hh _⟨rfl,hle2⟩;rcases h1 with⟨rfl,rfl⟩|⟨v,rfl,rfl,hv⟩
   .exact dF.dL (.ret rfl) λl=>.ret ⟨rfl, λa b=>⟨by dsimp only;omega,by dsimp only;omega⟩⟩
   .exact dF.bind (jA hv ..) (by rintro l _⟨rfl,_⟩;exact .ret ⟨rfl, λa b=>⟨by dsimp only;omega,by dsimp only;omega⟩⟩)
def NL{a:Option Addr}{l0 c0:Nat}(hA:JG F a l0 c0=true)(m l n k sz:Nat)(h0:l0=0->c0=0->n=0∧k=0):VR F f (.slice (if m=l then a else a.map (·.add (l*sz))) n k) (.slice (if m=l then a.map (ra f)else(a.map (ra f)).map (·.add (l*sz))) n k):=by
 refine⟨?_,?_⟩
 .rw[fD];split
  .rfl
  .cases a<;>simp
 .rw[gY];cases a with
  |none=>split<;>rfl
  |some a=>
   have e:∀x:Addr,x.block=a.block->JG F (some x) n k=true:= λx hx=>by
    rcases nL hA with h|⟨h,h1,h2⟩
    .exact qH (by rw[uk,hx];exact h)
    .obtain⟨rfl,rfl⟩:=h0 h1 h2;unfold JG;simp[hx,h]
   split
   .exact e _ rfl
   .rw[ay];exact e _ (add_block' ..)
def vX{a:Addr}(hA:F.A a.block=true)(m l n k sz:Nat):VR F f (.slice (some (if m=l then a else a.add (l*sz))) n k) (.slice (some (if m=l then ra f a else(ra f a).add (l*sz))) n k):=by
 refine⟨?_,?_⟩
 .rw[fD];split<;>simp
 .rw[gY];refine qH ?_
  rw[uk];split
  .exact hA
  .rw[add_block'];exact hA
def Qa(t:TypeId){v v':Value}(hv:VR F f v v'){lo hi mx lo' hi' mx':Option Value}(h1:PL F f lo lo')(h2:PL F f hi hi')(h3:PL F f mx mx'):
 dF P F f (VR F f) (Instr.slice t v lo hi mx) (Instr.slice t v' lo' hi' mx'):=by
 unfold Instr.slice;have hn:PL F f none none:=.inl ⟨rfl,rfl⟩;refine(dQ t).dL λd=>?_
 obtain⟨rfl,hs⟩:=hv;cases d with
 |string=>
  cases v with
  |string s=>
   rw[gF];dsimp only;have:mx'.isSome=mx.isSome:=by rcases h3 with⟨rfl,rfl⟩|⟨m,rfl,rfl,hm⟩<;>rfl
   rw[this];cases mx.isSome
   .simp only[bC,if_false];exact(lY _ _ _ h1 h2 hn).bind (by rintro r _⟨rfl,_⟩;exact .ret VR.str)
   .exact .bad trivial
  |_=>exact .bad trivial
 |slice e=>
  cases v with
  |slice a len cap=>
   rw[fD];refine(lY _ _ _ h1 h2 h3).bind ?_
   rintro⟨l,hh,m⟩_⟨rfl,hz⟩;dsimp only at hz;exact(gZ e).dL λn=>.ret (NL (l0:=len) (c0:=cap) (by simpa using hs) _ _ _ _ _ λa b=>by obtain⟨x,y⟩:=hz a b;omega)
  |_=>exact .bad trivial
 |pointer arr=>
  have e:(match TypeDesc.pointer arr,v with | .string,.string s=>True|_,_=>True):=by cases v<;>trivial
  refine dF.bind (R:=AR F f) (?_:dF P F f (AR F f) (asAddr v) (asAddr (rv f v))) ?_
  .exact Es ⟨rfl,hs⟩
  .rintro a _⟨rfl,hA⟩;refine(dQ arr).dL λd2=>?_
   cases d2 with
   |array n e=>
    refine(lY _ _ _ h1 h2 h3).bind ?_
    rintro⟨l,hh,m⟩_⟨rfl,_⟩;exact(gZ e).dL λn=>.ret (vX hA ..)
   |_=>exact .bad trivial
 |_=>exact .bad trivial
def JR(t:TypeId){v v':Value}(hv:VR F f v v'){lo hi mx lo' hi' mx':Option Value}(h1:PL F f lo lo')(h2:PL F f hi hi')(h3:PL F f mx mx'):
 dF P F f (VR F f) (Instr.sliceAt t v lo hi mx) (Instr.sliceAt t v' lo' hi' mx'):=by
 unfold Instr.sliceAt;refine(dQ t).dL λd=>?_
 cases d with
 |array n e=>
  refine(nM hv).bind ?_
  rintro a _⟨rfl,hA⟩;refine(lY _ _ _ h1 h2 h3).bind ?_
  rintro⟨l,hh,m⟩_⟨rfl,_⟩;exact(gZ e).dL λn=>.ret (vX hA ..)
 |_=>exact Qa t hv h1 h2 h3
def jf.gD{z:Value}(hz:rv f z=z∧vs F z=true)(n:Nat):jf F f ((Array.range n).map (z.cells[· %z.cells.size]!)) ((Array.range n).map (z.cells[· %z.cells.size]!)):=by
 have hc:z.cells.map (rv f)=z.cells:=by rw[<-qZ,hz.1]
 have key:∀i,rv f (z.cells[i%z.cells.size]!)=z.cells[i%z.cells.size]!∧vs F (z.cells[i%z.cells.size]!)=true:=by
  intro i
  by_cases hlt:i%z.cells.size<z.cells.size
  .rw[getElem!_pos z.cells _ hlt];refine⟨?_,VS.cells hz.2 _ (Array.getElem_mem hlt)⟩;have :=congrArg (λa=>a[i%z.cells.size]?) hc;simpa[hlt]using this
  .rw[getElem!_neg z.cells _ hlt];exact⟨JJ f,JL⟩
 refine⟨?_, λx hx=>?_⟩
 .rw[Array.map_map];exact Array.map_congr_left λi _=>(key i).1.symm
 .obtain⟨i,_,rfl⟩:=Array.mem_map.1 hx;exact(key i).2
def lZ{R:γ->δ->Prop}(e:RuntimeError){k:α->Sem γ}{k':β->Sem δ}:dF P F f R (runtimePanic e>>=k) (runtimePanic e>>=k'):=
 dF.bind (R:= λ_ _=>False) (eZ e _) λ_ _ x=>x.elim
def BO(n:Nat):dF P F f Eq (askRoom n) (askRoom n):=by
 unfold askRoom;split
 .exact NJ
 .exact .ret rfl
def Fz(hz0:iA P=true)(t:TypeId){l l' c c':Value}(hl:VR F f l l')(hc:VR F f c c'):dF P F f (VR F f) (Instr.makeSlice t l c) (Instr.makeSlice t l' c'):=by
 unfold Instr.makeSlice;refine(dQ t).dL λd=>?_
 cases d with
 |slice e=>
  refine(rz hl).dL λlen=>?_
  refine(rz hc).dL λcap=>?_
  refine(iR e).dL λi=>?_
  dsimp only;split
  .split
   .exact lZ _
   .split
    .exact lZ _
    .refine dF.dL (lu _) λn=>?_
     exact lZ _
  .refine(BO _).dL λ_=>?_
   refine(gZ e).dL λsz=>?_
   split
   .rename_i hn;rw[hn];refine dF.dL (.ret rfl) λz=>?_
    refine dF.bind (R:=AR F f) (by have :=ry (P:=P) (F:=F) (f:=f) e (c:= #[]) (by intro x hx;simp at hx);rw[show Array.range 0= #[]from rfl,Array.map_empty];simpa only[Array.map_empty]using this) ?_
    rintro a _ ha;exact .ret ⟨by rw[ha.1];simp,by rw[gY];exact qH (by simpa using ha.2)⟩
   .refine(kr hz0 e).bind ?_
    rintro _ z⟨rfl,hz⟩;refine dF.bind (R:= λa b=>b=a∧a=z.cells) (.ret ⟨rfl,rfl⟩) ?_
    rintro _ _⟨rfl,rfl⟩;have hz':=jf.gD (F:=F) (f:=f) hz ((IntKind.i64.wrap cap).toNat*sz);refine dF.bind (R:=AR F f) (by have :=ry (P:=P) (F:=F) (f:=f) e hz'.2;rw[<-hz'.1]at this;exact this) ?_
    rintro a _ ha;exact .ret ⟨by rw[ha.1];simp,by rw[gY];exact qH (by simpa using ha.2)⟩
 |_=>exact .bad trivial
def Bo{place:Nat->Option (Nat×Nat)}:∀(l l':List (Nat×Value)){c c':Array Value},jf F f c c'->l'=l.map (λx=>(x.1,rv f x.2))->(∀x∈l,vs F x.2=true)->
 (Instr.fill place c l=none∧Instr.fill place c' l'=none)∨∃a b,Instr.fill place c l=some a∧Instr.fill place c' l'=some b∧jf F f a b
 | [],_,c,c',hc,e,_=>by subst e;exact .inr ⟨c,c',rfl,rfl,hc⟩
 |(i,v)::l,_,c,c',hc,e,hs=>by
  subst e;simp only[aC,Instr.fill];cases hp:place i with
  |none=>exact .inl ⟨rfl,rfl⟩
  |some os=>
   obtain⟨off,size⟩:=os;dsimp only;rw[qZ,Array.size_map,hc.size];split
   .exact .inl ⟨rfl,rfl⟩
   .refine Bo l _ ?_ rfl λx hx=>hs x (aQ _ hx)
    have hv:=VS.cells (hs (i,v) (aP ..))
    have key:∀(xs:List (Value×Nat))(a b:Array Value),jf F f a b->(∀x∈xs,vs F x.1=true)->
     jf F f (xs.foldl (λcs (x:Value×Nat)=>cs.setIfInBounds (off+x.2) x.1) a) ((xs.map λx=>(rv f x.1,x.2)).foldl (λcs (x:Value×Nat)=>cs.setIfInBounds (off+x.2) x.1) b):=by
     intro xs
     induction xs with
     |nil=>intro a b h _;exact h
     |cons x xs ih=>
      intro a b h hx;simp only[aC,List.foldl_cons];refine ih _ _ ⟨by rw[h.1,Array.map_setIfInBounds], λy hy=>?_⟩ λy hy=>hx y (aQ _ hy)
      rcases bG hy with hy|rfl
      .exact h.2 y hy
      .exact hx x (aP ..)
    have e1:∀(c:Array Value)(a:Array Value),c.zipIdx.foldl (λcs (x:Value×Nat)=>cs.setIfInBounds (off+x.2) x.1) a=c.toList.zipIdx.foldl (λcs (x:Value×Nat)=>cs.setIfInBounds (off+x.2) x.1) a:=by intro c a;rw[<-Array.foldl_toList,Array.toList_zipIdx]
    have :=key v.cells.toList.zipIdx c c' hc (λx hx=>hv x.1 (by have :=List.mem_zipIdx hx;obtain⟨_,_,h3⟩:=this;rw[h3];simp))
    rw[show(v.cells.toList.zipIdx.map λx=>(rv f x.1,x.2))=((v.cells.map (rv f)).toList.zipIdx)from by rw[Array.toList_map,List.zipIdx_map];rfl]at this
    rw[<-e1, <-e1]at this;exact this
def Qb(hz0:iA P=true)(t:TypeId){ps ps':Array (Nat×Value)}(e:ps'=ps.map λx=>(x.1,rv f x.2))(hs:∀x∈ps,vs F x.2=true):
 dF P F f (VR F f) (Instr.build t ps) (Instr.build t ps'):=by
 unfold Instr.build;refine(kr hz0 t).bind ?_
 rintro _ z⟨rfl,hz⟩;refine(dQ t).dL λd=>?_
 have hc:jf F f z.cells z.cells:=⟨by rw[<-qZ,hz.1],VS.cells hz.2⟩;have he:ps'.toList=ps.toList.map λx=>(x.1,rv f x.2):=by rw[e];simp
 cases d with
 |struct fs=>
  dsimp only;refine dF.dL ?_ λplaces=>?_
  .have:∀l:List Field,dF P F f Eq (l.mapM λx=>(do pure (x.offset, <-Go.sizeOf x.type):Sem (Nat×Nat))) (l.mapM λx=>(do pure (x.offset, <-Go.sizeOf x.type):Sem (Nat×Nat))):=by
    intro l
    induction l with
    |nil=>rw[List.mapM_nil];exact .ret rfl
    |cons x l ih=>
     rw[List.mapM_cons];refine dF.dL ((gZ _).dL λ_=>.ret rfl) λa=>?_
     exact ih.dL λb=>.ret rfl
   rw[Array.mapM_eq_mapM_toList];exact(this fs.toList).PY λa b e=>by subst e;exact .ret rfl
  .rcases Bo (place:=(places[·]?)) ps.toList _ hc he (λx hx=>hs x (by simpa using hx))with⟨h1,h2⟩|⟨a,b,h1,h2,h3⟩
   .rw[h1,h2];exact .bad trivial
   .rw[h1,h2];exact .ret (VR.agg h3)
 |array n e=>
  dsimp only;refine(gZ e).dL λsz=>?_
  rcases Bo (place:= λi=>some (i*sz,sz)) ps.toList _ hc he (λx hx=>hs x (by simpa using hx))with⟨h1,h2⟩|⟨a,b,h1,h2,h3⟩
  .rw[h1,h2];exact .bad trivial
  .rw[h1,h2];exact .ret (VR.agg h3)
 |_=>exact .bad trivial
def Ec(hz0:iA P=true)(t:TypeId)(len:Nat){ps ps':Array (Nat×Value)}(e:ps'=ps.map λx=>(x.1,rv f x.2))(hs:∀x∈ps,vs F x.2=true):
 dF P F f (VR F f) (Instr.buildSlice t len ps) (Instr.buildSlice t len ps'):=by
 unfold Instr.buildSlice;refine(dQ t).dL λd=>?_
 have he:ps'.toList=ps.toList.map λx=>(x.1,rv f x.2):=by rw[e];simp
 cases d with
 |slice e=>
  dsimp only;refine(gZ e).dL λsz=>?_
  split
  .exact .bad trivial
  .have fin:∀{c c':Array Value},jf F f c c'->dF P F f (VR F f)
    (match Instr.fill (λi=>some (i*sz,sz)) c ps.toList with
      |some cells=>do pure (Value.slice (some (<-newRow e cells)) len len)
      |_=>stuck "buildSlice: a part of the wrong size")
    (match Instr.fill (λi=>some (i*sz,sz)) c' ps'.toList with
      |some cells=>do pure (Value.slice (some (<-newRow e cells)) len len)
      |_=>stuck "buildSlice: a part of the wrong size"):=by
    intro c c' hc;rcases Bo (place:= λi=>some (i*sz,sz)) ps.toList _ hc he (λx hx=>hs x (by simpa using hx))with⟨h1,h2⟩|⟨a,b,h1,h2,h3⟩
    .rw[h1,h2];exact .bad trivial
    .rw[h1,h2];refine dF.bind (R:=AR F f) (by have :=ry (P:=P) (F:=F) (f:=f) e h3.2;rw[<-h3.1]at this;exact this) ?_
     rintro a _ ha;exact .ret ⟨by rw[ha.1];simp,by rw[gY];exact qH (by simpa using ha.2)⟩
   split
   .rename_i hn;rw[hn];exact dF.dL (.ret rfl) λz=>fin (by rw[show Array.range 0= #[]from rfl,Array.map_empty];exact jf.nil)
   .refine(kr hz0 e).bind ?_
    rintro _ z⟨rfl,hz⟩;refine dF.bind (R:= λa b=>b=a∧a=z.cells) (.ret ⟨rfl,rfl⟩) ?_
    rintro _ _⟨rfl,rfl⟩;exact fin (jf.gD hz _)
 |_=>exact .bad trivial
end
end
section
variable [Sh]
section
variable {P:Program} {F:Fit} {f:Nat->Nat} {α β γ δ:Type}
def LZ(F:Fit)(v:Value)(n:Nat):Prop:=∀a l c,v=.slice (some a) l c->F.A a.block=true∨n=0
def Hg{v v':Value}(hv:VR F f v v'):dF P F f (λa b=>a=b∧LZ F v a) (Builtin.lenOf v) (Builtin.lenOf v'):=by
 obtain⟨rfl,hs⟩:=hv;cases v with
 |slice a n c=>
  rw[fD];refine .ret ⟨rfl, λa' l' c' e=>?_⟩;cases e;exact(nL (by simpa using hs)).imp id λh=>h.2.1
 |string s=>rw[gF];exact .ret ⟨rfl, λa l c e=>by cases e⟩
 |_=>exact .bad trivial
def qJ(sz n:Nat){v v':Value}(hv:VR F f v v')(hn:LZ F v n):dF P F f (λc c'=>jf F f c c'∧(n=0->c= #[])) (Builtin.firstCells sz n v) (Builtin.firstCells sz n v'):=by
 obtain⟨rfl,hs⟩:=hv;cases v with
 |slice a _ _=>
  rw[fD];cases a with
  |none=>exact .ret ⟨jf.nil, λ_=>rfl⟩
  |some a=>
   by_cases h0:n=0
   .subst h0;show dF P F f _ (loadCells a (0*sz)) (loadCells (ra f a) (0*sz));rw[Nat.zero_mul];exact .ret ⟨jf.nil, λ_=>rfl⟩
   .exact(xN a ((hn _ _ _ rfl).resolve_right h0) _).mono λ_ _ h=>⟨h, λh=>absurd h h0⟩
 |string s=>
  rw[gF];refine .ret ⟨⟨?_, λx hx=>?_⟩, λh=>by subst h;simp⟩
  .rw[Array.map_map];exact Array.map_congr_left λb _=>by simp
  .obtain⟨b,_,rfl⟩:=Array.mem_map.1 hx;simp
 |_=>exact .bad trivial
def FB(sz sLen n:Nat)(b:Option Addr)(x:Value)(w:World)(es:Array Event):∃r,Sem.runT P (Builtin.mayShare sz sLen n b x) w es=(.ok r w,es):=by
 have hh:∀(a:Addr)(n:Nat),∃r,Sem.runT P (Builtin.holdsCells a n) w es=(.ok r w,es):=by intro a n;unfold Builtin.holdsCells;simp only[Go.shape,Bind.bind,Sem.bind,Sem.runT];cases w.shape? a.block<;>exact⟨_,rfl⟩
 have step:∀{γ δ:Type}{m:Sem γ}{k:γ->Sem δ},(∃r,Sem.runT P m w es=(.ok r w,es))->(∀r,∃q,Sem.runT P (k r) w es=(.ok q w,es))->∃q,Sem.runT P (m>>=k) w es=(.ok q w,es):=by rintro γ δ m k⟨r,hr⟩hk;obtain⟨q,hq⟩:=hk r;exact⟨q,by show Sem.runT P (m.bind k) w es=_;rw[runT_bind,hr];exact hq⟩
 unfold Builtin.mayShare
 have last:∃r,Sem.runT P (match x with
  | .slice (some b') _ _=>do pure (!(<-Builtin.holdsCells b' (n*sz))||b.any (·.block==b'.block))
  |_=>pure false:Sem Bool) w es=(.ok r w,es):=by
  cases x with
  |slice a _ _=>
   cases a with
   |none=>exact⟨_,rfl⟩
   |some a=>exact step (hh a _) λr=>⟨_,rfl⟩
  |_=>exact⟨_,rfl⟩
 cases b with
 |none=>
  refine step ⟨true,rfl⟩ λr=>?_
  cases r
  .exact⟨_,rfl⟩
  .exact last
 |some a=>
  have h2:∀r:Bool,∃q,Sem.runT P (if(!r)=true then pure true else(match x with
   | .slice (some b') _ _=>do pure (!(<-Builtin.holdsCells b' (n*sz))||(some a).any (·.block==b'.block))
   |_=>pure false:Sem Bool)) w es=(.ok q w,es):=by
   intro r;cases r
   .exact⟨_,rfl⟩
   .exact last
  exact step (hh a (sLen*sz)) λr=>step (k:= λz=>_) ⟨_,rfl⟩ λz=>step (m:=Pure.pure _) ⟨_,rfl⟩ h2
def jf.zeroCells{z:Value}(hz:rv f z=z∧vs F z=true)(n:Nat):jf F f (Builtin.zeroCells z.cells n) (Builtin.zeroCells z.cells n):=jf.gD hz _
def Et(a:Addr)(hA:F.A a.block=true){c c':Array Value}(h:jf F f c c'):dF P F f Eq (storeCells a c.toList) (storeCells (ra f a) c'.toList):=by
 have :=nG (P:=P) (F:=F) (f:=f) a hA c.toList 0 λv hv=>h.2 v (by simpa using hv)
 rw[h.1,Array.toList_map];exact this
def BP(a:Addr):dF P F f Eq (storeCells a (#[]:Array Value).toList) (storeCells (ra f a) ((#[]:Array Value).map (rv f)).toList):=by rw[Array.map_empty];unfold storeCells;exact .pure rfl
def NM(hz0:iA P=true)(ts:Array TypeId)(t:TypeId){aS as':Array Value}(ha:jf F f aS as'):dF P F f (VR F f) (Builtin.append_ ts t aS) (Builtin.append_ ts t as'):=by
 unfold Builtin.append_;cases hts:ts[0]? with
 |none=>exact .bad trivial
 |some sType=>
 rcases ha.get 0 with⟨h0,h0'⟩|⟨s,h0,h0',hs⟩
 .rw[h0];exact .bad trivial
 rcases ha.get 1 with⟨h1,h1'⟩|⟨x,h1,h1',hx⟩
 .rw[h0,h1];exact .bad trivial
 rw[h0,h0',h1,h1'];have hxv:VR F f x (rv f x):=⟨rfl,hx⟩;have hsv:VR F f s (rv f s):=⟨rfl,hs⟩;refine(dQ sType).dL λd=>?_
 cases d with
 |slice e=>
  cases s with
  |slice base sLen sCap=>
   rw[fD];refine(gZ e).dL λsz=>?_
   extract_lets j1 j2 Ra
   have hj2:∀gD,dF P F f (VR F f) (j2 gD) (Ra gD):=by
    intro gD;dsimp -zeta only[j2,Ra]
    extract_lets j3 Fo
    have app:∀n,(gD=false->LZ F x n)->dF P F f (λc c'=>jf F f c c'∧(n=0->c= #[])) (if(!gD)=true then Builtin.firstCells sz n x else if n*sz=0 then pure #[]else do pure (Builtin.zeroCells (<-zeroValue e).cells n))
     (if(!gD)=true then Builtin.firstCells sz n (rv f x)else if n*sz=0 then pure #[]else do pure (Builtin.zeroCells (<-zeroValue e).cells n)):=by
     intro n hlo;cases gD
     .exact qJ sz n hxv (hlo rfl)
     .simp only[Bool.not_true,bC,if_false];split
      .exact .ret ⟨jf.nil, λ_=>rfl⟩
      .rename_i hne;refine(kr hz0 e).bind ?_
       rintro _ z⟨rfl,hz⟩;exact .ret ⟨jf.zeroCells hz n, λh=>absurd (by rw[h,Nat.zero_mul]) hne⟩
    have hj3:∀n,(gD=false->LZ F x n)->dF P F f (VR F f) (j3 n) (Fo n):=by
     intro n hlo;dsimp -zeta only[j3,Fo]
     extract_lets ap need j6 j5 j4 bp j6' ep fp
     have Wn:dF P F f (λc c'=>jf F f c c'∧(n=0->c= #[])) ap bp:=app n hlo;have happ:dF P F f (jf F f) ap bp:=Wn.mono λ_ _ h=>h.1
     by_cases hn:need<=sCap
     .rw[aj hn,aj hn];refine Wn.bind ?_
      rintro c c'⟨hc,hc0⟩;dsimp only[j6,j6'];cases base with
      |none=>exact .ret ⟨by simp,by simp⟩
      |some a=>
       simp only[ay];rw[<-zl];rcases nL (by simpa using hs)with hA|⟨hh,h1,h2⟩
       .exact(Et _ (by rw[add_block'];exact hA) hc).dL λ_=>.ret ⟨by simp,by rw[gY];exact qH hA⟩
       .have hn0:n=0:=by have hn:sLen+n<=sCap:=hn;omega
        have hc1:=hc.1;rw[hc0 hn0]at hc1⊢;subst hc1;have hl:need=0:=by show sLen+n=0;omega
        exact dF.dL (show dF P F f Eq (storeCells (a.add (sLen*sz)) (#[]:Array Value).toList) (storeCells (ra f (a.add (sLen*sz))) ((#[]:Array Value).map (rv f)).toList)from BP _) λ_=>.ret ⟨by simp,by rw[gY,hl,h2];unfold JG;simp[hh]⟩
     .rw[aa hn,aa hn];refine(iR e).dL λi=>?_
      have hj4:∀u,dF P F f (VR F f) (j4 u) (fp u):=by
       intro u;dsimp -zeta only[j4,fp];refine(iR e).dL λi=>?_
       have hj5:∀u,dF P F f (VR F f) (j5 u) (ep u):=by
        intro u;dsimp only[j5,ep];refine(lu _).dL λnewCap=>?_
        refine(iR e).dL λi=>?_
        refine(BO _).dL λ_=>?_
        refine dF.bind (R:= λc c'=>jf F f c c'∧(sLen=0->c= #[])) (by have :=qJ (P:=P) (F:=F) (f:=f) sz sLen hsv (λa l c e=>by cases e;exact(nL (by simpa using hs)).imp id λh=>h.2.1);rwa [fD]at this) ?_
        rintro o o'⟨ho,_⟩;refine happ.bind ?_
        rintro c c' hc;refine(kr hz0 e).bind ?_
        rintro _ z⟨rfl,hz⟩;have hall:=(ho.append hc).append (jf.zeroCells (F:=F) (f:=f) hz (newCap-need));refine dF.bind (R:=AR F f) (by have :=ry (P:=P) (F:=F) (f:=f) e hall.2;rw[<-hall.1]at this;exact this) ?_
        rintro a _ ha;exact .ret ⟨by rw[ha.1];simp,by rw[gY];exact qH (by simpa using ha.2)⟩
       split
       .refine dF.bind (R:= λ_ _=>False) ?_ λ_ _ x=>x.elim
        cases gD
        .refine .lW λw es=>?_
         obtain⟨r,hr⟩:=FB (P:=P) sz sLen n base x w es;simp only[bC,if_false];have:∀{γ δ:Type}(m:Sem γ)(k:γ->Sem δ),(m>>=k)=m.bind k:= λ_ _=>rfl
         rw[this,runT_bind,hr];cases r
         .exact⟨_,_,_,rfl,trivial,DK.refl⟩
         .exact⟨_,_,_,rfl,trivial,DK.refl⟩
        .simp only[if_true];exact eZ _ _
       .exact hj5 ()
      split
      .exact dF.bind (R:= λ_ _=>False) (eZ _ _) λ_ _ x=>x.elim
      .exact hj4 ()
    cases gD
    .simp only[bC,if_false];refine(Hg hxv).bind ?_
     rintro n _⟨rfl,hlo⟩;exact hj3 n λ_=>hlo
    .simp only[if_true];refine(rz hxv).dL λl=>?_
     split
     .exact lZ _
     .refine(iR e).dL λi=>?_
      split
      .exact(lu _).dL λm=>lZ _
      .exact hj3 _ λh=>by cases h
   cases ts[1]? with
   |none=>exact hj2 false
   |some xt=>exact(dQ xt).dL λd=>hj2 _
  |_=>exact .bad trivial
 |_=>exact .bad trivial
def Uo(ts:Array TypeId)(t:TypeId){aS as':Array Value}(ha:jf F f aS as'):dF P F f (VR F f) (Builtin.copy_ ts t aS) (Builtin.copy_ ts t as'):=by
 unfold Builtin.copy_;cases hts:ts[0]? with
 |none=>exact .bad trivial
 |some sType=>
 rcases ha.get 0 with⟨h0,h0'⟩|⟨s,h0,h0',hs⟩
 .rw[h0];exact .bad trivial
 rcases ha.get 1 with⟨h1,h1'⟩|⟨x,h1,h1',hx⟩
 .rw[h0,h1];exact .bad trivial
 rw[h0,h0',h1,h1'];have hxv:VR F f x (rv f x):=⟨rfl,hx⟩;refine(dQ sType).dL λd=>?_
 cases d with
 |slice e=>
  cases s with
  |slice base dLen dCap=>
   rw[fD];refine(Hg hxv).bind ?_
   rintro n _⟨rfl,hlo⟩;dsimp only;refine(gZ e).dL λsz=>?_
   refine(qJ sz _ hxv λa l c e=>(hlo a l c e).imp id λh=>by rw[h];exact Nat.zero_min _).bind ?_
   rintro c c'⟨hc,hc0⟩;cases base with
   |none=>exact .ret VR.goInt
   |some a=>
    rcases nL (by simpa using hs)with hA|⟨_,h1,_⟩
    .exact(Et a hA hc).dL λ_=>.ret VR.goInt
    .have hc1:=hc.1;rw[hc0 (by rw[h1];exact Nat.min_zero _)]at hc1⊢;subst hc1;exact dF.dL (show dF P F f Eq (storeCells a (#[]:Array Value).toList) (storeCells (ra f a) ((#[]:Array Value).map (rv f)).toList)from BP _) λ_=>.ret VR.goInt
  |_=>exact .bad trivial
 |_=>exact .bad trivial
def Xv(ts:Array TypeId)(t:TypeId){aS as':Array Value}(ha:jf F f aS as'):dF P F f (VR F f) (Builtin.len_ ts t aS) (Builtin.len_ ts t as'):=by
 unfold Builtin.len_;cases hts:ts[0]? with
 |none=>exact .bad trivial
 |some sType=>
 rcases ha.get 0 with⟨h0,h0'⟩|⟨s,h0,h0',hs⟩
 .rw[h0];exact .bad trivial
 rw[h0,h0'];refine(dQ sType).dL λd=>?_
 cases d with
 |string=>cases s<;>first|exact .bad trivial|(rw[gF];exact .ret VR.goInt)
 |array n e=>exact .ret VR.goInt
 |pointer e=>
  refine(dQ e).dL λd=>?_
  cases d<;>first|exact .bad trivial|exact .ret VR.goInt
 |slice e=>cases s<;>first|exact .bad trivial|(rw[fD];exact .ret VR.goInt)
 |map k e=>
  cases s with
  |map r=>
   rw[nW];cases r with
   |none=>exact .ret VR.goInt
   |some r=>
    refine(jc r (by simpa using hs)).bind ?_
    rintro o _⟨rfl,h1,h2⟩;cases o<;>first|exact .bad trivial|(exact .ret ⟨by simp[goInt],by simp[goInt]⟩)
  |_=>exact .bad trivial
 |chan k e=>
  cases s with
  |chan r=>
   rw[su];cases r with
   |none=>exact .ret VR.goInt
   |some r=>
    simp at hs
  |_=>exact .bad trivial
 |_=>exact .bad trivial
def Xw(ts:Array TypeId)(t:TypeId){aS as':Array Value}(ha:jf F f aS as'):dF P F f (VR F f) (Builtin.cap_ ts t aS) (Builtin.cap_ ts t as'):=by
 unfold Builtin.cap_;cases hts:ts[0]? with
 |none=>exact .bad trivial
 |some sType=>
 rcases ha.get 0 with⟨h0,h0'⟩|⟨s,h0,h0',hs⟩
 .rw[h0];exact .bad trivial
 rw[h0,h0'];refine(dQ sType).dL λd=>?_
 cases d with
 |array n e=>exact .ret VR.goInt
 |pointer e=>
  refine(dQ e).dL λd=>?_
  cases d<;>first|exact .bad trivial|exact .ret VR.goInt
 |slice e=>cases s<;>first|exact .bad trivial|(rw[fD];exact .ret VR.goInt)
 |chan k e=>
  cases s with
  |chan r=>
   rw[su];cases r with
   |none=>exact .ret VR.goInt
   |some r=>
    simp at hs
  |_=>exact .bad trivial
 |_=>exact .bad trivial
def nN(op:BinOp)(x y:ByteArray):dF P F f (VR F f) (Op.stringOp op x y) (Op.stringOp op x y):=by
 unfold Op.stringOp;cases op<;>first|exact .bad trivial|exact .ret VR.bool|skip
 dsimp only;split
 .exact .bad trivial
 .exact .ret VR.str
def Uq{v v' x x':Value}(hv:VR F f v v')(hx:VR F f x x'):dF P F f (VR F f) (Builtin.max2 v x) (Builtin.max2 v' x'):=by
 obtain⟨rfl,hs⟩:=hv;obtain⟨rfl,hs'⟩:=hx;cases v with
 |int k a=>
  cases x with
  |int k' b=>simp only[iC];exact .ret VR.int
  |pointer a=>cases a<;>exact .bad trivial
  |_=>exact .bad trivial
 |float k a=>simp at hs
 |string a=>
  cases x with
  |string b=>
   simp only[gF];exact(nN .geq a b).bind λc c' hc=>(zq hc).dL λt=>.ret VR.str
  |pointer a=>cases a<;>exact .bad trivial
  |_=>exact .bad trivial
 |pointer p=>
  cases p with
  |some p=>exact .bad trivial
  |none=>
   cases x with
   |pointer a=>cases a<;>exact .bad trivial
   |_=>exact .bad trivial
 |_=>
  cases x with
  |pointer a=>cases a<;>exact .bad trivial
  |_=>exact .bad trivial
def Ur{v v' x x':Value}(hv:VR F f v v')(hx:VR F f x x'):dF P F f (VR F f) (Builtin.min2 v x) (Builtin.min2 v' x'):=by
 obtain⟨rfl,hs⟩:=hv;obtain⟨rfl,hs'⟩:=hx;cases v with
 |int k a=>
  cases x with
  |int k' b=>simp only[iC];exact .ret VR.int
  |pointer a=>cases a<;>exact .bad trivial
  |_=>exact .bad trivial
 |float k a=>simp at hs
 |string a=>
  cases x with
  |string b=>
   simp only[gF];exact(nN .leq a b).bind λc c' hc=>(zq hc).dL λt=>.ret VR.str
  |pointer a=>cases a<;>exact .bad trivial
  |_=>exact .bad trivial
 |pointer p=>
  cases p with
  |some p=>exact .bad trivial
  |none=>
   cases x with
   |pointer a=>cases a<;>exact .bad trivial
   |_=>exact .bad trivial
 |_=>
  cases x with
  |pointer a=>cases a<;>exact .bad trivial
  |_=>exact .bad trivial
def BQ{g:Value->Value->Sem Value}(hg:∀{v v' x x':Value},VR F f v v'->VR F f x x'->dF P F f (VR F f) (g v x) (g v' x')):
 ∀(l:List Value){v v':Value},VR F f v v'->(∀x∈l,vs F x=true)->dF P F f (VR F f) (l.foldlM g v) ((l.map (rv f)).foldlM g v')
 | [],_,_,hv,_=>by rw[List.map_nil,List.foldlM_nil,List.foldlM_nil];exact .ret hv
 |x::l,_,_,hv,hl=>by rw[aC,List.foldlM_cons,List.foldlM_cons];exact(hg hv ⟨rfl,hl x (aP ..)⟩).bind λa b h=>BQ hg l h λy hy=>hl y (aQ _ hy)
def Xx(ts:Array TypeId)(t:TypeId){aS as':Array Value}(ha:jf F f aS as'):dF P F f (VR F f) (Builtin.max_ ts t aS) (Builtin.max_ ts t as'):=by
 unfold Builtin.max_;rw[ha.1,Array.toList_map];have hs:∀x∈aS.toList,vs F x=true:= λx hx=>ha.2 x (by simpa using hx)
 generalize aS.toList=l at hs;cases l with
 |nil=>exact .bad trivial
 |cons x l=>exact BQ Uq l ⟨rfl,hs x (aP ..)⟩ λy hy=>hs y (aQ _ hy)
def Xy(ts:Array TypeId)(t:TypeId){aS as':Array Value}(ha:jf F f aS as'):dF P F f (VR F f) (Builtin.min_ ts t aS) (Builtin.min_ ts t as'):=by
 unfold Builtin.min_;rw[ha.1,Array.toList_map];have hs:∀x∈aS.toList,vs F x=true:= λx hx=>ha.2 x (by simpa using hx)
 generalize aS.toList=l at hs;cases l with
 |nil=>exact .bad trivial
 |cons x l=>exact BQ Ur l ⟨rfl,hs x (aP ..)⟩ λy hy=>hs y (aQ _ hy)
def Af(op:BinOp)(k:IntKind)(x y:Int):dF P F f (VR F f) (Op.intArith op k x y) (Op.intArith op k x y):=by unfold Op.intArith;cases op<;>first|exact .bad trivial|exact .ret VR.int
def NN(op:BinOp)(k:IntKind)(x y:Int):dF P F f (VR F f) (Op.intDiv op k x y) (Op.intDiv op k x y):=by
 unfold Op.intDiv;split
 .exact eZ _ _
 .cases op<;>first|exact .bad trivial|exact .ret VR.int
def BS(op:BinOp)(k:IntKind)(x y:Int):dF P F f (VR F f) (Op.intBits op k x y) (Op.intBits op k x y):=by unfold Op.intBits;cases op<;>first|exact .bad trivial|exact .ret VR.int
def NP(op:BinOp)(x y:Int):dF P F f (VR F f) (Op.intCmp op x y) (Op.intCmp op x y):=by unfold Op.intCmp;cases op<;>first|exact .bad trivial|exact .ret VR.bool
def Qc(op:BinOp)(k yk:IntKind)(x y:Int):dF P F f (VR F f) (Op.shift op k x yk y) (Op.shift op k x yk y):=by
 unfold Op.shift;split
 .exact eZ _ _
 .cases op<;>first|exact .bad trivial|exact .ret VR.int
def Qd(op:UnOp){v v':Value}(hv:VR F f v v'):dF P F f (VR F f) (Op.unary op v) (Op.unary op v'):=by
 obtain⟨rfl,hs⟩:=hv;cases v with
 |int k n=>rw[iC];cases op<;>simp only[Op.unary]<;>first|exact .bad trivial|exact Af .. |exact BS ..
 |float k n=>simp at hs
 |complex k n m=>simp at hs
 |bool b=>rw[jZ];cases op<;>first|exact .bad trivial|exact .ret VR.bool
 |pointer a=>cases a<;>cases op<;>exact .bad trivial
 |_=>cases op<;>exact .bad trivial
end
end
section
variable [Sh]
section
variable {P:Program} {F:Fit} {f:Nat->Nat} {α β γ δ:Type}
def eU(t:TypeId):dF P F f (λa b=>a=b∧P.underlying t=some a) (underlying t) (underlying t):=by
 unfold underlying;refine .rq ?_
 cases hu:P.underlying t with
 |none=>exact gL _ _
 |some d=>exact .ret ⟨rfl,rfl⟩
def ShR(r:Nat)(s s':Option (TypeId×Nat)):Prop:=(s=s'∧(Sh.lk r=true->s=none))∨(Sh.lk r=true∧∃n x,s=some (Sh.bad,n)∧s'=some x)
def uw(r:Nat)(hA:F.A r=true):dF P F f (ShR r) (Go.shape r) (Go.shape (f r)):=.shape hA (λ_ h=>.pure (.inl ⟨rfl,h⟩)) λh n s=>.pure (.inr ⟨h,n,s,rfl,rfl⟩)
def ShR.eq{r:Nat}{s s':Option (TypeId×Nat)}(h:ShR r s s')(hl:Sh.lk r=false):s'=s:=by
 rcases h with⟨rfl,_⟩|⟨h,_⟩
 .rfl
 .rw[hl]at h;cases h
def Eu(r:Nat)(hA:F.A r=true):dF P F f (λa b=>a=none∧b=none) (viewAt r) (viewAt (f r)):=by
 unfold viewAt;refine(uw r hA).bind ?_
 rintro s s'(⟨rfl,_⟩|⟨_,n,x,rfl,rfl⟩)
 rotate_left
 .exact .ret ⟨rfl,rfl⟩
 split
 .exact .ret ⟨rfl,rfl⟩
 .refine(jc r hA).bind ?_
  rintro o _⟨rfl,h1,h2⟩;cases o<;>first|exact h1.elim|exact .ret ⟨rfl,rfl⟩
def Ai(r:Nat)(hA:F.A r=true):dF P F f (λa b=>(a=none∧b=none)∨(Sh.lk r=false∧∃x l,a=some (x,l)∧b=some (ra f x,l)∧F.A x.block=true)) (numberAt r) (numberAt (f r)):=by
 unfold numberAt;refine(uw r hA).bind ?_
 rintro s s'(⟨rfl,_⟩|⟨_,n,x,rfl,rfl⟩)
 rotate_left
 .exact .ret (.inl ⟨rfl,rfl⟩)
 split
 .exact .ret (.inl ⟨rfl,rfl⟩)
 .refine(JN r hA).bind ?_
  rintro o _⟨rfl,h1,h2,h3⟩;cases o<;>first|exact h1.elim|exact .ret (.inl ⟨rfl,rfl⟩)|exact .ret (.inr ⟨h3,_,_,rfl,rfl,h1⟩)
def mW(a:Addr)(hA:F.A a.block=true):dF P F f (λx y=>AR F f x.1 y.1∧x.2=y.2∧(Sh.lk a.block=true->x.1=a)) (behindNumber a) (behindNumber (ra f a)):=by
 unfold behindNumber;refine(Ai a.block hA).bind ?_
 rintro x y(⟨rfl,rfl⟩|⟨hl,x,l,rfl,rfl,h⟩)
 .exact .ret ⟨⟨rfl,hA⟩,rfl, λ_=>rfl⟩
 .exact .ret ⟨⟨rfl,h⟩,rfl, λh=>by rw[hl]at h;cases h⟩
def jw(a:Addr)(hA:F.A a.block=true):dF P F f (λx y=>AR F f x.1 y.1∧x.2=y.2) (behindNumber a) (behindNumber (ra f a)):=(mW a hA).mono λ_ _ h=>⟨h.1,h.2.1⟩
def NQ(a:Addr)(hA:F.A a.block=true):dF P F f Eq (noView a) (noView (ra f a)):=by
 unfold noView;refine(Eu a.block hA).bind ?_
 rintro x y⟨rfl,rfl⟩;exact .ret rfl
def rA(a:Addr)(hA:F.A a.block=true)(hl:Sh.lk a.block=false):dF P F f Eq (byteOf a) (byteOf (ra f a)):=by
 unfold byteOf;simp only[LQ];cases a.spot with
 |some s=>exact .ret rfl
 |none=>
  dsimp only;refine .rq ?_ (λQ hQ=>by simp only[hQ.cellsOf,hQ.byteOfCell,hQ.depth,hQ.bytesOf])
  refine(NQ a hA).dL λ_=>?_
  refine(uw a.block hA).bind ?_
  intro s s' hs';obtain rfl:=(hs'.eq hl).symm;clear hs';cases s with
  |none=>exact .bad trivial
  |some s=>
   obtain⟨e,n⟩:=s;simp only[Fu,Sh.Xp _ hl,aH];split
   .exact .ret rfl
   .split
    .exact .ret rfl
    .exact .bad trivial
def Rn.Qe(h:Rn P f)(b:Nat)(hb:Sh.lk b=false):(f b≥ P.globals.size↔b≥ P.globals.size)∧(f b<P.globals.size↔b<P.globals.size):=by
 have key:b<P.globals.size->f b=b:= λx=>h.ja b (Nat.le_of_lt x)
 have ip:f b<P.globals.size->b<P.globals.size:= λx=>by have h1:=h.ja (f b) (Nat.le_of_lt x);have :=h.inj _ _ (h.ZN _ (Nat.le_of_lt x)) (LM hb) h1;omega
 constructor
 .constructor
  .intro x;rcases bq b P.globals.size with h1|h1
   .rw[key h1]at x;omega
   .exact h1
  .intro x;rcases bq (f b) P.globals.size with h1|h1
   .have :=ip h1;omega
   .exact h1
 .exact⟨ip, λx=>by rw[key x];exact x⟩
def Rn.ge(h:Rn P f)(b:Nat)(hb:Sh.lk b=true):b≥ P.globals.size:=by
 rcases bq b P.globals.size with h1|h1
 .rw[h.ZN b (Nat.le_of_lt h1)]at hb;cases hb
 .exact h1
def xQ(h:Rn P f)(a b:Addr)(hA:F.A a.block=true)(hB:F.A b.block=true):dF P F f Eq (Op.twoPlaces a b) (Op.twoPlaces (ra f a) (ra f b)):=by
 unfold Op.twoPlaces;refine .rq ?_
 by_cases hc:a.block=b.block∧a.block<P.globals.size
 .have hla:Sh.lk a.block=false:=h.ZN _ (Nat.le_of_lt hc.2);have hlb:Sh.lk b.block=false:=hc.1 ▸ hla;have e1:(f a.block !=f b.block)=(a.block !=b.block):=by simp[hc.1]
  have e2:(f a.block≥ P.globals.size)↔a.block≥ P.globals.size:=(h.Qe _ hla).1;simp only[qW,e1,e2];split
  .exact .bad trivial
  .refine(rA a hA hla).dL λx=>?_
   exact(rA b hB hlb).dL λy=>.ret rfl
 .rw[aj (by
   simp only[bne_iff_ne,Bool.or_eq_true,decide_eq_true_eq]
   by_cases e:a.block=b.block
   .exact .inr (Nat.le_of_not_lt λx=>hc ⟨e,x⟩)
   .exact .inl e)]
  exact .bad trivial
def JS(h:Rn P f)(k:IntKind){a a' b b':Addr}(ha:AR F f a a')(hb:AR F f b b'):dF P F f (VR F f) (Op.addrSub k a b) (Op.addrSub k a' b'):=by obtain⟨rfl,hA⟩:=ha;obtain⟨rfl,hB⟩:=hb;unfold Op.addrSub;exact(xQ h a b hA hB).dL λx=>.ret VR.int
def JU(h:Rn P f)(op:BinOp){a a' b b':Addr}(ha:AR F f a a')(hb:AR F f b b'):dF P F f (VR F f) (Op.addrCmp op a b) (Op.addrCmp op a' b'):=by
 obtain⟨rfl,hA⟩:=ha;obtain⟨rfl,hB⟩:=hb;unfold Op.addrCmp;refine(xQ h a b hA hB).dL λx=>?_
 cases op<;>first|exact .ret VR.bool|exact .bad trivial
def AZ{e:TypeId}(hb:P.info? e=none)(k:TypeInfo->Sem α)(m':Sem β){R:α->β->Prop}:dF P F f R (typeInfo e>>=k) m':=by
 refine .lW λw es=>?_
 refine⟨.stuck "no such type",w,es,?_,trivial,DK.refl⟩;show Sem.runT P ((typeInfo e).bind k) w es=_;rw[runT_bind];unfold typeInfo;simp only[program,Bind.bind,Sem.bind,Sem.runT,hb];rfl
def BU(h:Rn P f)(k:IntKind){a a':Addr}(ha:AR F f a a')(n:Int):dF P F f (VR F f) (Op.addrMod k a n) (Op.addrMod k a' n):=by
 obtain⟨rfl,hA⟩:=ha;unfold Op.addrMod;refine(uw a.block hA).bind ?_
 rintro s s' hs;cases hl:Sh.lk a.block with
 |true=>
  rcases hs with⟨rfl,h0⟩|⟨_,m,x,rfl,rfl⟩
  .rw[h0 hl];exact .bad trivial
  .exact AZ (h.bad _ hl) _ _
 |false=>
  obtain rfl:=(hs.eq hl).symm;cases s with
  |none=>exact .bad trivial
  |some s=>
   obtain⟨e,c⟩:=s;refine(iR e).dL λi=>?_
   dsimp only;split
   .exact .bad trivial
   .exact(rA a hA hl).dL λy=>.ret VR.int
def sH(h:Rn P f)(ts:Array TypeId)(t:TypeId){p p' y y':Value}(hp:VR F f p p')(hy:VR F f y y'):dF P F f (VR F f) (Builtin.unsafeAdd_ ts t #[p,y]) (Builtin.unsafeAdd_ ts t #[p',y']):=by
 obtain⟨rfl,hs⟩:=hp;unfold Builtin.unsafeAdd_;cases p with
 |pointer a=>
  rw[dX];refine(rz hy).dL λn=>?_
  by_cases h0:n=0
  .rw[aj h0,aj h0];cases a with
   |none=>exact .bad trivial
   |some a=>
    refine(Eu a.block (by simpa using hs)).bind ?_
    rintro x y⟨rfl,rfl⟩;exact .ret ⟨by simp,hs⟩
  .rw[aa h0,aa h0]
   by_cases h1:n<0
   .rw[aj h1];exact .bad trivial
   .rw[aa h1,aa h1];cases a with
    |none=>exact .bad trivial
    |some a=>
     refine(uw a.block (by simpa using hs)).bind ?_
     intro s s' hss;cases hl:Sh.lk a.block with
     |true=>
      rcases hss with⟨rfl,h0⟩|⟨_,m,x,rfl,rfl⟩
      .rw[h0 hl];exact .bad trivial
      .have h3:P.cellsOf Sh.bad=0:=by unfold Program.cellsOf;rw[h.bad _ hl];rfl
       refine .lW λw es=>?_
       refine⟨.unsupported (.unsafePointer "Add"),w,es,?_,trivial,DK.refl⟩;simp only[program,Bind.bind,Sem.bind,Sem.runT,cellAtBytes,h3];rfl
     |false=>
      obtain rfl:=(hss.eq hl).symm;cases s with
      |none=>exact .bad trivial
      |some s=>
       obtain⟨e,c⟩:=s;refine .rq ?_ (λQ hQ=>by simp only[hQ.cellsOf,hQ.byteOfCell,hQ.depth,hQ.bytesOf,hQ.info,hQ.cellAtBytes])
       simp only[Fu,Sh.Xp _ hl,aH];split
       .exact .ret ⟨by simp[ra,Sh.Xp _ hl],by simpa using hs⟩
       .exact .bad trivial
 |_=>exact .bad trivial
def Hl{a a':Addr}(ha:AR F f a a')(l:Bool):dF P F f (VR F f) (asNumber a l) (asNumber a' l):=by
 obtain⟨rfl,hA⟩:=ha;unfold asNumber;refine dF.bind (oI (o:=.number a l) hA) ?_
 rintro r _⟨rfl,hr,hl⟩;exact .ret ⟨by simp[BJ hl],by simpa using hr⟩
def jL(h:Rn P f)(t:TypeId){x x' y y':Value}(hx:VR F f x x')(hy:VR F f y y'):dF P F f (VR F f) (movedNumber t x y) (movedNumber t x' y'):=by
 unfold movedNumber;refine(dQ t).dL λd=>?_
 obtain⟨rfl,hs⟩:=hx;cases x with
 |pointer a=>
  cases a with
  |none=>
   have hn0:VR F f (.pointer none) (.pointer none):=⟨by simp,by simp⟩;rw[dX];cases d
   case unsafePointer=>exact .bad trivial
   all_goals exact sH h #[] t hn0 hy
  |some n=>
   rw[dX];cases d
   case unsafePointer=>exact .bad trivial
   all_goals
    refine(jw n (by simpa using hs)).bind ?_
    rintro⟨a,l⟩⟨a',l'⟩⟨h1,rfl⟩;refine(sH h _ _ (VR.ptr h1) hy).bind ?_
    rintro v _⟨rfl,hv⟩;cases v with
    |pointer b=>
     cases b with
     |none=>rw[dX];exact .ret ⟨by simp,by simp⟩
     |some b=>rw[dX];exact Hl ⟨rfl,by simpa using hv⟩ l
    |_=>exact .ret ⟨rfl,hv⟩
 |_=>cases d<;>unfold Builtin.unsafeAdd_<;>exact .bad trivial
def A7(h:Rn P f)(t:TypeId){x x' y y':Value}(hx:VR F f x x')(hy:VR F f y y'):dF P F f (VR F f) (movedPointer t x y) (movedPointer t x' y'):=by
 unfold movedPointer;have last:=sH (P:=P) h #[] t hx hy;obtain⟨rfl,hs⟩:=hx;cases x with
 |pointer a=>
  cases a with
  |none=>exact last
  |some n=>
   refine(Ai n.block (by simpa using hs)).bind ?_
   rintro p q(⟨rfl,rfl⟩|⟨_,x,l,rfl,rfl,_⟩)
   .exact last
   .exact .bad trivial
 |_=>exact last
def Wo(P:Program):Nat->TypeId->Bool
 |0,_=>false
 |n+1,t=>match P.underlying t with
  |some .bool|some (.int _)|some .string|some (.slice _)|some (.map ..)|some (.func ..)=>true
  |some (.struct fs)=>!P.stoodInHeld t&&fs.all λx=>Wo P n x.type
  |_=>false
def BV{σ γ:Type}{b b':γ->σ->Sem (ForInStep σ)}:∀(l:List γ)(s:σ),(∀a∈l,∀s,dF P F f Eq (b a s) (b' a s))->dF P F f Eq (forIn l s b) (forIn l s b')
 | [],s,_=>by simp only[List.forIn_nil];exact .ret rfl
 |a::l,s,h=>by
  simp only[List.forIn_cons];refine(h a (aP ..) s).dL λr=>?_
  cases r with
  |done s=>exact .ret rfl
  |yield s=>exact BV l s λa ha=>h a (aQ _ ha)
def SB(f:Nat->Nat)(a b:Value):Prop:=Instr.sameBits 10000 (rv f a) (rv f b)=Instr.sameBits 10000 a b
def BX(h:Rn P f)(d:Nat){t:TypeId}{k:IntKind}(hu:P.underlying t=some (.int k)){x x' y y':Value}(hx:VR F f x x')(hy:VR F f y y'):dF P F f (λb b'=>b=b'∧(b=true->SB f y x)) (Op.equalIn (d+1) t x y) (Op.equalIn (d+1) t x' y'):=by
 unfold Op.equalIn;refine(eU t).bind ?_
 rintro u _⟨rfl,hu'⟩;rw[hu]at hu';cases hu';obtain⟨rfl,hxs⟩:=hx;obtain⟨rfl,hys⟩:=hy;cases x with
 |int k1 a=>
  cases y with
  |int k2 b=>
   simp only[iC];split
   .exact .ret ⟨rfl, λ_=>by simp[SB,Instr.sameBits]⟩
   .exact .bad trivial
  |pointer b=>
   cases b with
   |none=>exact .bad trivial
   |some b=>
    simp only[iC,dX,ay]
    by_cases ha:a=0
    .subst ha;exact .ret ⟨rfl, λh=>by cases h⟩
    .split<;>first|exact .bad trivial|(exfalso;simp_all;done)
  |_=>exact .bad trivial
 |pointer a=>
  cases a with
  |none=>cases y<;>first|exact .bad trivial|(rename_i b;cases b<;>exact .bad trivial)
  |some a=>
   cases y with
   |int k2 b=>
    simp only[iC,dX,ay]
    by_cases hb:b=0
    .subst hb;exact .ret ⟨rfl, λh=>by cases h⟩
    .split<;>first|exact .bad trivial|(exfalso;simp_all;done)
   |pointer b=>
    cases b with
    |none=>exact .bad trivial
    |some b=>
     simp only[dX,ay];refine(mW a (by simpa using hxs)).bind ?_
     rintro⟨a1,l1⟩⟨a2,l2⟩⟨⟨h1,hA⟩,h1e,jp⟩;refine(mW b (by simpa using hys)).bind ?_
     rintro⟨b1,m1⟩⟨b2,m2⟩⟨⟨h2,hB⟩,h2e,kp⟩;dsimp only at h1 h2 hA hB h1e h2e jp kp⊢;subst h1;subst h2
     by_cases hl:Sh.lk a1.block=true∨Sh.lk b1.block=true
     ·
      have hcc:∀t i,P.info? t=some i->∀u,i.desc≠ .named "sync.copyChecker" u:=hl.elim (h.cc _) (h.cc _)
      have hneg:¬(a1.block=b1.block∧a1.block<P.globals.size):=by
       rintro⟨e1,e2⟩;have h3:=h.ZN _ (Nat.le_of_lt e2);rcases hl with x|x
       .rw[h3]at x;cases x
       .rw[<-e1,h3]at x;cases x
      refine .lW λw es=>?_
      cases ht:P.info? t with
      |none=>
       refine⟨.stuck "no such type",w,es,?_,trivial,DK.refl⟩;simp only[program,Bind.bind,Sem.bind,Sem.runT,typeInfo];rw[aa (by simpa using hneg)];simp only[program,Bind.bind,Sem.bind,Sem.runT,ht];rfl
      |some i=>
       refine⟨.unsupported .addressObserved,w,es,?_,trivial,DK.refl⟩;simp only[program,Bind.bind,Sem.bind,Sem.runT,typeInfo];rw[aa (by simpa using hneg)];simp only[program,Bind.bind,Sem.bind,Sem.runT,ht];have :=hcc t i ht;show Sem.runT P (Sem.bind (Pure.pure i) _) w es=_;simp only[Pure.pure,Sem.bind]
       first
        |rfl
        |(split
          .rename_i u hu2;exact absurd hu2 (this _)
          .rfl)
     have hla:Sh.lk a1.block=false:=by simpa usingλx=>hl (.inl x)
     have hlb:Sh.lk b1.block=false:=by simpa usingλx=>hl (.inr x)
     have hlo:Sh.lk a.block=false:=by
      cases hx:Sh.lk a.block with
      |false=>rfl
      |true=>rw[<-jp hx,hla]at hx;cases hx
     have hlo2:Sh.lk b.block=false:=by
      cases hx:Sh.lk b.block with
      |false=>rfl
      |true=>rw[<-kp hx,hlb]at hx;cases hx
     have pp:∀(a1 b1:Addr),Sh.lk a1.block=false->Sh.lk b1.block=false->(ra f a1==ra f b1)=(a1==b1):=by
      intro a1 b1 hla hlb;rw[Bool.eq_iff_iff];simp only[beq_iff_eq]
      constructor
      .intro x;have h3:=congrArg Addr.block x;have h4:=congrArg Addr.off x;have h5:=congrArg Addr.spot x;simp only[qW,Fu,LQ]at h3 h4 h5;have :=h.inj _ _ hla (LM hlb) h3;have e1:Sh.sh a1.block=Sh.sh b1.block:=by rw[this]
       cases a1;cases b1;simp_all
      .intro x;rw[x]
     have hsb:SB f (.pointer (some b)) (.pointer (some a)):=by
      have :=pp a b hlo hlo2;have e:∀x y:Addr,(x==y)=(y==x):= λx y=>by rw[Bool.eq_iff_iff];simp only[beq_iff_eq];exact⟨Eq.symm,Eq.symm⟩
      simp only[SB,dX,ay,Instr.sameBits];have k1:∀x y:Addr,(some x==some y)=(x==y):= λx y=>by rw[Bool.eq_iff_iff];simp
      rw[k1,k1,e,this,e]
     refine .rq ?_
     have e1:(f a1.block==f b1.block)=(a1.block==b1.block):=by
      rw[Bool.eq_iff_iff];simp only[beq_iff_eq]
      exact⟨λx=>h.inj _ _ hla (LM hlb) x, λx=>by rw[x]⟩
     have e2:(f a1.block<P.globals.size)↔a1.block<P.globals.size:=(h.Qe _ hla).2;have e3:(ra f a1==ra f b1)=(a1==b1):=pp a1 b1 hla hlb;simp only[qW,e1,e2,e3];split
     .refine(rA a1 hA hla).dL λp=>?_
      exact(rA b1 hB hlb).dL λq=>.ret ⟨rfl, λ_=>hsb⟩
     .refine(iR t).dL λi=>?_
      split
      .split
       .exact .ret ⟨rfl, λ_=>hsb⟩
       .exact .bad trivial
      .exact .bad trivial
   |_=>exact .bad trivial
 |_=>cases y<;>first|exact .bad trivial|(rename_i b;cases b<;>exact .bad trivial)
def NS(h:Rn P f)(d:Nat){t:TypeId}{k:IntKind}(hu:P.underlying t=some (.int k)){x x' y y':Value}(hx:VR F f x x')(hy:VR F f y y'):dF P F f Eq (Op.equalIn (d+1) t x y) (Op.equalIn (d+1) t x' y'):=(BX h d hu hx hy).mono λ_ _ h=>h.1
def Hq(d:Nat){t e:TypeId}(hu:P.underlying t=some (.slice e)){x x' y y':Value}(hx:VR F f x x')(hy:VR F f y y'):dF P F f Eq (Op.equalIn (d+1) t x y) (Op.equalIn (d+1) t x' y'):=by
 unfold Op.equalIn;refine(eU t).bind ?_
 rintro u _⟨rfl,hu'⟩;rw[hu]at hu';cases hu';obtain⟨rfl,hxs⟩:=hx;obtain⟨rfl,hys⟩:=hy;cases x with
 |slice a _ _=>
  cases y with
  |slice b _ _=>
   simp only[fD];cases a with
   |none=>exact .ret (by simp)
   |some a=>cases b with
    |none=>exact .ret rfl
    |some b=>exact .bad trivial
  |_=>cases a<;>exact .bad trivial
 |_=>cases y<;>exact .bad trivial
def NT(d:Nat){t k e:TypeId}(hu:P.underlying t=some (.map k e)){x x' y y':Value}(hx:VR F f x x')(hy:VR F f y y'):dF P F f Eq (Op.equalIn (d+1) t x y) (Op.equalIn (d+1) t x' y'):=by
 unfold Op.equalIn;refine(eU t).bind ?_
 rintro u _⟨rfl,hu'⟩;rw[hu]at hu';cases hu';obtain⟨rfl,hxs⟩:=hx;obtain⟨rfl,hys⟩:=hy;cases x with
 |map a=>
  cases y with
  |map b=>
   simp only[nW];cases a with
   |none=>exact .ret (by simp)
   |some a=>cases b with
    |none=>exact .ret rfl
    |some b=>exact .bad trivial
  |_=>cases a<;>exact .bad trivial
 |_=>cases y<;>exact .bad trivial
def JV(d:Nat){t:TypeId}{a b:Array TypeId}{c:Bool}(hu:P.underlying t=some (.func a b c)){x x' y y':Value}(hx:VR F f x x')(hy:VR F f y y'):dF P F f Eq (Op.equalIn (d+1) t x y) (Op.equalIn (d+1) t x' y'):=by
 unfold Op.equalIn;refine(eU t).bind ?_
 rintro u _⟨rfl,hu'⟩;rw[hu]at hu';cases hu';obtain⟨rfl,hxs⟩:=hx;obtain⟨rfl,hys⟩:=hy;cases x<;>cases y<;>first|exact .bad trivial|(simp only[oh,kV];exact .ret rfl)
def Aj(d:Nat){t:TypeId}(hu:P.underlying t=some .bool){x x' y y':Value}(hx:VR F f x x')(hy:VR F f y y'):dF P F f (λb b'=>b=b'∧(b=true->SB f y x)) (Op.equalIn (d+1) t x y) (Op.equalIn (d+1) t x' y'):=by
 unfold Op.equalIn;refine(eU t).bind ?_
 rintro u _⟨rfl,hu'⟩;rw[hu]at hu';cases hu';obtain⟨rfl,hxs⟩:=hx;obtain⟨rfl,hys⟩:=hy;cases x<;>cases y<;>first|exact .bad trivial|(simp only[jZ];exact .ret ⟨rfl, λ_=>by simp[SB,Instr.sameBits]⟩)
def JX(d:Nat){t:TypeId}(hu:P.underlying t=some .bool){x x' y y':Value}(hx:VR F f x x')(hy:VR F f y y'):dF P F f Eq (Op.equalIn (d+1) t x y) (Op.equalIn (d+1) t x' y'):=(Aj d hu hx hy).mono λ_ _ h=>h.1
def vY(d:Nat){t:TypeId}(hu:P.underlying t=some .string){x x' y y':Value}(hx:VR F f x x')(hy:VR F f y y'):dF P F f (λb b'=>b=b'∧(b=true->SB f y x)) (Op.equalIn (d+1) t x y) (Op.equalIn (d+1) t x' y'):=by
 unfold Op.equalIn;refine(eU t).bind ?_
 rintro u _⟨rfl,hu'⟩;rw[hu]at hu';cases hu';obtain⟨rfl,hxs⟩:=hx;obtain⟨rfl,hys⟩:=hy;cases x<;>cases y<;>first|exact .bad trivial|(simp only[gF];exact .ret ⟨rfl, λ_=>by simp[SB,Instr.sameBits]⟩)
def FC(d:Nat){t:TypeId}(hu:P.underlying t=some .string){x x' y y':Value}(hx:VR F f x x')(hy:VR F f y y'):dF P F f Eq (Op.equalIn (d+1) t x y) (Op.equalIn (d+1) t x' y'):=(vY d hu hx hy).mono λ_ _ h=>h.1
def FD(d:Nat){t:TypeId}{fs:Array Field}(hu:P.underlying t=some (.struct fs))(ht:P.stoodInHeld t=false)(ih:∀fl∈fs.toList,∀{x x' y y':Value},VR F f x x'->VR F f y y'->dF P F f Eq (Op.equalIn d fl.type x y) (Op.equalIn d fl.type x' y')){x x' y y':Value}(hx:VR F f x x')(hy:VR F f y y'):dF P F f Eq (Op.equalIn (d+1) t x y) (Op.equalIn (d+1) t x' y'):=by
 unfold Op.equalIn;refine(eU t).bind ?_
 rintro u _⟨rfl,hu'⟩;rw[hu]at hu';cases hu';obtain⟨rfl,hxs⟩:=hx;obtain⟨rfl,hys⟩:=hy;cases x with
 |agg xs=>
  cases y with
  |agg ys=>
   simp only[nX];refine .rq ?_ (λQ hQ=>by simp only[hQ.stoodInHeld])
   rw[ht];simp only[bC,if_false];refine dF.dL ?_ λr=>?_
   .rw[<-Array.forIn_toList, <-Array.forIn_toList];refine BV fs.toList _ λfl hfl s=>?_
    split
    .refine(xP fl.type ⟨rfl,lV.1 hxs⟩ _).bind ?_
     intro p p' hp;refine(xP fl.type ⟨rfl,lV.1 hys⟩ _).bind ?_
     intro q q' hq;refine(ih fl hfl hp hq).dL λr=>?_
     split<;>exact .ret rfl
    .exact .ret rfl
   .split<;>exact .ret rfl
  |_=>exact .bad trivial
 |_=>cases y<;>exact .bad trivial
def BZ(h:Rn P f):∀(n d:Nat)(t:TypeId),Wo P n t=true->∀{x x' y y':Value},VR F f x x'->VR F f y y'->dF P F f Eq (Op.equalIn d t x y) (Op.equalIn d t x' y')
 |0,_,_,h0,_,_,_,_,_,_=>by cases h0
 |n+1,0,_,_,_,_,_,_,_,_=>.bad trivial
 |n+1,d+1,t,ht,x,_,y,_,hx,hy=>by
  unfold Wo at ht;cases hu:P.underlying t with
  |none=>rw[hu]at ht;cases ht
  |some u=>
   rw[hu]at ht;cases u with
   |bool=>exact JX d hu hx hy
   |string=>exact FC d hu hx hy
   |int k=>exact NS h d hu hx hy
   |slice e=>exact Hq d hu hx hy
   |map k e=>exact NT d hu hx hy
   |func a b c=>exact JV d hu hx hy
   |struct fs=>
    rw[bB,Bool.not_eq_true']at ht;exact FD d hu ht.1 (λfl hfl=>BZ h n d fl.type (aU.1 ht.2 fl (by simpa using hfl))) hx hy
   |_=>cases ht
end
end
end cS
namespace cS
open Go
section
variable [Sh]
section
variable {P:Program} {F:Fit} {f:Nat->Nat} {α β γ δ:Type}
def Qf:Operand->Bool
 | .const (.pointer none)| .const .nilIface=>true
 |_=>false
def Qg(P:Program)(t:TypeId)(x y:Operand):Bool:=
 Wo P 8 t&&!P.eqGuardType P.depth t||
 (Qf x||Qf y)&&match P.underlying t with
   |some (.pointer _)|some (.interface _)=>true
   |_=>false
def Qh(P:Program)(op:BinOp)(t:TypeId)(x y:Operand):Bool:=
 match op with
 | .eql| .neq=>Qg P t x y
 |_=>match P.underlying t with
  |some .unsafePointer=>false
  |_=>true
def zu(d:Nat)(t:TypeId):dF P F f Eq (Op.eqGuardIn (d+1) t .nilIface .nilIface) (Op.eqGuardIn (d+1) t .nilIface .nilIface):=by
 unfold Op.eqGuardIn;refine(dQ t).dL λu=>?_
 cases u<;>exact .ret rfl
def wN(d:Nat){t:TypeId}{ms:Array (String×TypeId)}(hu:P.underlying t=some (.interface ms))(a b:Array Value):
 dF P F f Eq (Op.eqGuardIn (d+1) t (.agg a) (.agg b)) (Op.eqGuardIn (d+1) t (.agg (a.map (rv f))) (.agg (b.map (rv f)))):=by
 unfold Op.eqGuardIn;refine(eU t).bind ?_
 rintro u _⟨rfl,hu'⟩;rw[hu]at hu';cases hu';exact .ret rfl
def JY{op:BinOp}{t:TypeId}{x y:Operand}(ho:Qh P op t x y=true)(a b:Value):dF P F f Eq (eqGuard op t x y a b) (eqGuard op t x y (rv f a) (rv f b)):=by
 have main:Qg P t x y=true->dF P F f Eq (eqGuard .eql t x y a b) (eqGuard .eql t x y (rv f a) (rv f b)):=by
  intro he;unfold eqGuard;simp only[Bool.not_true,bC,if_false];cases a with
  |nilIface=>
   cases b with
   |nilIface=>
    simp only[jh]
    have fin:∀c:Bool,dF P F f Eq (if c=true then Pure.pure ()else(Op.eqGuardIn Op.maxDepth t .nilIface .nilIface>>= λr=>if r=true then unsupported (.noEntry "binop/eql: two nil values of an interface type with methods, neither of them the literal nil")else Pure.pure ()))
     (if c=true then Pure.pure ()else(Op.eqGuardIn Op.maxDepth t .nilIface .nilIface>>= λr=>if r=true then unsupported (.noEntry "binop/eql: two nil values of an interface type with methods, neither of them the literal nil")else Pure.pure ())):=by
     intro c;cases c
     .refine(zu 9999 t).dL λr=>?_
      split
      .exact .bad trivial
      .exact .ret rfl
     .exact .ret rfl
    exact fin _
   |_=>exact .ret rfl
  |agg aS=>
   cases b with
   |agg bs=>
    simp only[nX];refine .rq ?_ (λQ hQ=>by simp only[hQ.eqGuardType])
    refine .rq ?_ (λQ hQ=>by simp only[hQ.depth])
    by_cases hg:P.eqGuardType P.depth t=true
    .simp only[hg,Bool.not_true,bC,if_false];unfold Qg at he;simp only[hg,Bool.not_true,Bool.and_false,Bool.false_or,bB]at he;cases hu:P.underlying t with
     |none=>rw[hu]at he;exact absurd he.2 (by simp)
     |some u=>
      rw[hu]at he;cases u with
      |interface ms=>
       refine(wN 9999 hu aS bs).dL λr=>?_
       split
       .exact .bad trivial
       .exact .ret rfl
      |pointer e=>
       exfalso
       have:∀d,P.eqGuardType d t=true->d=0:=by
        intro d hd;cases d with
        |zero=>rfl
        |succ d=>unfold Program.eqGuardType at hd;rw[hu]at hd;cases hd
       have h0:=this _ hg;have:P.depth≠0:=by unfold Program.depth;omega
       exact this h0
      |_=>exact absurd he.2 (by simp)
    .simp only[hg,Bool.not_false,if_true];exact .ret rfl
   |_=>exact .ret rfl
  |_=>cases b<;>exact .ret rfl
 cases op<;>first|exact .ret rfl|exact main ho
def xR{t:TypeId}{u:TypeDesc}(hu:P.underlying t=some u)(hk:(∃e,u=.pointer e)∨∃ms,u=.interface ms){a b:Value}(hn:a=.pointer none∨a=.nilIface∨b=.pointer none∨b=.nilIface):
 dF P F f Eq (Op.equal t a b) (Op.equal t (rv f a) (rv f b)):=by
 unfold Op.equal;show dF P F f Eq (Op.equalIn (9999+1) t a b) (Op.equalIn (9999+1) t (rv f a) (rv f b));unfold Op.equalIn;refine(eU t).bind ?_
 rintro u _⟨rfl,hu'⟩;rw[hu]at hu';cases hu';rcases hk with⟨e,rfl⟩|⟨ms,rfl⟩
 .rcases hn with rfl|rfl|rfl|rfl
  .cases b with
   |pointer b=>simp only[dX];exact .ret (by simp)
   |_=>exact .bad trivial
  .cases b<;>exact .bad trivial
  .cases a with
   |pointer a=>cases a<;>(simp only[dX];exact .ret (by simp))
   |_=>exact .bad trivial
  .cases a with
   |pointer a=>cases a<;>exact .bad trivial
   |_=>exact .bad trivial
 .rcases hn with rfl|rfl|rfl|rfl
  .cases b<;>exact .bad trivial
  .cases b<;>first|exact .bad trivial|(simp only[jh,oP];exact .ret rfl)
  .cases a<;>exact .bad trivial
  .cases a<;>first|exact .bad trivial|(simp only[jh,oP];exact .ret rfl)
def vZ(op:BinOp)(t:TypeId)(k k':IntKind)(a b:Int):dF P F f (VR F f) (binOp op t (.int k a) (.int k' b)) (binOp op t (.int k a) (.int k' b)):=by
 cases op<;>simp only[binOp]<;>first
  |exact Qc ..
  |(split
    .exact .bad trivial
    .first|exact Af .. |exact NN .. |exact BS .. |exact NP ..)
def arith:BinOp->Bool
 | .eql| .neq=>false
 |_=>true
def Ca(h:Rn P f)(op:BinOp)(ho:arith op=true)(t:TypeId)(k:IntKind)(n:Int)(p:Option Addr)(hp:Ua F p=true):
 dF P F f (VR F f) (binOp op t (.int k n) (.pointer p)) (binOp op t (.int k n) (.pointer (p.map (ra f)))):=by
 have hv:VR F f (.pointer p) (.pointer (p.map (ra f))):=⟨by simp,by simpa using hp⟩;have hi:VR F f (.int k n) (.int k n):=VR.int;cases p with
 |none=>cases op<;>first|(cases ho;done)|exact .bad trivial|exact jL h t hv hi
 |some a=>
  cases op<;>first
   |(cases ho;done)
   |exact .bad trivial
   |exact jL h t hv hi
   |(refine(jw a hp).bind ?_;rintro⟨x,l⟩⟨x',l'⟩⟨h1,rfl⟩;exact BU h k h1 _)
def Cc(h:Rn P f){op:BinOp}(ho:arith op=true)(t:TypeId)(k:IntKind)(n:Int)(p:Option Addr)(hp:Ua F p=true):
 dF P F f (VR F f) (binOp op t (.pointer p) (.int k n)) (binOp op t (.pointer (p.map (ra f))) (.int k n)):=by
 have hv:VR F f (.pointer p) (.pointer (p.map (ra f))):=⟨by simp,by simpa using hp⟩;have hi:VR F f (.int k n) (.int k n):=VR.int
 have hadd:dF P F f (VR F f) (binOp .add t (.pointer p) (.int k n)) (binOp .add t (.pointer (p.map (ra f))) (.int k n)):=by
  simp only[binOp];refine(dQ t).dL λd=>?_
  split
  .exact A7 h t hv hi
  .exact jL h t hv hi
 cases p with
 |none=>cases op<;>first|(cases ho;done)|exact hadd|exact .bad trivial|exact jL h t hv VR.int
 |some a=>
  cases op<;>first
   |(cases ho;done)
   |exact hadd
   |exact .bad trivial
   |exact jL h t hv VR.int
   |(refine(jw a hp).bind ?_;rintro⟨x,l⟩⟨x',l'⟩⟨h1,rfl⟩;exact BU h k h1 _)
def Ce(h:Rn P f){op:BinOp}(ho:arith op=true)(t:TypeId)(p q:Option Addr)(hp:Ua F p=true)(hq:Ua F q=true):
 dF P F f (VR F f) (binOp op t (.pointer p) (.pointer q)) (binOp op t (.pointer (p.map (ra f))) (.pointer (q.map (ra f)))):=by
 cases p with
 |none=>cases q<;>cases op<;>first|(cases ho;done)|exact .bad trivial
 |some a=>
  cases q with
  |none=>cases op<;>first|(cases ho;done)|exact .bad trivial
  |some b=>
   cases op<;>first
    |(cases ho;done)
    |exact .bad trivial
    |(refine(jw a hp).bind ?_
      rintro⟨x,l⟩⟨x',l'⟩⟨h1,rfl⟩;refine(jw b hq).bind ?_
      rintro⟨y,m⟩⟨y',m'⟩⟨h2,rfl⟩
      first|exact JS h _ h1 h2|exact JU h _ h1 h2)
def FE(h:Rn P f){op:BinOp}(ho:arith op=true)(t:TypeId){a a' b b':Value}(ha:VR F f a a')(hb:VR F f b b'):dF P F f (VR F f) (binOp op t a b) (binOp op t a' b'):=by
 obtain⟨rfl,hs⟩:=ha;obtain⟨rfl,hs'⟩:=hb;cases a with
 |int k n=>
  cases b with
  |int k' m=>simp only[iC];exact vZ ..
  |pointer p=>simp only[iC,dX];exact Ca h op ho t k n p (by simpa using hs')
  |_=>cases op<;>first|(cases ho;done)|exact .bad trivial
 |string s=>
  cases b with
  |string s'=>simp only[gF];cases op<;>first|(cases ho;done)|(simp only[binOp];exact nN ..)
  |pointer p=>cases p<;>cases op<;>first|(cases ho;done)|exact .bad trivial
  |_=>cases op<;>first|(cases ho;done)|exact .bad trivial
 |pointer p=>
  cases b with
  |int k n=>simp only[iC,dX];exact Cc h ho t k n p (by simpa using hs)
  |pointer q=>simp only[dX];exact Ce h ho t p q (by simpa using hs) (by simpa using hs')
  |_=>cases p<;>cases op<;>first|(cases ho;done)|exact .bad trivial
 |float _ _=>simp at hs
 |complex _ _ _=>simp at hs
 |_=>
  cases b with
  |pointer p=>cases p<;>cases op<;>first|(cases ho;done)|exact .bad trivial
  |_=>cases op<;>first|(cases ho;done)|exact .bad trivial
end
end
section
variable [Sh]
section
variable {P:Program} {F:Fit} {f:Nat->Nat} {α β γ δ:Type}
def JZ{op:BinOp}(ho:arith op=false)(t:TypeId){a b:Value}(ha:vs F a=true)(hs:dF P F f Eq (Op.equal t a b) (Op.equal t (rv f a) (rv f b))):
 dF P F f (VR F f) (binOp op t a b) (binOp op t (rv f a) (rv f b)):=by
 have e:dF P F f (VR F f) (do pure (.bool (<-Op.equal t a b))) (do pure (.bool (<-Op.equal t (rv f a) (rv f b)))):=hs.dL λ_=>.ret VR.bool
 have n:dF P F f (VR F f) (do pure (.bool (!(<-Op.equal t a b)))) (do pure (.bool (!(<-Op.equal t (rv f a) (rv f b))))):=hs.dL λ_=>.ret VR.bool
 have ii:= λk x k' y=>vZ (P:=P) (F:=F) (f:=f) op t k k' x y
 cases op<;>first|(cases ho;done)|skip
 all_goals
  cases a with
  |int k x=>
   cases b with
   |int k' y=>simp only[iC];exact ii k x k' y
   |_=>first|exact e|exact n
  |string x=>
   cases b with
   |string y=>simp only[gF];first|exact nN .eql x y|exact nN .neq x y
   |_=>first|exact e|exact n
  |float _ _=>simp at ha
  |complex _ _ _=>simp at ha
  |_=>first|exact e|exact n
def Qi(h:Rn P f){op:BinOp}{t:TypeId}{x y:Operand}(ho:Qh P op t x y=true){a b a' b':Value}(ha:VR F f a a')(hb:VR F f b b')
 (hx:∀v,x=.const v->a=v) (hy:∀v,y=.const v->b=v):dF P F f (VR F f) (do eqGuard op t x y a b;binOp op t a b) (do eqGuard op t x y a' b';binOp op t a' b'):=by
 obtain⟨rfl,hsa⟩:=ha;obtain⟨rfl,hsb⟩:=hb;refine(JY ho a b).dL λ_=>?_
 by_cases hop:arith op=true
 .exact FE h hop t ⟨rfl,hsa⟩ ⟨rfl,hsb⟩
 .have hop':arith op=false:=by simpa using hop
  have he:Qg P t x y=true:=by cases op<;>first|exact ho|(cases hop';done)
  refine JZ hop' t hsa ?_
  unfold Qg at he;rw[Bool.or_eq_true]at he;rcases he with he|he
  .rw[bB]at he;exact BZ h 8 _ t he.1 ⟨rfl,hsa⟩ ⟨rfl,hsb⟩
  .rw[bB,Bool.or_eq_true]at he
   have hn:a=.pointer none∨a=.nilIface∨b=.pointer none∨b=.nilIface:=by
    rcases he.1 with h1|h1
    .cases x with
     |const v=>
      have :=hx v rfl;subst this;cases a with
      |pointer p=>cases p<;>first|exact .inl rfl|cases h1
      |nilIface=>exact .inr (.inl rfl)
      |_=>cases h1
     |_=>cases h1
    .cases y with
     |const v=>
      have :=hy v rfl;subst this;cases b with
      |pointer p=>cases p<;>first|exact .inr (.inr (.inl rfl))|cases h1
      |nilIface=>exact .inr (.inr (.inr rfl))
      |_=>cases h1
     |_=>cases h1
   cases hu:P.underlying t with
   |none=>rw[hu]at he;exact absurd he.2 (by simp)
   |some u=>
    rw[hu]at he;cases u with
    |pointer e=>exact xR hu (.inl ⟨e,rfl⟩) hn
    |interface ms=>exact xR hu (.inr ⟨ms,rfl⟩) hn
    |_=>exact absurd he.2 (by simp)
def J2(P:Program)(src dst:TypeId):Bool:=
 match P.underlying src,P.underlying dst with
 |some (.int _),some (.int _)=>true
 |some .string,some .string=>true
 |some .string,some (.slice e)=>match P.underlying e with |some (.int .u8)=>true|_=>false
 |some (.slice e),some .string=>match P.underlying e with |some (.int .u8)=>true|_=>false
 |_,_=>false
def zw(e:TypeId)(s:ByteArray):dF P F f (VR F f) (Conv.stringToBytes e s) (Conv.stringToBytes e s):=by
 unfold Conv.stringToBytes;refine(lu _).dL λcap=>?_
 have hc:∀(n:Nat),jf F f (s.data.map (λb=>Value.int .u8 b.toNat)++Array.replicate n (.int .u8 0)) (s.data.map (λb=>Value.int .u8 b.toNat)++Array.replicate n (.int .u8 0)):=by
  intro n;refine⟨?_, λx hx=>?_⟩
  .rw[Array.map_append,Array.map_map,Array.map_replicate,iC];rw[show(rv f ∘ λb:UInt8=>Value.int .u8 b.toNat)= λb:UInt8=>Value.int .u8 b.toNat from funext λb=>by simp]
  .rcases Array.mem_append.1 hx with hx|hx
   .obtain⟨b,_,rfl⟩:=Array.mem_map.1 hx;simp
   .rw[(Array.mem_replicate.1 hx).2];simp
 have h1:=hc (cap-s.size)
 have x:=dF.mQ (P:=P) (F:=F) (f:=f) (R:=VR F f) (e:=e)
  (k0:= λr z=>Sem.bind (match z with |some (_,n)=>freeze { block:=r,off:=n } 1|none=>Pure.pure ()) λ_=>Pure.pure (Value.slice (some ⟨r,0,none⟩) s.size cap))
  (Pa:= λr z=>Sem.bind (match z with |some (_,n)=>freeze { block:=r,off:=n } 1|none=>Pure.pure ()) λ_=>Pure.pure (Value.slice (some ⟨r,0,none⟩) s.size cap))
  (k:= λr=>Pure.pure (Value.slice (some ⟨r,0,none⟩) s.size cap)) (k':= λr=>Pure.pure (Value.slice (some ⟨r,0,none⟩) s.size cap)) h1.2 (λr=>rfl) (λr=>rfl) (λr hr hl=>.pure ⟨by simp[BJ hl],by rw[gY];exact qH (by simpa using hr)⟩)
 rw[<-h1.1]at x
 have hm:∀C:Array Value,(newRow e C>>= λa=>markStringish a>>= λ_=>Pure.pure (Value.slice (some a) s.size cap))=Sem.new (.cells C e (0,0)) (λr=>Sem.shape r λz=>
  Sem.bind (match z with |some (_,n)=>freeze { block:=r,off:=n } 1|none=>Pure.pure ()) λ_=>Pure.pure (Value.slice (some ⟨r,0,none⟩) s.size cap)):=by
  intro C;show Sem.new _ _=Sem.new _ _;congr 1;funext r;show Sem.shape _ _=Sem.shape _ _;congr 1;funext z;cases z<;>rfl
 dsimp only;rw[hm];exact x
def sr_bytesToString{v v':Value}(hv:VR F f v v'):dF P F f (VR F f) (Conv.bytesToString v) (Conv.bytesToString v'):=by
 obtain⟨rfl,hs⟩:=hv;cases v with
 |slice a n c=>
  rw[fD];cases a with
  |none=>exact .ret VR.str
  |some a=>
   have hl:dF P F f (jf F f) (loadCells a n) (loadCells (ra f a) n):=by
    rw[gY]at hs;rcases nL hs with h|⟨_,rfl,_⟩
    .exact xN a h n
    .exact .ret jf.nil
   unfold Conv.bytesToString;dsimp only[Option.map_some];refine hl.bind ?_
   rintro cs _⟨rfl,hc⟩;refine dF.dL ?_ fun s=>.ret VR.str
   rw[←Array.forIn_toList, ←Array.forIn_toList,Array.toList_map,List.forIn_map];refine BV _ _ fun x hx s=>?_
   cases x with
   |int k m=>cases k<;>first|exact .bad trivial|(simp only[iC];exact .ret rfl)
   |_=>exact .bad trivial
 |float _ _=>simp at hs
 |complex _ _ _=>simp at hs
 |_=>exact .bad trivial
def J3{src dst:TypeId}(ho:J2 P src dst= true){v v':Value}(hv:VR F f v v'):dF P F f (VR F f) (convert src dst v) (convert src dst v'):=by
 obtain⟨rfl,hs⟩:=hv;unfold convert;refine(eU src).bind ?_
 rintro u _⟨rfl,hu⟩;refine(eU dst).bind ?_
 rintro d _⟨rfl,hd⟩;unfold J2 at ho;rw[hu,hd]at ho;cases u with
 |int k=>
  cases d with
  |int k'=>
   cases v with
   |int k2 n=>simp only[iC];exact .ret VR.int
   |pointer a=>cases a<;>exact .bad trivial
   |float _ _=>simp at hs
   |complex _ _ _=>simp at hs
   |_=>exact .bad trivial
  |_=>cases ho
 |string=>
  cases d with
  |string=>
   cases v with
   |int k2 n=>simp only[iC];exact .ret VR.str
   |string s=>simp only[gF];exact .ret VR.str
   |float _ _=>simp at hs
   |complex _ _ _=>simp at hs
   |_=>exact .bad trivial
  |slice e=>
   cases v with
   |string s=>
    simp only[gF];refine(eU e).bind ?_
    rintro w _⟨rfl,hw⟩;dsimp only at ho;rw[hw]at ho;cases w with
    |int k=>cases k<;>first|(cases ho;done)|exact zw e s
    |_=>cases ho
   |float _ _=>simp at hs
   |complex _ _ _=>simp at hs
   |slice a _ _=>cases a<;>exact .bad trivial
   |pointer a=>cases a<;>exact .bad trivial
   |_=>exact .bad trivial
  |_=>cases ho
 |slice e=>
  cases d with
  |string=>
   cases v with
   |int k2 n=>simp only[iC];exact .ret VR.str
   |string s=>simp only[gF];exact .ret VR.str
   |float _ _=>simp at hs
   |complex _ _ _=>simp at hs
   |_=>
    refine(eU e).bind ?_
    rintro w _⟨rfl,hw⟩;dsimp only at ho;rw[hw]at ho;cases w with
    |int k=>cases k<;>first|(cases ho;done)|exact sr_bytesToString ⟨rfl,hs⟩
    |_=>cases ho
  |_=>cases ho
 |_=>cases ho
def Hr(kd:TypeDesc)(a b:Value):Instr.sameNow kd (rv f a) (rv f b)=Instr.sameNow kd a b:=by
 cases a with
 |int k n=>cases b<;>simp only[iC,jZ,gF,qX,mP,dX,fD,nW,su,oh,kV,jh,oP,nX,qY]<;>cases kd<;>rfl
 |bool x=>cases b<;>simp only[iC,jZ,gF,qX,mP,dX,fD,nW,su,oh,kV,jh,oP,nX,qY]<;>cases kd<;>rfl
 |string x=>cases b<;>simp only[iC,jZ,gF,qX,mP,dX,fD,nW,su,oh,kV,jh,oP,nX,qY]<;>cases kd<;>rfl
 |_=>simp only[qX,mP,dX,fD,nW,su,oh,kV,jh,oP,nX,qY]<;>cases kd<;>rfl
def zx(F:Fit)(f:Nat->Nat)(k:Value)(es:List MapEntry)(n:Nat)(x y:Option (Nat×Value)):Prop:=(x=none∧y=none)∨∃i v,x=some (n+i,v)∧y=some (n+i,rv f v)∧vs F v=true∧∃e,es[i]?=some e∧SB f e.key k
def zx.later{k:Value}{e:MapEntry}{es:List MapEntry}{n:Nat}{x y:Option (Nat×Value)}(h:zx F f k es (n+1) x y):zx F f k (e::es) n x y:=by
 rcases h with h|⟨i,v,h1,h2,h3,e',h4,h5⟩
 .exact .inl h
 .exact .inr ⟨i+1,v,by rw[h1];congr 2;omega,by rw[h2];congr 2;omega,h3,e',h4,h5⟩
def J4{kd:TypeDesc}{a b:Value}(h:Instr.sameNow kd a b=some true):SB f b a:=by cases a<;>cases b<;>first|(simp[SB,Instr.sameBits];done)|(cases kd<;>cases h)
def Ak(kd:TypeDesc)(k:Value):∀(es:List MapEntry)(i:Nat),(∀e∈es,vs F e.val=true)->
 (Instr.findNow kd k es i=none∧Instr.findNow kd (rv f k) (es.map (re f)) i=none)∨∃x y,Instr.findNow kd k es i=some x∧Instr.findNow kd (rv f k) (es.map (re f)) i=some y∧zx F f k es i x y
 | [],i,_=>.inr ⟨none,none,rfl,rfl,.inl ⟨rfl,rfl⟩⟩
 |e::es,i,h=>by
  simp only[aC,Instr.findNow,re,Hr];cases hn:Instr.sameNow kd k e.key with
  |none=>exact .inl ⟨rfl,rfl⟩
  |some b=>
   cases b with
   |true=>exact .inr ⟨_,_,rfl,rfl,.inr ⟨0,_,rfl,rfl,h e (aP ..),e,rfl,J4 hn⟩⟩
   |false=>exact(Ak kd k es (i+1) λe he=>h e (aQ _ he)).imp id λ⟨x,y,h1,h2,h3⟩=>⟨x,y,h1,h2,h3.later⟩
def J5(P:Program)(t:TypeId):Bool:=match P.underlying t with |some .bool|some (.int _)|some .string=>true|_=>false
def Ht(h:Rn P f){kt:TypeId}(ht:J5 P kt=true)(d:Nat){x x' y y':Value}(hx:VR F f x x')(hy:VR F f y y'):dF P F f (λb b'=>b=b'∧(b=true->SB f y x)) (Op.equalIn (d+1) kt x y) (Op.equalIn (d+1) kt x' y'):=by
 unfold J5 at ht;cases hu:P.underlying kt with
 |none=>rw[hu]at ht;cases ht
 |some u=>
  rw[hu]at ht;cases u<;>first|(cases ht;done)|exact Aj d hu hx hy|exact vY d hu hx hy|exact BX h d hu hx hy
def Cf{kt:TypeId}(ht:J5 P kt=true):Wo P 8 kt=true:=by
 unfold J5 at ht;unfold Wo;cases hu:P.underlying kt with
 |none=>rw[hu]at ht;cases ht
 |some u=>
  rw[hu]at ht;cases u<;>first|(cases ht;done)|rfl
def wh(h:Rn P f){kt:TypeId}(ht:J5 P kt=true){k:Value}(hk:vs F k=true):∀(es:List MapEntry)(i:Nat),(∀e∈es,vs F e.key=true∧vs F e.val=true)->
 dF P F f (zx F f k es i) (Instr.findAsking kt k es i) (Instr.findAsking kt (rv f k) (es.map (re f)) i)
 | [],i,_=>.ret (.inl ⟨rfl,rfl⟩)
 |e::es,i,he=>by
  simp only[aC];unfold Instr.findAsking;refine(Ht h ht 9999 ⟨rfl,hk⟩ ⟨rfl,(he e (aP ..)).1⟩).bind ?_
  rintro b _⟨rfl,hb⟩;cases b with
  |true=>exact .ret (.inr ⟨0,_,rfl,rfl,(he e (aP ..)).2,e,rfl,hb rfl⟩)
  |false=>exact(wh h ht hk es (i+1) λe' he'=>he e' (aQ _ he')).mono λ_ _ h=>h.later
def wO(h:Rn P f){kt:TypeId}(ht:J5 P kt=true){k:Value}(hk:vs F k=true)(es:List MapEntry)(he:∀e∈es,vs F e.key=true∧vs F e.val=true):
 dF P F f (zx F f k es 0) (Instr.findKey kt k es) (Instr.findKey kt (rv f k) (es.map (re f))):=by
 unfold Instr.findKey;refine(dQ kt).dL λd=>?_
 rcases Ak (F:=F) (f:=f) d k es 0 (λe h=>(he e h).2)with⟨h1,h2⟩|⟨x,y,h1,h2,h3⟩
 .rw[h1,h2];exact wh h ht hk es 0 he
 .rw[h1,h2];exact .ret h3
def qj(empty:Bool):∀(n d:Nat)(t:TypeId),Wo P n t=true->∀{v:Value},vs F v=true->dF P F f Eq (Instr.checkKey empty d t v) (Instr.checkKey empty d t (rv f v))
 |0,_,_,h0,_,_=>by cases h0
 |n+1,0,_,_,_,_=>.bad trivial
 |n+1,d+1,t,ht,v,hv=>by
  unfold Instr.checkKey;refine(eU t).bind ?_
  rintro u _⟨rfl,hu⟩;unfold Wo at ht;rw[hu]at ht;cases u with
  |struct fs=>
   rw[bB]at ht;cases v with
   |agg cs=>
    simp only[nX];refine dF.dL ?_ λr=>.ret rfl
    rw[<-Array.forIn_toList, <-Array.forIn_toList];refine BV fs.toList _ λfl hfl s=>?_
    split
    .refine(xP fl.type ⟨rfl,lV.1 hv⟩ _).bind ?_
     rintro p _⟨rfl,hp⟩;exact(qj empty n d fl.type (aU.1 ht.2 fl (by simpa using hfl)) hp).dL λ_=>.ret rfl
    .exact .ret rfl
   |_=>exact .bad trivial
  |bool=>exact .ret rfl
  |int k=>exact .ret rfl
  |string=>exact .ret rfl
  |slice e=>exact .ret rfl
  |map k e=>exact .ret rfl
  |func a b c=>exact .ret rfl
  |_=>cases ht
def xS(P:Program)(t:TypeId):Bool:=
 match P.underlying t with
 |some (.map k _)=>J5 P k
 |_=>false
def J6(t:TypeId){r r':Option Value}(hr:PL F f r r'):dF P F f (VR F f) (Instr.makeMap t r) (Instr.makeMap t r'):=by
 unfold Instr.makeMap
 have fin:dF P F f (VR F f) (do pure (.map (some (<-newObj (.map #[] 0))))) (do pure (.map (some (<-newObj (.map #[] 0))))):=by
  refine dF.bind (by have :=oI (P:=P) (F:=F) (f:=f) (o:=.map #[] 0) (by intro e he;simp at he);simpa[ro]using this) ?_
  rintro r _⟨rfl,hr,_⟩;exact .ret ⟨by simp,by simpa using hr⟩
 rcases hr with⟨rfl,rfl⟩|⟨v,rfl,rfl,hv⟩
 .exact fin
 .refine(dQ t).dL λd=>?_
  cases d with
  |map k e=>exact(rz ⟨rfl,hv⟩).dL λ_=>fin
  |_=>exact .bad trivial
def J7{es:Array MapEntry}(h:∀e∈es,vs F e.key=true∧vs F e.val=true):∀e∈es.toList,vs F e.key=true∧vs F e.val=true:= λe he=>h e (by simpa using he)
def NU(h:Rn P f){t:TypeId}(ho:xS P t=true){m m' k k':Value}(hm:VR F f m m')(hk:VR F f k k')(ok:Bool):dF P F f (VR F f) (Instr.lookup t m k ok) (Instr.lookup t m' k' ok):=by
 obtain⟨rfl,hms⟩:=hm;obtain⟨rfl,hks⟩:=hk;unfold Instr.lookup;refine(eU t).bind ?_
 rintro u _⟨rfl,hu⟩;unfold xS at ho;rw[hu]at ho;cases u with
 |map kt e=>
  dsimp only at ho;dsimp -zeta only
  extract_lets j1 j2 Ra
  have hj1:∀{v v':Value}(b:Bool),VR F f v v'->dF P F f (VR F f) (j1 (v,b)) (j1 (v',b)):=by
   intro v v' b hv;dsimp only[j1];cases ok
   .exact .ret hv
   .exact .ret (VR.tuple ((jf.nil.push hv).push VR.bool))
  have hj2:∀es:Array MapEntry,(∀e∈es,vs F e.key=true∧vs F e.val=true)->dF P F f (VR F f) (j2 es) (Ra (es.map (re f))):=by
   intro es hes;dsimp only[j2,Ra];rw[show(es.map (re f)).isEmpty=es.isEmpty from by simp[Array.isEmpty],Array.toList_map];refine(qj es.isEmpty 8 _ kt (Cf ho) hks).dL λ_=>?_
   refine(wO h ho hks es.toList (J7 hes)).bind ?_
   rintro x y(⟨rfl,rfl⟩|⟨i,v,rfl,rfl,hv,e0,he0,hsb⟩)
   .refine(BK h.gD e).bind ?_
    intro z z' hz;exact hj1 false hz
   .exact hj1 true ⟨rfl,hv⟩
  cases m with
  |map r=>
   rw[nW];cases r with
   |none=>
    have :=hj2 #[] (by intro e he;simp at he);rw[Array.map_empty]at this;exact this
   |some r=>
    refine(jc r (by simpa using hms)).bind ?_
    rintro o _⟨rfl,h1,h2⟩;cases o with
    |map es clock=>exact hj2 es h1
    |_=>exact .bad trivial
  |_=>exact .bad trivial
 |_=>cases ho
def tO{a b:Value}(hab:SB f a b)(ha:vs F a=true)(hb:vs F b=true):dF P F f (VR F f) (Instr.keyThatStays a b) (Instr.keyThatStays (rv f a) (rv f b)):=by
 unfold Instr.keyThatStays;rw[show Instr.sameBits 10000 (rv f a) (rv f b)=_ from hab];split
 .exact .ret ⟨rfl,hb⟩
 .refine(lu _).dL λn=>?_
  split
  .exact .ret ⟨rfl,hb⟩
  .exact .ret ⟨rfl,ha⟩
def jd(es:Array MapEntry)(i:Nat)(k:Value):(((es.map (re f))[i]?).map (·.key)).getD (rv f k)=rv f (((es[i]?).map (·.key)).getD k):=by rw[aG];cases es[i]?<;>rfl
def L6{es:Array MapEntry}(hes:∀e∈es,vs F e.key=true∧vs F e.val=true)(i:Nat){k:Value}(hk:vs F k=true):vs F (((es[i]?).map (·.key)).getD k)=true:=by
 cases h:es[i]? with
 |none=>exact hk
 |some e=>exact(hes e (aZ h)).1
def wP{g g':MapEntry->MapEntry}(hg:∀e,re f (g e)=g' (re f e))(es:Array MapEntry)(i:Nat):(es.modify i g).map (re f)=(es.map (re f)).modify i g':=by
 apply Array.ext
 .simp
 .intro j h1 h2;simp only[Array.getElem_map,Array.getElem_modify];split
  .rw[hg]
  .rfl
def zy{g:MapEntry->MapEntry}{es:Array MapEntry}(hes:∀e∈es,vs F e.key=true∧vs F e.val=true)(hg:∀e,vs F e.key=true∧vs F e.val=true->vs F (g e).key=true∧vs F (g e).val=true)(i:Nat):
 ∀e∈es.modify i g,vs F e.key=true∧vs F e.val=true:=by
 intro e he;obtain⟨j,hj⟩:=Array.getElem?_of_mem he;rw[bz]at hj;split at hj
 .obtain⟨x,hx,rfl⟩:=Option.map_eq_some_iff.1 hj;exact hg x (hes x (aZ hx))
 .exact hes e (aZ hj)
def L8{es:Array MapEntry}(hes:∀e∈es,vs F e.key=true∧vs F e.val=true){x:MapEntry}(hx:vs F x.key=true∧vs F x.val=true):∀e∈es.push x,vs F e.key=true∧vs F e.val=true:=
 λe he=>(Array.mem_push.1 he).elim (hes e) λh=>h ▸ hx
def rC(r:Nat)(hA:F.A r=true){es es':Array MapEntry}(c:Nat)(hes:∀e∈es,vs F e.key=true∧vs F e.val=true)(e:es'=es.map (re f)):
 dF P F f Eq (setObj r (.map es c)) (setObj (f r) (.map es' c)):=by subst e;exact mU r hA (o:=.map es c) hes rfl
def xU(h:Rn P f){t:TypeId}(ho:xS P t=true){m m' k k' v v':Value}(hm:VR F f m m')(hk:VR F f k k')(hv:VR F f v v'):dF P F f Eq (Instr.mapUpdate t m k v) (Instr.mapUpdate t m' k' v'):=by
 obtain⟨rfl,hms⟩:=hm;obtain⟨rfl,hks⟩:=hk;obtain⟨rfl,hvs⟩:=hv;unfold Instr.mapUpdate;refine(eU t).bind ?_
 rintro u _⟨rfl,hu⟩;unfold xS at ho;rw[hu]at ho;cases u with
 |map kt e=>
  dsimp only at ho⊢;cases m with
  |map r=>
   rw[nW];cases r with
   |none=>exact eZ _ _
   |some r=>
    have hA:F.A r=true:=by simpa using hms
    refine(jc r hA).bind ?_
    rintro o _⟨rfl,h1,h2⟩;cases o with
    |map es clock=>
     dsimp only[ro];rw[Array.toList_map];refine(qj false 8 _ kt (Cf ho) hks).dL λ_=>?_
     refine(wO h ho hks es.toList (J7 h1)).bind ?_
     rintro x y(⟨rfl,rfl⟩|⟨i,v0,rfl,rfl,hv0,e0,he0,hsb⟩)
     .exact rC r hA _ (L8 h1 ⟨hks,hvs⟩) (by rw[Array.map_push];rfl)
     .simp only[Nat.zero_add];rw[jd];refine(tO (show SB f (((es[i]?).map (·.key)).getD k) k by rw[show es[i]?=some e0 by simpa using he0];exact hsb) (L6 h1 i hks) hks).bind ?_
      rintro k2 _⟨rfl,hk2⟩;exact rC r hA _ (zy (g:= λe=>{ key:=k2,val:=v,born:=e.born }) h1 (λe _=>⟨hk2,hvs⟩) i) (wP (g:= λe=>{ key:=k2,val:=v,born:=e.born }) (g':= λe=>{ key:=rv f k2,val:=rv f v,born:=e.born }) (λe=>rfl) es i).symm
    |_=>exact .bad trivial
  |_=>exact .bad trivial
 |_=>cases ho
def Hu(h:Rn P f){t:TypeId}(ho:xS P t=true){m m' k k':Value}(hm:VR F f m m')(hk:VR F f k k'):dF P F f (VR F f) (Instr.mapEntry t m k) (Instr.mapEntry t m' k'):=by
 obtain⟨rfl,hms⟩:=hm;obtain⟨rfl,hks⟩:=hk;unfold Instr.mapEntry;refine(eU t).bind ?_
 rintro u _⟨rfl,hu⟩;unfold xS at ho;rw[hu]at ho;cases u with
 |map kt e=>
  dsimp only at ho⊢;cases m with
  |map r=>
   rw[nW];cases r with
   |none=>exact eZ _ _
   |some r=>
    have hA:F.A r=true:=by simpa using hms
    refine(jc r hA).bind ?_
    rintro o _⟨rfl,h1,h2⟩;cases o with
    |map es clock=>
     dsimp only[ro];rw[Array.toList_map];refine(qj false 8 _ kt (Cf ho) hks).dL λ_=>?_
     refine(wO h ho hks es.toList (J7 h1)).bind ?_
     rintro x y(⟨rfl,rfl⟩|⟨i,v,rfl,rfl,hv,e0,he0,hsb⟩)
     .refine(BK h.gD e).bind ?_
      rintro z _⟨rfl,hz⟩;refine(rC r hA _ (L8 h1 ⟨hks,hz⟩) (by rw[Array.map_push];rfl)).dL λ_=>?_
      exact .ret (VR.tuple ((jf.nil.push ⟨rfl,hz⟩).push VR.goInt))
     .simp only[Nat.zero_add];rw[jd];refine(tO (show SB f (((es[i]?).map (·.key)).getD k) k by rw[show es[i]?=some e0 by simpa using he0];exact hsb) (L6 h1 i hks) hks).bind ?_
      rintro k2 _⟨rfl,hk2⟩;refine(rC r hA _ (zy (g:= λe=>{ key:=k2,val:=e.val,born:=e.born }) h1 (λe he=>⟨hk2,he.2⟩) i) (wP (g:= λe=>{ key:=k2,val:=e.val,born:=e.born }) (g':= λe=>{ key:=rv f k2,val:=e.val,born:=e.born }) (λe=>rfl) es i).symm).dL λ_=>?_
      have eb:(((es.map (re f))[i]?).map (λe=>(e.born:Int))).getD 0=((es[i]?).map (λe=>(e.born:Int))).getD 0:=by rw[aG];cases es[i]?<;>rfl
      rw[eb];exact .ret (VR.tuple ((jf.nil.push ⟨rfl,hv⟩).push VR.goInt))
    |_=>exact .bad trivial
  |_=>exact .bad trivial
 |_=>cases ho
def Ed(t:TypeId){m m' k k' v v':Value}(hm:VR F f m m')(hk:VR F f k k')(hv:VR F f v v'):dF P F f Eq (Instr.entryStore t m k v) (Instr.entryStore t m' k' v'):=by
 obtain⟨rfl,hms⟩:=hm;obtain⟨rfl,hvs⟩:=hv;unfold Instr.entryStore;cases m with
 |map r=>
  rw[nW];cases r with
  |none=>exact .bad trivial
  |some r=>
   have hA:F.A r=true:=by simpa using hms
   refine(jc r hA).bind ?_
   rintro o _⟨rfl,h1,h2⟩;cases o with
   |map es clock=>
    dsimp only[ro];refine(rz hk).dL λborn=>?_
    have e1:(es.map (re f)).findIdx? (λe=>(e.born:Int)==born)=es.findIdx? (λe=>(e.born:Int)==born):=by rw[Array.findIdx?_map];rfl
    rw[e1];cases es.findIdx? (λe=>(e.born:Int)==born)with
    |none=>exact .bad trivial
    |some i=>exact rC r hA _ (zy (g:= λe=>{ key:=e.key,val:=v,born:=e.born }) h1 (λe he=>⟨he.1,hvs⟩) i) (wP (g:= λe=>{ key:=e.key,val:=v,born:=e.born }) (g':= λe=>{ key:=e.key,val:=rv f v,born:=e.born }) (λe=>rfl) es i).symm
   |_=>exact .bad trivial
 |_=>exact .bad trivial
end
end
section
variable [Sh]
section
variable {P:Program} {F:Fit} {f:Nat->Nat} {α β γ δ:Type}
def Qj(t:TypeId){v v':Value}(hv:VR F f v v'):dF P F f (VR F f) (Instr.range t v) (Instr.range t v'):=by
 obtain⟨rfl,hs⟩:=hv;unfold Instr.range;refine(dQ t).dL λd=>?_
 have fin:∀o:Obj,oS F o->dF P F f (VR F f) (do pure (.pointer (some ⟨<-newObj o,0,none⟩))) (do pure (.pointer (some ⟨<-newObj (ro f o),0,none⟩))):=by
  intro o ho;refine(oI ho).bind ?_
  rintro r _⟨rfl,hr,hl⟩;exact .ret (VR.ptr ⟨(BJ hl).symm,hr⟩)
 cases d with
 |string=>
  cases v with
  |string s=>simp only[gF];exact fin (.stringIter s 0) trivial
  |_=>exact .bad trivial
 |map k e=>
  cases v with
  |map r=>
   rw[nW];cases r with
   |none=>exact fin (.mapIter none 0 #[] 0) rfl
   |some r=>
    have hA:F.A r=true:=by simpa using hs
    refine(jc r hA).bind ?_
    rintro o _⟨rfl,h1,h2⟩;cases o with
    |map es clock=>exact fin (.mapIter (some r) clock #[] clock) hA
    |_=>exact .bad trivial
  |_=>exact .bad trivial
 |_=>cases v<;>exact .bad trivial
def wQ(es:Array MapEntry)(p:Nat->Bool):(es.map (re f)).filter (λe=>p e.born)=(es.filter λe=>p e.born).map (re f):=by rw[Array.filter_map];rfl
def NV(old new:Array MapEntry):((if old.isEmpty then#[none]else#[])++((old++new).map (re f)).map some:Array (Option MapEntry))=((if old.isEmpty then#[none]else#[])++(old++new).map some:Array (Option MapEntry)).map (Option.map (re f)):=by split<;>simp[Function.comp_def]
def Ut(t:TypeId)(Wm:Bool){v v':Value}(hv:VR F f v v'):dF P F f (VR F f) (Instr.next v Wm t) (Instr.next v' Wm t):=by
 obtain⟨rfl,hs⟩:=hv;unfold Instr.next;have over:dF P F f (VR F f) (Pure.pure (.tuple #[.bool false])) (Pure.pure (.tuple #[.bool false])):=.ret (VR.tuple (jf.nil.push VR.bool));cases v with
 |pointer a=>
  cases a with
  |none=>exact .bad trivial
  |some a=>
   obtain⟨r,off,sp⟩:=a;cases off with
   |succ n=>exact .bad trivial
   |zero=>
    rw[dX];have hA:F.A r=true:=by simpa using hs
    cases hl:Sh.lk r with
    |true=>exact dF.BG hA hl
    |false=>
    simp only[ay,BJ hl];refine(jc r hA).bind ?_
    rintro o _⟨rfl,h1,h2⟩;cases o with
    |stringIter s pos=>
     cases Wm with
     |false=>exact .bad trivial
     |true=>
      dsimp only[ro];split
      .refine(mU r hA (o:=.stringIter s _) trivial rfl).dL λ_=>?_
       exact .ret (VR.tuple (((jf.nil.push VR.bool).push VR.goInt).push VR.int))
      .exact over
    |mapIter m since seen last=>
     cases Wm with
     |true=>cases m<;>exact .bad trivial
     |false=>
      cases m with
      |none=>exact over
      |some m=>
       dsimp only[ro,ay];refine(jc m h1).bind ?_
       rintro o _⟨rfl,h3,_⟩;cases o with
       |map es clock=>
        dsimp only[ro]
        have e1:(!seen.isEmpty&&!(es.map (re f)).isEmpty&&(es.map (re f)).all (·.born≥ last))=(!seen.isEmpty&&!es.isEmpty&&es.all (·.born≥ last)):=by rw[Array.all_map,show(es.map (re f)).isEmpty=es.isEmpty from by simp[Array.isEmpty]];rfl
        have e2:(es.map (re f)).filter (λe=>!seen.contains e.born)=(es.filter λe=>!seen.contains e.born).map (re f):=wQ es λb=>!seen.contains b
        rw[e1,e2];split
        .exact .bad trivial
        .generalize hl:es.filter (λe=>!seen.contains e.born)=left;have hlm:∀e∈left,vs F e.key=true∧vs F e.val=true:= λe he=>h3 e (by rw[<-hl]at he;exact(Array.mem_filter.1 he).1)
         have e3:(left.map (re f)).filter (λe=>decide (e.born<since))=(left.filter λe=>decide (e.born<since)).map (re f):=wQ left λb=>decide (b<since)
         have e4:(left.map (re f)).filter (λe=>decide (e.born≥ since))=(left.filter λe=>decide (e.born≥ since)).map (re f):=wQ left λb=>decide (b≥ since)
         rw[e3,e4];generalize ho:left.filter (λe=>decide (e.born<since))=old;generalize hn:left.filter (λe=>decide (e.born≥ since))=new
         have hom:∀e∈old++new,vs F e.key=true∧vs F e.val=true:= λe he=>by
          rcases Array.mem_append.1 he with he|he
          .rw[<-ho]at he;exact hlm e (Array.mem_filter.1 he).1
          .rw[<-hn]at he;exact hlm e (Array.mem_filter.1 he).1
         rw[<-Array.map_append,show(old.map (re f)).isEmpty=old.isEmpty from by simp[Array.isEmpty]]
         have e5:((if old.isEmpty then#[none]else#[])++((old++new).map (re f)).map some:Array (Option MapEntry))=((if old.isEmpty then#[none]else#[])++(old++new).map some:Array (Option MapEntry)).map (Option.map (re f)):=by exact NV old new
         rw[e5,Array.size_map];generalize hc:((if old.isEmpty then#[none]else#[])++(old++new).map some:Array (Option MapEntry))=Wp
         have hcm:∀e,some e∈Wp->vs F e.key=true∧vs F e.val=true:= λe he=>by
          rw[<-hc]at he;rcases Array.mem_append.1 he with he|he
          .split at he<;>simp at he
          .obtain⟨x,hx,hxe⟩:=Array.mem_map.1 he;cases hxe;exact hom _ hx
         refine(lu _).dL λn=>?_
         rw[aG];cases hg:Wp[n]? with
         |none=>exact .bad trivial
         |some c=>
          cases c with
          |none=>exact over
          |some e=>
           have he:=hcm e (aZ hg);refine(mU r hA (o:=.mapIter (some m) since (seen.push e.born) clock) h1 rfl).dL λ_=>?_
           exact .ret (VR.tuple (((jf.nil.push VR.bool).push ⟨rfl,he.1⟩).push ⟨rfl,he.2⟩))
       |_=>exact .bad trivial
    |_=>cases Wm<;>exact .bad trivial
 |_=>exact .bad trivial
def J8{v v':Value}(hv:VR F f v v')(i:Nat):dF P F f (VR F f) (Instr.extract v i) (Instr.extract v' i):=by
 obtain⟨rfl,hs⟩:=hv;unfold Instr.extract;cases v with
 |tuple vs=>
  rw[qY];have hv:jf F f vs (vs.map (rv f)):=⟨rfl,q9.1 hs⟩;rcases hv.get i with⟨h1,h2⟩|⟨v,h1,h2,h3⟩
  .dsimp only;rw[h1];exact .bad trivial
  .dsimp only;rw[h1,h2];exact .ret ⟨rfl,h3⟩
 |_=>exact .bad trivial
def NR(F:Fit)(f:Nat->Nat)(a b:Next):Prop:=
 match a with
 | .value v=>b=.value (rv f v)∧vs F v=true
 | .skip=>b=.skip
 | .enter g args=>b=.enter g (args.map (rv f))∧F.S g=true∧VS F args∧(F.V g=true∨args= #[])
 | .round l g t x y=>b=.round (f l) g (t.map (rv f)) x y∧F.A l=true∧F.S g=true∧VS F t∧F.code x=true∧F.code y=true
 |_=>False
structure Hw(P:Program)(F:Fit):Prop where
 body:∀g,F.S g=true->∃fn c,P.funcs[g]?=some fn∧fn.body=some c∧(fn.name== "runtime.NumGoroutine")=false∧F.code c=true
 sub:∀g,F.V g=true->F.S g=true
def Al(h:Hw P F){g:FuncId}(hg:F.S g=true){aS as':Array Value}(hv:F.V g=true∨aS= #[])(ha:jf F f aS as'):dF P F f (NR F f) (callFunc g aS) (callFunc g as'):=by
 obtain⟨fn,c,h1,h2,h3,_⟩:=h.body g hg;unfold callFunc
 refine .rq ?_ (λQ hQ=>by obtain⟨hh,e1,e2⟩:=hQ.get g;obtain⟨b,e3,e4⟩:=e2 fn;obtain⟨c',hc'⟩:=Option.isSome_iff_exists.1 (e4 (by rw[h2];rfl));subst hc';rw[e1,h1];simp only[ay,e3,h3,h2];rfl)
 rw[h1];dsimp only;rw[h3];simp only[bC,if_false,h2,Option.isNone_some];exact .ret ⟨by rw[ha.1],hg,ha.2,hv⟩
def J9{ps:List (Tmp×Value)}:∀{t t':Array Value},jf F f t t'->(∀x∈ps,vs F x.2=true)->
 jf F f (ps.foldl (λtmps (x:Tmp×Value)=>tmps.setIfInBounds x.1 x.2) t) ((ps.map λx=>(x.1,rv f x.2)).foldl (λtmps (x:Tmp×Value)=>tmps.setIfInBounds x.1 x.2) t'):=by
 induction ps with
 |nil=>intro t t' h _;exact h
 |cons p ps ih=>
  intro t t' h hp;simp only[aC,List.foldl_cons];refine ih ⟨by rw[h.1,Array.map_setIfInBounds], λy hy=>?_⟩ λx hx=>hp x (aQ _ hx)
  rcases bG hy with hy|rfl
  .exact h.2 y hy
  .exact hp p (aP ..)
def oW(l:Nat)(hA:F.A l=true):dF P F f (λa b=>b= { a with tmps:=a.tmps.map (rv f),defers:=f a.defers }∧oS F (.loop a)) (Instr.getLoop l) (Instr.getLoop (f l)):=by
 unfold Instr.getLoop;refine(jc l hA).bind ?_
 rintro o _⟨rfl,h1,h2⟩;cases o with
 |loop a=>exact .ret ⟨rfl,h1⟩
 |_=>exact .bad trivial
def Qk(l:Nat)(hA:F.A l=true){aS as':Array Value}(ha:jf F f aS as'):dF P F f (NR F f) (Instr.yield l aS) (Instr.yield (f l) as'):=by
 unfold Instr.yield;refine(oW l hA).bind ?_
 rintro r _⟨rfl,h1,h2,h3,h4,h5,h6⟩;dsimp only;rw[ha.size];split
 .exact .bad trivial
 .refine .ret ⟨?_,hA,h2,?_,h4,h5⟩
  all_goals
   have key:=J9 (F:=F) (f:=f) (ps:=(r.params.zip aS).toList) (t:=r.tmps) (t':=r.tmps.map (rv f)) ⟨rfl,h1⟩ (λx hx=>ha.2 x.2 (by
    have h7:(x.1,x.2)∈r.params.toList.zip aS.toList:=by simpa using hx
    simpa using(List.of_mem_zip h7).2))
  .have e:(r.params.zip as').toList=(r.params.zip aS).toList.map λx=>(x.1,rv f x.2):=by
    rw[ha.1];simp[List.zip_map_right]
   have k1:=key.1;rw[<-Array.foldl_toList, <-Array.foldl_toList,e];exact congrArg (λt=>Next.round (f l) r.fn t r.assign r.body) k1
  .rw[<-Array.foldl_toList];exact key.2
end
end
section
variable [Sh]
def ZO(F:Fit):Value->Bool
 | .func (.func g) a b=>F.V g&&a.isEmpty&&b.isEmpty
 |v=>oV v
def eP(P:Program)(F:Fit):Operand->Bool
 | .tmp _=>true
 | .const v=>ZO F v
 | .global _=>false
 | .func g=>F.V g
def Cg(F:Fit):Operand->Bool
 | .func g=>F.S g
 | .const (.func (.func g) a b)=>F.S g&&a.isEmpty&&b.isEmpty
 |_=>false
def Ev:Builtin->Bool
 | .append| .cap| .copy| .len| .max| .min=>true
 |_=>false
def sI(P:Program)(F:Fit)(c:Call):Bool:=
 c.args.all (eP P F)&&match c.callee with
  | .value x=>eP P F x||(c.args.isEmpty&&Cg F x)
  | .builtin b=>Ev b
  | .invoke .. =>false
def jg(P:Program)(F:Fit):Op->Bool
 | .move x| .assign x| .nilCheck x| .unOp _ _ x| .box _ x| .load _ x| .field _ x _| .extract x _| .makeInterface _ x| .range _ x| .next x _=>eP P F x
 | .pick c a b=>eP P F c&&eP P F a&&eP P F b
 | .alloc _=>true
 | .build _ ps| .buildSlice _ _ ps=>ps.all λx=>eP P F x.2
 | .store _ a x| .makeSlice _ a x| .indexAddr _ a x| .index _ a x=>eP P F a&&eP P F x
 | .binOp op t x y _=>eP P F x&&eP P F y&&Qh P op t x y
 | .convert s d x=>eP P F x&&J2 P s d
 | .makeFunc fn a b=>Wi F fn&&(match fn with | .yield _=>false|_=>true)&&a.all (eP P F)&&b.all (eP P F)
 | .makeMap _ r=>r.all (eP P F)
 | .slice _ x l h m=>eP P F x&&l.all (eP P F)&&h.all (eP P F)&&m.all (eP P F)
 | .fieldAddr t x i=>eP P F x&&Fy P t i
 | .lookup t x k _=>eP P F x&&eP P F k&&xS P t
 | .mapUpdate t m k v| .insert t m k v=>eP P F m&&eP P F k&&eP P F v&&xS P t
 | .mapEntry t m k=>eP P F m&&eP P F k&&xS P t
 | .entryStore _ m k v=>eP P F m&&eP P F k&&eP P F v
 | .call c=>sI P F c
 | .panic _=>true
 |_=>false
section
variable {P:Program} {F:Fit} {f:Nat->Nat} {α β γ δ:Type}
def Xz{v:Value}(h:ZO F v=true):VR F f v v:=by
 have pl:oV v=true->VR F f v v:= λh=>⟨(zn (F:=F) (f:=f) h).1.symm,(zn (F:=F) (f:=f) h).2⟩
 cases v with
 |func fn a b=>
  cases fn with
  |func g=>
   simp only[ZO,bB]at h;obtain⟨⟨h1,h2⟩,h3⟩:=h;have ea:a= #[]:=by simpa[Array.isEmpty]using h2
   have eb:b= #[]:=by simpa[Array.isEmpty]using h3
   subst ea;subst eb;exact⟨by simp[T9],sD.2 ⟨h1,by intro x hx;simp at hx,by intro x hx;simp at hx⟩⟩
  |_=>exact pl h
 |_=>exact pl h
def oq(hR:Rn P f){fr fr':Frame}(ht:jf F f fr.tmps fr'.tmps){x:Operand}(hx:eP P F x=true):VR F f (fr.eval x) (fr'.eval x):=by
 cases x with
 |tmp t=>
  show VR F f (fr.tmps.getD t undef) (fr'.tmps.getD t undef);rw[aA,aA];rcases ht.get t with⟨h1,h2⟩|⟨v,h1,h2,h3⟩
  .rw[h1,h2];exact⟨by simp,by simp⟩
  .rw[h1,h2];exact⟨rfl,h3⟩
 |const v=>exact Xz hx
 |global g=>exact absurd hx (by simp[eP])
 |func g=>exact⟨by show Value.func (.func g) #[] #[]=rv f (.func (.func g) #[] #[]);simp[T9],sD.2 ⟨hx,by intro x hx;simp at hx,by intro x hx;simp at hx⟩⟩
def Ch(hR:Rn P f){fr fr':Frame}(ht:jf F f fr.tmps fr'.tmps){xs:Array Operand}(hx:xs.all (eP P F)=true):jf F f (xs.map fr.eval) (xs.map fr'.eval):=by
 refine⟨?_, λv hv=>?_⟩
 .rw[Array.map_map];exact Array.map_congr_left λx h=>(oq hR ht (aU.1 hx x h)).1
 .obtain⟨x,h,rfl⟩:=Array.mem_map.1 hv;exact(oq hR ht (aU.1 hx x h)).2
def xV(hR:Rn P f){fr fr':Frame}(ht:jf F f fr.tmps fr'.tmps){x:Option Operand}(hx:x.all (eP P F)=true):PL F f (x.map fr.eval) (x.map fr'.eval):=by
 cases x with
 |none=>exact .inl ⟨rfl,rfl⟩
 |some x=>
  have :=oq hR ht (by simpa using hx:eP P F x=true);exact .inr ⟨_,rfl,by rw[ay,this.1],this.2⟩
def Hy(hR:Rn P f){fr fr':Frame}(ht:jf F f fr.tmps fr'.tmps){ps:Array (Nat×Operand)}(hx:(ps.all λx=>eP P F x.2)=true):
 (ps.map λ(i,x)=>(i,fr'.eval x))=(ps.map λ(i,x)=>(i,fr.eval x)).map (λx=>(x.1,rv f x.2))∧∀x∈ps.map (λ(i,x)=>(i,fr.eval x)),vs F x.2=true:=by
 have key:∀x∈ps,VR F f (fr.eval x.2) (fr'.eval x.2):= λx h=>oq hR ht (aU.1 hx x h)
 refine⟨?_, λx hx=>?_⟩
 .rw[Array.map_map]
  exact Array.map_congr_left λx h=>by obtain⟨i,y⟩:=x;exact congrArg (Prod.mk i) (key _ h).1
 .obtain⟨y,hy,rfl⟩:=Array.mem_map.1 hx;exact(key y hy).2
def fo{m m':Sem Value}(h:dF P F f (VR F f) m m'):dF P F f (NR F f) (do pure (.value (<-m))) (do pure (.value (<-m'))):=
 h.bind λa b hab=>.ret ⟨by rw[hab.1],hab.2⟩
def Bp{m m':Sem Unit}(h:dF P F f Eq m m'):dF P F f (NR F f) (do m;pure .skip) (do m';pure .skip):=
 h.dL λ_=>.ret rfl
def A8:∀(w:World)(es:Array Event),(∃x w' es',Sem.runT P Instr.panicnil w es=(.halt x w',es')∧G7 x∧DK w w')∨∃a w' es',Sem.runT P Instr.panicnil w es=(.ok a w',es')∧DK w w':=by
 intro w es;have hk:DK w (w.sys .env).2:= λr ds h=>by rw[G5]at h;exact h
 unfold Instr.panicnil sys;simp only[Go.program,Bind.bind,Sem.bind,Sem.runT];cases(w.sys .env).1 with
 |strings env=>exact .inr ⟨_,_,_,rfl,hk⟩
 |_=>exact .inl ⟨_,_,_,rfl,trivial,hk⟩
def Ql(v v':Value):dF P F f (VR F f) (Instr.panic v) (Instr.panic v'):=.lW λw es=>by
 cases v with
 |iface t x=>exact⟨_,_,_,rfl,trivial,DK.refl⟩
 |nilIface=>
  unfold Instr.panic;refine jJ A8 (λa w es=>?_) w es
  by_cases h:(a==1)=true
  .rw[aj h];exact⟨_,_,_,rfl,trivial,DK.refl⟩
  .rw[aa h];exact oo _ w es
 |_=>exact⟨_,_,_,rfl,trivial,DK.refl⟩
def sJ(hF:Hw P F){v v':Value}(hv:VR F f v v'){aS as':Array Value}(ha:jf F f aS as'):
 dF P F f (NR F f) (do let d <-Deferred.ofValue v aS;invoke d.target d.args) (do let d <-Deferred.ofValue v' as';invoke d.target d.args):=by
 obtain⟨rfl,hs⟩:=hv;cases v with
 |func fn first cap=>
  obtain⟨h1,h2,h3⟩:=sD.1 hs;rw[oh];have happ:jf F f (first ++aS) (first.map (rv f)++as'):=jf.append ⟨rfl,h2⟩ ha;cases fn with
  |func g=>exact Al hF (hF.sub g h1) (.inl h1) (happ.append ⟨rfl,h3⟩)
  |yield l=>exact Qk l h1 happ
  |_=>cases h1
 |nilFunc=>rw[kV];exact eZ (α:=Next) .nilDeref _
 |_=>exact .bad trivial
def Ka(hR:Rn P f){b:Builtin}(hb:Ev b=true)(ts:Array TypeId)(t:TypeId)(cs:Array Bool){aS as':Array Value}(ha:jf F f aS as'):
 dF P F f (NR F f) (builtin b ts t cs aS) (builtin b ts t cs as'):=by
 cases b<;>first
  |(cases hb;done)
  |exact fo (NM hR.gD ts t ha)
  |exact fo (Xw ts t ha)
  |exact fo (Uo ts t ha)
  |exact fo (Xv ts t ha)
  |exact fo (Xx ts t ha)
  |exact fo (Xy ts t ha)
def Uu(hR:Rn P f)(hF:Hw P F){fr fr':Frame}(ht:jf F f fr.tmps fr'.tmps){c:Call}(hc:sI P F c=true)(t:TypeId):
 dF P F f (NR F f) (do let d <-resolve fr.eval c t;invoke d.target d.args) (do let d <-resolve fr'.eval c t;invoke d.target d.args):=by
 unfold sI at hc;rw[bB]at hc;have ha:=Ch hR ht hc.1;have h2:=hc.2;unfold resolve;cases hcl:c.callee with
 |value x=>
  rw[hcl]at h2;rcases Bool.or_eq_true_iff.1 h2 with h2|h2
  .exact sJ hF (oq hR ht h2) ha
  .rw[bB]at h2;have ea:c.args= #[]:=by simpa[Array.isEmpty]using h2.1
   obtain⟨g,hg,e1⟩:∃g,F.S g=true∧∀fr:Frame,fr.eval x=.func (.func g) #[] #[]:=by
    have h3:=h2.2;cases x with
    |func g=>exact⟨g,h3, λ_=>rfl⟩
    |const v=>
     cases v with
     |func fn a b=>
      cases fn with
      |func g=>
       simp only[Cg,bB]at h3;obtain⟨⟨h3,h4⟩,h5⟩:=h3;have e4:a= #[]:=by simpa[Array.isEmpty]using h4
       have e5:b= #[]:=by simpa[Array.isEmpty]using h5
       subst e4 e5;exact⟨g,h3, λ_=>rfl⟩
      |_=>cases h3
     |_=>cases h3
    |_=>cases h3
   simp only[e1,ea,List.map_toArray,List.map_nil];exact Al (aS:= #[]) (as':= #[]) hF hg (.inr rfl) ⟨by simp,by intro v hv;simp at hv⟩
 |builtin b=>rw[hcl]at h2;exact Ka hR h2 _ _ _ ha
 |invoke r n=>rw[hcl]at h2;cases h2
def Ew(hR:Rn P f)(hF:Hw P F){fr fr':Frame}(ht:jf F f fr.tmps fr'.tmps){o:Oper}(ho:jg P F o.op=true):dF P F f (NR F f) (execOp fr.eval o) (execOp fr'.eval o):=by
 unfold execOp;have ev:∀{x:Operand},eP P F x=true->VR F f (fr.eval x) (fr'.eval x):= λh=>oq hR ht h
 have av:∀{x:Operand},eP P F x=true->dF P F f (NR F f) (Pure.pure (.value (fr.eval x))) (Pure.pure (.value (fr'.eval x))):= λh=>.ret ⟨by rw[(ev h).1],(ev h).2⟩
 cases hop:o.op with
 |move x=>rw[hop]at ho;exact av ho
 |assign x=>rw[hop]at ho;exact av ho
 |pick c a b=>
  rw[hop]at ho;simp only[jg,bB]at ho;refine(zq (ev ho.1.1)).dL λt=>?_
  cases t
  .exact av ho.2
  .exact av ho.1.2
 |alloc t=>exact fo (P7 hR.gD t)
 |box t x=>rw[hop]at ho;exact fo (Xu t (ev ho))
 |build t ps=>
  rw[hop]at ho;have :=Hy hR ht ho;exact fo (Qb hR.gD t this.1 this.2)
 |buildSlice t n ps=>
  rw[hop]at ho;have :=Hy hR ht ho;exact fo (Ec hR.gD t n this.1 this.2)
 |load t a=>rw[hop]at ho;exact fo (NK t (ev ho))
 |store t a x=>
  rw[hop]at ho;simp only[jg,bB]at ho;exact Bp (JO t (ev ho.1) (ev ho.2))
 |nilCheck x=>
  rw[hop]at ho;obtain⟨e,hs⟩:=ev (x:=x) ho;dsimp only;rw[e];generalize fr.eval x=v at hs;cases v with
  |pointer a=>
   rw[dX];cases a with
   |none=>exact eZ (α:=Next) .nilDeref _
   |some a=>exact .ret ⟨by simp,hs⟩
  |nilIface=>exact eZ (α:=Next) .nilDeref _
  |nilFunc=>exact eZ (α:=Next) .nilDeref _
  |func fn a b=>
   have h1:=(sD.1 hs).1;rw[oh];cases fn with
   |func g=>exact .ret ⟨by simp,hs⟩
   |yield l=>exact .ret ⟨by simp,hs⟩
   |_=>cases h1
  |_=>exact .ret ⟨rfl,hs⟩
 |binOp op t x y yt=>
  rw[hop]at ho;simp only[jg,bB]at ho;exact fo (Qi hR ho.2 (ev ho.1.1) (ev ho.1.2) (λv e=>by subst e;rfl) (λv e=>by subst e;rfl))
 |unOp op t x=>rw[hop]at ho;exact fo (Qd op (ev ho))
 |convert s d x=>
  rw[hop]at ho;simp only[jg,bB]at ho;exact fo (J3 ho.2 (ev ho.1))
 |makeInterface t x=>
  rw[hop]at ho;refine fo ?_
  unfold Instr.makeInterface;refine(dQ t).dL λd=>?_
  cases d<;>first|exact .bad trivial|exact .ret (VR.iface (ev ho))
 |makeFunc fn a b=>
  rw[hop]at ho;simp only[jg,bB]at ho;obtain⟨⟨⟨h1,h2⟩,h3⟩,h4⟩:=ho;have ha:=Ch hR ht h3;have hb:=Ch hR ht h4;refine fo (.ret ⟨?_,sD.2 ⟨h1,ha.2,hb.2⟩⟩);rw[oh,ha.1,hb.1];cases fn<;>first|rfl|cases h2
 |makeMap t r=>rw[hop]at ho;exact fo (J6 t (xV hR ht ho))
 |makeSlice t l c=>
  rw[hop]at ho;simp only[jg,bB]at ho;exact fo (Fz hR.gD t (ev ho.1) (ev ho.2))
 |slice t x l h m=>
  rw[hop]at ho;simp only[jg,bB]at ho;exact fo (JR t (ev ho.1.1.1) (xV hR ht ho.1.1.2) (xV hR ht ho.1.2) (xV hR ht ho.2))
 |fieldAddr t x i=>
  rw[hop]at ho;simp only[jg,bB]at ho;exact fo (JP ho.2 (ev ho.1))
 |field t x i=>rw[hop]at ho;exact fo (P8 t (ev ho) i)
 |indexAddr t x i=>
  rw[hop]at ho;simp only[jg,bB]at ho;exact fo (JQ t (ev ho.1) (ev ho.2))
 |index t x i=>
  rw[hop]at ho;simp only[jg,bB]at ho;exact fo (P9 t (ev ho.1) (ev ho.2))
 |lookup t x k ok=>
  rw[hop]at ho;simp only[jg,bB]at ho;exact fo (NU hR ho.2 (ev ho.1.1) (ev ho.1.2) ok)
 |mapUpdate t m k v=>
  rw[hop]at ho;simp only[jg,bB]at ho;exact Bp (xU hR ho.2 (ev ho.1.1.1) (ev ho.1.1.2) (ev ho.1.2))
 |insert t m k v=>
  rw[hop]at ho;simp only[jg,bB]at ho;exact Bp (xU hR ho.2 (ev ho.1.1.1) (ev ho.1.1.2) (ev ho.1.2))
 |mapEntry t m k=>
  rw[hop]at ho;simp only[jg,bB]at ho;exact fo (Hu hR ho.2 (ev ho.1.1) (ev ho.1.2))
 |entryStore t m k v=>
  rw[hop]at ho;simp only[jg,bB]at ho;exact Bp (Ed t (ev ho.1.1) (ev ho.1.2) (ev ho.2))
 |range t x=>rw[hop]at ho;exact fo (Qj t (ev ho))
 |next x s=>rw[hop]at ho;exact fo (Ut _ s (ev ho))
 |extract x i=>rw[hop]at ho;exact fo (J8 (ev ho) i)
 |call c=>rw[hop]at ho;exact Uu hR hF ht ho _
 |panic x=>exact fo (Ql _ _)
 |_=>rw[hop]at ho;cases ho
end
end
end cS
namespace cS
open Go Go.Conc
section
variable [Sh]
def codeOk(P:Program)(F:Fit):Code->Bool
 | .skip| .exit _| .ret| .refuse _| .label _=>true
 | .goto _=>false
 | .region _ ops _=>ops.all λo=>jg P F o.op
 | .seq a b=>codeOk P F a&&codeOk P F b
 | .cond c a b=>eP P F c&&codeOk P F a&&codeOk P F b
 | .block _ c| .loop c| .scope c=>codeOk P F c
 | .rangeFunc x _ a b=>eP P F x&&codeOk P F a&&codeOk P F b
structure kL(P:Program)(F:Fit):Prop where
 fit:Hw P F
 code:∀c,F.code c=codeOk P F c
def ql(f:Nat->Nat):Item->Item
 | .inRangeFunc l=>.inRangeFunc (f l)
 | .endRangeFunc l=>.endRangeFunc (f l)
 |x=>x
def zz(P:Program)(F:Fit):Item->Prop
 | .code c=>F.code c=true
 | .inBlock _=>True
 | .inLoop c=>F.code c=true
 | .inScope c=>F.code c=true
 | .inRegion ops _=>(ops.all λo=>jg P F o.op)=true
 | .inRangeFunc l=>F.A l=true
 | .endRangeFunc l=>F.A l=true
 | .beginRound=>True
 | .call .. =>False
 | .extern .. =>False
def Hz(r:Nat):Deferred:={ target:=.collected r,args:= #[] }
structure jM(P:Program)(F:Fit)(fr:Frame):Prop where
 fn:F.S fr.fn=true
 tmps:VS F fr.tmps
 todo:∀i∈fr.todo,zz P F i
 defers:∀d∈fr.defers,∃r,d=Hz r∧F.A r=true
 kind:fr.kind=.normal
 round:∀l,fr.roundOf=some l->F.A l=true
def ic(f:Nat->Nat)(fr:Frame):Frame:=
 { fr with tmps:=fr.tmps.map (rv f),todo:=fr.todo.map (ql f),defers:=fr.defers.map (rd f),roundOf:=fr.roundOf.map f }
section
variable {P:Program} {F:Fit} {f:Nat->Nat} {w W:World}
def jM.Wa{fr:Frame}(h:jM P F fr):jf F f fr.tmps (ic f fr).tmps:=⟨rfl,h.tmps⟩
def Ia(ops:Array Oper)(tmps:Array Value):yielded ops (tmps.map (rv f))=yielded ops tmps:=by
 funext j;unfold yielded;cases h:(ops[j]?).bind (·.dst)with
 |none=>rfl
 |some d=>
  simp only[Option.bind_some,aG];cases ht:tmps[d]? with
  |none=>rfl
  |some v=>cases v<;>simp
def oZ(fr:Frame)(v:Value)(hno:∀i∈fr.todo,zz P F i):(ic f fr).finish (rv f v)=ic f (fr.finish v):=by
 cases ht:fr.todo with
 |nil=>simp[Frame.finish,ic,ht]
 |cons i k=>
  have hi:zz P F i:=hno i (by simp[ht]);cases i with
  |inRegion ops l=>
   cases l with
   |nil=>simp[Frame.finish,ic,ht,ql]
   |cons x rest=>
    simp only[Frame.finish,ic,ht,aC,ql];cases(ops[x]?).bind (·.dst)with
    |none=>rfl
    |some d=>simp[Array.map_setIfInBounds]
  |call _ _ _ _=>exact hi.elim
  |extern _ _=>exact hi.elim
  |_=>simp[Frame.finish,ic,ht,ql]
def jM.finish{fr:Frame}(h:jM P F fr){v:Value}(hv:vs F v=true):jM P F (fr.finish v):=by
 obtain⟨h1,h2,h3,h4,h5,h6⟩:=h;unfold Frame.finish;split
 .rename_i ops i rest k ht;rw[ht]at h3;refine⟨h1,?_,?_,h4,h5,h6⟩
  .dsimp only;split
   .intro x hx;rcases bG hx with hx|rfl
    .exact h2 x hx
    .exact hv
   .exact h2
  .intro x hx;rcases bD.1 hx with rfl|hx
   .exact h3 (.inRegion ops (i::rest)) (by simp)
   .exact h3 x (by simp[hx])
 .rename_i l k ht;rw[ht]at h3;refine⟨h1,h2, λx hx=>?_,h4,h5,h6⟩;rcases bD.1 hx with rfl|hx
  .exact h3 (.inRangeFunc l) (by simp)
  .exact h3 x (by simp[hx])
 .rename_i k ht;rw[ht]at h3;exact⟨h1,h2, λx hx=>h3 x (by simp[hx]),h4,h5,h6⟩
 .rename_i ht;rw[ht]at h3;exact az (h3 (.call _ _ _ _) (aP ..))
 .rename_i ht;rw[ht]at h3;exact az (h3 (.extern _ _) (aP ..))
 .exact⟨h1,h2,h3,h4,h5,h6⟩
def jM.enter(hF:kL P F){g:FuncId}(hg:F.S g=true){aS:Array Value}(ha:VS F aS):jM P F (Frame.enter P g aS .normal):=by
 obtain⟨fn,c,h1,h2,_,h4⟩:=hF.fit.body g hg;refine⟨hg, λx hx=>?_, λi hi=>?_,by simp[Frame.enter],rfl,by simp[Frame.enter]⟩
 .rcases Array.mem_append.1 hx with hx|hx
  .exact ha x hx
  .rw[(Array.mem_replicate.1 hx).2];exact oQ
 .simp[Frame.enter,h1,h2]at hi;subst hi;exact h4
def zA(hF:kL P F){g:FuncId}(hg:F.S g=true)(aS:Array Value):Frame.enter P g (aS.map (rv f)) .normal=ic f (Frame.enter P g aS .normal):=by obtain⟨fn,c,h1,h2,_,h4⟩:=hF.fit.body g hg;simp[Frame.enter,ic,h1,h2,ql,Array.map_append,Array.map_replicate]
def jM.rnd{l:Nat}{g:FuncId}{t:Array Value}{a b:Code}(hl:F.A l=true)(hg:F.S g=true)(ht:VS F t)(ha:F.code a=true)(hb:F.code b=true):jM P F (Frame.round l g t a b .normal):=
 ⟨hg,ht, λi hi=>by simp[Frame.round]at hi;rcases hi with rfl|rfl|rfl<;>first|exact ha|exact trivial|exact hb,by simp[Frame.round],rfl, λl' hl'=>by simp[Frame.round]at hl';subst hl';exact hl⟩
def NW(l:Nat)(g:FuncId)(t:Array Value)(a b:Code):Frame.round (f l) g (t.map (rv f)) a b .normal=ic f (Frame.round l g t a b .normal):=by simp[Frame.round,ic,ql]
def Ib(P:Program)(fn:FuncId)(u:Array Event):seen P fn (u.map (rev f))=(seen P fn u).map (rev f):=by
 have step:∀(quiet:FuncId->Bool)(x:Bool×Array Event)(e:Event),seenStep quiet (x.1,x.2.map (rev f)) (rev f e)=((seenStep quiet x e).1,(seenStep quiet x e).2.map (rev f)):=by
  intro quiet x e;obtain⟨q,a⟩:=x;obtain⟨loc,wr,sy⟩:=e
  have plain:∀s:Bool,(rev f ⟨loc,wr,sy⟩).sync=s->(if(q&&!s)=true then a.map (rev f)else(a.map (rev f)).push (rev f ⟨loc,wr,sy⟩))=(if(q&&!s)=true then a else a.push ⟨loc,wr,sy⟩).map (rev f):=by
   intro s _;split
   .rfl
   .rw[Array.map_push]
  have hs:(rev f ⟨loc,wr,sy⟩).sync=sy:=by rfl
  cases loc with
  |mark m=>cases m<;>first|rfl|exact congrArg (Prod.mk q) (plain sy hs)
  |_=>exact congrArg (Prod.mk q) (plain sy hs)
 have key:∀(quiet:FuncId->Bool)(l:List Event)(x:Bool×Array Event),(l.map (rev f)).foldl (seenStep quiet) (x.1,x.2.map (rev f))=((l.foldl (seenStep quiet) x).1,(l.foldl (seenStep quiet) x).2.map (rev f)):=by
  intro quiet l
  induction l with
  |nil=>intro x;rfl
  |cons e l ih=>
   intro x;simp only[aC,List.foldl_cons];rw[step,ih]
 rw[seen_def,seen_def,Array.toList_map];have :=key (λf=>(P.funcs[f]?).any (·.norace)) u.toList ((P.funcs[fn]?).any (·.norace),#[]);rw[Array.map_empty]at this;rw[this]
end
end
section
variable [Sh]
def tQ(P:Program)(F:Fit):Frame->List Frame->Prop
 |fr,[]=>jM P F fr∧fr.roundOf=none
 |fr,g::up=>jM P F fr∧g.mode=.run∧tQ P F g up
def coll(F:Fit)(fr:Frame):Prop:=∀d∈fr.defers,∃r,d=Hz r∧F.A r=true
def PS(F:Fit)(cs:List Frame)(g:Goroutine)(w:World):Prop:=
 ∃fr up chain,g=G fr (up++cs)∧fr.mode=.panicking chain∧(∀x∈fr::up,coll F x)∧BF F w
def gw:GStep->World
 | .go _ w _| .comm _ _ _ _ w _| .spawn _ _ w _| .count _ w _| .timer _ _ w _| .alone _ _ w _| .newcoro _ _ _ w _| .coroswitch _ _ _ w _| .collect _ w _| .watch _ w _| .ended _ w _=>w
def Top(P Q:Program)(F:Fit)(f:Nat->Nat)(fr:Frame)(up:List Frame)(X:Frame):Prop:=
 X=ic f fr∨∃g aS,F.S g=true∧VS F aS∧(F.V g=true∨aS= #[])∧up≠ []∧fr=Frame.enter P g aS .normal∧X=Frame.enter Q g (aS.map (rv f)) .normal
def SR(P Q:Program)(F:Fit)(f:Nat->Nat)(cs K:List Frame)(w W:World)(s S:GStep):Prop:=
 Out F w (gw s)∨match s with
 | .ended .. =>True
 | .go g w1 es=>PS F cs g w1∨∃qh wR X W1 es',g=G qh (wR++cs)∧tQ P F qh wR∧(qh.mode=.run∨qh.mode=.returning)∧Top P Q F f qh wR X∧
     S=.go (G X (wR.map (ic f)++K)) W1 es'∧Mv F f w W w1 W1∧zm F f w1 #[] #[] es es'
 |_=>False
section
variable {P Q:Program} {F:Fit} {f:Nat->Nat} {w W:World} {cs K:List Frame}
def tQ.top{fr:Frame}{up:List Frame}(h:tQ P F fr up):jM P F fr:=by
 cases up with
 |nil=>exact h.1
 |cons g up=>exact h.1
def tQ.set{fr fr':Frame}{up:List Frame}(h:tQ P F fr up)(h1:jM P F fr')(h2:fr'.roundOf=fr.roundOf):tQ P F fr' up:=by
 cases up with
 |nil=>exact⟨h1,h2.trans h.2⟩
 |cons g up=>exact⟨h1,h.2⟩
def tQ.push{fr fr':Frame}{up:List Frame}(h:tQ P F fr up)(h1:jM P F fr')(hm:fr.mode=.run):tQ P F fr' (fr::up):=⟨h1,hm,h⟩
def tQ.coll:∀{fr:Frame}{up:List Frame},tQ P F fr up->∀x∈fr::up,coll F x
 |fr,[],h=>by intro x hx;simp at hx;subst hx;exact h.1.defers
 |fr,g::up,h=>by
  intro x hx;rcases bD.1 hx with rfl|hx
  .exact h.1.defers
  .exact tQ.coll h.2.2 x hx
def jM.todo'{fr:Frame}(h:jM P F fr){t:List Item}(ht:∀i∈t,zz P F i):jM P F { fr with todo:=t }:=
 ⟨h.fn,h.tmps,ht,h.defers,h.kind,h.round⟩
def l6(fr:Frame)(v:Value):(fr.finish v).roundOf=fr.roundOf:=by unfold Frame.finish;split<;>rfl
def nO(fr:Frame)(v:Value):(fr.finish v).mode=fr.mode:=by unfold Frame.finish;split<;>rfl
def L9(w1:World):zm F f w1 #[] #[] #[] #[]:=⟨#[],by simp,by simp,by simp⟩
def Alike.quiet(hQ:Alike P Q):(λf:FuncId=>(Q.funcs[f]?).any (·.norace))= λf=>(P.funcs[f]?).any (·.norace):=by
 funext g;obtain⟨h,h1,h2⟩:=hQ.get g;rw[h1];cases P.funcs[g]? with
 |none=>rfl
 |some fn=>
  obtain⟨b,hb,_⟩:=h2 fn;simp[hb]
def Alike.seen(hQ:Alike P Q)(fn:FuncId)(es:Array Event):Go.seen Q fn es=Go.seen P fn es:=by rw[seen_def,seen_def,hQ.quiet];have :=congrFun hQ.quiet fn;simp only at this;rw[this]
def Ic(hQ:Alike P Q){w1:World}{fn:FuncId}{es es':Array Event}(h:zm F f w1 #[] #[] es es'):zm F f w1 #[] #[] (seen P fn es++ #[]) (seen Q fn es'++ #[]):=by rw[hQ.seen];obtain⟨u,rfl,rfl,hu⟩:=h;refine⟨seen P fn u,by simp,by simp[Ib], λe he=>hu e (mem_seen he)⟩
def SR.quiet(ha:Ag F f w W){qh:Frame}{wR:List Frame}(hs:tQ P F qh wR)(hm:qh.mode=.run∨qh.mode=.returning):
 SR P Q F f cs K w W (.go (G qh (wR++cs)) w #[]) (.go (G (ic f qh) (wR.map (ic f)++K)) W #[]):=
 .inr (.inr ⟨qh,wR,_,W,#[],rfl,hs,hm,.inl rfl,rfl,Mv.refl ha,L9 w⟩)
def SR.acts(hQ:Alike P Q){w1 W1:World}{fn:FuncId}{es es':Array Event}{qh:Frame}{wR:List Frame}(hs:tQ P F qh wR)(hm:qh.mode=.run∨qh.mode=.returning)(hv:Mv F f w W w1 W1)(he:zm F f w1 #[] #[] es es'):
 SR P Q F f cs K w W (GStep.after (seen P fn es) (.go (G qh (wR++cs)) w1 #[])) (GStep.after (seen Q fn es') (.go (G (ic f qh) (wR.map (ic f)++K)) W1 #[])):=
 .inr (.inr ⟨qh,wR,_,W1,_,rfl,hs,hm,.inl rfl,rfl,hv,Ic hQ he⟩)
def SR.falls{w1:World}{es:Array Event}{fr:Frame}{up:List Frame}{S:GStep}(v:List PanicEntry)(hs:tQ P F fr up)(hd:BF F w1):
 SR P Q F f cs K w W (GStep.after es (.go (G (fr.raise v) (up++cs)) w1 #[])) S:=by
 refine .inr (.inl ?_);have hc:=hs.coll
 have hm:∃ch,(fr.raise v).mode=.panicking ch:=by
  unfold Frame.raise;cases fr.mode with
  |panicking ch=>exact⟨_,rfl⟩
  |_=>exact⟨_,rfl⟩
 obtain⟨ch,hm⟩:=hm;refine⟨fr.raise v,up,ch,rfl,hm, λx hx=>?_,hd⟩;rcases bD.1 hx with rfl|hx
 .have :=hc fr (aP ..);intro d Qm;refine this d ?_
  unfold Frame.raise at Qm;cases hmm:fr.mode<;>(rw[hmm]at Qm;exact Qm)
 .exact hc x (aQ _ hx)
def kM(es:Array Event)(s:GStep):gw (GStep.after es s)=gw s:=by cases s<;>rfl
def xW{α:Type}(m:Sem α)(w:World):w.heap.size<=(rw' (m.run P w)).heap.size:=by have :=runT_size (P:=P) m w #[];rw[Sem.runT_fst]at this;exact this
def zB{α:Type}{m:Sem α}{w:World}{r:Result α}(h:m.run P w=r):w.heap.size<=(rw' r).heap.size:=h ▸ xW (P:=P) m w
def Ee(fr:Frame)(k:List Frame)(d:Option Dying)(m:String)(w:World):w.heap.size<=(gw (endFatal P fr k d m w)).heap.size:=by
 unfold endFatal;dsimp only;split
 .rename_i h;exact zB h
 .rename_i h;exact zB h
 .rename_i h;exact zB h
def Kb(fr:Frame)(k:List Frame)(d:Option Dying)(g:Nat)(w:World):w.heap.size<=(gw (early P fr k d g w)).heap.size:=by
 have ny:∀w0 w:World,w0.heap.size<=w.heap.size->w0.heap.size<=(gw (match w.heap[g]? with
  |some (.pending c elem)=>GStep.go { frame:=fr,callers:=k,status:=.running,dying:=d } { w with heap:=w.heap.setIfInBounds g (.cells c elem) }
  |_=>.ended (.stuck "early: the variable does not wait" (fr.pos P)) w)).heap.size:=by
  intro w0 w h;split
  .simpa[gw]using h
  .exact h
 unfold early;dsimp only;split
 .exact ny w w (aJ _)
 .split
  .exact aJ _
  .split
   .exact ny w w (aJ _)
   .split
    .exact ny w w (aJ _)
    .split
     .exact aJ _
     .exact aJ _
     .exact aJ _
     .exact ny w w (aJ _)
     .split
      .exact aJ _
      .split
       .exact ny w w (aJ _)
       .split
        .rename_i h;have :=xW (P:=P) (choose (.early g)) w;rw[h]at this;exact ny _ _ this
        .rename_i h;have :=xW (P:=P) (choose (.early g)) w;rw[h]at this;exact this
        .rename_i h;have :=xW (P:=P) (choose (.early g)) w;rw[h]at this;exact this
def Ie{fr:Frame}{k:List Frame}(hk:(fr.kind==CallKind.early)=false)(m:Sem Next)(w:World):
 (rw' (m.runT P w #[]).1).heap.size<=(gw (stepG.apply P true fr k none m w)).heap.size:=by
 unfold stepG.apply;simp only[if_true,hk];generalize m.runT P w #[]=x;obtain⟨x1,x2⟩:=x;rw[kM];cases x1 with
 |ok a w1=>
  cases a<;>first
   |exact aJ _
   |(dsimp only;split<;>exact aJ _)
   |(dsimp only;split<;>split<;>exact aJ _)
 |halt h w1=>
  cases h<;>first
   |exact aJ _
   |exact Ee ..
   |(rename_i u;cases u<;>first|exact aJ _|exact Kb ..)
def zC(hQ:Alike P Q)(hF:kL P F)(hi:∀a b,Sh.lk a=false->Sh.hol b=false->f a=f b->a=b)(ha:Ag F f w W){fr:Frame}{up:List Frame}(hs:tQ P F fr up)(hm:fr.mode=.run){m m':Sem Next}(h:dF P F f (NR F f) m m'):
 SR P Q F f cs K w W (stepG.apply P true fr (up++cs) none m w) (stepG.apply Q true (ic f fr) (up.map (ic f)++K) none m' W):=by
 have hfr:=hs.top;have hr:=h.BI hQ hi w W #[] #[] ha;have hk:(fr.kind==CallKind.early)=false:=by rw[hfr.kind];rfl
 have hk':((ic f fr).kind==CallKind.early)=false:=hk;have hfn:(ic f fr).fn=fr.fn:=rfl;have hgw:=Ie (P:=P) (k:=up++cs) hk m w;rcases hr with ho|hr
 .obtain⟨b,b1,b2,b3⟩:=ho;exact .inl ⟨b,b1,by omega,b3⟩
 clear hgw;unfold stepG.apply;simp only[if_true,hk,hk',hfn];generalize m.runT P w #[]=x at hr;generalize m'.runT Q W #[]=y at hr;obtain⟨x1,x2⟩:=x;obtain⟨y1,y2⟩:=y;cases x1 with
 |ok a w1=>
  obtain⟨b,W1,h1,h2,h3,h4⟩:=hr;simp only at h1 h4;subst h1;simp only[bC,if_false];cases a with
  |value v=>
   obtain⟨rfl,hv⟩:=h2;have :=SR.acts (P:=P) (Q:=Q) (cs:=cs) (K:=K) (fn:=fr.fn) hQ (hs.set (hfr.finish hv) (l6 fr v)) (.inl ((nO fr v).trans hm)) h3 h4;rw[<-oZ (f:=f) fr v hfr.todo]at this;exact this
  |skip=>
   have h2':b=.skip:=h2
   subst h2';have :=SR.acts (P:=P) (Q:=Q) (cs:=cs) (K:=K) (fn:=fr.fn) hQ (hs.set (hfr.finish (v:=undef) oQ) (l6 fr _)) (.inl ((nO fr _).trans hm)) h3 h4;rw[<-oZ (f:=f) fr undef hfr.todo,GZ]at this;exact this
  |enter g aS=>
   obtain⟨rfl,hg,has,hv⟩:=h2
   have this:SR P Q F f cs K w W (GStep.after (seen P fr.fn x2) (.go (G (Frame.enter P g aS .normal) ((fr::up)++cs)) w1 #[])) (GStep.after (seen Q fr.fn y2) (.go (G (Frame.enter Q g (aS.map (rv f)) .normal) ((fr::up).map (ic f)++K)) W1 #[])):=
    .inr (.inr ⟨_,fr::up,_,W1,_,rfl,hs.push (jM.enter hF hg has) hm,.inl rfl,.inr ⟨g,aS,hg,has,hv,by simp,rfl,rfl⟩,rfl,h3,Ic hQ h4⟩)
   have hT:(ic f fr).todo=fr.todo.map (ql f):=rfl;cases ht:fr.todo with
   |nil=>simp only[hT,ht,List.map_nil];exact this
   |cons i k=>
    have hi:=hfr.todo i (by rw[ht];exact aP ..);simp only[hT,ht,aC];cases i<;>first|exact this|exact az hi
  |round l g t x y=>
   obtain⟨rfl,hl,hg,ht,hx,hy⟩:=h2;have :=SR.acts (P:=P) (Q:=Q) (cs:=cs) (K:=K) (fn:=fr.fn) hQ (hs.push (jM.rnd hl hg ht hx hy) hm) (.inl rfl) h3 h4;rw[<-NW (f:=f) l g t x y]at this;exact this
  |_=>exact h2.elim
 |halt hh w1=>
  obtain⟨hb,hd⟩:=hr;cases hh with
  |panic v=>exact SR.falls _ hs hd
  |stuck s=>exact .inr trivial
  |unsupported u=>
   cases u<;>first|exact hb.elim|exact .inr trivial
  |_=>exact hb.elim
end
end
section
variable [Sh]
section
variable {P:Program} {F:Fit} {f:Nat->Nat} {w W:World} {cs K:List Frame}
def Ci(id:Nat):∀(k:List Item),exitTo id (k.map (ql f))=(exitTo id k).map (List.map (ql f))
 | []=>rfl
 |i::k=>by have ih:=Ci id k;cases i<;>first|exact ih|(simp only[aC,ql,exitTo];split<;>first|rfl|exact ih)
def Cj{id:Nat}:∀{k k':List Item},exitTo id k=some k'->∀i∈k',i∈k
 | [],k',h=>by cases h
 |i::k,k',h=>by
  intro j hj;have ih:∀k',exitTo id k=some k'->∀i∈k',i∈k:= λk'=>Cj
  cases i<;>first
   |exact aQ _ (ih _ h j hj)
   |(simp only[exitTo]at h;split at h
     .cases h;exact aQ _ hj
     .exact aQ _ (ih _ h j hj))
def lC(l:Nat)(hA:F.A l=true){jump:Option Code}(hj:∀c,jump=some c->F.code c=true):dF P F f (VR F f) (Instr.endRound l jump) (Instr.endRound (f l) jump):=by
 unfold Instr.endRound;refine(oW l hA).bind ?_
 rintro r _⟨rfl,h1,h2,h3,h4,h5,h6⟩;refine(mU l hA (o:=.loop { r with state:=if jump.isNone then .ready else .done,pending:=jump }) ⟨h1,h2,h3,h4,h5,hj⟩ rfl).bind λ_ _ _=>.ret VR.bool
def wm(l:Nat)(hA:F.A l=true):dF P F f Eq (Instr.beginRound l) (Instr.beginRound (f l)):=by
 unfold Instr.beginRound;refine(oW l hA).bind ?_
 rintro r _⟨rfl,h1,h2,h3,h4,h5,h6⟩;refine(mU l hA (o:=.loop { r with state:=.busy }) ⟨h1,h2,h3,h4,h5,h6⟩ rfl).bind λ_ _ _=>?_
 cases r.state with
 |ready=>exact .ret rfl
 |_=>exact eZ _ _
def Ck(l:Nat)(hA:F.A l=true):dF P F f (λa b=>a=b∧∀c,a=some c->F.code c=true) (Instr.endLoop l) (Instr.endLoop (f l)):=by
 unfold Instr.endLoop;refine(oW l hA).bind ?_
 rintro r _⟨rfl,h1,h2,h3,h4,h5,h6⟩;dsimp only;split
 .exact dF.bind (R:= λ_ _=>False) (eZ _ _) λ_ _ x=>x.elim
 .exact(mU l hA (o:=.loop { r with state:=.exhausted }) ⟨h1,h2,h3,h4,h5,h6⟩ rfl).bind λ_ _ _=>.ret ⟨rfl,h6⟩
def tT(l:Nat)(hA:F.A l=true):dF P F f (λa b=>a= []∧b= []) (Instr.takeDeferred l) (Instr.takeDeferred (f l)):=by
 unfold Instr.takeDeferred;refine(jc l hA).bind ?_
 rintro o _⟨rfl,h1,h2⟩;cases o with
 |deferred ds=>
  rcases h1 with rfl|rfl
  .exact(mU l hA (o:=.deferred none) (.inr rfl) rfl).bind λ_ _ _=>.ret ⟨rfl,rfl⟩
  .exact .bad trivial
 |_=>exact .bad trivial
def xX{fn:FuncId}(hfn:F.S fn=true){t:Array Value}(ht:VS F t)(ps:Array Tmp){a b:Code}(ha:F.code a=true)(hb:F.code b=true){ar:Option Nat}(har:∀l,ar=some l->F.A l=true):
 dF P F f (λ(x y:Nat×List Deferred)=>y=(f x.1,x.2.map (rd f))∧F.A x.1=true∧∀d∈x.2,∃r,d=Hz r∧F.A r=true) (Instr.enterLoop fn t ps a b ar) (Instr.enterLoop fn (t.map (rv f)) ps a b (ar.map f)):=by
 unfold Instr.enterLoop
 have fin:∀(d:Nat)(mk:List Deferred),F.A d=true->(∀x∈mk,∃r,x=Hz r∧F.A r=true)->
  dF P F f (λ(x y:Nat×List Deferred)=>y=(f x.1,x.2.map (rd f))∧F.A x.1=true∧∀d∈x.2,∃r,d=Hz r∧F.A r=true)
   (do let r <-newObj (Obj.loop { state:=.ready,pending:=none,fn:=fn,tmps:=t,params:=ps,assign:=a,body:=b,defers:=d });pure (r,mk))
   (do let r <-newObj (Obj.loop { state:=.ready,pending:=none,fn:=fn,tmps:=t.map (rv f),params:=ps,assign:=a,body:=b,defers:=f d });pure (r,mk.map (rd f))):=by
  intro d mk h1 h2;refine(oI (o:=.loop { state:=.ready,pending:=none,fn:=fn,tmps:=t,params:=ps,assign:=a,body:=b,defers:=d }) ⟨ht,hfn,h1,ha,hb,by intro c hc;cases hc⟩).bind ?_
  rintro r _⟨rfl,hr,_⟩;exact .ret ⟨rfl,hr,h2⟩
 cases ar with
 |none=>
  refine(oI (o:=.deferred (some [])) (.inl rfl)).bind ?_
  rintro r _⟨rfl,hr,_⟩;have h0: [Hz r].map (rd f)= [Hz (f r)]:=by simp[Hz,rd]
  have h1:=fin r [Hz r] hr (by intro d hd;simp at hd;subst hd;exact⟨r,rfl,hr⟩);rw[h0]at h1;exact h1
 |some l=>
  refine(oW l (har l rfl)).bind ?_
  rintro r _⟨rfl,h1,h2,h3,h4,h5,h6⟩;exact fin r.defers [] h3 (by intro d hd;cases hd)
end
end
section
variable [Sh]
section
variable {P Q:Program} {F:Fit} {f:Nat->Nat} {w W:World} {cs K:List Frame}
def SR.out{w2:World}{s S:GStep}(ho:Out F w w2)(hs:w2.heap.size<=(gw s).heap.size):SR P Q F f cs K w W s S:=
 let⟨b,h1,h2,h3⟩:=ho; .inl ⟨b,h1,aK h2 hs,h3⟩
def jO(ma:Bool)(fr:Frame)(k:List Frame)(d:Option Dying)(v:Value)(w:World):w.heap.size<=(gw (doReturn P ma fr k d v w)).heap.size:=by
 unfold doReturn;split
 .split<;>exact aJ _
 .split
  .exact aJ _
  .exact aJ _
  .split
   .exact aJ _
   .split<;>exact aJ _
def ou(hQ:Alike P Q)(ma mb:Bool){fr g:Frame}{up:List Frame}{w1 W1:World}{fn:FuncId}{es es':Array Event}{v v':Value}(hfr:jM P F fr)(hg:g.mode=.run)(hs:tQ P F g up)(hv:VR F f v v')(hm:Mv F f w W w1 W1)(he:zm F f w1 #[] #[] es es'):
 SR P Q F f cs K w W (GStep.after (seen P fn es) (doReturn P ma fr (g::(up++cs)) none v w1)) (GStep.after (seen Q fn es') (doReturn Q mb (ic f fr) (ic f g::(up.map (ic f)++K)) none v' W1)):=by
 obtain⟨rfl,hv⟩:=hv;have :=SR.acts (P:=P) (Q:=Q) (cs:=cs) (K:=K) (fn:=fn) hQ (hs.set (hs.top.finish hv) (l6 g v)) (.inl ((nO g v).trans hg)) hm he;rw[<-oZ (f:=f) g v hs.top.todo]at this;unfold doReturn;have hk:(ic f fr).kind=.normal:=hfr.kind;simp only[hfr.kind,hk];exact this
def SR.after(hQ:Alike P Q){w1 W1:World}{fn:FuncId}{es es':Array Event}{s S:GStep}(ha:Ag F f w W)(hm:Mv F f w W w1 W1)(he:zm F f w1 #[] #[] es es')(h:SR P Q F f cs K w1 W1 s S):
 SR P Q F f cs K w W (GStep.after (seen P fn es) s) (GStep.after (seen Q fn es') S):=by
 rcases h with ho|h
 .obtain⟨k,hk,_⟩:=hm.size;exact SR.out (ho.mono (by omega)) (by rw[kM];exact aJ _)
 refine .inr ?_
 cases s with
 |go g w2 u=>
  rcases h with h|⟨qh,wR,X,W2,u',rfl,h1,h2,h5,rfl,h3,h4⟩
  .exact .inl h
  .refine .inr ⟨qh,wR,X,W2,_,rfl,h1,h2,h5,rfl,hm.trans ha h3,?_⟩;rw[hQ.seen];obtain⟨z,rfl,rfl,hz⟩:=h4;obtain⟨y,rfl,rfl,hy⟩:=he;refine⟨seen P fn y++z,by simp,by simp[Ib], λe he=>?_⟩;rcases Array.mem_append.1 he with he|he
   .exact(hy e (mem_seen he)).mono h3
   .exact hz e he
 |ended _ _ _=>exact trivial
 |_=>exact h.elim
def Qn(hQ:Alike P Q)(hF:kL P F)(hR:Rn P f)(ha:Ag F f w W)(ma mb:Bool){fr:Frame}{up:List Frame}(hs:tQ P F fr up)(hm:fr.mode=.run):
 SR P Q F f cs K w W (stepG.exec P ma true fr (up++cs) none w) (stepG.exec Q mb true (ic f fr) (up.map (ic f)++K) none W):=by
 have hfr:=hs.top;have hT:(ic f fr).todo=fr.todo.map (ql f):=rfl
 have to:∀t:List Item,(∀i∈t,zz P F i)->SR P Q F f cs K w W (.go (G { fr with todo:=t } (up++cs)) w #[]) (.go (G { ic f fr with todo:=t.map (ql f) } (up.map (ic f)++K)) W #[]):=
  λt ht=>SR.quiet ha (hs.set (hfr.todo' ht) rfl) (.inl hm)
 cases ht:fr.todo with
 |nil=>
  unfold stepG.exec;simp only[hT,ht,List.map_nil];cases hro:fr.roundOf with
  |none=>
   have wS:(ic f fr).roundOf=none:=by show fr.roundOf.map f=none;rw[hro];rfl
   simp only[hro,wS,if_true];have h1:=SR.quiet (P:=P) (Q:=Q) (cs:=cs) (K:=K) ha (hs.set (fr':={ fr with todo:=[],mode:=.returning,roundOf:=none }) ⟨hfr.fn,hfr.tmps,(by intro i hi;cases hi),hfr.defers,hfr.kind,(by intro l hl;cases hl)⟩ hro.symm) (.inr rfl);exact h1
  |some l=>
   have wS:(ic f fr).roundOf=some (f l):=by show fr.roundOf.map f=_;rw[hro];rfl
   simp only[hro,wS];have hr:=(lC (P:=P) (F:=F) (f:=f) l (hfr.round l hro) (jump:=none) (by intro c hc;cases hc)).BI hQ hR.inj w W #[] #[] ha;generalize Sem.runT P (Instr.endRound l none) w #[]=x at hr;generalize Sem.runT Q (Instr.endRound (f l) none) W #[]=y at hr;obtain⟨x1,x2⟩:=x;obtain⟨y1,y2⟩:=y;rcases hr with ho|hr
   .refine SR.out ho ?_
    try rw[kM]
    cases x1<;>first|exact aJ _|exact jO .. |(rename_i hh _;cases hh<;>exact aJ _)|(dsimp only;split<;>exact aJ _)
   cases x1 with
   |ok v w1=>
    obtain⟨v',W1,h1,h2,h3,h4⟩:=hr;simp only at h1 h4;subst h1;cases up with
    |nil=>exact absurd (hs.2.symm.trans hro) (by simp)
    |cons g up=>exact ou hQ ma mb hfr hs.2.1 hs.2.2 h2 h3 h4
   |halt _ _=>exact .inr trivial
 |cons i k=>
  have hall:=hfr.todo;rw[ht]at hall;have hi:=hall i (aP ..);have hk:∀j∈k,zz P F j:= λj hj=>hall j (aQ _ hj)
  have cons:∀{x:Item}{k:List Item},zz P F x->(∀j∈k,zz P F j)->∀j∈x::k,zz P F j:=by
   intro x k h1 h2 j hj;rcases bD.1 hj with rfl|hj
   .exact h1
   .exact h2 j hj
  cases i with
  |inBlock _=>
   unfold stepG.exec;simp only[hT,ht,aC,ql];exact to k hk
  |inScope _=>
   unfold stepG.exec;simp only[hT,ht,aC,ql];exact to k hk
  |inLoop c=>
   unfold stepG.exec;simp only[hT,ht,aC,ql];exact to (.code c:: .inLoop c::k) (cons hi (cons hi hk))
  |inRegion ops l=>
   cases l with
   |nil=>
    unfold stepG.exec;simp only[hT,ht,aC,ql];exact to k hk
   |cons n rest=>
    have hy:yielded ops (ic f fr).tmps=yielded ops fr.tmps:=Ia ops fr.tmps;unfold stepG.exec;simp only[hT,ht,aC,ql,hy];cases hw:((ops[n]?).map (λx=>Region.wanted x (yielded ops fr.tmps))).getD false with
    |false=>
     simp only[bC,if_false];have h1:=SR.quiet (P:=P) (Q:=Q) (cs:=cs) (K:=K) ha (hs.set (hfr.finish (v:=undef) oQ) (l6 fr undef)) (.inl ((nO fr _).trans hm));rw[<-oZ (f:=f) fr undef hfr.todo,GZ]at h1;simp only[Frame.finish,hT,ht,aC,ql]at h1⊢;exact h1
    |true=>
     simp only[if_true]
     have ho:∃o,ops[n]?=some o:=by
      cases h:ops[n]? with
      |none=>rw[h]at hw;cases hw
      |some o=>exact⟨o,rfl⟩
     obtain⟨o,ho⟩:=ho
     have hop:jg P F o.op=true:=by have :=aU.1 hi o (aZ ho);exact this
     have e1:fr.oper?=some o:=by unfold Frame.oper?;rw[ht];exact ho
     have e2:(ic f fr).oper?=some o:=by unfold Frame.oper?;rw[hT,ht];exact ho
     have key:=zC (P:=P) (Q:=Q) (cs:=cs) (K:=K) hQ hF hR.inj ha hs hm (Ew hR hF.fit hfr.Wa hop);unfold stepG.oper;simp only[e1,e2]
     cases hx:o.op<;>first
      |(rw[hx]at hop;cases hop;done)
      |(cases fr.roundOf<;>cases(ic f fr).roundOf<;>exact key)
  |inRangeFunc l=>
   unfold stepG.exec;simp only[hT,ht,aC,ql];exact .inr trivial
  |endRangeFunc l=>
   unfold stepG.exec;simp only[hT,ht,aC,ql];have hr:=(Ck (P:=P) (F:=F) (f:=f) l hi).BI hQ hR.inj w W #[] #[] ha;generalize Sem.runT P (Instr.endLoop l) w #[]=x at hr;generalize Sem.runT Q (Instr.endLoop (f l)) W #[]=y at hr;obtain⟨x1,x2⟩:=x;obtain⟨y1,y2⟩:=y;rcases hr with ho|hr
   .refine SR.out ho ?_
    try rw[kM]
    cases x1<;>first|exact aJ _|exact jO .. |(rename_i hh _;cases hh<;>exact aJ _)|(dsimp only;split<;>exact aJ _)
   cases x1 with
   |ok v w1=>
    obtain⟨v',W1,h1,⟨rfl,h2⟩,h3,h4⟩:=hr;simp only at h1 h4;subst h1
    have h5:=SR.acts (P:=P) (Q:=Q) (cs:=cs) (K:=K) (fn:=fr.fn) hQ (hs.set (hfr.todo' (t:=(v.map Item.code).toList++k) (by
     intro i hi;rcases List.mem_append.1 hi with hi|hi
     .cases v with
      |none=>cases hi
      |some c=>simp at hi;subst hi;exact h2 c rfl
     .exact hk i hi)) rfl) (.inl hm) h3 h4
    have e:((v.map Item.code).toList++k).map (ql f)=(v.map Item.code).toList++k.map (ql f):=by cases v<;>simp[ql]
    have e2:ic f { fr with todo:=(v.map Item.code).toList++k }= { ic f fr with todo:=(v.map Item.code).toList++k.map (ql f) }:=by rw[<-e];rfl
    rw[e2]at h5;exact h5
   |halt hh w1=>
    obtain⟨hb,hd⟩:=hr;cases hh with
    |panic v=>exact SR.falls _ hs hd
    |_=>exact .inr trivial
  |beginRound=>
   unfold stepG.exec;simp only[hT,ht,aC,ql];refine zC hQ hF hR.inj ha hs hm ?_
   cases hro:fr.roundOf with
   |none=>exact .bad trivial
   |some l=>
    have wS:(ic f fr).roundOf=some (f l):=by show fr.roundOf.map f=_;rw[hro];rfl
    rw[wS];exact(wm l (hfr.round l hro)).dL λ_=>.ret rfl
  |call _ _ _ _=>exact hi.elim
  |extern _ _=>exact hi.elim
  |code c=>
   have hc:codeOk P F c=true:=(hF.code c).symm.trans hi;cases c with
   |skip=>
    unfold stepG.exec;simp only[hT,ht,aC,ql];exact to k hk
   |label _=>
    unfold stepG.exec;simp only[hT,ht,aC,ql];exact to k hk
   |seq a b=>
    unfold stepG.exec;simp only[hT,ht,aC,ql];simp only[codeOk,bB, <-hF.code]at hc;exact to (.code a:: .code b::k) (cons hc.1 (cons hc.2 hk))
   |block id b=>
    unfold stepG.exec;simp only[hT,ht,aC,ql];simp only[codeOk, <-hF.code]at hc;exact to (.code b:: .inBlock id::k) (cons hc (cons trivial hk))
   |loop b=>
    unfold stepG.exec;simp only[hT,ht,aC,ql];simp only[codeOk, <-hF.code]at hc;exact to (.code b:: .inLoop b::k) (cons hc (cons hc hk))
   |scope b=>
    unfold stepG.exec;simp only[hT,ht,aC,ql];simp only[codeOk, <-hF.code]at hc;exact to (.code b:: .inScope b::k) (cons hc (cons hc hk))
   |goto l=>cases hc
   |refuse s=>
    unfold stepG.exec;simp only[hT,ht,aC,ql];exact .inr trivial
   |cond c a b=>
    unfold stepG.exec;simp only[hT,ht,aC,ql];simp only[codeOk,bB, <-hF.code]at hc;obtain⟨e1,e2⟩:=oq hR hfr.Wa hc.1.1;rw[e1];cases fr.eval c with
    |bool t=>
     rw[jZ];exact to (.code (if t then a else b)::k) (cons (by cases t;exact hc.2;exact hc.1.2) hk)
    |_=>exact .inr trivial
   |ret=>
    unfold stepG.exec;simp only[hT,ht,aC,ql];cases hro:fr.roundOf with
    |none=>
     have wS:(ic f fr).roundOf=none:=by show fr.roundOf.map f=none;rw[hro];rfl
     simp only[hro,wS,if_true];have h1:=SR.quiet (P:=P) (Q:=Q) (cs:=cs) (K:=K) ha (hs.set (fr':={ fr with todo:=.code .ret::k,mode:=.returning,roundOf:=none }) ⟨hfr.fn,hfr.tmps,hall,hfr.defers,hfr.kind,(by intro l hl;cases hl)⟩ hro.symm) (.inr rfl);exact h1
    |some l=>
     have wS:(ic f fr).roundOf=some (f l):=by show fr.roundOf.map f=_;rw[hro];rfl
     simp only[hro,wS];have hr:=(lC (P:=P) (F:=F) (f:=f) l (hfr.round l hro) (jump:=some .ret) (by intro c hc;cases hc;exact hi)).BI hQ hR.inj w W #[] #[] ha;generalize Sem.runT P (Instr.endRound l (some .ret)) w #[]=x at hr;generalize Sem.runT Q (Instr.endRound (f l) (some .ret)) W #[]=y at hr;obtain⟨x1,x2⟩:=x;obtain⟨y1,y2⟩:=y;rcases hr with ho|hr
     .refine SR.out ho ?_
      try rw[kM]
      cases x1<;>first|exact aJ _|exact jO .. |(rename_i hh _;cases hh<;>exact aJ _)|(dsimp only;split<;>exact aJ _)
     cases x1 with
     |ok v w1=>
      obtain⟨v',W1,h1,h2,h3,h4⟩:=hr;simp only at h1 h4;subst h1;cases up with
      |nil=>exact absurd (hs.2.symm.trans hro) (by simp)
      |cons g up=>exact ou hQ ma mb hfr hs.2.1 hs.2.2 h2 h3 h4
     |halt _ _=>exact .inr trivial
   |exit id=>
    unfold stepG.exec;simp only[hT,ht,aC,ql];rw[Ci];cases he:exitTo id k with
    |some k'=>
     simp only[ay,Option.elim_some];exact to k' λj hj=>hk j (Cj he j hj)
    |none=>
     simp only[Option.map_none,Option.elim_none];cases hro:fr.roundOf with
     |none=>
      have wS:(ic f fr).roundOf=none:=by show fr.roundOf.map f=none;rw[hro];rfl
      simp only[hro,wS,if_true];exact .inr trivial
     |some l=>
      have wS:(ic f fr).roundOf=some (f l):=by show fr.roundOf.map f=_;rw[hro];rfl
      simp only[hro,wS];have hr:=(lC (P:=P) (F:=F) (f:=f) l (hfr.round l hro) (jump:=some (.exit id)) (by intro c hc;cases hc;exact hi)).BI hQ hR.inj w W #[] #[] ha;generalize Sem.runT P (Instr.endRound l (some (.exit id))) w #[]=x at hr;generalize Sem.runT Q (Instr.endRound (f l) (some (.exit id))) W #[]=y at hr;obtain⟨x1,x2⟩:=x;obtain⟨y1,y2⟩:=y;rcases hr with ho|hr
      .refine SR.out ho ?_
       try rw[kM]
       cases x1<;>first|exact aJ _|exact jO .. |(rename_i hh _;cases hh<;>exact aJ _)|(dsimp only;split<;>exact aJ _)
      cases x1 with
      |ok v w1=>
       obtain⟨v',W1,h1,h2,h3,h4⟩:=hr;simp only at h1 h4;subst h1;cases up with
       |nil=>exact absurd (hs.2.symm.trans hro) (by simp)
       |cons g up=>exact ou hQ ma mb hfr hs.2.1 hs.2.2 h2 h3 h4
      |halt _ _=>exact .inr trivial
   |region id ops draw=>
    unfold stepG.exec;simp only[hT,ht,aC,ql];simp only[codeOk]at hc;cases draw with
    |false=>exact to (.inRegion ops (List.range ops.size)::k) (cons hc hk)
    |true=>
     simp only[Bool.not_true,bC,if_false];have hr:=(lu (P:=P) (F:=F) (f:=f) (.order fr.fn id)).BI hQ hR.inj w W #[] #[] ha;rw[<-Sem.runT_fst P _ w #[], <-Sem.runT_fst Q _ W #[]];have hfn:(ic f fr).fn=fr.fn:=rfl;rw[hfn];generalize Sem.runT P (choose (.order fr.fn id)) w #[]=x at hr;generalize Sem.runT Q (choose (.order fr.fn id)) W #[]=y at hr;obtain⟨x1,x2⟩:=x;obtain⟨y1,y2⟩:=y;rcases hr with ho|hr
     .refine SR.out ho ?_
      try rw[kM]
      cases x1<;>first|exact aJ _|exact jO .. |(rename_i hh _;cases hh<;>exact aJ _)|(dsimp only;split<;>exact aJ _)
     cases x1 with
     |ok v w1=>
      obtain⟨v',W1,h1,rfl,h3,h4⟩:=hr;simp only at h1 h4;subst h1;refine .inr <| .inr ⟨_,up,_,W1,#[],rfl,hs.set (hfr.todo' (t:=.inRegion ops (Region.schedule (P.follows .mixedOrders) ops v)::k) (cons hc hk)) rfl,.inl hm,.inl rfl,?_,h3,L9 w1⟩;have hfo:Q.follows .mixedOrders=P.follows .mixedOrders:=by obtain⟨_,rfl,_⟩:=hQ;rfl
      rw[hfo];rfl
     |halt _ _=>exact .inr trivial
   |rangeFunc x ps a b=>
    unfold stepG.exec;simp only[hT,ht,aC,ql];simp only[codeOk,bB, <-hF.code]at hc;have hr:=(xX (P:=P) (F:=F) (f:=f) hfr.fn hfr.tmps ps hc.1.2 hc.2 (ar:=fr.roundOf) hfr.round).BI hQ hR.inj w W #[] #[] ha;have hfn:(ic f fr).fn=fr.fn:=rfl;have yi:(ic f fr).tmps=fr.tmps.map (rv f):=rfl;have hro:(ic f fr).roundOf=fr.roundOf.map f:=rfl;rw[hfn,yi,hro];generalize Sem.runT P (Instr.enterLoop fr.fn fr.tmps ps a b fr.roundOf) w #[]=x at hr;generalize Sem.runT Q (Instr.enterLoop fr.fn (fr.tmps.map (rv f)) ps a b (fr.roundOf.map f)) W #[]=y at hr;obtain⟨x1,x2⟩:=x;obtain⟨y1,y2⟩:=y;rcases hr with ho|hr
    .refine SR.out ho ?_
     try rw[kM]
     cases x1 with
     |ok a w2=>
      refine aS (runT_size (P:=P) _ w2 #[]) (Ie (P:=P) (fr:={ fr with todo:=.inRangeFunc a.1::k,defers:=a.2++fr.defers }) (k:=up++cs) ?_ _ w2);show(fr.kind==CallKind.early)=false;rw[hfr.kind];rfl
     |halt hh _=>exact aJ _
    cases x1 with
    |ok v w1=>
     obtain⟨v',W1,h1,⟨Fi,XA,wb⟩,h3,h4⟩:=hr;obtain⟨l,mk⟩:=v;simp only at h1 h4 Fi XA wb;subst Fi;subst h1;refine SR.after hQ ha h3 h4 ?_
     have hd:List.map (rd f) (mk++fr.defers)=List.map (rd f) mk++(ic f fr).defers:=by rw[List.map_append];rfl
     dsimp only;rw[<-hd]
     have hfr2:jM P F { fr with todo:=.inRangeFunc l::k,defers:=mk++fr.defers }:=
      ⟨hfr.fn,hfr.tmps,cons XA hk, λd hd=>(List.mem_append.1 hd).elim (wb d) (hfr.defers d),hfr.kind,hfr.round⟩
     have hv:=oq (P:=P) (F:=F) (f:=f) hR hfr2.Wa hc.1.1;refine zC (fr:={ fr with todo:=.inRangeFunc l::k,defers:=mk++fr.defers }) hQ hF hR.inj h3.ag (hs.set hfr2 rfl) hm ?_
     refine sJ hF.fit hv ?_
     refine⟨?_, λy hy=>?_⟩
     .simp[Frame.eval,T9]
     .simp[Frame.eval]at hy;subst hy;exact sD.2 ⟨XA,by intro y hy;simp at hy,by intro y hy;simp at hy⟩
    |halt _ _=>exact .inr trivial
def Am{γ:Type}{k k':γ->Sem Value}:∀(l:List γ),(∀x∈l,dF P F f (VR F f) (k x) (k' x))->dF P F f (λaS bs=>bs=aS.map (rv f)∧∀a∈aS,vs F a=true) (l.mapM k) (l.mapM k')
 | [],_=>by rw[List.mapM_nil,List.mapM_nil];exact .ret ⟨rfl,by simp⟩
 |x::l,h=>by
  rw[List.mapM_cons,List.mapM_cons];refine(h x (aP ..)).bind λa b hab=>?_
  refine(Am l λy hy=>h y (aQ _ hy)).bind λaS bs hs=>?_
  refine .ret ⟨by rw[hab.1,hs.1];rfl, λy hy=>?_⟩;rcases bD.1 hy with rfl|hy
  .exact hab.2
  .exact hs.2 y hy
def Ma{t:Array Value}(ht:VS F t)(i:Nat):VR F f (t.getD i undef) ((t.map (rv f)).getD i undef):=by
 rw[aA,aA,aG];cases h:t[i]? with
 |none=>exact⟨by simp,oQ⟩
 |some v=>exact⟨rfl,ht v (aZ h)⟩
def wT(hR:Rn P f)(fn:Func){t:Array Value}(ht:VS F t):dF P F f (VR F f) (results fn t) (results fn (t.map (rv f))):=by
 unfold results;refine dF.bind (R:=jf F f) ?_ ?_
 .rw[Array.mapM_eq_mapM_toList,Array.mapM_eq_mapM_toList];refine dF.PY (Am _ λr _=>?_) λaS bs h=>?_
  .cases r with
   |tmp i=>exact .ret (Ma ht i)
   |cell a i=>exact(Es (Ma ht a)).bind λx y hxy=>by obtain⟨rfl,hx⟩:=hxy;exact BL i x hx
  .obtain⟨h1,h2⟩:=h;refine .ret ⟨by rw[h1];simp, λx hx=>h2 x (by simpa using hx)⟩
 .intro aS bs h;refine .ret ?_
  obtain⟨rfl,h2⟩:=h
  by_cases hz:aS.size=1
  .rw[dif_pos hz,dif_pos (by simpa using hz)];exact⟨by simp,h2 _ (Array.getElem_mem _)⟩
  .rw[dif_neg hz,dif_neg (by simpa using hz)];exact VR.tuple ⟨rfl,h2⟩
def Kc(hQ:Alike P Q)(hF:kL P F)(hR:Rn P f)(ha:Ag F f w W)(ma mb:Bool){fr:Frame}{up:List Frame}(hs:tQ P F fr up)(hm:fr.mode=.returning)(hnl:up= []->fr.defers≠ []):
 SR P Q F f cs K w W (unwind P ma fr (up++cs) none w) (unwind Q mb (ic f fr) (up.map (ic f)++K) none W):=by
 have hfr:=hs.top;have hD:(ic f fr).defers=fr.defers.map (rd f):=rfl;have hM:(ic f fr).mode=fr.mode:=rfl;have hfn:(ic f fr).fn=fr.fn:=rfl;have yi:(ic f fr).tmps=fr.tmps.map (rv f):=rfl;cases hd:fr.defers with
 |cons d ds=>
  obtain⟨r,rfl,hr⟩:=hfr.defers d (by rw[hd];exact aP ..);have hds:∀d∈ds,∃r,d=Hz r∧F.A r=true:= λx hx=>hfr.defers x (by rw[hd];exact aQ _ hx)
  unfold unwind;have e0:rd f (Hz r)=Hz (f r):=by simp[Hz,rd]
  simp only[hD,hd,aC,e0,hfn];simp only[Hz];have h:=(tT (P:=P) (F:=F) (f:=f) r hr).BI hQ hR.inj w W #[] #[] ha;generalize Sem.runT P (Instr.takeDeferred r) w #[]=x at h;generalize Sem.runT Q (Instr.takeDeferred (f r)) W #[]=y at h;obtain⟨x1,x2⟩:=x;obtain⟨y1,y2⟩:=y;rcases h with ho|h
  .refine SR.out ho ?_
   try rw[kM]
   cases x1<;>first|exact aJ _|exact jO .. |(rename_i hh _;cases hh<;>exact aJ _)|(dsimp only;split<;>exact aJ _)
  cases x1 with
  |ok v w1=>
   obtain⟨v',W1,h1,⟨rfl,rfl⟩,h3,h4⟩:=h;simp only at h1 h4;subst h1;exact SR.acts (P:=P) (Q:=Q) (cs:=cs) (K:=K) (fn:=fr.fn) hQ (hs.set (fr':={ fr with defers:=ds }) ⟨hfr.fn,hfr.tmps,hfr.todo,hds,hfr.kind,hfr.round⟩ rfl) (.inr hm) h3 h4
  |halt _ _=>exact .inr trivial
 |nil=>
  cases up with
  |nil=>exact absurd hd (hnl rfl)
  |cons g up=>
   obtain⟨fn,c,Uv,_⟩:=hF.fit.body fr.fn hfr.fn;unfold unwind;obtain⟨hh,hg1,hg2⟩:=hQ.get fr.fn;obtain⟨bb,hb2,_⟩:=hg2 fn;have hfq:Q.funcs[fr.fn]?=some { fn with body:=bb }:=by rw[hg1,Uv];simp[hb2]
   have hrs:∀t,results { fn with body:=bb } t=results fn t:= λ_=>rfl
   simp only[hD,hd,List.map_nil,hM,hm,hfn,yi,Uv,hfq,hrs];have h:=(wT (P:=P) (F:=F) (f:=f) hR fn hfr.tmps).BI hQ hR.inj w W #[] #[] ha;generalize Sem.runT P (results fn fr.tmps) w #[]=x at h;generalize Sem.runT Q (results fn (fr.tmps.map (rv f))) W #[]=y at h;obtain⟨x1,x2⟩:=x;obtain⟨y1,y2⟩:=y;rcases h with ho|h
   .refine SR.out ho ?_
    try rw[kM]
    cases x1<;>first|exact aJ _|exact jO .. |(rename_i hh _;cases hh<;>exact aJ _)|(dsimp only;split<;>exact aJ _)
   cases x1 with
   |ok v w1=>
    obtain⟨v',W1,h1,h2,h3,h4⟩:=h;simp only at h1 h4;subst h1;exact ou hQ ma mb hfr hs.2.1 hs.2.2 h2 h3 h4
   |halt hh w1=>
    cases hh<;>exact .inr trivial
def Qo(hQ:Alike P Q)(hF:kL P F)(hR:Rn P f)(ha:Ag F f w W)(ma mb:Bool){fr:Frame}{up:List Frame}(hs:tQ P F fr up)(hm:fr.mode=.run∨fr.mode=.returning∧(up= []->fr.defers≠ [])):
 SR P Q F f cs K w W (stepG P ma (G fr (up++cs)) w) (stepG Q mb (G (ic f fr) (up.map (ic f)++K)) W):=by
 unfold stepG G;have h1:(ic f fr).mode=fr.mode:=rfl;rcases hm with hm|⟨hm,hn⟩
 .simp only[hm,h1];exact Qn hQ hF hR ha ma mb hs hm
 .simp only[hm,h1];exact Kc hQ hF hR ha ma mb hs hm hn
def SR1(P:Program)(F:Fit)(f:Nat->Nat)(cs K:List Frame)(w W:World)(s S:GStep):Prop:=
 Out F w (gw s)∨match s with
 | .ended .. =>True
 | .go g w1 es=>PS F cs g w1∨∃qh wR W1 es',g=G qh (wR++cs)∧tQ P F qh wR∧(qh.mode=.run∨qh.mode=.returning)∧
     S=.go (G (ic f qh) (wR.map (ic f)++K)) W1 es'∧Mv F f w W w1 W1∧zm F f w1 #[] #[] es es'
 |_=>False
def SR.one(hF:kL P F){s S:GStep}(h:SR P P F f cs K w W s S):SR1 P F f cs K w W s S:=by
 rcases h with h|h
 .exact .inl h
 refine .inr ?_
 cases s with
 |go g w1 es=>
  rcases h with h|⟨qh,wR,X,W1,es',a1,a2,a3,a4,a5,a6,a7⟩
  .exact .inl h
  .refine .inr ⟨qh,wR,W1,es',a1,a2,a3,?_,a6,a7⟩;rcases a4 with rfl|⟨g,aS,hg,_,_,_,rfl,rfl⟩
   .exact a5
   .rw[<-zA hF hg aS];exact a5
 |ended _ _ _=>exact trivial
 |_=>exact h.elim
end
end
end cS
section
def Go.World.tp(w:Go.World)(τ:Nat->Go.Question->Nat):Go.World:={ w with tape:=τ }
namespace cS
open Go Go.Conc
variable [Sh]
@[simp] theorem ab5 (w:World) (τ:Nat->Question->Nat):(w.tp τ).drawn=w.drawn:=rfl
@[simp] theorem al6 (w:World) (τ:Nat->Question->Nat):(w.tp τ).heap=w.heap:=rfl
@[simp] theorem as5 (w:World) (τ σ:Nat->Question->Nat):(w.tp τ).tp σ=w.tp σ:=rfl
def lf(w w1:World)(τ:Nat->Question->Nat):Prop:=∀j q,w.drawn<=j->j<w1.drawn->τ j q=w.tape j q
def vp(P:Program){α:Type}(m:Sem α)(w:World)(es:Array Event):Prop:=
 ∀a w1 es1,m.runT P w es=(.ok a w1,es1)->w.drawn<=w1.drawn∧∀τ,lf w w1 τ->m.runT P (w.tp τ) es=(.ok a (w1.tp τ),es1)
section
variable {P:Program} {F:Fit} {f:Nat->Nat} {α β:Type} {R:α->β->Prop}
def dF.loc{n0:Nat}(hn:∀b,n0<=b->F.A b=true)(hf:∀a b,Sh.lk a=false->Sh.hol b=false->f a=f b->a=b){m:Sem α}{m':Sem β}(h:dF P F f R m m'):
 ∀(w W:World)(es:Array Event),n0<=w.heap.size->Ag F f w W->vp P m w es:=by
 induction h with
 |pure h=>
  intro w W es h0 ha a w1 es1 h;simp only[Sem.runT]at h;cases h;exact⟨aJ _, λτ _=>rfl⟩
 | @load a k k' hA h ih=>
   intro w W es h0 ha b w1 es1 h
   have e1:∀w:World,Sem.runT P (.load .plain a k) w es=match w.cell? a with
    |some v=>(k v).runT P w (es.push ⟨.cell a,false,Mode.plain==Mode.atomic⟩)
    |none=>match w.farLoad P a (Mode.plain==Mode.atomic)with
     | .ok (v,touched)=>(k v).runT P w (es++touched.toArray.map (⟨.cell ·,false,Mode.plain==Mode.atomic⟩))
     | .error h=>(.halt h w,es):= λw=>by
     simp only[Sem.runT];cases w.cell? a with
     |some v=>rfl
     |none=>dsimp only;cases World.farLoad P w a (Mode.plain==Mode.atomic)<;>rfl
   rw[e1]at h;cases hc:w.cell? a with
   |none=>
    obtain⟨x,hx,hb⟩:=(ha.wr.noCell a hA "").2 P (Mode.plain==Mode.atomic);simp only[hc,hx]at h;cases h
   |some v=>
    obtain⟨h1,h2⟩:=ha.wr.cell hA hc;simp only[hc]at h;obtain⟨i1,i2⟩:=ih v h2 w W _ h0 ha b w1 es1 h;refine⟨i1, λτ ht=>?_⟩;rw[e1];have hc':(w.tp τ).cell? a=some v:=hc;simp only[hc'];exact i2 τ ht
 | @store a v k k' hA hv h ih=>
   intro w W es h0 ha b w1 es1 h
   have hs:(∃c,v=.agg c∨v=.tuple c)∨((∀c,v≠ .agg c∧v≠ .tuple c)):=by cases v<;>first|(refine .inr λc=>⟨?_,?_⟩<;>(intro h;cases h;done))|exact .inl ⟨_,.inl rfl⟩|exact .inl ⟨_,.inr rfl⟩
   rcases hs with⟨c,rfl|rfl⟩|hs
   .simp only[Sem.runT]at h;cases h
   .simp only[Sem.runT]at h;cases h
   .have e1:∀(w:World)(es:Array Event),Sem.runT P (.store .plain a v k) w es=match w.cell? a with
     |some _=>if w.frozen? a then(.halt (.unsupported (.unsafePointer "a write to bytes that a string shares")) w,es)else k.runT P (w.setCell a v) (es.push ⟨.cell a,true,false⟩)
     |none=>match w.farStore P a v false with
      | .ok (w,touched)=>k.runT P w (es++touched.toArray.map (⟨.cell ·,true,false⟩))
      | .error h=>(.halt h w,es):=by
     intro w es;cases v<;>first|rfl|exact absurd rfl (hs _).1|exact absurd rfl (hs _).2
    rw[e1]at h;cases hc:w.cell? a with
    |none=>
     obtain⟨x,hx,hb⟩:=ha.wr.LX a hA P v false;simp only[hc,hx]at h;cases h
    |some x=>
     simp only[hc]at h;cases hz:w.frozen? a with
     |true=>simp only[hz,if_true]at h;cases h
     |false=>
      simp only[hz,if_false,bC]at h;obtain⟨hm,_⟩:=ha.store hf hA hc hz hv;obtain⟨i1,i2⟩:=ih _ _ _ (by simpa[World.setCell]using h0) hm.ag b w1 es1 h;refine⟨i1, λτ ht=>?_⟩;rw[e1];have hc':(w.tp τ).cell? a=some x:=hc;have hz':(w.tp τ).frozen? a=false:=hz;simp only[hc',hz',if_false,bC];exact i2 τ ht
 | @new o k k' ho h ih=>
   intro w W es h0 ha b w1 es1 h;simp only[Sem.runT]at h
   have hm:Mv F f w W { w with heap:=w.heap.push o } { W with heap:=W.heap.push (ro f o) }:=ha.new (by
    cases o with
    |cells c e fr=>exact .inr (.inl ⟨ha.GV _ (aJ _),c,e,fr,fr,rfl,ho,rfl, λi _ h1 h2=>⟨h1,h2⟩⟩)
    |_=>exact .inl ⟨ha.GV _ (aJ _),ho,rfl,rfl⟩)
   obtain⟨i1,i2⟩:=ih _ (hn _ h0) (ha.GV _ (aJ _)) _ _ _ (by simp only[Array.size_push];omega) hm.ag b w1 es1 h;exact⟨i1, λτ ht=>i2 τ ht⟩
 | @mQ c e k0 Pa k k' ho e1 e2 h ih=>
   intro w W es h0 ha b w1 es1 h
   have hsh:∀(w:World)(c:Array Value),World.shape? { w with heap:=w.heap.push (.cells c e (0,0)) } w.heap.size=some (e,c.size):=by intro w c;simp[World.shape?]
   have hm:Mv F f w W { w with heap:=w.heap.push (.cells c e (c.size,c.size+1)) } { W with heap:=W.heap.push (.cells (c.map (rv f)) e (c.size,c.size+1)) }:=
    ha.new (.inr (.inl ⟨ha.GV _ (aJ _),c,e,_,(c.size,c.size+1),rfl,ho,rfl, λi _ h1 h2=>⟨h1,h2⟩⟩))
   have e3:∀w:World,Sem.runT P (.new (.cells c e (0,0)) λr=>.shape r (k0 r)) w es=(k w.heap.size).runT P { w with heap:=w.heap.push (.cells c e (c.size,c.size+1)) } es:=by intro w;simp only[Sem.runT];rw[hsh w c,e1];simp only[Sem.runT];rw[uq]
   rw[e3]at h;obtain⟨i1,i2⟩:=ih _ (hn _ h0) (ha.GV _ (aJ _)) _ _ _ (by simp only[Array.size_push];omega) hm.ag b w1 es1 h;refine⟨i1, λτ ht=>?_⟩;rw[e3];exact i2 τ ht
 | @shape r k k' hA h hl ih ihl=>
   intro w W es h0 ha b w1 es1 h;simp only[Sem.runT]at h
   by_cases hk:Sh.lk r=true∧∃c fr,w.heap[r]?=some (.cells c Sh.bad fr)
   .obtain⟨h3,c,fr,h4⟩:=hk;have e1:w.shape? r=some (Sh.bad,c.size):=by unfold World.shape?;rw[h4]
    rw[e1]at h;obtain⟨i1,i2⟩:=ihl h3 c.size (0,0) w W es h0 ha b w1 es1 h;refine⟨i1, λτ ht=>?_⟩;have e2:(w.tp τ).shape? r=some (Sh.bad,c.size):=e1;simp only[Sem.runT];rw[e2];exact i2 τ ht
   .obtain⟨i1,i2⟩:=ih _ (λh3=>by
     rcases ha.wr.Fw hA h3 with hr|⟨c,fr,hr⟩
     .unfold World.shape?;rw[hr]
     .exact absurd ⟨h3,c,fr,hr⟩ hk) w W es h0 ha b w1 es1 h
    exact⟨i1, λτ ht=>i2 τ ht⟩
 | @BG r k m' hA hl=>
   intro w W es h0 ha b w1 es1 h;rcases ha.wr.Fw hA hl with hr|⟨c,fr,hr⟩<;>(simp only[Sem.runT,hr]at h;cases h)
 | @getObj r k k' hA h ih=>
   intro w W es h0 ha b w1 es1 h;cases hr:w.heap[r]? with
   |none=>simp only[Sem.runT,hr]at h;cases h
   |some o=>
    by_cases hc:isCells o=true
    .cases o<;>first|(simp only[Sem.runT,hr]at h;cases h;done)|cases hc
    .have hc':isCells o=false:=by simpa using hc
     rcases ha.wr.blk r o hA hr with⟨hlk,hS,_,hO⟩|⟨_,c,e,fr,fr',rfl,_⟩|⟨_,c,fr,C,e',fr',rfl,_⟩
     .rw[sF k es hr hc']at h;obtain⟨i1,i2⟩:=ih o hS hc' hlk w W _ h0 ha b w1 es1 h;refine⟨i1, λτ ht=>?_⟩;rw[sF (w:=w.tp τ) k es hr hc'];exact i2 τ ht
     .cases hc'
     .cases hc'
 | @setObj r o k k' hA ho hc h ih=>
   intro w W es h0 ha b w1 es1 h;cases hr:w.heap[r]? with
   |none=>simp only[Sem.runT,hr]at h;cases h
   |some x=>
    by_cases D9:isCells x=true
    .cases x<;>first|(simp only[Sem.runT,hr]at h;cases h;done)|cases D9
    .have Ea:isCells x=false:=by simpa using D9
     rw[oU o k es hr Ea]at h;have hm:=ha.setObj hf hA hr Ea ho hc;obtain⟨i1,i2⟩:=ih _ _ _ (by simpa[World.setCell]using h0) hm.ag b w1 es1 h;refine⟨i1, λτ ht=>?_⟩;rw[oU (w:=w.tp τ) o k es hr Ea];exact i2 τ ht
 | @choose q k k' h ih=>
   intro w W es h0 ha b w1 es1 h;simp only[Sem.runT]at h⊢
   by_cases hq:q.forced=true
   .simp only[hq,if_true]at h⊢;exact ih 0 w W es h0 ha b w1 es1 h
   .simp only[hq,if_false,bC]at h⊢
    have hag:Ag F f { w with drawn:=w.drawn+1 } { W with drawn:=W.drawn+1 }:=
     ⟨⟨ha.wr.lt,ha.wr.blk⟩, λj q'=>by have :=ha.tape (1+j) q';simpa[Nat.add_assoc]using this,ha.next,ha.GV,ha.hol⟩
    obtain⟨i1,i2⟩:=ih _ { w with drawn:=w.drawn+1 } _ es h0 hag b w1 es1 h;have i1':w.drawn+1<=w1.drawn:=i1;refine⟨by omega, λτ ht=>?_⟩;have e:τ w.drawn q=w.tape w.drawn q:=ht _ _ (aJ _) (by omega);have e':(w.tp τ).tape (w.tp τ).drawn q=w.tape w.drawn q:=e;rw[e'];exact i2 τ λj q' h1 h2=>ht j q' (by simp only at h1;omega) h2
 |program e h ih=>
  intro w W es h0 ha b w1 es1 h;simp only[Sem.runT]at h;obtain⟨i1,i2⟩:=ih w W es h0 ha b w1 es1 h;exact⟨i1, λτ ht=>i2 τ ht⟩
 |noRoom h ih=>
  intro w W es h0 ha b w1 es1 h;simp only[Sem.runT]at h;obtain⟨i1,i2⟩:=ih w W _ h0 ha b w1 es1 h;exact⟨i1, λτ ht=>i2 τ ht⟩
 |lW h=>
  intro w W es h0 ha b w1 es1 hr;obtain⟨x,w',es1,h1,h2⟩:=h w es;rw[h1]at hr;cases hr
end
end cS
end
namespace cS
open Go Go.Conc
section
variable [Sh]
def Panics(g:Goroutine):Prop:=∃ch,g.frame.mode=.panicking ch
def GL(s:World->GStep)(w:World):Prop:=
 ∀g w1 es,s w=.go g w1 es->¬Panics g->w.drawn<=w1.drawn∧∀τ,lf w w1 τ->s (w.tp τ)=.go g (w1.tp τ) es
section
variable {P:Program} {F:Fit} {f:Nat->Nat} {w W:World} {cs:List Frame}
def GL.quiet(g:Goroutine):GL (λw=>.go g w #[]) w:=by intro g' w1 es h _;cases h;exact⟨aJ _, λ_ _=>rfl⟩
def GL.ended(o:Outcome):GL (λw=>.ended o w) w:=by intro g' w1 es h _;cases h
def GL.run{α:Type}{m:Sem α}(fn:FuncId)(K:Result α->GStep)(hl:vp P m w #[])
 (hk:∀a w2 es2,m.runT P w #[]=(.ok a w2,es2)->∃g',∀w3,K (.ok a w3)=.go g' w3 #[])
 (hh:∀h w2 g w3 es,K (.halt h w2)=.go g w3 es->Panics g):GL (λw=>GStep.after (seen P fn (m.runT P w #[]).2) (K (m.runT P w #[]).1)) w:=by
 intro g w1 es h hp;dsimp only at h;generalize hx:m.runT P w #[]=x at h;obtain⟨x1,x2⟩:=x;cases x1 with
 |ok a w2=>
  obtain⟨g',hg⟩:=hk a w2 x2 hx;obtain⟨i1,i2⟩:=hl a w2 x2 hx;simp only[hg,GStep.after]at h;cases h;refine⟨i1, λτ ht=>?_⟩;simp only[i2 τ ht,hg,GStep.after]
 |halt y w2=>
  exfalso;dsimp only at h;cases hk:K (.halt y w2)with
  |go g2 w3 es3=>
   rw[hk]at h;simp only[GStep.after]at h;cases h;exact hp (hh _ _ _ _ _ hk)
  |_=>rw[hk]at h;simp[GStep.after]at h
def zD(hn:∀b,w.heap.size<=b->F.A b=true)(hi:∀a b,Sh.lk a=false->Sh.hol b=false->f a=f b->a=b)(ha:Ag F f w W){fr:Frame}(hfr:jM P F fr){m m':Sem Next}(h:dF P F f (NR F f) m m'):
 GL (λw=>stepG.apply P true fr cs none m w) w:=by
 have hl:=h.loc hn hi w W #[] (aJ _) ha;have hr:=h.run hi w W #[] #[] ha;have hk:(fr.kind==CallKind.early)=false:=by rw[hfr.kind];rfl
 intro g w1 es hgo hp;unfold stepG.apply at hgo;simp only[if_true,hk,bC,if_false]at hgo;generalize hx:m.runT P w #[]=x at hr hgo;generalize m'.runT P W #[]=y at hr;obtain⟨x1,x2⟩:=x;rcases hr with⟨b,hb1,hb2,hb3⟩|hr
 .rw[hn b hb1]at hb3;cases hb3
 cases x1 with
 |ok a w2=>
  obtain⟨b,W1,h1,h2,h3,h4⟩:=hr;obtain⟨i1,i2⟩:=hl a w2 x2 hx;cases a with
  |value v=>
   simp only[GStep.after]at hgo;cases hgo;refine⟨i1, λτ ht=>?_⟩;unfold stepG.apply;simp only[if_true,hk,bC,if_false,i2 τ ht];rfl
  |skip=>
   simp only[GStep.after]at hgo;cases hgo;refine⟨i1, λτ ht=>?_⟩;unfold stepG.apply;simp only[if_true,hk,bC,if_false,i2 τ ht];rfl
  |enter g aS=>
   simp only[GStep.after]at hgo;cases hgo;refine⟨i1, λτ ht=>?_⟩;unfold stepG.apply;simp only[if_true,hk,bC,if_false,i2 τ ht];rfl
  |round l g t x y=>
   simp only[GStep.after]at hgo;cases hgo;refine⟨i1, λτ ht=>?_⟩;unfold stepG.apply;simp only[if_true,hk,bC,if_false,i2 τ ht];rfl
  |_=>exact h2.elim
 |halt hh w2=>
  exfalso;obtain⟨hb,hd⟩:=hr
  have pn:∀v,Panics (G (fr.raise v) cs):=by intro v;unfold Panics Frame.raise G;cases fr.mode<;>exact⟨_,rfl⟩
  cases hh with
  |panic v=>
   simp only[GStep.after]at hgo;cases hgo;exact hp (pn _)
  |stuck s=>simp[GStep.after]at hgo
  |unsupported u=>cases u<;>first|exact hb.elim|(simp[GStep.after]at hgo;done)
  |_=>exact hb.elim
def oz{ma:Bool}{fr g:Frame}{k:List Frame}(hk:fr.kind=.normal)(v:Value):∃g',∀w3,doReturn P ma fr (g::k) none v w3=.go g' w3 #[]:=by refine⟨G (g.finish v) k, λw3=>?_⟩;unfold doReturn;simp only[hk];rfl
def Qp(hn:∀b,w.heap.size<=b->F.A b=true)(hF:kL P F)(hR:Rn P f)(ha:Ag F f w W)(ma:Bool){fr:Frame}{up:List Frame}(hs:tQ P F fr up):
 GL (λw=>stepG.exec P ma true fr (up++cs) none w) w:=by
 have hfr:=hs.top;cases ht:fr.todo with
 |nil=>
  unfold stepG.exec;simp only[ht];cases hro:fr.roundOf with
  |none=>exact GL.quiet _
  |some l=>
   have hs1:=lC (P:=P) (F:=F) (f:=f) l (hfr.round l hro) (jump:=none) (by intro c hc;cases hc);cases up with
   |nil=>exact absurd (hs.2.symm.trans hro) (by simp)
   |cons g up=>
    refine GL.run fr.fn (λr=>match r with | .ok v w=>doReturn P ma fr (g::(up++cs)) none v w| .halt _ w=>.ended (.stuck "range over a function: no such loop" (fr.pos P)) w) (hs1.loc hn hR.inj w W #[] (aJ _) ha) (λa w2 es2 _=>oz hfr.kind a) (λh w2 g w3 es hx=>by cases hx)
 |cons i k=>
  have hall:=hfr.todo;rw[ht]at hall;have hi:=hall i (aP ..);cases i with
  |inBlock _=>unfold stepG.exec;simp only[ht];exact GL.quiet _
  |inScope _=>unfold stepG.exec;simp only[ht];exact GL.quiet _
  |inLoop c=>unfold stepG.exec;simp only[ht];exact GL.quiet _
  |inRegion ops l=>
   cases l with
   |nil=>unfold stepG.exec;simp only[ht];exact GL.quiet _
   |cons n rest=>
    unfold stepG.exec;simp only[ht];cases hw:((ops[n]?).map (λx=>Region.wanted x (yielded ops fr.tmps))).getD false with
    |false=>simp only[bC,if_false];exact GL.quiet _
    |true=>
     simp only[if_true]
     have ho:∃o,ops[n]?=some o:=by
      cases h:ops[n]? with
      |none=>rw[h]at hw;cases hw
      |some o=>exact⟨o,rfl⟩
     obtain⟨o,ho⟩:=ho;have hop:jg P F o.op=true:=aU.1 hi o (aZ ho);have e1:fr.oper?=some o:=by unfold Frame.oper?;rw[ht];exact ho
     have key:=zD (P:=P) (cs:=up++cs) hn hR.inj ha hfr (Ew (f:=f) hR hF.fit hfr.Wa hop);unfold stepG.oper;simp only[e1]
     cases hx:o.op<;>first
      |(rw[hx]at hop;cases hop;done)
      |(cases fr.roundOf<;>exact key)
  |inRangeFunc l=>unfold stepG.exec;simp only[ht];exact GL.ended _
  |endRangeFunc l=>
   unfold stepG.exec;simp only[ht]
   refine GL.run fr.fn (λr=>match r with | .ok jump w=>.go (G { fr with todo:=(jump.map Item.code).toList++k } (up++cs)) w| .halt (.panic v) w=>.go (G (fr.raise [{ v,recovered:=false }]) (up++cs)) w| .halt _ w=>.ended (.stuck "range over a function: no such loop" (fr.pos P)) w)
    ((Ck (P:=P) (F:=F) (f:=f) l hi).loc hn hR.inj w W #[] (aJ _) ha) (λa w2 es2 _=>⟨_, λw3=>rfl⟩) (λh w2 g w3 es hx=>?_)
   cases h with
   |panic v=>
    cases hx;unfold Panics Frame.raise G;cases fr.mode<;>exact⟨_,rfl⟩
   |_=>cases hx
  |beginRound=>
   unfold stepG.exec;simp only[ht];refine zD (f:=f) (W:=W) hn hR.inj ha hfr (m':=(do(ic f fr).roundOf.elim (stuck "beginRound: no round") Instr.beginRound;pure .skip)) ?_
   cases hro:fr.roundOf with
   |none=>exact .bad trivial
   |some l=>
    have wS:(ic f fr).roundOf=some (f l):=by show fr.roundOf.map f=_;rw[hro];rfl
    rw[wS];exact(wm l (hfr.round l hro)).dL λ_=>.ret rfl
  |call _ _ _ _=>exact az hi
  |extern _ _=>exact az hi
  |code c=>
   have hc:codeOk P F c=true:=(hF.code c).symm.trans hi;cases c with
   |skip=>unfold stepG.exec;simp only[ht];exact GL.quiet _
   |label _=>unfold stepG.exec;simp only[ht];exact GL.quiet _
   |seq a b=>unfold stepG.exec;simp only[ht];exact GL.quiet _
   |block id b=>unfold stepG.exec;simp only[ht];exact GL.quiet _
   |loop b=>unfold stepG.exec;simp only[ht];exact GL.quiet _
   |scope b=>unfold stepG.exec;simp only[ht];exact GL.quiet _
   |goto l=>cases hc
   |refuse s=>unfold stepG.exec;simp only[ht];exact GL.ended _
   |cond c a b=>
    unfold stepG.exec;simp only[ht];cases fr.eval c with
    |bool t=>exact GL.quiet _
    |_=>exact GL.ended _
   |ret=>
    unfold stepG.exec;simp only[ht];cases hro:fr.roundOf with
    |none=>exact GL.quiet _
    |some l=>
     have hs1:=lC (P:=P) (F:=F) (f:=f) l (hfr.round l hro) (jump:=some .ret) (by intro c hc;cases hc;exact hi);cases up with
     |nil=>exact absurd (hs.2.symm.trans hro) (by simp)
     |cons g up=>
      refine GL.run fr.fn (λr=>match r with | .ok v w=>doReturn P ma fr (g::(up++cs)) none v w| .halt _ w=>.ended (.stuck "range over a function: no such loop" (fr.pos P)) w) (hs1.loc hn hR.inj w W #[] (aJ _) ha) (λa w2 es2 _=>oz hfr.kind a) (λh w2 g w3 es hx=>by cases hx)
   |exit id=>
    unfold stepG.exec;simp only[ht];cases he:exitTo id k with
    |some k'=>exact GL.quiet _
    |none=>
     simp only[Option.elim_none];cases hro:fr.roundOf with
     |none=>exact GL.ended _
     |some l=>
      have hs1:=lC (P:=P) (F:=F) (f:=f) l (hfr.round l hro) (jump:=some (.exit id)) (by intro c hc;cases hc;exact hi);cases up with
      |nil=>exact absurd (hs.2.symm.trans hro) (by simp)
      |cons g up=>
       refine GL.run fr.fn (λr=>match r with | .ok v w=>doReturn P ma fr (g::(up++cs)) none v w| .halt _ w=>.ended (.stuck "range over a function: no such loop" (fr.pos P)) w) (hs1.loc hn hR.inj w W #[] (aJ _) ha) (λa w2 es2 _=>oz hfr.kind a) (λh w2 g w3 es hx=>by cases hx)
   |region id ops draw=>
    unfold stepG.exec;simp only[ht];cases draw with
    |false=>exact GL.quiet _
    |true=>
     simp only[Bool.not_true,bC,if_false];have hl:=(lu (P:=P) (F:=F) (f:=f) (.order fr.fn id)).loc hn hR.inj w W #[] (aJ _) ha;intro g w1 es h hp;dsimp only at h;rw[<-Sem.runT_fst P _ w #[]]at h;generalize hx:(choose (.order fr.fn id)).runT P w #[]=x at h;obtain⟨x1,x2⟩:=x;cases x1 with
     |ok a w2=>
      obtain⟨i1,i2⟩:=hl a w2 x2 hx;simp only at h;cases h;refine⟨i1, λτ ht=>?_⟩;dsimp only;rw[<-Sem.runT_fst P _ (w.tp τ) #[],i2 τ ht]
     |halt y w2=>cases h
   |rangeFunc x ps a b=>
    unfold stepG.exec;simp only[ht];simp only[codeOk,bB, <-hF.code]at hc;have hk:∀j∈k,zz P F j:= λj hj=>hall j (aQ _ hj)
    have JI:=xX (P:=P) (F:=F) (f:=f) hfr.fn hfr.tmps ps hc.1.2 hc.2 (ar:=fr.roundOf) hfr.round;have hl:=JI.loc hn hR.inj w W #[] (aJ _) ha;have hr:=JI.run hR.inj w W #[] #[] ha;intro g w1 es h hp;dsimp only at h;generalize hx:Sem.runT P (Instr.enterLoop fr.fn fr.tmps ps a b fr.roundOf) w #[]=x at h hr;generalize Sem.runT P (Instr.enterLoop fr.fn (fr.tmps.map (rv f)) ps a b (fr.roundOf.map f)) W #[]=y at hr;obtain⟨x1,x2⟩:=x;rcases hr with⟨b,hb1,hb2,hb3⟩|hr
    .rw[hn b hb1]at hb3;cases hb3
    cases x1 with
    |halt y w2=>simp[GStep.after]at h
    |ok v w2=>
     obtain⟨v',W2,h1,⟨Fi,XA,wb⟩,h3,h4⟩:=hr;obtain⟨i1,i2⟩:=hl v w2 x2 hx;obtain⟨l,mk⟩:=v;simp only at XA wb h
     have hfr2:jM P F { fr with todo:=.inRangeFunc l::k,defers:=mk++fr.defers }:=
      ⟨hfr.fn,hfr.tmps, λj hj=>(bD.1 hj).elim (λe=>e ▸ XA) (hk j), λd hd=>(List.mem_append.1 hd).elim (wb d) (hfr.defers d),hfr.kind,hfr.round⟩
     have hv:=oq (P:=P) (F:=F) (f:=f) hR hfr2.Wa hc.1.1
     have hargs:jf F f (#[Operand.const (.func (.yield l) #[] #[])].map ({ fr with todo:=.inRangeFunc l::k,defers:=mk++fr.defers }:Frame).eval) #[.func (.yield (f l)) #[] #[]]:=by
      refine⟨?_, λy hy=>?_⟩
      .simp[Frame.eval,T9]
      .simp[Frame.eval]at hy;subst hy;exact sD.2 ⟨XA,by intro y hy;simp at hy,by intro y hy;simp at hy⟩
     have key:=zD (P:=P) (cs:=up++cs) (λb hb=>hn b (by obtain⟨k,hk,_⟩:=h3.size;omega)) hR.inj h3.ag hfr2 (sJ hF.fit hv hargs);generalize hq:stepG.apply P true { fr with todo:=.inRangeFunc l::k,defers:=mk++fr.defers } (up++cs) none _ w2=s2 at h;cases s2 with
     |go g2 w3 es2=>
      simp only[GStep.after]at h;cases h;obtain⟨j1,j2⟩:=key _ _ _ hq hp;refine⟨by omega, λτ ht'=>?_⟩;have t1:lf w w2 τ:= λj q a b=>ht' j q a (by omega)
      have t2:lf w2 w1 τ:= λj q a b=>by rw[ht' j q (by omega) b,h3.tape]
      dsimp only;simp only[i2 τ t1];exact congrArg (GStep.after (seen P fr.fn x2)) (j2 τ t2)
     |_=>simp[GStep.after]at h
def Ke(hn:∀b,w.heap.size<=b->F.A b=true)(hF:kL P F)(hR:Rn P f)(ha:Ag F f w W)(ma:Bool){fr:Frame}{up:List Frame}(hs:tQ P F fr up)(hm:fr.mode=.returning)(hnl:up= []->fr.defers≠ []):
 GL (λw=>unwind P ma fr (up++cs) none w) w:=by
 have hfr:=hs.top;cases hd:fr.defers with
 |cons d ds=>
  obtain⟨r,rfl,hr⟩:=hfr.defers d (by rw[hd];exact aP ..);unfold unwind;simp only[hd,Hz]
  exact GL.run fr.fn (λr=>match r with | .ok calls w=>.go (G { fr with defers:=calls++ds } (up++cs)) w| .halt _ w=>.ended (.stuck "the deferred calls of a range-over-func loop have been taken" (fr.pos P)) w)
   ((tT (P:=P) (F:=F) (f:=f) r hr).loc hn hR.inj w W #[] (aJ _) ha) (λa w2 es2 _=>⟨_, λw3=>rfl⟩) (λh w2 g w3 es hx=>by cases hx)
 |nil=>
  cases up with
  |nil=>exact absurd hd (hnl rfl)
  |cons g up=>
   obtain⟨fn,c,Uv,_⟩:=hF.fit.body fr.fn hfr.fn;unfold unwind;simp only[hd,hm,Uv]
   refine GL.run fr.fn (λr=>match r with | .ok v w=>doReturn P ma fr (g::(up++cs)) none v w| .halt (.stuck s) w=>.ended (.stuck s (fr.pos P)) w| .halt _ w=>.ended (.stuck "return: the result variables cannot be read" (fr.pos P)) w)
    ((wT (P:=P) (F:=F) (f:=f) hR fn hfr.tmps).loc hn hR.inj w W #[] (aJ _) ha) (λa w2 es2 _=>oz hfr.kind a) (λh w2 g w3 es hx=>by cases h<;>cases hx)
def Qq(hn:∀b,w.heap.size<=b->F.A b=true)(hF:kL P F)(hR:Rn P f)(ha:Ag F f w W)(ma:Bool){fr:Frame}{up:List Frame}(hs:tQ P F fr up)(hm:fr.mode=.run∨fr.mode=.returning∧(up= []->fr.defers≠ [])):
 GL (λw=>stepG P ma (G fr (up++cs)) w) w:=by
 unfold stepG G;rcases hm with hm|⟨hm,hnl⟩
 .simp only[hm];exact Qp hn hF hR ha ma hs
 .simp only[hm];exact Ke hn hF hR ha ma hs hm hnl
end
end
end cS
namespace cS
open Go Go.Conc Go.ConcM
section
structure fO where
 ro:Nat->Prop
 sy:Nat->Prop
 cl:Nat->Nat->Prop
 mute:Prop:=False
def tV(o O:Option Obj):Prop:=∀c e fr,o=some (.cells c e fr)->∃c':Array Value,O=some (.cells c' e fr)∧c'.size=c.size∧∀(i:Nat)(k:IntKind)(n:Int),c[i]?=some (.int k n)->∃m,c'[i]?=some (.int k m)
def tV.refl(o:Option Obj):tV o o:= λc _ _ h=>⟨c,h,rfl, λ_ _ n h=>⟨n,h⟩⟩
def tV.trans{a b c:Option Obj}(h:tV a b)(k:tV b c):tV a c:= λx e fr hx=>
 let⟨y,hy,e1,i1⟩:=h x e fr hx
 let⟨z,hz,e2,i2⟩:=k y e fr hy
 ⟨z,hz,e2.trans e1, λi kd n hn=>let⟨m,hm⟩:=i1 i kd n hn;i2 i kd m hm⟩
structure dM(Z:fO)(own:Nat->Prop)(W W1:World):Prop where
 tape:W1.tape=W.tape
 out:W1.output=W.output
 os:OsLater W.os W1.os
 size:W.heap.size<=W1.heap.size
 own:∀b,own b->W1.heap[b]?=W.heap[b]?
 ro:∀b,Z.ro b->W1.heap[b]?=W.heap[b]?
 sy:∀b,Z.sy b->tV W.heap[b]? W1.heap[b]?
 cl:∀b i,Z.cl b i->W1.cell? ⟨b,i,none⟩=W.cell? ⟨b,i,none⟩
structure qK(Z:fO)(own:Nat->Prop)(W W1:World):Prop where
 tape:W1.tape=W.tape
 out:W1.output=W.output
 os:W1.os=W.os
 size:W.heap.size<=W1.heap.size
 rest:∀b,b<W.heap.size->¬own b->¬Z.sy b->W1.heap[b]?=W.heap[b]?
 sy:∀b,Z.sy b->tV W.heap[b]? W1.heap[b]?∧∀i,¬Z.cl b i->W1.cell? ⟨b,i,none⟩=W.cell? ⟨b,i,none⟩
def grow(own:Nat->Prop)(W W1:World):Nat->Prop:= λb=>own b∨(W.heap.size<=b∧b<W1.heap.size)
def NY(Z:fO)(own:Nat->Prop)(e:Event):Prop:=
 ¬Z.mute∧match e.loc with
 | .cell a=>e.sync=false∧(own a.block∨(Z.ro a.block∧e.write=false)∨Z.cl a.block a.off)
 | .obj r=>e.sync=false∧own r
 | .mark m=>m=.noRoom
 |_=>False
inductive Gw(P:Program)(main:Bool)(Z:fO)(Stop:(Nat->Prop)->Goroutine->World->Prop):(Nat->Prop)->Goroutine->World->Prop
 |stop {own:Nat->Prop} {g:Goroutine} {W:World} (h:∀W1,dM Z own W W1->Stop own g W1):Gw P main Z Stop own g W
 |step {own:Nat->Prop} {g:Goroutine} {W:World} (hs:g.status=.running) (g':World->Goroutine) (W':World->World) (es:World->Array Event)
   (h:∀W1,dM Z own W W1->stepG P main g W1=.go (g' W1) (W' W1) (es W1)) (hg:∀W1,dM Z own W W1->qK Z own W1 (W' W1))
   (he:∀W1,dM Z own W W1->∀e∈es W1,NY Z (grow own W1 (W' W1)) e) (hn:∀W1,dM Z own W W1->Gw P main Z Stop (grow own W1 (W' W1)) (g' W1) (W' W1)):Gw P main Z Stop own g W
section
variable {P:Program} {main:Bool} {Z:fO} {Stop:(Nat->Prop)->Goroutine->World->Prop} {own:Nat->Prop} {g:Goroutine} {W:World}
def dM.refl(W:World):dM Z own W W:=⟨rfl,rfl,OsLater.refl _,aJ _, λ_ _=>rfl, λ_ _=>rfl, λ_ _=>tV.refl _, λ_ _ _=>rfl⟩
def dM.trans{a b c:World}(h:dM Z own a b)(k:dM Z own b c):dM Z own a c:=
 ⟨k.tape.trans h.tape,k.out.trans h.out,h.os.trans k.os,aS h.size k.size, λx hx=>(k.own x hx).trans (h.own x hx), λx hx=>(k.ro x hx).trans (h.ro x hx), λx hx=>(h.sy x hx).trans (k.sy x hx), λx i hx=>(k.cl x i hx).trans (h.cl x i hx)⟩
def Gw.xY(hs:g.status=.running)(h:∀W1,dM Z own W W1->∃g' W' es,stepG P main g W1=.go g' W' es∧qK Z own W1 W'∧(∀e∈es,NY Z (grow own W1 W') e)∧Gw P main Z Stop (grow own W1 W') g' W'):Gw P main Z Stop own g W:=by
 classical
 refine .step hs (λW1=>if hr:dM Z own W W1 then(h W1 hr).choose else g) (λW1=>if hr:dM Z own W W1 then(h W1 hr).choose_spec.choose else W1)
  (λW1=>if hr:dM Z own W W1 then(h W1 hr).choose_spec.choose_spec.choose else#[]) ?_ ?_ ?_ ?_
 all_goals
  intro W1 hr;simp only[dif_pos hr]
 .exact(h W1 hr).choose_spec.choose_spec.choose_spec.1
 .exact(h W1 hr).choose_spec.choose_spec.choose_spec.2.1
 .exact(h W1 hr).choose_spec.choose_spec.choose_spec.2.2.1
 .exact(h W1 hr).choose_spec.choose_spec.choose_spec.2.2.2
def Gw.not(hs:g.status=.running)(h:¬Gw P main Z Stop own g W):
 ∃W1,dM Z own W W1∧∀g' W' es,stepG P main g W1=.go g' W' es->qK Z own W1 W'->(∀e∈es,NY Z (grow own W1 W') e)->¬Gw P main Z Stop (grow own W1 W') g' W':=by
 apply bn;intro hc;refine h (Gw.xY hs λW1 hr=>?_);apply bn;intro hx;exact hc ⟨W1,hr, λg' W' es h1 h2 h3 h4=>hx ⟨g',W',es,h1,h2,h3,h4⟩⟩
def Gw.rely{W1:World}(h:Gw P main Z Stop own g W)(hr:dM Z own W W1):Gw P main Z Stop own g W1:=by
 cases h with
 |stop h=>exact .stop λW2 h2=>h W2 (hr.trans h2)
 |step hs g' W' es h1 h2 h3 h4=>exact .step hs g' W' es (λW2 h=>h1 W2 (hr.trans h)) (λW2 h=>h2 W2 (hr.trans h)) (λW2 h=>h3 W2 (hr.trans h)) (λW2 h=>h4 W2 (hr.trans h))
def Gw.bind{Stop':(Nat->Prop)->Goroutine->World->Prop}(h:Gw P main Z Stop own g W)(hk:∀own g W,(∀W1,dM Z own W W1->Stop own g W1)->Gw P main Z Stop' own g W):Gw P main Z Stop' own g W:=by
 induction h with
 |stop h=>exact hk _ _ _ h
 |step hs g' W' es h1 h2 h3 _ ih=>exact .step hs g' W' es h1 h2 h3 ih
end
end
section
variable [Sh]
section
variable {F F':Fit} {f g:Nat->Nat}
def Ig(h:∀b,(F.A b=true∨Sh.hol b=true)->f b=g b){a:Addr}(ha:F.A a.block=true):ra f a=ra g a:=by unfold ra;rw[h _ (.inl ha)]
def NZ(h:∀b,(F.A b=true∨Sh.hol b=true)->f b=g b){fn:Fn}(hf:Wi F fn=true):T9 f fn=T9 g fn:=by
 cases fn with
 |yield l=>exact congrArg Fn.yield (h l (.inl hf))
 |_=>rfl
mutual
def rD(h:∀b,(F.A b=true∨Sh.hol b=true)->f b=g b):∀v:Value,vs F v=true->rv f v=rv g v
 | .bool _,_=>by simp
 | .int _ _,_=>by simp
 | .float _ _,_=>by simp[qX]
 | .complex _ _ _,_=>by simp[mP]
 | .string _,_=>by simp
 | .pointer none,_=>by simp
 | .pointer (some a),hv=>by have :=Ig h (a:=a) (by simpa using hv);simp[this]
 | .slice none _ _,_=>by simp
 | .slice (some a) _ _,hv=>by
   have:ra f a=ra g a:=by unfold ra;rw[h _ ((nL (by simpa using hv)).imp id And.left)]
   simp[this]
 | .map none,_=>by simp
 | .map (some r),hv=>by have :=h r (.inl (by simpa using hv));simp[this]
 | .chan none,_=>by simp
 | .chan (some r),hv=>by simp at hv
 | .func fn a b,hv=>by rw[rv,rv];rw[vs,bB,bB]at hv;rw[NZ h hv.1.1,vo h a hv.1.2,vo h b hv.2]
 | .nilFunc,_=>by simp
 | .iface t v,hv=>by rw[rv,rv,rD h v (by rw[vs]at hv;exact hv)]
 | .nilIface,_=>by simp
 | .agg a,hv=>by rw[rv,rv,vo h a (by rw[vs]at hv;exact hv)]
 | .tuple a,hv=>by rw[rv,rv,vo h a (by rw[vs]at hv;exact hv)]
def vo(h:∀b,(F.A b=true∨Sh.hol b=true)->f b=g b):∀a:Array Value,JK F a=true->LU f a=LU g a
 |⟨l⟩,hv=>by rw[LU,LU,Ex h l (by rw[JK]at hv;exact hv)]
def Ex(h:∀b,(F.A b=true∨Sh.hol b=true)->f b=g b):∀l:List Value,JH F l=true->GY f l=GY g l
 | [],_=>by rw[GY,GY]
 |v::l,hv=>by rw[JH,bB]at hv;rw[GY,GY,rD h v hv.1,Ex h l hv.2]
end
def sK(h:∀b,(F.A b=true∨Sh.hol b=true)->f b=g b){a:Array Value}(ha:VS F a):a.map (rv f)=a.map (rv g):=
 Array.map_congr_left λv hv=>rD h v (ha v hv)
def Ih(hS:F.S=F'.S∧F.V=F'.V)(hA:∀b,F.A b=true->F'.A b=true){fn:Fn}(h:Wi F fn=true):Wi F' fn=true:=by
 cases fn with
 |func g=>show F'.V g=true;rw[<-hS.2];exact h
 |yield l=>exact hA l h
 |_=>exact h
mutual
def xZ(hS:F.S=F'.S∧F.V=F'.V)(hA:∀b,F.A b=true->F'.A b=true):∀v:Value,vs F v=true->vs F' v=true
 | .bool _,_=>by simp
 | .int _ _,_=>by simp
 | .float _ _,h=>by simp at h
 | .complex _ _ _,h=>by simp at h
 | .string _,_=>by simp
 | .pointer none,_=>by simp
 | .pointer (some a),h=>by simp at h⊢;exact hA _ h
 | .slice none _ _,_=>by simp
 | .slice (some a) l c,h=>by
   rw[gY]at h⊢;rcases nL h with h|⟨h,h1,h2⟩
   .exact qH (hA _ h)
   .unfold JG;simp[h,h1,h2]
 | .map none,_=>by simp
 | .map (some r),h=>by simp at h⊢;exact hA _ h
 | .chan r,h=>by simpa using h
 | .func fn a b,h=>by rw[vs,bB,bB]at h⊢;exact⟨⟨Ih hS hA h.1.1,x8 hS hA a h.1.2⟩,x8 hS hA b h.2⟩
 | .nilFunc,_=>by simp
 | .iface t v,h=>by rw[vs]at h⊢;exact xZ hS hA v h
 | .nilIface,_=>by simp
 | .agg a,h=>by rw[vs]at h⊢;exact x8 hS hA a h
 | .tuple a,h=>by rw[vs]at h⊢;exact x8 hS hA a h
def x8(hS:F.S=F'.S∧F.V=F'.V)(hA:∀b,F.A b=true->F'.A b=true):∀a:Array Value,JK F a=true->JK F' a=true
 |⟨l⟩,h=>by rw[JK]at h⊢;exact Ii hS hA l h
def Ii(hS:F.S=F'.S∧F.V=F'.V)(hA:∀b,F.A b=true->F'.A b=true):∀l:List Value,JH F l=true->JH F' l=true
 | [],_=>by rw[JH]
 |v::l,h=>by rw[JH,bB]at h⊢;exact⟨xZ hS hA v h.1,Ii hS hA l h.2⟩
end
def VS.mono(hS:F.S=F'.S∧F.V=F'.V)(hA:∀b,F.A b=true->F'.A b=true){a:Array Value}(h:VS F a):VS F' a:= λv hv=>xZ hS hA v (h v hv)
def Uw(hS:F.S=F'.S∧F.V=F'.V)(hc:F.code=F'.code)(hA:∀b,F.A b=true->F'.A b=true){o:Obj}(h:oS F o):oS F' o:=by
 cases o with
 |cells c e fr=>exact VS.mono hS hA h
 |number a l=>exact hA _ h
 |map es c=>exactλe he=>⟨xZ hS hA _ (h e he).1,xZ hS hA _ (h e he).2⟩
 |stringIter _ _=>trivial
 |mapIter m _ _ _=>
  cases m with
  |none=>rfl
  |some r=>exact hA r h
 |loop l=>exact⟨VS.mono hS hA h.1,hS.1 ▸ h.2.1,hA _ h.2.2.1,hc ▸ h.2.2.2.1,hc ▸ h.2.2.2.2.1, λc hx=>hc ▸ h.2.2.2.2.2 c hx⟩
 |deferred ds=>exact h
 |_=>exact h.elim
def Qr(h:∀b,(F.A b=true∨Sh.hol b=true)->f b=g b){o:Obj}(ho:oS F o):ro f o=ro g o:=by
 cases o with
 |cells c e fr=>simp only[ro];rw[sK h ho]
 |number a l=>simp only[ro];rw[Ig h ho]
 |map es c=>
  simp only[ro];congr 1;refine Array.map_congr_left λe he=>?_
  unfold re;rw[rD h _ (ho e he).1,rD h _ (ho e he).2]
 |stringIter _ _=>rfl
 |mapIter m _ _ _=>
  cases m with
  |none=>rfl
  |some r=>simp only[ro,ay];rw[h r (.inl ho)]
 |loop l=>simp only[ro];rw[sK h ho.1,h _ (.inl ho.2.2.1)]
 |deferred ds=>rcases ho with rfl|rfl<;>rfl
 |_=>exact ho.elim
def BR.conv(hS:F.S=F'.S∧F.V=F'.V)(hc:F.code=F'.code)(hA:∀b,F.A b=true->F'.A b=true)(h:∀b,(F.A b=true∨Sh.hol b=true)->f b=g b){b:Nat}{o:Obj}{O:Option Obj}(hb:BR F f b o O):BR F' g b o O:=by
 rcases hb with⟨hl,h1,h2,h3⟩|⟨hl,c,e,fr,fr',h1,h2,h3,h4⟩|⟨hl,c,fr,C,e',fr',h1,h2,h5,h3,h4⟩
 .exact .inl ⟨hl,Uw hS hc hA h1,h2,by rw[h3,Qr h h1]⟩
 .exact .inr (.inl ⟨hl,c,e,fr,fr',h1,VS.mono hS hA h2,by rw[h3,sK h h2],h4⟩)
 .exact .inr (.inr ⟨hl,c,fr,C,e',fr',h1,VS.mono hS hA h2,h5,h3, λi v hi=>by rw[h4 i v hi,rD h v (h2 v (aZ hi))]⟩)
variable {P:Program}
def Qs(hS:F.S=F'.S∧F.V=F'.V){v:Value}(h:ZO F v=true):ZO F' v=true:=by
 unfold ZO at h⊢;split at h
 .rw[hS.2]at h;exact h
 .exact h
def nP(hS:F.S=F'.S∧F.V=F'.V)(hA:∀b,F.A b=true->F'.A b=true){x:Operand}(h:eP P F x=true):eP P F' x=true:=by
 cases x with
 |tmp _=>rfl
 |const v=>exact Qs hS h
 |global g=>exact absurd h (by simp[eP])
 |func g=>show F'.V g=true;rw[<-hS.2];exact h
def Ij(hS:F.S=F'.S∧F.V=F'.V){x:Operand}(h:Cg F x=true):Cg F' x=true:=by
 unfold Cg at h⊢;split at h
 .rw[hS.1]at h;exact h
 .rw[hS.1]at h;exact h
 .cases h
def uy{α:Type}{p q:α->Bool}(h:∀x,p x=true->q x=true){a:Array α}(ha:a.all p=true):a.all q=true:=by rw[aU]at ha⊢;exactλx hx=>h x (ha x hx)
def N7{α:Type}{p q:α->Bool}(h:∀x,p x=true->q x=true){a:Option α}(ha:a.all p=true):a.all q=true:=by
 cases a with
 |none=>rfl
 |some x=>exact h x ha
def Ik(hS:F.S=F'.S∧F.V=F'.V)(hA:∀b,F.A b=true->F'.A b=true){c:Call}(h:sI P F c=true):sI P F' c=true:=by
 unfold sI at h⊢;rw[bB]at h⊢;refine⟨uy (λx=>nP hS hA) h.1,?_⟩;have h2:=h.2;cases hc:c.callee with
 |value x=>
  rw[hc]at h2
  exact Bool.or_eq_true_iff.2 ((Bool.or_eq_true_iff.1 h2).imp (nP hS hA) λh=>by rw[bB]at h⊢;exact⟨h.1,Ij hS h.2⟩)
 |builtin b=>rw[hc]at h2;exact h2
 |invoke _ _=>rw[hc]at h2;cases h2
def N8(hS:F.S=F'.S∧F.V=F'.V)(hA:∀b,F.A b=true->F'.A b=true){o:Op}(h:jg P F o=true):jg P F' o=true:=by
 have m:∀{x:Operand},eP P F x=true->eP P F' x=true:= λh=>nP hS hA h
 have am:∀{x:Array Operand},x.all (eP P F)=true->x.all (eP P F')=true:= λh=>uy (λx=>nP hS hA) h
 have om:∀{x:Option Operand},x.all (eP P F)=true->x.all (eP P F')=true:= λh=>N7 (λx=>nP hS hA) h
 cases o with
 |call c=>exact Ik hS hA h
 |makeFunc fn a b=>
  simp only[jg,bB]at h⊢;exact⟨⟨⟨Ih hS hA h.1.1.1,h.1.1.2⟩,am h.1.2⟩,am h.2⟩
 |build t ps=>exact uy (λx hx=>m hx) h
 |buildSlice t n ps=>exact uy (λx hx=>m hx) h
 |makeMap t r=>exact om h
 |alloc _=>rfl
 |panic _=>rfl
 |slice t x l hh mm=>
  simp only[jg,bB]at h⊢;exact⟨⟨⟨m h.1.1.1,om h.1.1.2⟩,om h.1.2⟩,om h.2⟩
 |move x=>exact m h
 |assign x=>exact m h
 |nilCheck x=>exact m h
 |unOp _ _ x=>exact m h
 |box _ x=>exact m h
 |load _ x=>exact m h
 |field _ x _=>exact m h
 |extract x _=>exact m h
 |makeInterface _ x=>exact m h
 |range _ x=>exact m h
 |next x _=>exact m h
 |pick c a b=>simp only[jg,bB]at h⊢;exact⟨⟨m h.1.1,m h.1.2⟩,m h.2⟩
 |store _ a x=>simp only[jg,bB]at h⊢;exact⟨m h.1,m h.2⟩
 |makeSlice _ a x=>simp only[jg,bB]at h⊢;exact⟨m h.1,m h.2⟩
 |indexAddr _ a x=>simp only[jg,bB]at h⊢;exact⟨m h.1,m h.2⟩
 |index _ a x=>simp only[jg,bB]at h⊢;exact⟨m h.1,m h.2⟩
 |binOp op t x y _=>simp only[jg,bB]at h⊢;exact⟨⟨m h.1.1,m h.1.2⟩,h.2⟩
 |convert s d x=>simp only[jg,bB]at h⊢;exact⟨m h.1,h.2⟩
 |fieldAddr t x i=>simp only[jg,bB]at h⊢;exact⟨m h.1,h.2⟩
 |lookup t x k _=>simp only[jg,bB]at h⊢;exact⟨⟨m h.1.1,m h.1.2⟩,h.2⟩
 |mapUpdate t x k v=>simp only[jg,bB]at h⊢;exact⟨⟨⟨m h.1.1.1,m h.1.1.2⟩,m h.1.2⟩,h.2⟩
 |insert t x k v=>simp only[jg,bB]at h⊢;exact⟨⟨⟨m h.1.1.1,m h.1.1.2⟩,m h.1.2⟩,h.2⟩
 |mapEntry t x k=>simp only[jg,bB]at h⊢;exact⟨⟨m h.1.1,m h.1.2⟩,h.2⟩
 |entryStore _ x k v=>simp only[jg,bB]at h⊢;exact⟨⟨m h.1.1,m h.1.2⟩,m h.2⟩
 |_=>cases h
def N9(hS:F.S=F'.S∧F.V=F'.V)(hc:F.code=F'.code)(hA:∀b,F.A b=true->F'.A b=true){i:Item}(h:zz P F i):zz P F' i:=by
 cases i with
 |code c=>show F'.code c=true;rw[<-hc];exact h
 |inBlock _=>trivial
 |inLoop c=>show F'.code c=true;rw[<-hc];exact h
 |inScope c=>show F'.code c=true;rw[<-hc];exact h
 |inRegion ops l=>exact uy (λo ho=>N8 hS hA ho) h
 |inRangeFunc l=>exact hA l h
 |endRangeFunc l=>exact hA l h
 |beginRound=>trivial
 |call _ _ _ _=>exact az h
 |extern _ _=>exact az h
def jM.mono(hS:F.S=F'.S∧F.V=F'.V)(hc:F.code=F'.code)(hA:∀b,F.A b=true->F'.A b=true){fr:Frame}(h:jM P F fr):jM P F' fr:=
 ⟨hS.1 ▸ h.fn,VS.mono hS hA h.tmps, λi hi=>N9 hS hc hA (h.todo i hi), λd hd=>let⟨r,h1,h2⟩:=h.defers d hd;⟨r,h1,hA r h2⟩,h.kind, λl hl=>hA l (h.round l hl)⟩
def tQ.mono(hS:F.S=F'.S∧F.V=F'.V)(hc:F.code=F'.code)(hA:∀b,F.A b=true->F'.A b=true):∀{fr:Frame}{up:List Frame},tQ P F fr up->tQ P F' fr up
 |_,[],h=>⟨h.1.mono hS hc hA,h.2⟩
 |_,_::_,h=>⟨h.1.mono hS hc hA,h.2.1,tQ.mono hS hc hA h.2.2⟩
def Oa(h:∀b,(F.A b=true∨Sh.hol b=true)->f b=g b){i:Item}(hi:zz P F i):ql f i=ql g i:=by
 cases i with
 |inRangeFunc l=>exact congrArg Item.inRangeFunc (h l (.inl hi))
 |endRangeFunc l=>exact congrArg Item.endRangeFunc (h l (.inl hi))
 |_=>rfl
def zF(h:∀b,(F.A b=true∨Sh.hol b=true)->f b=g b){fr:Frame}(hf:jM P F fr):ic f fr=ic g fr:=by
 have e1:=sK h hf.tmps;have e2:fr.todo.map (ql f)=fr.todo.map (ql g):=List.map_congr_left λi hi=>Oa h (hf.todo i hi)
 have e3:fr.defers.map (rd f)=fr.defers.map (rd g):=List.map_congr_left λd hd=>by obtain⟨r,rfl,hr⟩:=hf.defers d hd;simp[Hz,rd,h r (.inl hr)]
 have e4:fr.roundOf.map f=fr.roundOf.map g:=by
  cases hr:fr.roundOf with
  |none=>rfl
  |some l=>simp only[ay];rw[h l (.inl (hf.round l hr))]
 unfold ic;rw[e1,e2,e3,e4]
def tQ.all:∀{fr:Frame}{up:List Frame},tQ P F fr up->∀x∈up,jM P F x
 |_,[],_=>by intro x hx;cases hx
 |_,_::_,h=>by
  intro x hx;rcases bD.1 hx with rfl|hx
  .exact h.2.2.top
  .exact tQ.all h.2.2 x hx
def Qt(h:∀b,(F.A b=true∨Sh.hol b=true)->f b=g b){fr:Frame}{up:List Frame}(hs:tQ P F fr up):up.map (ic f)=up.map (ic g):=
 List.map_congr_left λx hx=>zF h (hs.all x hx)
end
end
section
def stk:Frame:={ fn:=0,tmps:= #[],todo:=[.code (.refuse "")],defers:=[{ target:=.nil,args:= #[] }],mode:=.run,kind:=.normal }
def Fin(fr:Frame)(up:List Frame):Prop:=up= []∧fr.mode=.returning∧fr.defers= []
section
variable {P:Program}
def pg{fr fr':Frame}{cs cs':List Frame}{w w':World}(h:lone fr cs w=lone fr' cs' w'):fr=fr'∧cs=cs'∧w=w':=by unfold lone at h;injection h with h1 h2 h3;injection h2 with h4;injection h4 with h5 _;injection h5 with h6 h7;exact⟨h6,h7,h1⟩
def vv{fr qh:Frame}{cs cs1:List Frame}{w w1:World}{es:Array Event}(h:stepG P true (G fr cs) w=.go (G qh cs1) w1 es):step P (lone fr cs w)=.next (lone qh cs1 w1):=
 step_lone_go (by unfold G at h;rw[h];rfl)
def pq{fr:Frame}{cs:List Frame}{w w1:World}{o:Outcome}{es:Array Event}(h:stepG P true (G fr cs) w=.ended o w1 es):step P (lone fr cs w)=.ended o w1:=
 step_lone_ended (by unfold G at h;rw[h];rfl)
def rE:∀(n:Nat)(m:Machine),runN P (n+1) m=(match runN P n m with | .next m'=>step P m'|e=>e)
 |0,m=>by simp only[runN];cases step P m<;>rfl
 |n+1,m=>by
  have e:runN P (n+1+1) m=(match step P m with | .next m'=>runN P (n+1) m'|e=>e):=rfl;have e':runN P (n+1) m=(match step P m with | .next m'=>runN P n m'|e=>e):=rfl;rw[e,e'];cases step P m with
  |next m'=>exact rE n m'
  |ended o w=>rfl
def lD(a b:Nat)(m:Machine):runN P (a+b) m=(match runN P a m with | .next m'=>runN P b m'|e=>e):=by
 induction b with
 |zero=>
  cases h:runN P a m with
  |next m'=>rfl
  |ended o w=>rfl
 |succ b ih=>
  rw[<-Nat.add_assoc,rE,ih];cases h:runN P a m with
  |next m'=>exact(rE b m').symm
  |ended o w=>rfl
def runN_ended(n:Nat){m:Machine}{o:Outcome}{w:World}(h:step P m=.ended o w):runN P (n+1) m=.ended o w:=by show(match step P m with | .next m'=>runN P n m'|e=>e)=_;rw[h]
def Il(w:World)(cs:List Frame):∃o w1,step P (lone stk cs w)=.ended o w1:=
 ⟨_,_,pq (o:=_) (w1:=w) (es:= #[]) rfl⟩
def vw{fr:Frame}(hf:∃fn,P.funcs[fr.fn]?=some fn)(hk:fr.kind=.normal)(hm:fr.mode=.returning)(hd:fr.defers= [])(w:World)(n:Nat)(fr':Frame)(up':List Frame)(w':World):
 runN P (n+1) (lone fr [stk] w)≠ .next (lone fr' (up'++ [stk]) w'):=by
 obtain⟨fn,hf⟩:=hf
 have h1:(∃o w1,step P (lone fr [stk] w)=.ended o w1)∨∃w1,step P (lone fr [stk] w)=.next (lone stk [] w1):=by
  generalize hr:(results fn fr.tmps).runT P w #[]=r;obtain⟨r1,r2⟩:=r;cases r1 with
  |ok v w1=>
   refine .inr ⟨w1,vv (es:=seen P fr.fn r2++ #[]) ?_⟩;unfold stepG G;simp only[hm];unfold unwind;simp only[hd,hm,hf];rw[hr];unfold doReturn;simp only[hk];rfl
  |halt h w1=>
   have key:∃o,stepG P true (G fr [stk]) w=.ended o w1 (seen P fr.fn r2++ #[]):=by unfold stepG G;simp only[hm];unfold unwind;simp only[hd,hm,hf];rw[hr];cases h<;>exact⟨_,rfl⟩
   obtain⟨o,key⟩:=key;exact .inl ⟨o,w1,pq key⟩
 rcases h1 with⟨o,w1,h1⟩|⟨w1,h1⟩
 .rw[runN_ended n h1];simp
 .show(match step P (lone fr [stk] w)with | .next m'=>runN P n m'|e=>e)≠_;rw[h1];dsimp only;cases n with
  |zero=>
   simp only[runN];intro h;have :=(pg (Stepped.next.inj h)).2.1;have :=congrArg List.length this;simp at this
  |succ n=>
   obtain⟨o,w2,h2⟩:=Il (P:=P) w1 [];rw[runN_ended n h2];simp
def xp(g:Goroutine):Prop:=∃ch,g=G { stk with mode:=.panicking ch } []
def Ob(w:World)(ch:List PanicEntry):∃o w1,step P (lone { stk with mode:=.panicking ch } [] w)=.ended o w1:=by
 have h:∃o,stepG P true (G { stk with mode:=.panicking ch } []) w=.ended o w #[]:=by unfold stepG G;dsimp only[stk];unfold unwind;dsimp only;unfold callDeferred;exact⟨_,rfl⟩
 obtain⟨o,h⟩:=h;exact⟨o,w,pq h⟩
variable {F:Fit}
def Qu(r:Nat)(w:World)(hd:BF F w)(hr:F.A r=true):
 (∃h w1 es,(Instr.takeDeferred r).runT P w #[]=(.halt h w1,es))∨∃w1 es,(Instr.takeDeferred r).runT P w #[]=(.ok [] w1,es)∧BF F w1:=by
 have e:∀(k:Obj->Sem (List Deferred)),Instr.takeDeferred r=(getObj r>>=k)->Sem.runT P (Instr.takeDeferred r) w #[]=Sem.runT P (.getObj r k) w #[]:=by intro k hk;rw[hk];rfl
 unfold Instr.takeDeferred;show(∃h w1 es,Sem.runT P (.getObj r _) w #[]=(.halt h w1,es))∨∃w1 es,Sem.runT P (.getObj r _) w #[]=(.ok [] w1,es)∧BF F w1;simp only[Sem.runT];cases hb:w.heap[r]? with
 |none=>exact .inl ⟨_,_,_,rfl⟩
 |some o=>
  cases o with
  |deferred ds=>
   rcases hd r ds hr hb with rfl|rfl
   .refine .inr ⟨{ w with heap:=w.heap.setIfInBounds r (.deferred none) },(#[].push ⟨.obj r,false,false⟩).push ⟨.obj r,true,false⟩,?_,?_⟩
    .show Sem.runT P (.setObj r (.deferred none) (.pure [])) w _=_;rw[oU (x:=.deferred (some [])) (.deferred none) (.pure []) _ hb rfl];rfl
    .intro b ds hA hb'
     by_cases hbr:r=b
     .subst hbr;have :=(aI.1 hb).1;simp only[]at hb';rw[aD this]at hb';cases hb';exact .inr rfl
     .simp only[]at hb';rw[au hbr]at hb';exact hd b ds hA hb'
   .exact .inl ⟨_,_,_,rfl⟩
  |_=>exact .inl ⟨_,_,_,rfl⟩
def Ux{g:Goroutine}{w:World}(h:PS F [stk] g w):
 (∃o w1,step P (lone g.frame g.callers w)=.ended o w1)∨∃g1 w1,step P (lone g.frame g.callers w)=.next (lone g1.frame g1.callers w1)∧(PS F [stk] g1 w1∨xp g1):=by
 obtain⟨fr,up,ch,rfl,hm,hc,hd⟩:=h;show(∃o w1,step P (lone fr (up++ [stk]) w)=.ended o w1)∨∃(g1:Goroutine)(w1:World),step P (lone fr (up++ [stk]) w)=.next (lone g1.frame g1.callers w1)∧(PS F [stk] g1 w1∨xp g1)
 have hsg:stepG P true (G fr (up++ [stk])) w=unwind P true fr (up++ [stk]) none w:=by unfold stepG G;simp only[hm]
 cases hds:fr.defers with
 |cons d ds=>
  obtain⟨r,rfl,hr⟩:=hc fr (aP ..) d (by rw[hds];exact aP ..)
  have hu:stepG P true (G fr (up++ [stk])) w=GStep.after (seen P fr.fn ((Instr.takeDeferred r).runT P w #[]).2) (match((Instr.takeDeferred r).runT P w #[]).1 with
   | .ok calls w=>.go (G { fr with defers:=calls++ds } (up++ [stk])) w
   | .halt _ w=>.ended (.stuck "the deferred calls of a range-over-func loop have been taken" (fr.pos P)) w):=by
   rw[hsg];unfold unwind;simp only[hds,Hz];rfl
  rcases Qu (P:=P) r w hd hr with⟨x,w1,es,h⟩|⟨w1,es,h,hd1⟩
  .rw[h]at hu;exact .inl ⟨_,_,pq hu⟩
  .rw[h]at hu;refine .inr ⟨G { fr with defers:=ds } (up++ [stk]),w1,vv hu,.inl ⟨_,up,ch,rfl,hm, λx hx=>?_,hd1⟩⟩;rcases bD.1 hx with rfl|hx
   .intro d Qm;exact hc fr (aP ..) d (by rw[hds];exact aQ _ Qm)
   .exact hc x (aQ _ hx)
 |nil=>
  by_cases XB:fr.catches P=true
  .left
   have h:∃o,stepG P true (G fr (up++ [stk])) w=.ended o w #[]:=by rw[hsg];unfold unwind;simp only[hds,hm,XB,if_true];exact⟨_,rfl⟩
   obtain⟨o,h⟩:=h;exact⟨o,w,pq h⟩
  .right;cases up with
   |nil=>
    refine⟨G (stk.raise ch) [],w,vv (es:= #[]) ?_,.inr ⟨ch,rfl⟩⟩;rw[hsg];unfold unwind;simp only[hds,hm,XB,List.nil_append,if_false];rfl
   |cons x up=>
    refine⟨G (x.raise ch) (up++ [stk]),w,vv (es:= #[]) ?_,.inl ?_⟩
    .rw[hsg];unfold unwind;simp only[hds,hm,XB,List.cons_append,if_false];rfl
    .have hm2:∃c2,(x.raise ch).mode=.panicking c2:=by
      unfold Frame.raise;cases x.mode<;>exact⟨_,rfl⟩
     obtain⟨c2,hm2⟩:=hm2;refine⟨x.raise ch,up,c2,rfl,hm2, λy hy=>?_,hd⟩;rcases bD.1 hy with rfl|hy
     .intro d Qm;refine hc x (aQ _ (aP ..)) d ?_
      unfold Frame.raise at Qm;cases hxm:x.mode<;>(rw[hxm]at Qm;exact Qm)
     .exact hc y (aQ _ (aQ _ hy))
def Ey:∀(n:Nat){g:Goroutine}{w:World},PS F [stk] g w->∀fr' w',(∀ch,fr'.mode≠ .panicking ch)->runN P n (lone g.frame g.callers w)≠ .next (lone fr' [stk] w')
 |0,g,w,h,fr',w',hm=>by obtain⟨fr,up,ch,rfl,hm',_⟩:=h;simp only[runN];intro e;obtain⟨h1,_⟩:=pg (Stepped.next.inj e);have h1:fr=fr':=h1;exact hm ch (h1 ▸ hm')
 |n+1,g,w,h,fr',w',hm=>by
  rcases Ux (P:=P) h with⟨o,w1,h1⟩|⟨g1,w1,h1,h2⟩
  .rw[runN_ended n h1];simp
  .show(match step P (lone g.frame g.callers w)with | .next m'=>runN P n m'|e=>e)≠_;rw[h1];dsimp only;rcases h2 with h2|⟨ch,rfl⟩
   .exact Ey n h2 fr' w' hm
   .cases n with
    |zero=>
     simp only[runN];intro e;have :=(pg (Stepped.next.inj e)).2.1;cases this
    |succ n=>
     obtain⟨o,w2,h3⟩:=Ob (P:=P) w1 ch;have h3':step P (lone (G { stk with mode:=.panicking ch } []).frame (G { stk with mode:=.panicking ch } []).callers w1)=.ended o w2:=h3;rw[runN_ended n h3'];simp
end
end
end cS
