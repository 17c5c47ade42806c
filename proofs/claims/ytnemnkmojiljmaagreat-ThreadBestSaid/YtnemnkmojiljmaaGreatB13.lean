/- Part 13. -/
import Derived.Below
import Derived.Laws.Sem
import Derived.Conc.Own
import Derived.Conc.Listed
import Derived.Test.YtnemnkmojiljmaaGreatB04
set_option maxRecDepth 100000
set_option maxHeartbeats 0
set_option linter.all false
namespace Par
open Go Go.RowKit
section
section
variable {P:Program} {w:World}
theorem FP (base:Nat) (t ty e:TypeId) (i:TypeInfo) (z:Value) (size bytes:Nat) (ht:P.underlying t=some (.slice e)) (hi:P.info? e=some i) (hz:i.zero=some z)
 (hsize:i.size=size) (hby:i.bytes=bytes) (hzs:z.cells.size=size) (hsz:0<size)
 (v:Value) (n:Nat) (xs:List Value) (hown:w.ownsRow base e size v n xs)
 (a:Addr) (m c:Nat) (news:List Value) (hl:news.length=m*size) (hnews:∀j u,news[j]?=some u->w.cell? (a.add j)=some u) (h1:∀u∈news,u.oneCell'=true)
 (h63:n+m<=maxLen) (hbytes:(n+m)*bytes<=140737488355328) (hbase:base<=w.heap.size)
 (hpv:eP w v) (hpx:∀u∈news,fA u=true) (hpz:∀u∈z.cells,fA u=true) {v':Value} {w':World}
 (hr:(Builtin.append_ #[t,t] ty #[v,.slice (some a) m c]).run P w= .ok v' w'):eP w' v:=by
 subst hsize;subst hby;have hsmall:n+m<=9223372036854775807:=by simp only [maxLen] at h63;omega
 have zc:∀k,∀x∈Builtin.zeroCells z.cells k,fA x=true:=by
  intro k x hx;unfold Builtin.zeroCells at hx;simp at hx;obtain ⟨q,_,rfl⟩:=hx;have hlt:q%z.cells.size<z.cells.size:=Nat.mod_lt _ (by omega);rw [getElem!_pos z.cells _ hlt];exact hpz _ (Array.getElem_mem hlt)
 rcases hown.2 with ⟨rfl,rfl⟩|⟨g,cap,cur,rfl,hbg,hg,hnc,hcm,hcs,htake⟩
 ·have hx:xs= []:=List.eq_nil_of_length_eq_zero (by simpa using hown.1);subst hx
  by_cases hm:m=0
  ·subst hm;have hn:news= []:=List.eq_nil_of_length_eq_zero (by simpa using hl);subst hn
   have :(Builtin.append_ #[t,t] ty #[.slice none 0 0,.slice (some a) 0 c]).run P w= .ok (.slice none 0 0) w:=by
    simp [Builtin.append_,run_underlying ht,Go.sizeOf,Go.typeInfo,hi,Builtin.lenOf,Builtin.firstCells,loadCells,loadCellsFrom]
   rw [this] at hr;cases hr;exact .nil _
  ·have hr2:=run_append_nil (P:=P) w t ty e i z ht hi hz a m c news hl hnews (by omega) (by omega) (by have hb:=hbytes;simp only [Nat.zero_add] at hb;omega);rw [hr2] at hr;cases hr;exact .nil _
 ·by_cases hroom:n+m<=cap
  ·have hfit:n*i.size+news.length<=cur.size:=by rw [hl,hcs, <-Nat.add_mul];exact Nat.mul_le_mul_right _ hroom
   have hr2:=run_append_room (P:=P) w t ty e i ht hi g n cap cur hg a m c news hl hnews h1 hroom hfit;rw [hr2] at hr;cases hr;intro g' hg';have e1:g=g':=by simpa [Value.ownBlock] using hg'
   subst e1;obtain ⟨c',e',q1,q2⟩:=hpv g rfl;rw [hg] at q1;cases q1;refine ⟨_,_,setRow_heap w g cur _ e _ hg, λx hx=>?_⟩;simp only [aB,List.mem_append] at hx;rcases hx with (hx|hx)|hx
   ·exact q2 x (by have :=bF hx;simpa using this)
   ·exact hpx x hx
   ·exact q2 x (by have :=List.mem_of_mem_drop hx;simpa using this)
  ·have holds:∀j u,xs[j]?=some u->w.cell? ((⟨g,0,none⟩:Addr).add j)=some u:=hown.cells (g:=g) rfl
   have hr2:=run_append_grow (P:=P) w t ty e i z ht hi hz ⟨g,0,none⟩ n cap xs hown.1 holds a m c news hl hnews (by omega) (by omega) (growslice_fits (by omega) hbytes);rw [hr2] at hr;cases hr;refine hpv.keep λg' hg'=>?_
   have e1:g=g':=by simpa [Value.ownBlock] using hg'
   subst e1;exact Below.heap_alloc w.drew _ _ (aI.1 hg).1
theorem Ie {o:Oper} {a:Act} {K:Act->World->Prop} {Q:Exit->Act->World->Prop} (s x:Operand) (t:TypeId)
 (ho:o.op= .call { callee:=.builtin .append,args:= #[s,x],argTypes:= #[t,t] })
 (base:Nat) (e:TypeId) (i:TypeInfo) (z:Value) (size bytes:Nat) (ht:P.underlying t=some (.slice e)) (hi:P.info? e=some i) (hz:i.zero=some z)
 (hsize:i.size=size) (hby:i.bytes=bytes) (hzs:z.cells.size=size) (hsz:0<size)
 (v:Value) (n:Nat) (xs:List Value) (hs:a.eval s=v) (hown:w.ownsRow base e size v n xs)
 (ad:Addr) (m c:Nat) (news:List Value) (hx:a.eval x= .slice (some ad) m c) (hl:news.length=m*size) (hnews:∀j u,news[j]?=some u->w.cell? (ad.add j)=some u) (h1:∀u∈news,u.oneCell'=true)
 (hm:0<m) (h63:n+m<=maxLen) (hbytes:(n+m)*bytes<=140737488355328) (hbase:base<=w.heap.size) (H:Nat) (hH:w.heap.size=H) (hpv:eP w v) (hpx:∀u∈news,fA u=true) (hpz:∀u∈z.cells,fA u=true)
 (h:∀g cap w',w'.ownsRow base e size (.slice (some ⟨g,0,none⟩) (n+m) cap) (n+m) (xs++news)->w.grownBy w' v.ownBlock->(v.ownBlock=some g∨g=H)->g<w'.heap.size->eP w' (.slice (some ⟨g,0,none⟩) (n+m) cap)->eP w' v->K (a.put o.dst (.slice (some ⟨g,0,none⟩) (n+m) cap)) w'):
 Oper.wp P o a w K Q:=by
 obtain ⟨v',w',hr,h2,h3,_,h5⟩:=run_append_own_at (P:=P) w base t o.type e i z size bytes ht hi hz hsize hby hzs hsz v n xs hown ad m c news hl hnews h1 h63 hbytes hbase;have hp:=rZ (P:=P) (w:=w) base t o.type e i z size bytes ht hi hz hsize hby hzs hsz v n xs hown ad m c news hl hnews h1 h63 hbytes hbase hpv hpx hpz hr;have hq:=FP (P:=P) (w:=w) base t o.type e i z size bytes ht hi hz hsize hby hzs hsz v n xs hown ad m c news hl hnews h1 h63 hbytes hbase hpv hpx hpz hr;unfold Oper.wp execOp;simp only [ho,resolve,invoke,builtin,Sem.run_bind,Sem.run_pure,Result.andThen_ok,List.map_toArray,aC,List.map_nil,hs,hx,hr];rcases h2.2 with ⟨h0,_⟩|⟨g,cap,cur,rfl,hbg,hg,_⟩
 ·omega
 ·exact h g cap w' h2 h3 (by rcases h5 with h5|h5
                             ·exact .inl (h5.symm.trans rfl)
                             ·exact .inr (by have :=h5;simp [Value.ownBlock] at this;omega)) (aI.1 hg).1 hp hq
theorem vC {ops:Array Oper} {rest:List Oper} {o:Oper} {a:Act} {Q:Exit->Act->World->Prop} (hgd:o.guard=none) (s x:Operand) (t:TypeId)
 (ho:o.op= .call { callee:=.builtin .append,args:= #[s,x],argTypes:= #[t,t] })
 (base:Nat) (e:TypeId) (i:TypeInfo) (z:Value) (size bytes:Nat) (ht:P.underlying t=some (.slice e)) (hi:P.info? e=some i) (hz:i.zero=some z)
 (hsize:i.size=size) (hby:i.bytes=bytes) (hzs:z.cells.size=size) (hsz:0<size)
 (v:Value) (n:Nat) (xs:List Value) (hs:a.eval s=v) (hown:w.ownsRow base e size v n xs)
 (ad:Addr) (m c:Nat) (news:List Value) (hx:a.eval x= .slice (some ad) m c) (hl:news.length=m*size) (hnews:∀j u,news[j]?=some u->w.cell? (ad.add j)=some u) (h1:∀u∈news,u.oneCell'=true)
 (hm:0<m) (h63:n+m<=maxLen) (hbytes:(n+m)*bytes<=140737488355328) (hbase:base<=w.heap.size) (H:Nat) (hH:w.heap.size=H) (hpv:eP w v) (hpx:∀u∈news,fA u=true) (hpz:∀u∈z.cells,fA u=true)
 (h:∀g cap w',w'.ownsRow base e size (.slice (some ⟨g,0,none⟩) (n+m) cap) (n+m) (xs++news)->w.grownBy w' v.ownBlock->(v.ownBlock=some g∨g=H)->g<w'.heap.size->eP w' (.slice (some ⟨g,0,none⟩) (n+m) cap)->eP w' v->wpList P ops Q rest (a.put o.dst (.slice (some ⟨g,0,none⟩) (n+m) cap)) w'):wpList P ops Q (o::rest) a w:=
 wpList_plain hgd λ_ hK=>Ie s x t ho base e i z size bytes ht hi hz hsize hby hzs hsz v n xs hs hown ad m c news hx hl hnews h1 hm h63 hbytes hbase H hH hpv hpx hpz λg cap w' a1 a2 a3 a4 a5 a6=>hK _ _ (h g cap w' a1 a2 a3 a4 a5 a6)
end
end
end Par
namespace Par
open Go
section
variable [Sh]
theorem FQ {α:Type} {a:Array α} {i j:Nat} {x:α} (h:x∈a.extract i j):x∈a:=by
 obtain ⟨k,hk⟩:=Array.getElem?_of_mem h;rw [Array.getElem?_extract] at hk;split at hk
 ·exact bg hk
 ·cases hk
theorem kZ.size {F:Fit} {f:Nat->Nat} {a a':Array Value} (h:kZ F f a a'):a'.size=a.size:=by rw [h.1];simp
theorem kZ.get {F:Fit} {f:Nat->Nat} {a a':Array Value} (h:kZ F f a a') (i:Nat):(a[i]?=none∧a'[i]?=none)∨∃v,a[i]?=some v∧a'[i]?=some (rv f v)∧vs F v=true:=by
 rw [h.1,aG];cases hi:a[i]? with
 |none=>exact .inl ⟨rfl,rfl⟩
 |some v=>exact .inr ⟨v,rfl,rfl,h.2 v (bg hi)⟩
theorem kZ.cells {F:Fit} {f:Nat->Nat} {v v':Value} (h:VR F f v v'):kZ F f v.cells v'.cells:=⟨by rw [h.1,wB],VS.cells h.2⟩
theorem kZ.nil {F:Fit} {f:Nat->Nat}:kZ F f #[] #[]:=⟨by simp,by intro x hx;simp at hx⟩
theorem kZ.append {F:Fit} {f:Nat->Nat} {a a' b b':Array Value} (h:kZ F f a a') (k:kZ F f b b'):kZ F f (a++b) (a'++b'):=
 ⟨by rw [h.1,k.1,Array.map_append], λx hx=>(Array.mem_append.1 hx).elim (h.2 x) (k.2 x)⟩
theorem kZ.push {F:Fit} {f:Nat->Nat} {a a':Array Value} {b b':Value} (h:kZ F f a a') (k:VR F f b b'):kZ F f (a.push b) (a'.push b'):=
 ⟨by rw [h.1,k.1,Array.map_push], λx hx=>(Array.mem_push.1 hx).elim (h.2 x) (λe=>e ▸ k.2)⟩
theorem kZ.extract {F:Fit} {f:Nat->Nat} {a a':Array Value} (h:kZ F f a a') (i j:Nat):kZ F f (a.extract i j) (a'.extract i j):=
 ⟨by rw [h.1,Array.map_extract], λx hx=>h.2 x (FQ hx)⟩
theorem VR.int {F:Fit} {f:Nat->Nat} {k:IntKind} {n:Int}:VR F f (.int k n) (.int k n):=⟨by simp,by simp⟩
theorem VR.bool {F:Fit} {f:Nat->Nat} {b:Bool}:VR F f (.bool b) (.bool b):=⟨by simp,by simp⟩
theorem VR.str {F:Fit} {f:Nat->Nat} {b:ByteArray}:VR F f (.string b) (.string b):=⟨by simp,by simp⟩
theorem VR.goInt {F:Fit} {f:Nat->Nat} {n:Int}:VR F f (goInt n) (goInt n):=VR.int
theorem VR.agg {F:Fit} {f:Nat->Nat} {a a':Array Value} (h:kZ F f a a'):VR F f (.agg a) (.agg a'):=⟨by rw [h.1];simp,rV.2 h.2⟩
theorem VR.tuple {F:Fit} {f:Nat->Nat} {a a':Array Value} (h:kZ F f a a'):VR F f (.tuple a) (.tuple a'):=⟨by rw [h.1];simp,wC.2 h.2⟩
theorem VR.ptr {F:Fit} {f:Nat->Nat} {a a':Addr} (h:AR F f a a'):VR F f (.pointer (some a)) (.pointer (some a')):=⟨by rw [h.1];simp,by simpa using h.2⟩
theorem VR.iface {F:Fit} {f:Nat->Nat} {t:TypeId} {v v':Value} (h:VR F f v v'):VR F f (.iface t v) (.iface t v'):=⟨by rw [h.1];simp,by simpa using h.2⟩
section
variable {P:Program} {F:Fit} {f:Nat->Nat} {α β γ δ:Type}
theorem DK.push {w:World} {o:Obj} (h:∀ds,o≠ .deferred ds):DK w { w with heap:=w.heap.push o }:=by
 intro r ds hr;simp only [Array.getElem?_push] at hr;split at hr
 ·exact absurd (aU hr) (h ds)
 ·exact hr
theorem mP {m:Sem γ} {k:γ->Sem α} (hm:∀w es,(∃x w' es',Sem.runT P m w es=(.halt x w',es')∧Kz x∧DK w w')∨∃a w' es',Sem.runT P m w es=(.ok a w',es')∧DK w w') (hk:∀a w es,∃x w' es',Sem.runT P (k a) w es=(.halt x w',es')∧Kz x∧DK w w'):
 ∀w es,∃x w' es',Sem.runT P (m >>=k) w es=(.halt x w',es')∧Kz x∧DK w w':=by
 intro w es;have e:Sem.runT P (m >>=k) w es=_:=runT_bind m k w es;rcases hm w es with ⟨x,w',es',h1,h2⟩|⟨a,w',es',h1,hd⟩
 ·exact ⟨x,w',es',by rw [e,h1],h2⟩
 ·obtain ⟨x,w2,es2,h3,h4,h5⟩:=hk a w' es';exact ⟨x,w2,es2,by rw [e,h1];exact h3,h4,hd.trans h5⟩
theorem tX (e:RuntimeError):∀w es,∃x w' es',Sem.runT P (runtimePanic e:Sem α) w es=(.halt x w',es')∧Kz x∧DK w w':=by
 have gp:∀(v:Value) (w:World) (es:Array Event),∃x w' es',Sem.runT P (goPanic v:Sem α) w es=(.halt x w',es')∧Kz x∧DK w w':= λv w es=>⟨_,_,_,rfl,trivial,DK.refl⟩
 have st:∀{γ:Type} (s:String) (w:World) (es:Array Event),(∃x w' es',Sem.runT P (stuck s:Sem γ) w es=(.halt x w',es')∧Kz x∧DK w w')∨∃a w' es',Sem.runT P (stuck s:Sem γ) w es=(.ok a w',es')∧DK w w':= λs w es=>.inl ⟨_,_,_,rfl,zw s,DK.refl⟩
 have el:∀(t:TypeId) (w:World) (es:Array Event),(∃x w' es',Sem.runT P (elemOf t) w es=(.halt x w',es')∧Kz x∧DK w w')∨∃a w' es',Sem.runT P (elemOf t) w es=(.ok a w',es')∧DK w w':=by
  intro t w es;unfold elemOf underlying;simp only [Go.program,Bind.bind,Sem.bind,Sem.runT];cases P.underlying t with
  |none=>exact st _ _ _
  |some d=>cases d<;>first |exact st _ _ _|exact .inr ⟨_,_,_,rfl,DK.refl⟩
 have nv:∀(t:TypeId) (v:Value) (w:World) (es:Array Event),(∃x w' es',Sem.runT P (newVar t v) w es=(.halt x w',es')∧Kz x∧DK w w')∨∃a w' es',Sem.runT P (newVar t v) w es=(.ok a w',es')∧DK w w':= λt v w es=>.inr ⟨_,_,_,rfl,DK.push (by intro ds h;cases h)⟩
 intro w es;unfold runtimePanic;simp only [Go.program,Bind.bind,Sem.bind,Sem.runT];cases e with
 |typeAssertion i c a m=>exact mP (el _) (λt=>mP (nv t _) λr=>gp _) w es
 |panicNil=>exact mP (el _) (λt=>mP (nv t _) λr=>gp _) w es
 |_=>exact gp _ w es
theorem fF {R:α->β->Prop} (e:RuntimeError) (m':Sem β):dN P F f R (runtimePanic e) m':=.oP (tX e)
theorem mQ {R:α->β->Prop} (k:IntKind) (x y:Int) (c:BoundsCode) (m':Sem β):dN P F f R (boundsPanic k x y c) m':=by
 unfold boundsPanic;refine .oP ?_
 split
 ·refine mP (m:=Functor.map (· ==1) (choose (.extern "runtime.boundsError.signed" 2))) (λw es=>.inr ?_) λs=>tX _
  show ∃a w' es',Sem.runT P ((choose (.extern "runtime.boundsError.signed" 2)).bind λa=>Pure.pure (a==1)) w es=_∧DK w w';rw [runT_bind];simp only [choose,Sem.runT,Question.forced];exact ⟨_,_,_,rfl,DK.refl⟩
 ·exact mP (m:=Pure.pure (k != .u64)) (λw es=>.inr ⟨_,_,_,rfl,DK.refl⟩) λs=>tX _
theorem xN {v v':Value} (h:VR F f v v'):dN P F f Eq (asIntOf v) (asIntOf v'):=by
 obtain ⟨rfl,_⟩:=h;cases v with
 |int k n=>rw [jE];exact .ret rfl
 |pointer a=>cases a<;>first |exact yQ (by simp) _|exact gU _ _
 |_=>exact gU _ _
theorem wO {v v':Value} (h:VR F f v v'):dN P F f Eq (asInt v) (asInt v'):=by
 unfold asInt;exact (xN h).dY λ_=>.ret rfl
theorem Di {v v':Value} (h:VR F f v v'):dN P F f Eq (asBool v) (asBool v'):=by
 obtain ⟨rfl,_⟩:=h;cases v with
 |bool b=>rw [mZ];exact .ret rfl
 |_=>exact gU _ _
theorem Tz {v v':Value} (h:VR F f v v'):dN P F f (kZ F f) (asAgg v) (asAgg v'):=by
 obtain ⟨rfl,hs⟩:=h;cases v with
 |agg b=>rw [uw];exact .ret ⟨rfl,rV.1 hs⟩
 |_=>exact gU _ _
theorem sU {v v':Value} (h:VR F f v v'):dN P F f (AR F f) (Instr.sureAddr v) (Instr.sureAddr v'):=by
 obtain ⟨rfl,hs⟩:=h;cases v with
 |pointer a=>cases a with
  |none=>exact gU _ _
  |some a=>rw [eX];exact .ret ⟨rfl,by simpa using hs⟩
 |_=>exact gU _ _
theorem IM {v v':Value} (hv:VR F f v v'):dN P F f (AR F f) (asAddr v) (asAddr v'):=by
 obtain ⟨rfl,hs⟩:=hv;cases v with
 |pointer a=>cases a with
  |none=>rw [eX];exact fF (α:=Addr) .nilDeref _
  |some a=>rw [eX];exact .ret ⟨rfl,by simpa using hs⟩
 |_=>exact gU _ _
theorem BZ (t:TypeId) {cs cs':Array Value} (h:kZ F f cs cs') (off:Nat):dN P F f (VR F f) (part t cs off) (part t cs' off):=by
 unfold part;refine (KG t).dY λb=>?_
 cases b
 ·simp only [if_false,bD];rcases h.get off with ⟨h1,h2⟩|⟨v,h1,h2,h3⟩
  ·rw [h1];exact gU _ _
  ·rw [h1,h2];exact .ret ⟨rfl,h3⟩
 ·simp only [if_true];exact (jq t).dY λn=>.ret (VR.agg (h.extract _ _))
theorem TA (h:jD P=true) (t:TypeId):dN P F f (VR F f) (Instr.alloc t true (.tuple #[])) (Instr.alloc t true (.tuple #[])):=by
 unfold Instr.alloc;refine (EZ h t).bind ?_
 rintro v _ ⟨rfl,hv⟩;refine dN.bind (Iu t hv) ?_
 rintro a _ ha;exact .ret (VR.ptr ha)
theorem ZR (t:TypeId) {v v':Value} (hv:VR F f v v'):dN P F f (VR F f) (Instr.box t v) (Instr.box t v'):=by
 obtain ⟨rfl,hs⟩:=hv;unfold Instr.box;refine dN.bind (Iu t hs) ?_
 rintro a _ ha;exact .ret (VR.ptr ha)
theorem Qq (t:TypeId) {v v':Value} (hv:VR F f v v'):dN P F f (VR F f) (Instr.loadAt t v) (Instr.loadAt t v'):=by
 unfold Instr.loadAt;refine (sU hv).bind ?_
 rintro a _ ⟨rfl,hA⟩;exact E5 t a hA
theorem Nq (t:TypeId) {v v' x x':Value} (hv:VR F f v v') (hx:VR F f x x'):dN P F f Eq (Instr.storeAt t v x) (Instr.storeAt t v' x'):=by
 obtain ⟨rfl,hs⟩:=hx;unfold Instr.storeAt;refine (sU hv).bind ?_
 rintro a _ ⟨rfl,hA⟩;exact KH t a hA hs
def JS (P:Program) (t:TypeId) (i:Nat):Bool:=
 match P.underlying t with
 |some (.struct fs)=>match fs[i]? with
  |some x=>match P.info? x.type with
   |some j=>j.size !=0
   |none=>false
  |none=>false
 |_=>false
theorem Nr {t:TypeId} {i:Nat} (ho:JS P t i=true) {v v':Value} (hv:VR F f v v'):dN P F f (VR F f) (Instr.fieldAt t v i) (Instr.fieldAt t v' i):=by
 unfold Instr.fieldAt underlying;refine dN.bind (R:= λa b=>a=b∧P.underlying t=some a) (.wF ?_) ?_
 ·cases hu:P.underlying t with
  |none=>exact gU _ _
  |some d=>exact .ret ⟨rfl,rfl⟩
 rintro d _ ⟨rfl,hu⟩;unfold JS at ho;rw [hu] at ho;cases d with
 |struct fs=>
  dsimp only at ho ⊢;cases hf:fs[i]? with
  |none=>exact gU _ _
  |some x=>
   rw [hf] at ho;dsimp only at ho ⊢;refine (sU hv).bind ?_
   rintro a _ ⟨rfl,hA⟩;unfold fieldPlace Go.sizeOf typeInfo;refine dN.bind (R:=AR F f) (dN.bind (R:= λm n=>m=n∧m≠0) (dN.bind (R:= λa b=>a=b∧P.info? x.type=some a) (.wF ?_) ?_) ?_) ?_
   ·cases hu:P.info? x.type with
    |none=>exact gU _ _
    |some d=>exact .ret ⟨rfl,rfl⟩
   ·rintro j _ ⟨rfl,hj⟩;rw [hj] at ho;exact .ret ⟨rfl,by simpa using ho⟩
   ·rintro m _ ⟨rfl,hm⟩;rw [aa hm,aa hm];exact .ret ⟨(CQ ..).symm,by rw [add_block'];exact hA⟩
   ·rintro b _ hb;exact .ret (VR.ptr hb)
 |_=>exact gU _ _
theorem TB (t:TypeId) {v v':Value} (hv:VR F f v v') (i:Nat):dN P F f (VR F f) (Instr.field t v i) (Instr.field t v' i):=by
 unfold Instr.field;refine (eB t).dY λd=>?_
 cases d with
 |struct fs=>
  dsimp only;split
  ·exact (Tz hv).bind λa b h=>BZ _ h _
  ·exact gU _ _
 |_=>exact gU _ _
theorem TC (t:TypeId) {v v' x x':Value} (hv:VR F f v v') (hx:VR F f x x'):dN P F f (VR F f) (Instr.index t v x) (Instr.index t v' x'):=by
 unfold Instr.index;refine (xN hx).dY λki=>?_
 obtain ⟨k,i⟩:=ki;refine (eB t).dY λd=>?_
 obtain ⟨rfl,hs⟩:=hv
 cases d<;>cases v<;>first
  |exact gU _ _
  |(simp only [uw];split
    ·exact (jq _).dY λn=>BZ _ ⟨rfl,rV.1 hs⟩ _
    ·exact mQ ..)
  |(simp only [gM];split
    ·exact .ret VR.int
    ·exact mQ ..)
theorem Ns (t:TypeId) {v v' x x':Value} (hv:VR F f v v') (hx:VR F f x x'):dN P F f (VR F f) (Instr.indexAt t v x) (Instr.indexAt t v' x'):=by
 unfold Instr.indexAt;refine (xN hx).dY λki=>?_
 obtain ⟨k,i⟩:=ki;refine (eB t).dY λd=>?_
 dsimp only
 have ak7:∀{J J':Option Addr×Nat×TypeId->Sem Value} (b:Option Addr) (len:Nat) (e:TypeId),dN P F f (VR F f) (J (b,len,e)) (J' (b.map (ra f),len,e))->
  dN P F f (VR F f) (Pure.pure (b,len,e) >>=J) (Pure.pure (b.map (ra f),len,e) >>=J'):= λb len e h=>h
 have fin:∀(tiny:Bool) (len:Nat),dN P F f (VR F f) (if tiny=true then unsupported (.noEntry "op/indexAddr.an index out of range at an array of length 0 or 1 (ledger 616)") else boundsPanic k i len .index)
  (if tiny=true then unsupported (.noEntry "op/indexAddr.an index out of range at an array of length 0 or 1 (ledger 616)") else boundsPanic k i len .index):=by
  intro tiny len;cases tiny
  ·exact mQ ..
  ·exact .bad trivial
 cases d with
 |array len e=>
  refine (sU hv).bind ?_
  rintro a _ ⟨rfl,hA⟩;refine ak7 (some a) len e ?_
  refine (eB t).dY λd2=>?_
  simp only [ay]
  by_cases hb:0<=i∧i<len
  ·rw [aj hb,aj hb];exact (jq e).dY λn=>.ret (VR.ptr ⟨(CQ ..).symm,by rw [add_block'];first |exact hA|simpa using hs⟩)
  ·rw [aa hb,aa hb];exact fin _ _
 |slice e=>
  obtain ⟨rfl,hs⟩:=hv;cases v with
  |slice b len cap=>
   rw [fT];refine ak7 b len e ?_
   refine (eB t).dY λd2=>?_
   cases b with
   |none=>exact mQ ..
   |some a=>
    simp only [ay]
    by_cases hb:0<=i∧i<len
    ·rw [aj hb,aj hb];have hA:F.A a.block=true:=(sM (by simpa using hs)).resolve_right λh=>by omega
     exact (jq e).dY λn=>.ret (VR.ptr ⟨(CQ ..).symm,by rw [add_block'];exact hA⟩)
    ·rw [aa hb,aa hb];exact fin _ _
  |_=>exact .bad (zw _)
 |_=>exact .bad (zw _)
end
end
section
variable [Sh]
def RX (F:Fit) (f:Nat->Nat) (o o':Option Value):Prop:=(o=none∧o'=none)∨∃v,o=some v∧o'=some (rv f v)∧vs F v=true
section
variable {P:Program} {F:Fit} {f:Nat->Nat} {α β γ δ:Type}
theorem lQ {v:Value} (hv:vs F v=true) (y:Nat) (c:BoundsCode):dN P F f (λa b=>a=b∧a<=y) (Instr.sliceBound v y c) (Instr.sliceBound (rv f v) y c):=by
 unfold Instr.sliceBound;refine (xN ⟨rfl,hv⟩).dY λki=>?_
 obtain ⟨k,i⟩:=ki;dsimp only
 by_cases hb:0<=i∧i<=y
 ·rw [aj hb];exact .ret ⟨rfl,by omega⟩
 ·rw [aa hb];exact mQ ..
def BdR (len cap:Nat) (a b:Nat×Nat×Nat):Prop:=a=b∧(len=0->cap=0->a.2.1=0∧a.2.2=0)
theorem pq (YQ:Bool) (len cap:Nat) {lo hi mx lo' hi' mx':Option Value} (h1:RX F f lo lo') (h2:RX F f hi hi') (h3:RX F f mx mx'):
 dN P F f (BdR len cap) (Instr.sliceBounds YQ len cap lo hi mx) (Instr.sliceBounds YQ len cap lo' hi' mx'):=by
 unfold Instr.sliceBounds;have k0:∀n:Nat,dN P F f (λa b:Nat=>a=b∧a=n) (pure n) (pure n):= λn=>.pure ⟨rfl,rfl⟩
 rcases h3 with ⟨rfl,rfl⟩|⟨m,rfl,rfl,hm⟩
 ·refine dN.bind (k0 cap) ?_
  rintro m _ ⟨rfl,rfl⟩;rcases h2 with ⟨rfl,rfl⟩|⟨v,rfl,rfl,hv⟩
  ·refine dN.bind (k0 len) ?_
   rintro hh _ ⟨rfl,rfl⟩;rcases h1 with ⟨rfl,rfl⟩|⟨v,rfl,rfl,hv⟩
   ·exact dN.dY (.ret rfl) λl=>.ret ⟨rfl, λa b=>⟨a,b⟩⟩
   ·exact dN.bind (lQ hv ..) (by rintro l _ ⟨rfl,_⟩;exact .ret ⟨rfl, λa b=>⟨a,b⟩⟩)
  ·refine dN.bind (lQ hv ..) ?_
   rintro hh _ ⟨rfl,hle⟩;rcases h1 with ⟨rfl,rfl⟩|⟨v,rfl,rfl,hv⟩
   ·exact dN.dY (.ret rfl) λl=>.ret ⟨rfl, λa b=>⟨by dsimp only;omega,b⟩⟩
   ·exact dN.bind (lQ hv ..) (by rintro l _ ⟨rfl,_⟩;exact .ret ⟨rfl, λa b=>⟨by dsimp only;omega,b⟩⟩)
 ·refine dN.bind (lQ hm ..) ?_
  rintro m1 _ ⟨rfl,hle⟩;rcases h2 with ⟨rfl,rfl⟩|⟨v,rfl,rfl,hv⟩
  ·exact .bad trivial
  ·refine dN.bind (lQ hv ..) ?_
   rintro hh _ ⟨rfl,hle2⟩;rcases h1 with ⟨rfl,rfl⟩|⟨v,rfl,rfl,hv⟩
   ·exact dN.dY (.ret rfl) λl=>.ret ⟨rfl, λa b=>⟨by dsimp only;omega,by dsimp only;omega⟩⟩
   ·exact dN.bind (lQ hv ..) (by rintro l _ ⟨rfl,_⟩;exact .ret ⟨rfl, λa b=>⟨by dsimp only;omega,by dsimp only;omega⟩⟩)
theorem Qr {a:Option Addr} {l0 c0:Nat} (hA:MJ F a l0 c0=true) (m l n k sz:Nat) (h0:l0=0->c0=0->n=0∧k=0):VR F f (.slice (if m=l then a else a.map (·.add (l*sz))) n k) (.slice (if m=l then a.map (ra f) else (a.map (ra f)).map (·.add (l*sz))) n k):=by
 refine ⟨?_,?_⟩
 ·rw [fT];split
  ·rfl
  ·cases a<;>simp
 ·rw [jo];cases a with
  |none=>split<;>rfl
  |some a=>
   have e:∀x:Addr,x.block=a.block->MJ F (some x) n k=true:= λx hx=>by
    rcases sM hA with h|⟨h,h1,h2⟩
    ·exact vP (by rw [yJ,hx];exact h)
    ·obtain ⟨rfl,rfl⟩:=h0 h1 h2;unfold MJ;simp [hx,h]
   split
   ·exact e _ rfl
   ·rw [ay];exact e _ (add_block' ..)
theorem z8 {a:Addr} (hA:F.A a.block=true) (m l n k sz:Nat):VR F f (.slice (some (if m=l then a else a.add (l*sz))) n k) (.slice (some (if m=l then ra f a else (ra f a).add (l*sz))) n k):=by
 refine ⟨?_,?_⟩
 ·rw [fT];split<;>simp
 ·rw [jo];refine vP ?_
  rw [yJ];split
  ·exact hA
  ·rw [add_block'];exact hA
theorem TD (t:TypeId) {v v':Value} (hv:VR F f v v') {lo hi mx lo' hi' mx':Option Value} (h1:RX F f lo lo') (h2:RX F f hi hi') (h3:RX F f mx mx'):
 dN P F f (VR F f) (Instr.slice t v lo hi mx) (Instr.slice t v' lo' hi' mx'):=by
 unfold Instr.slice;have hn:RX F f none none:=.inl ⟨rfl,rfl⟩;refine (eB t).dY λd=>?_
 obtain ⟨rfl,hs⟩:=hv;cases d with
 |string=>
  cases v with
  |string s=>
   rw [gM];dsimp only;have :mx'.isSome=mx.isSome:=by rcases h3 with ⟨rfl,rfl⟩|⟨m,rfl,rfl,hm⟩<;>rfl
   rw [this];cases mx.isSome
   ·simp only [bD,if_false];exact (pq _ _ _ h1 h2 hn).bind (by rintro r _ ⟨rfl,_⟩;exact .ret VR.str)
   ·exact .bad trivial
  |_=>exact .bad trivial
 |slice e=>
  cases v with
  |slice a len cap=>
   rw [fT];refine (pq _ _ _ h1 h2 h3).bind ?_
   rintro ⟨l,hh,m⟩ _ ⟨rfl,hz⟩;dsimp only at hz;exact (jq e).dY λn=>.ret (Qr (l0:=len) (c0:=cap) (by simpa using hs) _ _ _ _ _ λa b=>by obtain ⟨x,y⟩:=hz a b;omega)
  |_=>exact .bad trivial
 |pointer arr=>
  have e:(match TypeDesc.pointer arr,v with | .string,.string s=>True|_,_=>True):=by cases v<;>trivial
  refine dN.bind (R:=AR F f) (?_:dN P F f (AR F f) (asAddr v) (asAddr (rv f v))) ?_
  ·exact IM ⟨rfl,hs⟩
  ·rintro a _ ⟨rfl,hA⟩;refine (eB arr).dY λd2=>?_
   cases d2 with
   |array n e=>
    refine (pq _ _ _ h1 h2 h3).bind ?_
    rintro ⟨l,hh,m⟩ _ ⟨rfl,_⟩;exact (jq e).dY λn=>.ret (z8 hA ..)
   |_=>exact .bad trivial
 |_=>exact .bad trivial
theorem Nt (t:TypeId) {v v':Value} (hv:VR F f v v') {lo hi mx lo' hi' mx':Option Value} (h1:RX F f lo lo') (h2:RX F f hi hi') (h3:RX F f mx mx'):
 dN P F f (VR F f) (Instr.sliceAt t v lo hi mx) (Instr.sliceAt t v' lo' hi' mx'):=by
 unfold Instr.sliceAt;refine (eB t).dY λd=>?_
 cases d with
 |array n e=>
  refine (sU hv).bind ?_
  rintro a _ ⟨rfl,hA⟩;refine (pq _ _ _ h1 h2 h3).bind ?_
  rintro ⟨l,hh,m⟩ _ ⟨rfl,_⟩;exact (jq e).dY λn=>.ret (z8 hA ..)
 |_=>exact TD t hv h1 h2 h3
theorem kZ.gK {z:Value} (hz:rv f z=z∧vs F z=true) (n:Nat):kZ F f ((Array.range n).map (z.cells[· %z.cells.size]!)) ((Array.range n).map (z.cells[· %z.cells.size]!)):=by
 have hc:z.cells.map (rv f)=z.cells:=by rw [<-wB,hz.1]
 have key:∀i,rv f (z.cells[i%z.cells.size]!)=z.cells[i%z.cells.size]! ∧vs F (z.cells[i%z.cells.size]!)=true:=by
  intro i
  by_cases hlt:i%z.cells.size<z.cells.size
  ·rw [getElem!_pos z.cells _ hlt];refine ⟨?_,VS.cells hz.2 _ (Array.getElem_mem hlt)⟩;have :=congrArg (λa=>a[i%z.cells.size]?) hc;simpa [hlt] using this
  ·rw [getElem!_neg z.cells _ hlt];exact ⟨MM f,MP⟩
 refine ⟨?_, λx hx=>?_⟩
 ·rw [Array.map_map];exact Array.map_congr_left λi _=>(key i).1.symm
 ·obtain ⟨i,_,rfl⟩:=Array.mem_map.1 hx;exact (key i).2
theorem pz {R:γ->δ->Prop} (e:RuntimeError) {k:α->Sem γ} {k':β->Sem δ}:dN P F f R (runtimePanic e >>=k) (runtimePanic e >>=k'):=
 dN.bind (R:= λ_ _=>False) (fF e _) λ_ _ x=>x.elim
theorem FR (n:Nat):dN P F f Eq (askRoom n) (askRoom n):=by
 unfold askRoom;split
 ·exact Qb
 ·exact .ret rfl
theorem JU (hz0:jD P=true) (t:TypeId) {l l' c c':Value} (hl:VR F f l l') (hc:VR F f c c'):dN P F f (VR F f) (Instr.makeSlice t l c) (Instr.makeSlice t l' c'):=by
 unfold Instr.makeSlice;refine (eB t).dY λd=>?_
 cases d with
 |slice e=>
  refine (wO hl).dY λlen=>?_
  refine (wO hc).dY λcap=>?_
  refine (kF e).dY λi=>?_
  dsimp only;split
  ·split
   ·exact pz _
   ·split
    ·exact pz _
    ·refine dN.dY (oq _) λn=>?_
     exact pz _
  ·refine (FR _).dY λ_=>?_
   refine (jq e).dY λsz=>?_
   split
   ·rename_i hn;rw [hn];refine dN.dY (.ret rfl) λz=>?_
    refine dN.bind (R:=AR F f) (by have :=wH (P:=P) (F:=F) (f:=f) e (c:= #[]) (by intro x hx;simp at hx);rw [show Array.range 0= #[] from rfl,Array.map_empty];simpa only [Array.map_empty] using this) ?_
    rintro a _ ha;exact .ret ⟨by rw [ha.1];simp,by rw [jo];exact vP (by simpa using ha.2)⟩
   ·refine (ni hz0 e).bind ?_
    rintro _ z ⟨rfl,hz⟩;refine dN.bind (R:= λa b=>b=a∧a=z.cells) (.ret ⟨rfl,rfl⟩) ?_
    rintro _ _ ⟨rfl,rfl⟩;have hz':=kZ.gK (F:=F) (f:=f) hz ((IntKind.i64.wrap cap).toNat*sz);refine dN.bind (R:=AR F f) (by have :=wH (P:=P) (F:=F) (f:=f) e hz'.2;rw [<-hz'.1] at this;exact this) ?_
    rintro a _ ha;exact .ret ⟨by rw [ha.1];simp,by rw [jo];exact vP (by simpa using ha.2)⟩
 |_=>exact .bad trivial
theorem EG {place:Nat->Option (Nat×Nat)}:∀(l l':List (Nat×Value)) {c c':Array Value},kZ F f c c'->l'=l.map (λx=>(x.1,rv f x.2))->(∀x∈l,vs F x.2=true)->
 (Instr.fill place c l=none∧Instr.fill place c' l'=none)∨∃a b,Instr.fill place c l=some a∧Instr.fill place c' l'=some b∧kZ F f a b
 | [],_,c,c',hc,e,_=>by subst e;exact .inr ⟨c,c',rfl,rfl,hc⟩
 |(i,v)::l,_,c,c',hc,e,hs=>by
  subst e;simp only [aC,Instr.fill];cases hp:place i with
  |none=>exact .inl ⟨rfl,rfl⟩
  |some os=>
   obtain ⟨off,size⟩:=os;dsimp only;rw [wB,Array.size_map,hc.size];split
   ·exact .inl ⟨rfl,rfl⟩
   ·refine EG l _ ?_ rfl λx hx=>hs x (aR _ hx)
    have hv:=VS.cells (hs (i,v) (aQ ..))
    have key:∀(xs:List (Value×Nat)) (a b:Array Value),kZ F f a b->(∀x∈xs,vs F x.1=true)->
     kZ F f (xs.foldl (λcs (x:Value×Nat)=>cs.setIfInBounds (off+x.2) x.1) a) ((xs.map λx=>(rv f x.1,x.2)).foldl (λcs (x:Value×Nat)=>cs.setIfInBounds (off+x.2) x.1) b):=by
     intro xs
     induction xs with
     |nil=>intro a b h _;exact h
     |cons x xs ih=>
      intro a b h hx;simp only [aC,List.foldl_cons];refine ih _ _ ⟨by rw [h.1,Array.map_setIfInBounds], λy hy=>?_⟩ λy hy=>hx y (aR _ hy)
      rcases bH hy with hy|rfl
      ·exact h.2 y hy
      ·exact hx x (aQ ..)
    have e1:∀(c:Array Value) (a:Array Value),c.zipIdx.foldl (λcs (x:Value×Nat)=>cs.setIfInBounds (off+x.2) x.1) a=c.toList.zipIdx.foldl (λcs (x:Value×Nat)=>cs.setIfInBounds (off+x.2) x.1) a:=by
     intro c a;rw [<-Array.foldl_toList,Array.toList_zipIdx]
    have :=key v.cells.toList.zipIdx c c' hc (λx hx=>hv x.1 (by
     have :=List.mem_zipIdx hx;obtain ⟨_,_,h3⟩:=this;rw [h3];simp))
    rw [show (v.cells.toList.zipIdx.map λx=>(rv f x.1,x.2))=((v.cells.map (rv f)).toList.zipIdx) from by
     rw [Array.toList_map,List.zipIdx_map];rfl] at this
    rw [<-e1, <-e1] at this;exact this
theorem TE (hz0:jD P=true) (t:TypeId) {ps ps':Array (Nat×Value)} (e:ps'=ps.map λx=>(x.1,rv f x.2)) (hs:∀x∈ps,vs F x.2=true):
 dN P F f (VR F f) (Instr.build t ps) (Instr.build t ps'):=by
 unfold Instr.build;refine (ni hz0 t).bind ?_
 rintro _ z ⟨rfl,hz⟩;refine (eB t).dY λd=>?_
 have hc:kZ F f z.cells z.cells:=⟨by rw [<-wB,hz.1],VS.cells hz.2⟩;have he:ps'.toList=ps.toList.map λx=>(x.1,rv f x.2):=by rw [e];simp
 cases d with
 |struct fs=>
  dsimp only;refine dN.dY ?_ λplaces=>?_
  ·have :∀l:List Field,dN P F f Eq (l.mapM λx=>(do pure (x.offset, <-Go.sizeOf x.type):Sem (Nat×Nat))) (l.mapM λx=>(do pure (x.offset, <-Go.sizeOf x.type):Sem (Nat×Nat))):=by
    intro l
    induction l with
    |nil=>rw [List.mapM_nil];exact .ret rfl
    |cons x l ih=>
     rw [List.mapM_cons];refine dN.dY ((jq _).dY λ_=>.ret rfl) λa=>?_
     exact ih.dY λb=>.ret rfl
   rw [Array.mapM_eq_mapM_toList];exact (this fs.toList).Sa λa b e=>by subst e;exact .ret rfl
  ·rcases EG (place:=(places[·]?)) ps.toList _ hc he (λx hx=>hs x (by simpa using hx)) with ⟨h1,h2⟩|⟨a,b,h1,h2,h3⟩
   ·rw [h1,h2];exact .bad trivial
   ·rw [h1,h2];exact .ret (VR.agg h3)
 |array n e=>
  dsimp only;refine (jq e).dY λsz=>?_
  rcases EG (place:= λi=>some (i*sz,sz)) ps.toList _ hc he (λx hx=>hs x (by simpa using hx)) with ⟨h1,h2⟩|⟨a,b,h1,h2,h3⟩
  ·rw [h1,h2];exact .bad trivial
  ·rw [h1,h2];exact .ret (VR.agg h3)
 |_=>exact .bad trivial
theorem Ig (hz0:jD P=true) (t:TypeId) (len:Nat) {ps ps':Array (Nat×Value)} (e:ps'=ps.map λx=>(x.1,rv f x.2)) (hs:∀x∈ps,vs F x.2=true):
 dN P F f (VR F f) (Instr.buildSlice t len ps) (Instr.buildSlice t len ps'):=by
 unfold Instr.buildSlice;refine (eB t).dY λd=>?_
 have he:ps'.toList=ps.toList.map λx=>(x.1,rv f x.2):=by rw [e];simp
 cases d with
 |slice e=>
  dsimp only;refine (jq e).dY λsz=>?_
  split
  ·exact .bad trivial
  ·have fin:∀{c c':Array Value},kZ F f c c'->dN P F f (VR F f)
    (match Instr.fill (λi=>some (i*sz,sz)) c ps.toList with
      |some cells=>do pure (Value.slice (some (<-newRow e cells)) len len)
      |_=>stuck "buildSlice: a part of the wrong size")
    (match Instr.fill (λi=>some (i*sz,sz)) c' ps'.toList with
      |some cells=>do pure (Value.slice (some (<-newRow e cells)) len len)
      |_=>stuck "buildSlice: a part of the wrong size"):=by
    intro c c' hc;rcases EG (place:= λi=>some (i*sz,sz)) ps.toList _ hc he (λx hx=>hs x (by simpa using hx)) with ⟨h1,h2⟩|⟨a,b,h1,h2,h3⟩
    ·rw [h1,h2];exact .bad trivial
    ·rw [h1,h2];refine dN.bind (R:=AR F f) (by have :=wH (P:=P) (F:=F) (f:=f) e h3.2;rw [<-h3.1] at this;exact this) ?_
     rintro a _ ha;exact .ret ⟨by rw [ha.1];simp,by rw [jo];exact vP (by simpa using ha.2)⟩
   split
   ·rename_i hn;rw [hn];exact dN.dY (.ret rfl) λz=>fin (by rw [show Array.range 0= #[] from rfl,Array.map_empty];exact kZ.nil)
   ·refine (ni hz0 e).bind ?_
    rintro _ z ⟨rfl,hz⟩;refine dN.bind (R:= λa b=>b=a∧a=z.cells) (.ret ⟨rfl,rfl⟩) ?_
    rintro _ _ ⟨rfl,rfl⟩;exact fin (kZ.gK hz _)
 |_=>exact .bad trivial
end
end
section
variable [Sh]
section
variable {P:Program} {F:Fit} {f:Nat->Nat} {α β γ δ:Type}
def O6 (F:Fit) (v:Value) (n:Nat):Prop:=∀a l c,v= .slice (some a) l c->F.A a.block=true∨n=0
theorem Lf {v v':Value} (hv:VR F f v v'):dN P F f (λa b=>a=b∧O6 F v a) (Builtin.lenOf v) (Builtin.lenOf v'):=by
 obtain ⟨rfl,hs⟩:=hv;cases v with
 |slice a n c=>
  rw [fT];refine .ret ⟨rfl, λa' l' c' e=>?_⟩;cases e;exact (sM (by simpa using hs)).imp id λh=>h.2.1
 |string s=>rw [gM];exact .ret ⟨rfl, λa l c e=>by cases e⟩
 |_=>exact .bad trivial
theorem vW (sz n:Nat) {v v':Value} (hv:VR F f v v') (hn:O6 F v n):dN P F f (λc c'=>kZ F f c c'∧(n=0->c= #[])) (Builtin.firstCells sz n v) (Builtin.firstCells sz n v'):=by
 obtain ⟨rfl,hs⟩:=hv;cases v with
 |slice a _ _=>
  rw [fT];cases a with
  |none=>exact .ret ⟨kZ.nil, λ_=>rfl⟩
  |some a=>
   by_cases h0:n=0
   ·subst h0;show dN P F f _ (loadCells a (0*sz)) (loadCells (ra f a) (0*sz));rw [Nat.zero_mul];exact .ret ⟨kZ.nil, λ_=>rfl⟩
   ·exact (BH a ((hn _ _ _ rfl).resolve_right h0) _).mono λ_ _ h=>⟨h, λh=>absurd h h0⟩
 |string s=>
  rw [gM];refine .ret ⟨⟨?_, λx hx=>?_⟩, λh=>by subst h;simp⟩
  ·rw [Array.map_map];exact Array.map_congr_left λb _=>by simp
  ·obtain ⟨b,_,rfl⟩:=Array.mem_map.1 hx;simp
 |_=>exact .bad trivial
theorem JV (sz sLen n:Nat) (b:Option Addr) (x:Value) (w:World) (es:Array Event):∃r,Sem.runT P (Builtin.mayShare sz sLen n b x) w es=(.ok r w,es):=by
 have hh:∀(a:Addr) (n:Nat),∃r,Sem.runT P (Builtin.holdsCells a n) w es=(.ok r w,es):=by
  intro a n;unfold Builtin.holdsCells;simp only [Go.shape,Bind.bind,Sem.bind,Sem.runT];cases w.shape? a.block<;>exact ⟨_,rfl⟩
 have step:∀{γ δ:Type} {m:Sem γ} {k:γ->Sem δ},(∃r,Sem.runT P m w es=(.ok r w,es))->(∀r,∃q,Sem.runT P (k r) w es=(.ok q w,es))->∃q,Sem.runT P (m >>=k) w es=(.ok q w,es):=by
  rintro γ δ m k ⟨r,hr⟩ hk;obtain ⟨q,hq⟩:=hk r;exact ⟨q,by show Sem.runT P (m.bind k) w es=_;rw [runT_bind,hr];exact hq⟩
 unfold Builtin.mayShare
 have last:∃r,Sem.runT P (match x with
  | .slice (some b') _ _=>do pure (!(<-Builtin.holdsCells b' (n*sz))||b.any (·.block==b'.block))
  |_=>pure false:Sem Bool) w es=(.ok r w,es):=by
  cases x with
  |slice a _ _=>
   cases a with
   |none=>exact ⟨_,rfl⟩
   |some a=>exact step (hh a _) λr=>⟨_,rfl⟩
  |_=>exact ⟨_,rfl⟩
 cases b with
 |none=>
  refine step ⟨true,rfl⟩ λr=>?_
  cases r
  ·exact ⟨_,rfl⟩
  ·exact last
 |some a=>
  have h2:∀r:Bool,∃q,Sem.runT P (if (!r)=true then pure true else (match x with
   | .slice (some b') _ _=>do pure (!(<-Builtin.holdsCells b' (n*sz))||(some a).any (·.block==b'.block))
   |_=>pure false:Sem Bool)) w es=(.ok q w,es):=by
   intro r;cases r
   ·exact ⟨_,rfl⟩
   ·exact last
  exact step (hh a (sLen*sz)) λr=>step (k:= λz=>_) ⟨_,rfl⟩ λz=>step (m:=Pure.pure _) ⟨_,rfl⟩ h2
theorem kZ.zeroCells {z:Value} (hz:rv f z=z∧vs F z=true) (n:Nat):kZ F f (Builtin.zeroCells z.cells n) (Builtin.zeroCells z.cells n):=kZ.gK hz _
theorem IP (a:Addr) (hA:F.A a.block=true) {c c':Array Value} (h:kZ F f c c'):dN P F f Eq (storeCells a c.toList) (storeCells (ra f a) c'.toList):=by
 have :=sH (P:=P) (F:=F) (f:=f) a hA c.toList 0 λv hv=>h.2 v (by simpa using hv)
 rw [h.1,Array.toList_map];exact this
theorem FU (a:Addr):dN P F f Eq (storeCells a (#[]:Array Value).toList) (storeCells (ra f a) ((#[]:Array Value).map (rv f)).toList):=by
 rw [Array.map_empty];unfold storeCells;exact .pure rfl
theorem Qs (hz0:jD P=true) (ts:Array TypeId) (t:TypeId) {as as':Array Value} (ha:kZ F f as as'):dN P F f (VR F f) (Builtin.append_ ts t as) (Builtin.append_ ts t as'):=by
 unfold Builtin.append_;cases hts:ts[0]? with
 |none=>exact .bad trivial
 |some sType=>
 rcases ha.get 0 with ⟨h0,h0'⟩|⟨s,h0,h0',hs⟩
 ·rw [h0];exact .bad trivial
 rcases ha.get 1 with ⟨h1,h1'⟩|⟨x,h1,h1',hx⟩
 ·rw [h0,h1];exact .bad trivial
 rw [h0,h0',h1,h1'];have hxv:VR F f x (rv f x):=⟨rfl,hx⟩;have hsv:VR F f s (rv f s):=⟨rfl,hs⟩;refine (eB sType).dY λd=>?_
 cases d with
 |slice e=>
  cases s with
  |slice base sLen sCap=>
   rw [fT];refine (jq e).dY λsz=>?_
   extract_lets j1 j2 j2'
   have hj2:∀gK,dN P F f (VR F f) (j2 gK) (j2' gK):=by
    intro gK;dsimp -zeta only [j2,j2']
    extract_lets j3 j3'
    have app:∀n,(gK=false->O6 F x n)->dN P F f (λc c'=>kZ F f c c'∧(n=0->c= #[])) (if (!gK)=true then Builtin.firstCells sz n x else if n*sz=0 then pure #[] else do pure (Builtin.zeroCells (<-zeroValue e).cells n))
     (if (!gK)=true then Builtin.firstCells sz n (rv f x) else if n*sz=0 then pure #[] else do pure (Builtin.zeroCells (<-zeroValue e).cells n)):=by
     intro n hlo;cases gK
     ·exact vW sz n hxv (hlo rfl)
     ·simp only [Bool.not_true,bD,if_false];split
      ·exact .ret ⟨kZ.nil, λ_=>rfl⟩
      ·rename_i hne;refine (ni hz0 e).bind ?_
       rintro _ z ⟨rfl,hz⟩;exact .ret ⟨kZ.zeroCells hz n, λh=>absurd (by rw [h,Nat.zero_mul]) hne⟩
    have hj3:∀n,(gK=false->O6 F x n)->dN P F f (VR F f) (j3 n) (j3' n):=by
     intro n hlo;dsimp -zeta only [j3,j3']
     extract_lets ap need j6 j5 j4 ap' j6' j5' j4'
     have YR:dN P F f (λc c'=>kZ F f c c'∧(n=0->c= #[])) ap ap':=app n hlo;have happ:dN P F f (kZ F f) ap ap':=YR.mono λ_ _ h=>h.1
     by_cases hn:need<=sCap
     ·rw [aj hn,aj hn];refine YR.bind ?_
      rintro c c' ⟨hc,hc0⟩;dsimp only [j6,j6'];cases base with
      |none=>exact .ret ⟨by simp,by simp⟩
      |some a=>
       simp only [ay];rw [<-CQ];rcases sM (by simpa using hs) with hA|⟨hh,h1,h2⟩
       ·exact (IP _ (by rw [add_block'];exact hA) hc).dY λ_=>.ret ⟨by simp,by rw [jo];exact vP hA⟩
       ·have hn0:n=0:=by have hn:sLen+n<=sCap:=hn;omega
        have hc1:=hc.1;rw [hc0 hn0] at hc1 ⊢;subst hc1;have hl:need=0:=by show sLen+n=0;omega
        exact dN.dY (show dN P F f Eq (storeCells (a.add (sLen*sz)) (#[]:Array Value).toList) (storeCells (ra f (a.add (sLen*sz))) ((#[]:Array Value).map (rv f)).toList) from FU _) λ_=>.ret ⟨by simp,by rw [jo,hl,h2];unfold MJ;simp [hh]⟩
     ·rw [aa hn,aa hn];refine (kF e).dY λi=>?_
      have hj4:∀u,dN P F f (VR F f) (j4 u) (j4' u):=by
       intro u;dsimp -zeta only [j4,j4'];refine (kF e).dY λi=>?_
       have hj5:∀u,dN P F f (VR F f) (j5 u) (j5' u):=by
        intro u;dsimp only [j5,j5'];refine (oq _).dY λnewCap=>?_
        refine (kF e).dY λi=>?_
        refine (FR _).dY λ_=>?_
        refine dN.bind (R:= λc c'=>kZ F f c c'∧(sLen=0->c= #[])) (by have :=vW (P:=P) (F:=F) (f:=f) sz sLen hsv (λa l c e=>by cases e;exact (sM (by simpa using hs)).imp id λh=>h.2.1);rwa [fT] at this) ?_
        rintro o o' ⟨ho,_⟩;refine happ.bind ?_
        rintro c c' hc;refine (ni hz0 e).bind ?_
        rintro _ z ⟨rfl,hz⟩;have hall:=(ho.append hc).append (kZ.zeroCells (F:=F) (f:=f) hz (newCap - need));refine dN.bind (R:=AR F f) (by have :=wH (P:=P) (F:=F) (f:=f) e hall.2;rw [<-hall.1] at this;exact this) ?_
        rintro a _ ha;exact .ret ⟨by rw [ha.1];simp,by rw [jo];exact vP (by simpa using ha.2)⟩
       split
       ·refine dN.bind (R:= λ_ _=>False) ?_ λ_ _ x=>x.elim
        cases gK
        ·refine .oP λw es=>?_
         obtain ⟨r,hr⟩:=JV (P:=P) sz sLen n base x w es;simp only [bD,if_false];have :∀{γ δ:Type} (m:Sem γ) (k:γ->Sem δ),(m >>=k)=m.bind k:= λ_ _=>rfl
         rw [this,runT_bind,hr];cases r
         ·exact ⟨_,_,_,rfl,trivial,DK.refl⟩
         ·exact ⟨_,_,_,rfl,trivial,DK.refl⟩
        ·simp only [if_true];exact fF _ _
       ·exact hj5 ()
      split
      ·exact dN.bind (R:= λ_ _=>False) (fF _ _) λ_ _ x=>x.elim
      ·exact hj4 ()
    cases gK
    ·simp only [bD,if_false];refine (Lf hxv).bind ?_
     rintro n _ ⟨rfl,hlo⟩;exact hj3 n λ_=>hlo
    ·simp only [if_true];refine (wO hxv).dY λl=>?_
     split
     ·exact pz _
     ·refine (kF e).dY λi=>?_
      split
      ·exact (oq _).dY λm=>pz _
      ·exact hj3 _ λh=>by cases h
   cases ts[1]? with
   |none=>exact hj2 false
   |some xt=>exact (eB xt).dY λd=>hj2 _
  |_=>exact .bad trivial
 |_=>exact .bad trivial
theorem WU (ts:Array TypeId) (t:TypeId) {as as':Array Value} (ha:kZ F f as as'):dN P F f (VR F f) (Builtin.copy_ ts t as) (Builtin.copy_ ts t as'):=by
 unfold Builtin.copy_;cases hts:ts[0]? with
 |none=>exact .bad trivial
 |some sType=>
 rcases ha.get 0 with ⟨h0,h0'⟩|⟨s,h0,h0',hs⟩
 ·rw [h0];exact .bad trivial
 rcases ha.get 1 with ⟨h1,h1'⟩|⟨x,h1,h1',hx⟩
 ·rw [h0,h1];exact .bad trivial
 rw [h0,h0',h1,h1'];have hxv:VR F f x (rv f x):=⟨rfl,hx⟩;refine (eB sType).dY λd=>?_
 cases d with
 |slice e=>
  cases s with
  |slice base dLen dCap=>
   rw [fT];refine (Lf hxv).bind ?_
   rintro n _ ⟨rfl,hlo⟩;dsimp only;refine (jq e).dY λsz=>?_
   refine (vW sz _ hxv λa l c e=>(hlo a l c e).imp id λh=>by rw [h];exact Nat.zero_min _).bind ?_
   rintro c c' ⟨hc,hc0⟩;cases base with
   |none=>exact .ret VR.goInt
   |some a=>
    rcases sM (by simpa using hs) with hA|⟨_,h1,_⟩
    ·exact (IP a hA hc).dY λ_=>.ret VR.goInt
    ·have hc1:=hc.1;rw [hc0 (by rw [h1];exact Nat.min_zero _)] at hc1 ⊢;subst hc1;exact dN.dY (show dN P F f Eq (storeCells a (#[]:Array Value).toList) (storeCells (ra f a) ((#[]:Array Value).map (rv f)).toList) from FU _) λ_=>.ret VR.goInt
  |_=>exact .bad trivial
 |_=>exact .bad trivial
theorem ZT (ts:Array TypeId) (t:TypeId) {as as':Array Value} (ha:kZ F f as as'):dN P F f (VR F f) (Builtin.len_ ts t as) (Builtin.len_ ts t as'):=by
 unfold Builtin.len_;cases hts:ts[0]? with
 |none=>exact .bad trivial
 |some sType=>
 rcases ha.get 0 with ⟨h0,h0'⟩|⟨s,h0,h0',hs⟩
 ·rw [h0];exact .bad trivial
 rw [h0,h0'];refine (eB sType).dY λd=>?_
 cases d with
 |string=>cases s<;>first |exact .bad trivial|(rw [gM];exact .ret VR.goInt)
 |array n e=>exact .ret VR.goInt
 |pointer e=>
  refine (eB e).dY λd=>?_
  cases d<;>first |exact .bad trivial|exact .ret VR.goInt
 |slice e=>cases s<;>first |exact .bad trivial|(rw [fT];exact .ret VR.goInt)
 |map k e=>
  cases s with
  |map r=>
   rw [tF];cases r with
   |none=>exact .ret VR.goInt
   |some r=>
    refine (kV r (by simpa using hs)).bind ?_
    rintro o _ ⟨rfl,h1,h2⟩;cases o<;>first |exact .bad trivial|(exact .ret ⟨by simp [goInt],by simp [goInt]⟩)
  |_=>exact .bad trivial
 |chan k e=>
  cases s with
  |chan r=>
   rw [xx];cases r with
   |none=>exact .ret VR.goInt
   |some r=>
    simp at hs
  |_=>exact .bad trivial
 |_=>exact .bad trivial
theorem ZU (ts:Array TypeId) (t:TypeId) {as as':Array Value} (ha:kZ F f as as'):dN P F f (VR F f) (Builtin.cap_ ts t as) (Builtin.cap_ ts t as'):=by
 unfold Builtin.cap_;cases hts:ts[0]? with
 |none=>exact .bad trivial
 |some sType=>
 rcases ha.get 0 with ⟨h0,h0'⟩|⟨s,h0,h0',hs⟩
 ·rw [h0];exact .bad trivial
 rw [h0,h0'];refine (eB sType).dY λd=>?_
 cases d with
 |array n e=>exact .ret VR.goInt
 |pointer e=>
  refine (eB e).dY λd=>?_
  cases d<;>first |exact .bad trivial|exact .ret VR.goInt
 |slice e=>cases s<;>first |exact .bad trivial|(rw [fT];exact .ret VR.goInt)
 |chan k e=>
  cases s with
  |chan r=>
   rw [xx];cases r with
   |none=>exact .ret VR.goInt
   |some r=>
    simp at hs
  |_=>exact .bad trivial
 |_=>exact .bad trivial
theorem sV (op:BinOp) (x y:ByteArray):dN P F f (VR F f) (Op.stringOp op x y) (Op.stringOp op x y):=by
 unfold Op.stringOp;cases op<;>first |exact .bad trivial|exact .ret VR.bool|skip
 dsimp only;split
 ·exact .bad trivial
 ·exact .ret VR.str
theorem WV {v v' x x':Value} (hv:VR F f v v') (hx:VR F f x x'):dN P F f (VR F f) (Builtin.max2 v x) (Builtin.max2 v' x'):=by
 obtain ⟨rfl,hs⟩:=hv;obtain ⟨rfl,hs'⟩:=hx;cases v with
 |int k a=>
  cases x with
  |int k' b=>simp only [jE];exact .ret VR.int
  |pointer a=>cases a<;>exact .bad trivial
  |_=>exact .bad trivial
 |float k a=>simp at hs
 |string a=>
  cases x with
  |string b=>
   simp only [gM];exact (sV .geq a b).bind λc c' hc=>(Di hc).dY λt=>.ret VR.str
  |pointer a=>cases a<;>exact .bad trivial
  |_=>exact .bad trivial
 |pointer p=>
  cases p with
  |some p=>exact .bad trivial
  |none=>
   cases x with
   |pointer a=>cases a<;>exact .bad trivial
   |_=>exact .bad trivial
 |_=>
  cases x with
  |pointer a=>cases a<;>exact .bad trivial
  |_=>exact .bad trivial
theorem WW {v v' x x':Value} (hv:VR F f v v') (hx:VR F f x x'):dN P F f (VR F f) (Builtin.min2 v x) (Builtin.min2 v' x'):=by
 obtain ⟨rfl,hs⟩:=hv;obtain ⟨rfl,hs'⟩:=hx;cases v with
 |int k a=>
  cases x with
  |int k' b=>simp only [jE];exact .ret VR.int
  |pointer a=>cases a<;>exact .bad trivial
  |_=>exact .bad trivial
 |float k a=>simp at hs
 |string a=>
  cases x with
  |string b=>
   simp only [gM];exact (sV .leq a b).bind λc c' hc=>(Di hc).dY λt=>.ret VR.str
  |pointer a=>cases a<;>exact .bad trivial
  |_=>exact .bad trivial
 |pointer p=>
  cases p with
  |some p=>exact .bad trivial
  |none=>
   cases x with
   |pointer a=>cases a<;>exact .bad trivial
   |_=>exact .bad trivial
 |_=>
  cases x with
  |pointer a=>cases a<;>exact .bad trivial
  |_=>exact .bad trivial
theorem FV {g:Value->Value->Sem Value} (hg:∀{v v' x x':Value},VR F f v v'->VR F f x x'->dN P F f (VR F f) (g v x) (g v' x')):
 ∀(l:List Value) {v v':Value},VR F f v v'->(∀x∈l,vs F x=true)->dN P F f (VR F f) (l.foldlM g v) ((l.map (rv f)).foldlM g v')
 | [],_,_,hv,_=>by rw [List.map_nil,List.foldlM_nil,List.foldlM_nil];exact .ret hv
 |x::l,_,_,hv,hl=>by
  rw [aC,List.foldlM_cons,List.foldlM_cons];exact (hg hv ⟨rfl,hl x (aQ ..)⟩).bind λa b h=>FV hg l h λy hy=>hl y (aR _ hy)
theorem ZV (ts:Array TypeId) (t:TypeId) {as as':Array Value} (ha:kZ F f as as'):dN P F f (VR F f) (Builtin.max_ ts t as) (Builtin.max_ ts t as'):=by
 unfold Builtin.max_;rw [ha.1,Array.toList_map];have hs:∀x∈as.toList,vs F x=true:= λx hx=>ha.2 x (by simpa using hx)
 generalize as.toList=l at hs;cases l with
 |nil=>exact .bad trivial
 |cons x l=>exact FV WV l ⟨rfl,hs x (aQ ..)⟩ λy hy=>hs y (aR _ hy)
theorem ZX (ts:Array TypeId) (t:TypeId) {as as':Array Value} (ha:kZ F f as as'):dN P F f (VR F f) (Builtin.min_ ts t as) (Builtin.min_ ts t as'):=by
 unfold Builtin.min_;rw [ha.1,Array.toList_map];have hs:∀x∈as.toList,vs F x=true:= λx hx=>ha.2 x (by simpa using hx)
 generalize as.toList=l at hs;cases l with
 |nil=>exact .bad trivial
 |cons x l=>exact FV WW l ⟨rfl,hs x (aQ ..)⟩ λy hy=>hs y (aR _ hy)
theorem Ed (op:BinOp) (k:IntKind) (x y:Int):dN P F f (VR F f) (Op.intArith op k x y) (Op.intArith op k x y):=by
 unfold Op.intArith;cases op<;>first |exact .bad trivial|exact .ret VR.int
theorem Qt (op:BinOp) (k:IntKind) (x y:Int):dN P F f (VR F f) (Op.intDiv op k x y) (Op.intDiv op k x y):=by
 unfold Op.intDiv;split
 ·exact fF _ _
 ·cases op<;>first |exact .bad trivial|exact .ret VR.int
theorem FW (op:BinOp) (k:IntKind) (x y:Int):dN P F f (VR F f) (Op.intBits op k x y) (Op.intBits op k x y):=by
 unfold Op.intBits;cases op<;>first |exact .bad trivial|exact .ret VR.int
theorem Qu (op:BinOp) (x y:Int):dN P F f (VR F f) (Op.intCmp op x y) (Op.intCmp op x y):=by
 unfold Op.intCmp;cases op<;>first |exact .bad trivial|exact .ret VR.bool
theorem TF (op:BinOp) (k yk:IntKind) (x y:Int):dN P F f (VR F f) (Op.shift op k x yk y) (Op.shift op k x yk y):=by
 unfold Op.shift;split
 ·exact fF _ _
 ·cases op<;>first |exact .bad trivial|exact .ret VR.int
theorem TG (op:UnOp) {v v':Value} (hv:VR F f v v'):dN P F f (VR F f) (Op.unary op v) (Op.unary op v'):=by
 obtain ⟨rfl,hs⟩:=hv;cases v with
 |int k n=>rw [jE];cases op<;>simp only [Op.unary]<;>first |exact .bad trivial|exact Ed .. |exact FW ..
 |float k n=>simp at hs
 |complex k n m=>simp at hs
 |bool b=>rw [mZ];cases op<;>first |exact .bad trivial|exact .ret VR.bool
 |pointer a=>cases a<;>cases op<;>exact .bad trivial
 |_=>cases op<;>exact .bad trivial
end
end
section
variable [Sh]
section
variable {P:Program} {F:Fit} {f:Nat->Nat} {α β γ δ:Type}
theorem fD (t:TypeId):dN P F f (λa b=>a=b∧P.underlying t=some a) (underlying t) (underlying t):=by
 unfold underlying;refine .wF ?_
 cases hu:P.underlying t with
 |none=>exact gU _ _
 |some d=>exact .ret ⟨rfl,rfl⟩
def ShR (r:Nat) (s s':Option (TypeId×Nat)):Prop:=(s=s'∧(Sh.lk r=true->s=none))∨(Sh.lk r=true∧∃n x,s=some (Sh.bad,n)∧s'=some x)
theorem y9 (r:Nat) (hA:F.A r=true):dN P F f (ShR r) (Go.shape r) (Go.shape (f r)):=.shape hA (λ_ h=>.pure (.inl ⟨rfl,h⟩)) λh n s=>.pure (.inr ⟨h,n,s,rfl,rfl⟩)
theorem ShR.eq {r:Nat} {s s':Option (TypeId×Nat)} (h:ShR r s s') (hl:Sh.lk r=false):s'=s:=by
 rcases h with ⟨rfl,_⟩|⟨h,_⟩
 ·rfl
 ·rw [hl] at h;cases h
theorem IQ (r:Nat) (hA:F.A r=true):dN P F f (λa b=>a=none∧b=none) (viewAt r) (viewAt (f r)):=by
 unfold viewAt;refine (y9 r hA).bind ?_
 rintro s s' (⟨rfl,_⟩|⟨_,n,x,rfl,rfl⟩)
 rotate_left
 ·exact .ret ⟨rfl,rfl⟩
 split
 ·exact .ret ⟨rfl,rfl⟩
 ·refine (kV r hA).bind ?_
  rintro o _ ⟨rfl,h1,h2⟩;cases o<;>first |exact h1.elim|exact .ret ⟨rfl,rfl⟩
theorem Ee (r:Nat) (hA:F.A r=true):dN P F f (λa b=>(a=none∧b=none)∨(Sh.lk r=false∧∃x l,a=some (x,l)∧b=some (ra f x,l)∧F.A x.block=true)) (numberAt r) (numberAt (f r)):=by
 unfold numberAt;refine (y9 r hA).bind ?_
 rintro s s' (⟨rfl,_⟩|⟨_,n,x,rfl,rfl⟩)
 rotate_left
 ·exact .ret (.inl ⟨rfl,rfl⟩)
 split
 ·exact .ret (.inl ⟨rfl,rfl⟩)
 ·refine (MX r hA).bind ?_
  rintro o _ ⟨rfl,h1,h2,h3⟩;cases o<;>first |exact h1.elim|exact .ret (.inl ⟨rfl,rfl⟩)|exact .ret (.inr ⟨h3,_,_,rfl,rfl,h1⟩)
theorem su (a:Addr) (hA:F.A a.block=true):dN P F f (λx y=>AR F f x.1 y.1∧x.2=y.2∧(Sh.lk a.block=true->x.1=a)) (behindNumber a) (behindNumber (ra f a)):=by
 unfold behindNumber;refine (Ee a.block hA).bind ?_
 rintro x y (⟨rfl,rfl⟩|⟨hl,x,l,rfl,rfl,h⟩)
 ·exact .ret ⟨⟨rfl,hA⟩,rfl, λ_=>rfl⟩
 ·exact .ret ⟨⟨rfl,h⟩,rfl, λh=>by rw [hl] at h;cases h⟩
theorem lK (a:Addr) (hA:F.A a.block=true):dN P F f (λx y=>AR F f x.1 y.1∧x.2=y.2) (behindNumber a) (behindNumber (ra f a)):=(su a hA).mono λ_ _ h=>⟨h.1,h.2.1⟩
theorem Qv (a:Addr) (hA:F.A a.block=true):dN P F f Eq (noView a) (noView (ra f a)):=by
 unfold noView;refine (IQ a.block hA).bind ?_
 rintro x y ⟨rfl,rfl⟩;exact .ret rfl
theorem wP (a:Addr) (hA:F.A a.block=true) (hl:Sh.lk a.block=false):dN P F f Eq (byteOf a) (byteOf (ra f a)):=by
 unfold byteOf;simp only [OB];cases a.spot with
 |some s=>exact .ret rfl
 |none=>
  dsimp only;refine .wF ?_ (λQ hQ=>by simp only [hQ.cellsOf,hQ.byteOfCell,hQ.depth,hQ.bytesOf])
  refine (Qv a hA).dY λ_=>?_
  refine (y9 a.block hA).bind ?_
  intro s s' hs';obtain rfl:=(hs'.eq hl).symm;clear hs';cases s with
  |none=>exact .bad trivial
  |some s=>
   obtain ⟨e,n⟩:=s;simp only [Jv,Sh.Zo _ hl,aH];split
   ·exact .ret rfl
   ·split
    ·exact .ret rfl
    ·exact .bad trivial
theorem Rn.TH (h:Rn P f) (b:Nat) (hb:Sh.lk b=false):(f b ≥ P.globals.size↔b ≥ P.globals.size)∧(f b<P.globals.size↔b<P.globals.size):=by
 have key:b<P.globals.size->f b=b:= λx=>h.kU b (Nat.le_of_lt x)
 have ak8:f b<P.globals.size->b<P.globals.size:= λx=>by
  have h1:=h.kU (f b) (Nat.le_of_lt x);have :=h.inj _ _ (h.glk _ (Nat.le_of_lt x)) (OA hb) h1;omega
 constructor
 ·constructor
  ·intro x;rcases bu b P.globals.size with h1|h1
   ·rw [key h1] at x;omega
   ·exact h1
  ·intro x;rcases bu (f b) P.globals.size with h1|h1
   ·have :=ak8 h1;omega
   ·exact h1
 ·exact ⟨ak8, λx=>by rw [key x];exact x⟩
theorem Rn.ge (h:Rn P f) (b:Nat) (hb:Sh.lk b=true):b ≥ P.globals.size:=by
 rcases bu b P.globals.size with h1|h1
 ·rw [h.glk b (Nat.le_of_lt h1)] at hb;cases hb
 ·exact h1
theorem Ca (h:Rn P f) (a b:Addr) (hA:F.A a.block=true) (hB:F.A b.block=true):dN P F f Eq (Op.twoPlaces a b) (Op.twoPlaces (ra f a) (ra f b)):=by
 unfold Op.twoPlaces;refine .wF ?_
 by_cases hc:a.block=b.block∧a.block<P.globals.size
 ·have hla:Sh.lk a.block=false:=h.glk _ (Nat.le_of_lt hc.2);have hlb:Sh.lk b.block=false:=hc.1 ▸ hla;have e1:(f a.block !=f b.block)=(a.block !=b.block):=by simp [hc.1]
  have e2:(f a.block ≥ P.globals.size)↔a.block ≥ P.globals.size:=(h.TH _ hla).1;simp only [wo,e1,e2];split
  ·exact .bad trivial
  ·refine (wP a hA hla).dY λx=>?_
   exact (wP b hB hlb).dY λy=>.ret rfl
 ·rw [aj (by
   simp only [bne_iff_ne,Bool.or_eq_true,decide_eq_true_eq]
   by_cases e:a.block=b.block
   ·exact .inr (Nat.le_of_not_lt λx=>hc ⟨e,x⟩)
   ·exact .inl e)]
  exact .bad trivial
theorem Nu (h:Rn P f) (k:IntKind) {a a' b b':Addr} (ha:AR F f a a') (hb:AR F f b b'):dN P F f (VR F f) (Op.addrSub k a b) (Op.addrSub k a' b'):=by
 obtain ⟨rfl,hA⟩:=ha;obtain ⟨rfl,hB⟩:=hb;unfold Op.addrSub;exact (Ca h a b hA hB).dY λx=>.ret VR.int
theorem Nv (h:Rn P f) (op:BinOp) {a a' b b':Addr} (ha:AR F f a a') (hb:AR F f b b'):dN P F f (VR F f) (Op.addrCmp op a b) (Op.addrCmp op a' b'):=by
 obtain ⟨rfl,hA⟩:=ha;obtain ⟨rfl,hB⟩:=hb;unfold Op.addrCmp;refine (Ca h a b hA hB).dY λx=>?_
 cases op<;>first |exact .ret VR.bool|exact .bad trivial
theorem Eu {e:TypeId} (hb:P.info? e=none) (k:TypeInfo->Sem α) (m':Sem β) {R:α->β->Prop}:dN P F f R (typeInfo e >>=k) m':=by
 refine .oP λw es=>?_
 refine ⟨.stuck "no such type",w,es,?_,trivial,DK.refl⟩;show Sem.runT P ((typeInfo e).bind k) w es=_;rw [runT_bind];unfold typeInfo;simp only [program,Bind.bind,Sem.bind,Sem.runT,hb];rfl
theorem FX (h:Rn P f) (k:IntKind) {a a':Addr} (ha:AR F f a a') (n:Int):dN P F f (VR F f) (Op.addrMod k a n) (Op.addrMod k a' n):=by
 obtain ⟨rfl,hA⟩:=ha;unfold Op.addrMod;refine (y9 a.block hA).bind ?_
 rintro s s' hs;cases hl:Sh.lk a.block with
 |true=>
  rcases hs with ⟨rfl,h0⟩|⟨_,m,x,rfl,rfl⟩
  ·rw [h0 hl];exact .bad trivial
  ·exact Eu (h.bad _ hl) _ _
 |false=>
  obtain rfl:=(hs.eq hl).symm;cases s with
  |none=>exact .bad trivial
  |some s=>
   obtain ⟨e,c⟩:=s;refine (kF e).dY λi=>?_
   dsimp only;split
   ·exact .bad trivial
   ·exact (wP a hA hl).dY λy=>.ret VR.int
theorem xO (h:Rn P f) (ts:Array TypeId) (t:TypeId) {p p' y y':Value} (hp:VR F f p p') (hy:VR F f y y'):dN P F f (VR F f) (Builtin.unsafeAdd_ ts t #[p,y]) (Builtin.unsafeAdd_ ts t #[p',y']):=by
 obtain ⟨rfl,hs⟩:=hp;unfold Builtin.unsafeAdd_;cases p with
 |pointer a=>
  rw [eX];refine (wO hy).dY λn=>?_
  by_cases h0:n=0
  ·rw [aj h0,aj h0];cases a with
   |none=>exact .bad trivial
   |some a=>
    refine (IQ a.block (by simpa using hs)).bind ?_
    rintro x y ⟨rfl,rfl⟩;exact .ret ⟨by simp,hs⟩
  ·rw [aa h0,aa h0]
   by_cases h1:n<0
   ·rw [aj h1];exact .bad trivial
   ·rw [aa h1,aa h1];cases a with
    |none=>exact .bad trivial
    |some a=>
     refine (y9 a.block (by simpa using hs)).bind ?_
     intro s s' hss;cases hl:Sh.lk a.block with
     |true=>
      rcases hss with ⟨rfl,h0⟩|⟨_,m,x,rfl,rfl⟩
      ·rw [h0 hl];exact .bad trivial
      ·have h3:P.cellsOf Sh.bad=0:=by unfold Program.cellsOf;rw [h.bad _ hl];rfl
       refine .oP λw es=>?_
       refine ⟨.unsupported (.unsafePointer "Add"),w,es,?_,trivial,DK.refl⟩;simp only [program,Bind.bind,Sem.bind,Sem.runT,cellAtBytes,h3];rfl
     |false=>
      obtain rfl:=(hss.eq hl).symm;cases s with
      |none=>exact .bad trivial
      |some s=>
       obtain ⟨e,c⟩:=s;refine .wF ?_ (λQ hQ=>by simp only [hQ.cellsOf,hQ.byteOfCell,hQ.depth,hQ.bytesOf,hQ.info,hQ.cellAtBytes])
       simp only [Jv,Sh.Zo _ hl,aH];split
       ·exact .ret ⟨by simp [ra,Sh.Zo _ hl],by simpa using hs⟩
       ·exact .bad trivial
 |_=>exact .bad trivial
theorem Lg {a a':Addr} (ha:AR F f a a') (l:Bool):dN P F f (VR F f) (asNumber a l) (asNumber a' l):=by
 obtain ⟨rfl,hA⟩:=ha;unfold asNumber;refine dN.bind (um (o:=.number a l) hA) ?_
 rintro r _ ⟨rfl,hr,hl⟩;exact .ret ⟨by simp [EY hl],by simpa using hr⟩
theorem mR (h:Rn P f) (t:TypeId) {x x' y y':Value} (hx:VR F f x x') (hy:VR F f y y'):dN P F f (VR F f) (movedNumber t x y) (movedNumber t x' y'):=by
 unfold movedNumber;refine (eB t).dY λd=>?_
 obtain ⟨rfl,hs⟩:=hx;cases x with
 |pointer a=>
  cases a with
  |none=>
   have hn0:VR F f (.pointer none) (.pointer none):=⟨by simp,by simp⟩;rw [eX];cases d
   case unsafePointer=>exact .bad trivial
   all_goals exact xO h #[] t hn0 hy
  |some n=>
   rw [eX];cases d
   case unsafePointer=>exact .bad trivial
   all_goals
    refine (lK n (by simpa using hs)).bind ?_
    rintro ⟨a,l⟩ ⟨a',l'⟩ ⟨h1,rfl⟩;refine (xO h _ _ (VR.ptr h1) hy).bind ?_
    rintro v _ ⟨rfl,hv⟩;cases v with
    |pointer b=>
     cases b with
     |none=>rw [eX];exact .ret ⟨by simp,by simp⟩
     |some b=>rw [eX];exact Lg ⟨rfl,by simpa using hv⟩ l
    |_=>exact .ret ⟨rfl,hv⟩
 |_=>cases d<;>unfold Builtin.unsafeAdd_<;>exact .bad trivial
theorem Ev (h:Rn P f) (t:TypeId) {x x' y y':Value} (hx:VR F f x x') (hy:VR F f y y'):dN P F f (VR F f) (movedPointer t x y) (movedPointer t x' y'):=by
 unfold movedPointer;have last:=xO (P:=P) h #[] t hx hy;obtain ⟨rfl,hs⟩:=hx;cases x with
 |pointer a=>
  cases a with
  |none=>exact last
  |some n=>
   refine (Ee n.block (by simpa using hs)).bind ?_
   rintro p q (⟨rfl,rfl⟩|⟨_,x,l,rfl,rfl,_⟩)
   ·exact last
   ·exact .bad trivial
 |_=>exact last
def YS (P:Program):Nat->TypeId->Bool
 |0,_=>false
 |n+1,t=>match P.underlying t with
  |some .bool|some (.int _)|some .string|some (.slice _)|some (.map ..)|some (.func ..)=>true
  |some (.struct fs)=>!P.stoodInHeld t&&fs.all λx=>YS P n x.type
  |_=>false
theorem FY {σ γ:Type} {b b':γ->σ->Sem (ForInStep σ)}:∀(l:List γ) (s:σ),(∀a∈l,∀s,dN P F f Eq (b a s) (b' a s))->dN P F f Eq (forIn l s b) (forIn l s b')
 | [],s,_=>by simp only [List.forIn_nil];exact .ret rfl
 |a::l,s,h=>by
  simp only [List.forIn_cons];refine (h a (aQ ..) s).dY λr=>?_
  cases r with
  |done s=>exact .ret rfl
  |yield s=>exact FY l s λa ha=>h a (aR _ ha)
def SB (f:Nat->Nat) (a b:Value):Prop:=Instr.sameBits 10000 (rv f a) (rv f b)=Instr.sameBits 10000 a b
theorem FZ (h:Rn P f) (d:Nat) {t:TypeId} {k:IntKind} (hu:P.underlying t=some (.int k)) {x x' y y':Value} (hx:VR F f x x') (hy:VR F f y y'):dN P F f (λb b'=>b=b'∧(b=true->SB f y x)) (Op.equalIn (d+1) t x y) (Op.equalIn (d+1) t x' y'):=by
 unfold Op.equalIn;refine (fD t).bind ?_
 rintro u _ ⟨rfl,hu'⟩;rw [hu] at hu';cases hu';obtain ⟨rfl,hxs⟩:=hx;obtain ⟨rfl,hys⟩:=hy;cases x with
 |int k1 a=>
  cases y with
  |int k2 b=>
   simp only [jE];split
   ·exact .ret ⟨rfl, λ_=>by simp [SB,Instr.sameBits]⟩
   ·exact .bad trivial
  |pointer b=>
   cases b with
   |none=>exact .bad trivial
   |some b=>
    simp only [jE,eX,ay]
    by_cases ha:a=0
    ·subst ha;exact .ret ⟨rfl, λh=>by cases h⟩
    ·split<;>first |exact .bad trivial|(exfalso;simp_all;done)
  |_=>exact .bad trivial
 |pointer a=>
  cases a with
  |none=>cases y<;>first |exact .bad trivial|(rename_i b;cases b<;>exact .bad trivial)
  |some a=>
   cases y with
   |int k2 b=>
    simp only [jE,eX,ay]
    by_cases hb:b=0
    ·subst hb;exact .ret ⟨rfl, λh=>by cases h⟩
    ·split<;>first |exact .bad trivial|(exfalso;simp_all;done)
   |pointer b=>
    cases b with
    |none=>exact .bad trivial
    |some b=>
     simp only [eX,ay];refine (su a (by simpa using hxs)).bind ?_
     rintro ⟨a1,l1⟩ ⟨a2,l2⟩ ⟨⟨h1,hA⟩,h1e,h1l⟩;refine (su b (by simpa using hys)).bind ?_
     rintro ⟨b1,m1⟩ ⟨b2,m2⟩ ⟨⟨h2,hB⟩,h2e,h2l⟩;dsimp only at h1 h2 hA hB h1e h2e h1l h2l ⊢;subst h1;subst h2
     by_cases hl:Sh.lk a1.block=true∨Sh.lk b1.block=true
     ·
      have hcc:∀t i,P.info? t=some i->∀u,i.desc≠ .named "sync.copyChecker" u:=hl.elim (h.cc _) (h.cc _)
      have hneg:¬(a1.block=b1.block∧a1.block<P.globals.size):=by
       rintro ⟨e1,e2⟩;have h3:=h.glk _ (Nat.le_of_lt e2);rcases hl with x|x
       ·rw [h3] at x;cases x
       ·rw [<-e1,h3] at x;cases x
      refine .oP λw es=>?_
      cases ht:P.info? t with
      |none=>
       refine ⟨.stuck "no such type",w,es,?_,trivial,DK.refl⟩;simp only [program,Bind.bind,Sem.bind,Sem.runT,typeInfo];rw [aa (by simpa using hneg)];simp only [program,Bind.bind,Sem.bind,Sem.runT,ht];rfl
      |some i=>
       refine ⟨.unsupported .addressObserved,w,es,?_,trivial,DK.refl⟩;simp only [program,Bind.bind,Sem.bind,Sem.runT,typeInfo];rw [aa (by simpa using hneg)];simp only [program,Bind.bind,Sem.bind,Sem.runT,ht];have :=hcc t i ht;show Sem.runT P (Sem.bind (Pure.pure i) _) w es=_;simp only [Pure.pure,Sem.bind]
       first
        |rfl
        |(split
          ·rename_i u hu2;exact absurd hu2 (this _)
          ·rfl)
     have hla:Sh.lk a1.block=false:=by simpa using λx=>hl (.inl x)
     have hlb:Sh.lk b1.block=false:=by simpa using λx=>hl (.inr x)
     have hlo:Sh.lk a.block=false:=by
      cases hx:Sh.lk a.block with
      |false=>rfl
      |true=>rw [<-h1l hx,hla] at hx;cases hx
     have hlo2:Sh.lk b.block=false:=by
      cases hx:Sh.lk b.block with
      |false=>rfl
      |true=>rw [<-h2l hx,hlb] at hx;cases hx
     have ak9:∀(a1 b1:Addr),Sh.lk a1.block=false->Sh.lk b1.block=false->(ra f a1==ra f b1)=(a1==b1):=by
      intro a1 b1 hla hlb;rw [Bool.eq_iff_iff];simp only [beq_iff_eq]
      constructor
      ·intro x;have h3:=congrArg Addr.block x;have h4:=congrArg Addr.off x;have h5:=congrArg Addr.spot x;simp only [wo,Jv,OB] at h3 h4 h5;have :=h.inj _ _ hla (OA hlb) h3;have e1:Sh.sh a1.block=Sh.sh b1.block:=by rw [this]
       cases a1;cases b1;simp_all
      ·intro x;rw [x]
     have hsb:SB f (.pointer (some b)) (.pointer (some a)):=by
      have :=ak9 a b hlo hlo2;have e:∀x y:Addr,(x==y)=(y==x):= λx y=>by rw [Bool.eq_iff_iff];simp only [beq_iff_eq];exact ⟨Eq.symm,Eq.symm⟩
      simp only [SB,eX,ay,Instr.sameBits];have k1:∀x y:Addr,(some x==some y)=(x==y):= λx y=>by rw [Bool.eq_iff_iff];simp
      rw [k1,k1,e,this,e]
     refine .wF ?_
     have e1:(f a1.block==f b1.block)=(a1.block==b1.block):=by
      rw [Bool.eq_iff_iff];simp only [beq_iff_eq]
      exact ⟨λx=>h.inj _ _ hla (OA hlb) x, λx=>by rw [x]⟩
     have e2:(f a1.block<P.globals.size)↔a1.block<P.globals.size:=(h.TH _ hla).2;have e3:(ra f a1==ra f b1)=(a1==b1):=ak9 a1 b1 hla hlb;simp only [wo,e1,e2,e3];split
     ·refine (wP a1 hA hla).dY λp=>?_
      exact (wP b1 hB hlb).dY λq=>.ret ⟨rfl, λ_=>hsb⟩
     ·refine (kF t).dY λi=>?_
      split
      ·split
       ·exact .ret ⟨rfl, λ_=>hsb⟩
       ·exact .bad trivial
      ·exact .bad trivial
   |_=>exact .bad trivial
 |_=>cases y<;>first |exact .bad trivial|(rename_i b;cases b<;>exact .bad trivial)
theorem Qw (h:Rn P f) (d:Nat) {t:TypeId} {k:IntKind} (hu:P.underlying t=some (.int k)) {x x' y y':Value} (hx:VR F f x x') (hy:VR F f y y'):dN P F f Eq (Op.equalIn (d+1) t x y) (Op.equalIn (d+1) t x' y'):=(FZ h d hu hx hy).mono λ_ _ h=>h.1
theorem Lh (d:Nat) {t e:TypeId} (hu:P.underlying t=some (.slice e)) {x x' y y':Value} (hx:VR F f x x') (hy:VR F f y y'):dN P F f Eq (Op.equalIn (d+1) t x y) (Op.equalIn (d+1) t x' y'):=by
 unfold Op.equalIn;refine (fD t).bind ?_
 rintro u _ ⟨rfl,hu'⟩;rw [hu] at hu';cases hu';obtain ⟨rfl,hxs⟩:=hx;obtain ⟨rfl,hys⟩:=hy;cases x with
 |slice a _ _=>
  cases y with
  |slice b _ _=>
   simp only [fT];cases a with
   |none=>exact .ret (by simp)
   |some a=>cases b with
    |none=>exact .ret rfl
    |some b=>exact .bad trivial
  |_=>cases a<;>exact .bad trivial
 |_=>cases y<;>exact .bad trivial
theorem Qx (d:Nat) {t k e:TypeId} (hu:P.underlying t=some (.map k e)) {x x' y y':Value} (hx:VR F f x x') (hy:VR F f y y'):dN P F f Eq (Op.equalIn (d+1) t x y) (Op.equalIn (d+1) t x' y'):=by
 unfold Op.equalIn;refine (fD t).bind ?_
 rintro u _ ⟨rfl,hu'⟩;rw [hu] at hu';cases hu';obtain ⟨rfl,hxs⟩:=hx;obtain ⟨rfl,hys⟩:=hy;cases x with
 |map a=>
  cases y with
  |map b=>
   simp only [tF];cases a with
   |none=>exact .ret (by simp)
   |some a=>cases b with
    |none=>exact .ret rfl
    |some b=>exact .bad trivial
  |_=>cases a<;>exact .bad trivial
 |_=>cases y<;>exact .bad trivial
theorem Nw (d:Nat) {t:TypeId} {a b:Array TypeId} {c:Bool} (hu:P.underlying t=some (.func a b c)) {x x' y y':Value} (hx:VR F f x x') (hy:VR F f y y'):dN P F f Eq (Op.equalIn (d+1) t x y) (Op.equalIn (d+1) t x' y'):=by
 unfold Op.equalIn;refine (fD t).bind ?_
 rintro u _ ⟨rfl,hu'⟩;rw [hu] at hu';cases hu';obtain ⟨rfl,hxs⟩:=hx;obtain ⟨rfl,hys⟩:=hy;cases x<;>cases y<;>first |exact .bad trivial|(simp only [tN,nV];exact .ret rfl)
theorem Ef (d:Nat) {t:TypeId} (hu:P.underlying t=some .bool) {x x' y y':Value} (hx:VR F f x x') (hy:VR F f y y'):dN P F f (λb b'=>b=b'∧(b=true->SB f y x)) (Op.equalIn (d+1) t x y) (Op.equalIn (d+1) t x' y'):=by
 unfold Op.equalIn;refine (fD t).bind ?_
 rintro u _ ⟨rfl,hu'⟩;rw [hu] at hu';cases hu';obtain ⟨rfl,hxs⟩:=hx;obtain ⟨rfl,hys⟩:=hy;cases x<;>cases y<;>first |exact .bad trivial|(simp only [mZ];exact .ret ⟨rfl, λ_=>by simp [SB,Instr.sameBits]⟩)
theorem Ny (d:Nat) {t:TypeId} (hu:P.underlying t=some .bool) {x x' y y':Value} (hx:VR F f x x') (hy:VR F f y y'):dN P F f Eq (Op.equalIn (d+1) t x y) (Op.equalIn (d+1) t x' y'):=(Ef d hu hx hy).mono λ_ _ h=>h.1
theorem Aa (d:Nat) {t:TypeId} (hu:P.underlying t=some .string) {x x' y y':Value} (hx:VR F f x x') (hy:VR F f y y'):dN P F f (λb b'=>b=b'∧(b=true->SB f y x)) (Op.equalIn (d+1) t x y) (Op.equalIn (d+1) t x' y'):=by
 unfold Op.equalIn;refine (fD t).bind ?_
 rintro u _ ⟨rfl,hu'⟩;rw [hu] at hu';cases hu';obtain ⟨rfl,hxs⟩:=hx;obtain ⟨rfl,hys⟩:=hy;cases x<;>cases y<;>first |exact .bad trivial|(simp only [gM];exact .ret ⟨rfl, λ_=>by simp [SB,Instr.sameBits]⟩)
theorem JX (d:Nat) {t:TypeId} (hu:P.underlying t=some .string) {x x' y y':Value} (hx:VR F f x x') (hy:VR F f y y'):dN P F f Eq (Op.equalIn (d+1) t x y) (Op.equalIn (d+1) t x' y'):=(Aa d hu hx hy).mono λ_ _ h=>h.1
theorem JY (d:Nat) {t:TypeId} {fs:Array Field} (hu:P.underlying t=some (.struct fs)) (ht:P.stoodInHeld t=false) (ih:∀fl∈fs.toList,∀{x x' y y':Value},VR F f x x'->VR F f y y'->dN P F f Eq (Op.equalIn d fl.type x y) (Op.equalIn d fl.type x' y')) {x x' y y':Value} (hx:VR F f x x') (hy:VR F f y y'):dN P F f Eq (Op.equalIn (d+1) t x y) (Op.equalIn (d+1) t x' y'):=by
 unfold Op.equalIn;refine (fD t).bind ?_
 rintro u _ ⟨rfl,hu'⟩;rw [hu] at hu';cases hu';obtain ⟨rfl,hxs⟩:=hx;obtain ⟨rfl,hys⟩:=hy;cases x with
 |agg xs=>
  cases y with
  |agg ys=>
   simp only [uw];refine .wF ?_ (λQ hQ=>by simp only [hQ.stoodInHeld])
   rw [ht];simp only [bD,if_false];refine dN.dY ?_ λr=>?_
   ·rw [<-Array.forIn_toList, <-Array.forIn_toList];refine FY fs.toList _ λfl hfl s=>?_
    split
    ·refine (BZ fl.type ⟨rfl,rV.1 hxs⟩ _).bind ?_
     intro p p' hp;refine (BZ fl.type ⟨rfl,rV.1 hys⟩ _).bind ?_
     intro q q' hq;refine (ih fl hfl hp hq).dY λr=>?_
     split<;>exact .ret rfl
    ·exact .ret rfl
   ·split<;>exact .ret rfl
  |_=>exact .bad trivial
 |_=>cases y<;>exact .bad trivial
theorem F4 (h:Rn P f):∀(n d:Nat) (t:TypeId),YS P n t=true->∀{x x' y y':Value},VR F f x x'->VR F f y y'->dN P F f Eq (Op.equalIn d t x y) (Op.equalIn d t x' y')
 |0,_,_,h0,_,_,_,_,_,_=>by cases h0
 |n+1,0,_,_,_,_,_,_,_,_=>.bad trivial
 |n+1,d+1,t,ht,x,_,y,_,hx,hy=>by
  unfold YS at ht;cases hu:P.underlying t with
  |none=>rw [hu] at ht;cases ht
  |some u=>
   rw [hu] at ht;cases u with
   |bool=>exact Ny d hu hx hy
   |string=>exact JX d hu hx hy
   |int k=>exact Qw h d hu hx hy
   |slice e=>exact Lh d hu hx hy
   |map k e=>exact Qx d hu hx hy
   |func a b c=>exact Nw d hu hx hy
   |struct fs=>
    rw [bC,Bool.not_eq_true'] at ht;exact JY d hu ht.1 (λfl hfl=>F4 h n d fl.type (aV.1 ht.2 fl (by simpa using hfl))) hx hy
   |_=>cases ht
end
end
section
variable [Sh]
section
variable {P:Program} {F:Fit} {f:Nat->Nat} {α β γ δ:Type}
def TJ:Operand->Bool
 | .const (.pointer none)| .const .nilIface=>true
 |_=>false
def TK (P:Program) (t:TypeId) (x y:Operand):Bool:=
 YS P 8 t&&!P.eqGuardType P.depth t||
 (TJ x||TJ y)&&match P.underlying t with
   |some (.pointer _)|some (.interface _)=>true
   |_=>false
def TL (P:Program) (op:BinOp) (t:TypeId) (x y:Operand):Bool:=
 match op with
 | .eql| .neq=>TK P t x y
 |_=>match P.underlying t with
  |some .unsafePointer=>false
  |_=>true
theorem Dj (d:Nat) (t:TypeId):dN P F f Eq (Op.eqGuardIn (d+1) t .nilIface .nilIface) (Op.eqGuardIn (d+1) t .nilIface .nilIface):=by
 unfold Op.eqGuardIn;refine (eB t).dY λu=>?_
 cases u<;>exact .ret rfl
theorem AY (d:Nat) {t:TypeId} {ms:Array (String×TypeId)} (hu:P.underlying t=some (.interface ms)) (a b:Array Value):
 dN P F f Eq (Op.eqGuardIn (d+1) t (.agg a) (.agg b)) (Op.eqGuardIn (d+1) t (.agg (a.map (rv f))) (.agg (b.map (rv f)))):=by
 unfold Op.eqGuardIn;refine (fD t).bind ?_
 rintro u _ ⟨rfl,hu'⟩;rw [hu] at hu';cases hu';exact .ret rfl
theorem Nz {op:BinOp} {t:TypeId} {x y:Operand} (ho:TL P op t x y=true) (a b:Value):dN P F f Eq (eqGuard op t x y a b) (eqGuard op t x y (rv f a) (rv f b)):=by
 have main:TK P t x y=true->dN P F f Eq (eqGuard .eql t x y a b) (eqGuard .eql t x y (rv f a) (rv f b)):=by
  intro he;unfold eqGuard;simp only [Bool.not_true,bD,if_false];cases a with
  |nilIface=>
   cases b with
   |nilIface=>
    simp only [lu]
    have fin:∀c:Bool,dN P F f Eq (if c=true then Pure.pure () else (Op.eqGuardIn Op.maxDepth t .nilIface .nilIface >>= λr=>if r=true then unsupported (.noEntry "binop/eql: two nil values of an interface type with methods, neither of them the literal nil") else Pure.pure ()))
     (if c=true then Pure.pure () else (Op.eqGuardIn Op.maxDepth t .nilIface .nilIface >>= λr=>if r=true then unsupported (.noEntry "binop/eql: two nil values of an interface type with methods, neither of them the literal nil") else Pure.pure ())):=by
     intro c;cases c
     ·refine (Dj 9999 t).dY λr=>?_
      split
      ·exact .bad trivial
      ·exact .ret rfl
     ·exact .ret rfl
    exact fin _
   |_=>exact .ret rfl
  |agg as=>
   cases b with
   |agg bs=>
    simp only [uw];refine .wF ?_ (λQ hQ=>by simp only [hQ.eqGuardType])
    refine .wF ?_ (λQ hQ=>by simp only [hQ.depth])
    by_cases hg:P.eqGuardType P.depth t=true
    ·simp only [hg,Bool.not_true,bD,if_false];unfold TK at he;simp only [hg,Bool.not_true,Bool.and_false,Bool.false_or,bC] at he;cases hu:P.underlying t with
     |none=>rw [hu] at he;exact absurd he.2 (by simp)
     |some u=>
      rw [hu] at he;cases u with
      |interface ms=>
       refine (AY 9999 hu as bs).dY λr=>?_
       split
       ·exact .bad trivial
       ·exact .ret rfl
      |pointer e=>
       exfalso
       have :∀d,P.eqGuardType d t=true->d=0:=by
        intro d hd;cases d with
        |zero=>rfl
        |succ d=>unfold Program.eqGuardType at hd;rw [hu] at hd;cases hd
       have h0:=this _ hg;have :P.depth≠0:=by unfold Program.depth;omega
       exact this h0
      |_=>exact absurd he.2 (by simp)
    ·simp only [hg,Bool.not_false,if_true];exact .ret rfl
   |_=>exact .ret rfl
  |_=>cases b<;>exact .ret rfl
 cases op<;>first |exact .ret rfl|exact main ho
theorem Cc {t:TypeId} {u:TypeDesc} (hu:P.underlying t=some u) (hk:(∃e,u= .pointer e)∨∃ms,u= .interface ms) {a b:Value} (hn:a= .pointer none∨a= .nilIface∨b= .pointer none∨b= .nilIface):
 dN P F f Eq (Op.equal t a b) (Op.equal t (rv f a) (rv f b)):=by
 unfold Op.equal;show dN P F f Eq (Op.equalIn (9999+1) t a b) (Op.equalIn (9999+1) t (rv f a) (rv f b));unfold Op.equalIn;refine (fD t).bind ?_
 rintro u _ ⟨rfl,hu'⟩;rw [hu] at hu';cases hu';rcases hk with ⟨e,rfl⟩|⟨ms,rfl⟩
 ·rcases hn with rfl|rfl|rfl|rfl
  ·cases b with
   |pointer b=>simp only [eX];exact .ret (by simp)
   |_=>exact .bad trivial
  ·cases b<;>exact .bad trivial
  ·cases a with
   |pointer a=>cases a<;>(simp only [eX];exact .ret (by simp))
   |_=>exact .bad trivial
  ·cases a with
   |pointer a=>cases a<;>exact .bad trivial
   |_=>exact .bad trivial
 ·rcases hn with rfl|rfl|rfl|rfl
  ·cases b<;>exact .bad trivial
  ·cases b<;>first |exact .bad trivial|(simp only [lu,uu];exact .ret rfl)
  ·cases a<;>exact .bad trivial
  ·cases a<;>first |exact .bad trivial|(simp only [lu,uu];exact .ret rfl)
theorem Ab (op:BinOp) (t:TypeId) (k k':IntKind) (a b:Int):dN P F f (VR F f) (binOp op t (.int k a) (.int k' b)) (binOp op t (.int k a) (.int k' b)):=by
 cases op<;>simp only [binOp]<;>first
  |exact TF ..
  |(split
    ·exact .bad trivial
    ·first |exact Ed .. |exact Qt .. |exact FW .. |exact Qu ..)
def arith:BinOp->Bool
 | .eql| .neq=>false
 |_=>true
theorem F5 (h:Rn P f) (op:BinOp) (ho:arith op=true) (t:TypeId) (k:IntKind) (n:Int) (p:Option Addr) (hp:V8 F p=true):
 dN P F f (VR F f) (binOp op t (.int k n) (.pointer p)) (binOp op t (.int k n) (.pointer (p.map (ra f)))):=by
 have hv:VR F f (.pointer p) (.pointer (p.map (ra f))):=⟨by simp,by simpa using hp⟩;have hi:VR F f (.int k n) (.int k n):=VR.int;cases p with
 |none=>cases op<;>first |(cases ho;done)|exact .bad trivial|exact mR h t hv hi
 |some a=>
  cases op<;>first
   |(cases ho;done)
   |exact .bad trivial
   |exact mR h t hv hi
   |(refine (lK a hp).bind ?_;rintro ⟨x,l⟩ ⟨x',l'⟩ ⟨h1,rfl⟩;exact FX h k h1 _)
theorem F6 (h:Rn P f) {op:BinOp} (ho:arith op=true) (t:TypeId) (k:IntKind) (n:Int) (p:Option Addr) (hp:V8 F p=true):
 dN P F f (VR F f) (binOp op t (.pointer p) (.int k n)) (binOp op t (.pointer (p.map (ra f))) (.int k n)):=by
 have hv:VR F f (.pointer p) (.pointer (p.map (ra f))):=⟨by simp,by simpa using hp⟩;have hi:VR F f (.int k n) (.int k n):=VR.int
 have hadd:dN P F f (VR F f) (binOp .add t (.pointer p) (.int k n)) (binOp .add t (.pointer (p.map (ra f))) (.int k n)):=by
  simp only [binOp];refine (eB t).dY λd=>?_
  split
  ·exact Ev h t hv hi
  ·exact mR h t hv hi
 cases p with
 |none=>cases op<;>first |(cases ho;done)|exact hadd|exact .bad trivial|exact mR h t hv VR.int
 |some a=>
  cases op<;>first
   |(cases ho;done)
   |exact hadd
   |exact .bad trivial
   |exact mR h t hv VR.int
   |(refine (lK a hp).bind ?_;rintro ⟨x,l⟩ ⟨x',l'⟩ ⟨h1,rfl⟩;exact FX h k h1 _)
theorem F7 (h:Rn P f) {op:BinOp} (ho:arith op=true) (t:TypeId) (p q:Option Addr) (hp:V8 F p=true) (hq:V8 F q=true):
 dN P F f (VR F f) (binOp op t (.pointer p) (.pointer q)) (binOp op t (.pointer (p.map (ra f))) (.pointer (q.map (ra f)))):=by
 cases p with
 |none=>cases q<;>cases op<;>first |(cases ho;done)|exact .bad trivial
 |some a=>
  cases q with
  |none=>cases op<;>first |(cases ho;done)|exact .bad trivial
  |some b=>
   cases op<;>first
    |(cases ho;done)
    |exact .bad trivial
    |(refine (lK a hp).bind ?_
      rintro ⟨x,l⟩ ⟨x',l'⟩ ⟨h1,rfl⟩;refine (lK b hq).bind ?_
      rintro ⟨y,m⟩ ⟨y',m'⟩ ⟨h2,rfl⟩
      first |exact Nu h _ h1 h2|exact Nv h _ h1 h2)
theorem JZ (h:Rn P f) {op:BinOp} (ho:arith op=true) (t:TypeId) {a a' b b':Value} (ha:VR F f a a') (hb:VR F f b b'):dN P F f (VR F f) (binOp op t a b) (binOp op t a' b'):=by
 obtain ⟨rfl,hs⟩:=ha;obtain ⟨rfl,hs'⟩:=hb;cases a with
 |int k n=>
  cases b with
  |int k' m=>simp only [jE];exact Ab ..
  |pointer p=>simp only [jE,eX];exact F5 h op ho t k n p (by simpa using hs')
  |_=>cases op<;>first |(cases ho;done)|exact .bad trivial
 |string s=>
  cases b with
  |string s'=>simp only [gM];cases op<;>first |(cases ho;done)|(simp only [binOp];exact sV ..)
  |pointer p=>cases p<;>cases op<;>first |(cases ho;done)|exact .bad trivial
  |_=>cases op<;>first |(cases ho;done)|exact .bad trivial
 |pointer p=>
  cases b with
  |int k n=>simp only [jE,eX];exact F6 h ho t k n p (by simpa using hs)
  |pointer q=>simp only [eX];exact F7 h ho t p q (by simpa using hs) (by simpa using hs')
  |_=>cases p<;>cases op<;>first |(cases ho;done)|exact .bad trivial
 |float _ _=>simp at hs
 |complex _ _ _=>simp at hs
 |_=>
  cases b with
  |pointer p=>cases p<;>cases op<;>first |(cases ho;done)|exact .bad trivial
  |_=>cases op<;>first |(cases ho;done)|exact .bad trivial
end
end
section
variable [Sh]
section
variable {P:Program} {F:Fit} {f:Nat->Nat} {α β γ δ:Type}
theorem NA {op:BinOp} (ho:arith op=false) (t:TypeId) {a b:Value} (ha:vs F a=true) (hs:dN P F f Eq (Op.equal t a b) (Op.equal t (rv f a) (rv f b))):
 dN P F f (VR F f) (binOp op t a b) (binOp op t (rv f a) (rv f b)):=by
 have e:dN P F f (VR F f) (do pure (.bool (<-Op.equal t a b))) (do pure (.bool (<-Op.equal t (rv f a) (rv f b)))):=hs.dY λ_=>.ret VR.bool
 have n:dN P F f (VR F f) (do pure (.bool (!(<-Op.equal t a b)))) (do pure (.bool (!(<-Op.equal t (rv f a) (rv f b))))):=hs.dY λ_=>.ret VR.bool
 have ii:= λk x k' y=>Ab (P:=P) (F:=F) (f:=f) op t k k' x y
 cases op<;>first |(cases ho;done)|skip
 all_goals
  cases a with
  |int k x=>
   cases b with
   |int k' y=>simp only [jE];exact ii k x k' y
   |_=>first |exact e|exact n
  |string x=>
   cases b with
   |string y=>simp only [gM];first |exact sV .eql x y|exact sV .neq x y
   |_=>first |exact e|exact n
  |float _ _=>simp at ha
  |complex _ _ _=>simp at ha
  |_=>first |exact e|exact n
theorem TM (h:Rn P f) {op:BinOp} {t:TypeId} {x y:Operand} (ho:TL P op t x y=true) {a b a' b':Value} (ha:VR F f a a') (hb:VR F f b b')
 (hx:∀v,x= .const v->a=v) (hy:∀v,y= .const v->b=v):dN P F f (VR F f) (do eqGuard op t x y a b;binOp op t a b) (do eqGuard op t x y a' b';binOp op t a' b'):=by
 obtain ⟨rfl,hsa⟩:=ha;obtain ⟨rfl,hsb⟩:=hb;refine (Nz ho a b).dY λ_=>?_
 by_cases hop:arith op=true
 ·exact JZ h hop t ⟨rfl,hsa⟩ ⟨rfl,hsb⟩
 ·have hop':arith op=false:=by simpa using hop
  have he:TK P t x y=true:=by cases op<;>first |exact ho|(cases hop';done)
  refine NA hop' t hsa ?_
  unfold TK at he;rw [Bool.or_eq_true] at he;rcases he with he|he
  ·rw [bC] at he;exact F4 h 8 _ t he.1 ⟨rfl,hsa⟩ ⟨rfl,hsb⟩
  ·rw [bC,Bool.or_eq_true] at he
   have hn:a= .pointer none∨a= .nilIface∨b= .pointer none∨b= .nilIface:=by
    rcases he.1 with h1|h1
    ·cases x with
     |const v=>
      have :=hx v rfl;subst this;cases a with
      |pointer p=>cases p<;>first |exact .inl rfl|cases h1
      |nilIface=>exact .inr (.inl rfl)
      |_=>cases h1
     |_=>cases h1
    ·cases y with
     |const v=>
      have :=hy v rfl;subst this;cases b with
      |pointer p=>cases p<;>first |exact .inr (.inr (.inl rfl))|cases h1
      |nilIface=>exact .inr (.inr (.inr rfl))
      |_=>cases h1
     |_=>cases h1
   cases hu:P.underlying t with
   |none=>rw [hu] at he;exact absurd he.2 (by simp)
   |some u=>
    rw [hu] at he;cases u with
    |pointer e=>exact Cc hu (.inl ⟨e,rfl⟩) hn
    |interface ms=>exact Cc hu (.inr ⟨ms,rfl⟩) hn
    |_=>exact absurd he.2 (by simp)
def NB (P:Program) (src dst:TypeId):Bool:=
 match P.underlying src,P.underlying dst with
 |some (.int _),some (.int _)=>true
 |some .string,some .string=>true
 |some .string,some (.slice e)=>match P.underlying e with |some (.int .u8)=>true|_=>false
 |_,_=>false
theorem Dk (e:TypeId) (s:ByteArray):dN P F f (VR F f) (Conv.stringToBytes e s) (Conv.stringToBytes e s):=by
 unfold Conv.stringToBytes;refine (oq _).dY λcap=>?_
 have hc:∀(n:Nat),kZ F f (s.data.map (λb=>Value.int .u8 b.toNat)++Array.replicate n (.int .u8 0)) (s.data.map (λb=>Value.int .u8 b.toNat)++Array.replicate n (.int .u8 0)):=by
  intro n;refine ⟨?_, λx hx=>?_⟩
  ·rw [Array.map_append,Array.map_map,Array.map_replicate,jE];rw [show (rv f ∘ λb:UInt8=>Value.int .u8 b.toNat)= λb:UInt8=>Value.int .u8 b.toNat from funext λb=>by simp]
  ·rcases Array.mem_append.1 hx with hx|hx
   ·obtain ⟨b,_,rfl⟩:=Array.mem_map.1 hx;simp
   ·rw [(Array.mem_replicate.1 hx).2];simp
 have h1:=hc (cap - s.size)
 have x:=dN.rW (P:=P) (F:=F) (f:=f) (R:=VR F f) (e:=e)
  (k0:= λr z=>Sem.bind (match z with |some (_,n)=>freeze { block:=r,off:=n } 1|none=>Pure.pure ()) λ_=>Pure.pure (Value.slice (some ⟨r,0,none⟩) s.size cap))
  (k0':= λr z=>Sem.bind (match z with |some (_,n)=>freeze { block:=r,off:=n } 1|none=>Pure.pure ()) λ_=>Pure.pure (Value.slice (some ⟨r,0,none⟩) s.size cap))
  (k:= λr=>Pure.pure (Value.slice (some ⟨r,0,none⟩) s.size cap)) (k':= λr=>Pure.pure (Value.slice (some ⟨r,0,none⟩) s.size cap)) h1.2 (λr=>rfl) (λr=>rfl) (λr hr hl=>.pure ⟨by simp [EY hl],by rw [jo];exact vP (by simpa using hr)⟩)
 rw [<-h1.1] at x
 have hm:∀C:Array Value,(newRow e C >>= λa=>markStringish a >>= λ_=>Pure.pure (Value.slice (some a) s.size cap))=Sem.new (.cells C e (0,0)) (λr=>Sem.shape r λz=>
  Sem.bind (match z with |some (_,n)=>freeze { block:=r,off:=n } 1|none=>Pure.pure ()) λ_=>Pure.pure (Value.slice (some ⟨r,0,none⟩) s.size cap)):=by
  intro C;show Sem.new _ _=Sem.new _ _;congr 1;funext r;show Sem.shape _ _=Sem.shape _ _;congr 1;funext z;cases z<;>rfl
 dsimp only;rw [hm];exact x
theorem NC {src dst:TypeId} (ho:NB P src dst=true) {v v':Value} (hv:VR F f v v'):dN P F f (VR F f) (convert src dst v) (convert src dst v'):=by
 obtain ⟨rfl,hs⟩:=hv;unfold convert;refine (fD src).bind ?_
 rintro u _ ⟨rfl,hu⟩;refine (fD dst).bind ?_
 rintro d _ ⟨rfl,hd⟩;unfold NB at ho;rw [hu,hd] at ho;cases u with
 |int k=>
  cases d with
  |int k'=>
   cases v with
   |int k2 n=>simp only [jE];exact .ret VR.int
   |pointer a=>cases a<;>exact .bad trivial
   |float _ _=>simp at hs
   |complex _ _ _=>simp at hs
   |_=>exact .bad trivial
  |_=>cases ho
 |string=>
  cases d with
  |string=>
   cases v with
   |int k2 n=>simp only [jE];exact .ret VR.str
   |string s=>simp only [gM];exact .ret VR.str
   |float _ _=>simp at hs
   |complex _ _ _=>simp at hs
   |_=>exact .bad trivial
  |slice e=>
   cases v with
   |string s=>
    simp only [gM];refine (fD e).bind ?_
    rintro w _ ⟨rfl,hw⟩;dsimp only at ho;rw [hw] at ho;cases w with
    |int k=>cases k<;>first |(cases ho;done)|exact Dk e s
    |_=>cases ho
   |float _ _=>simp at hs
   |complex _ _ _=>simp at hs
   |slice a _ _=>cases a<;>exact .bad trivial
   |pointer a=>cases a<;>exact .bad trivial
   |_=>exact .bad trivial
  |_=>cases ho
 |_=>cases ho
theorem Li (kd:TypeDesc) (a b:Value):Instr.sameNow kd (rv f a) (rv f b)=Instr.sameNow kd a b:=by
 cases a with
 |int k n=>cases b<;>simp only [jE,mZ,gM,wu,rU,eX,fT,tF,xx,tN,nV,lu,uu,uw,wz]<;>cases kd<;>rfl
 |bool x=>cases b<;>simp only [jE,mZ,gM,wu,rU,eX,fT,tF,xx,tN,nV,lu,uu,uw,wz]<;>cases kd<;>rfl
 |string x=>cases b<;>simp only [jE,mZ,gM,wu,rU,eX,fT,tF,xx,tN,nV,lu,uu,uw,wz]<;>cases kd<;>rfl
 |_=>simp only [wu,rU,eX,fT,tF,xx,tN,nV,lu,uu,uw,wz]<;>cases kd<;>rfl
def Dl (F:Fit) (f:Nat->Nat) (k:Value) (es:List MapEntry) (n:Nat) (x y:Option (Nat×Value)):Prop:=(x=none∧y=none)∨∃i v,x=some (n+i,v)∧y=some (n+i,rv f v)∧vs F v=true∧∃e,es[i]?=some e∧SB f e.key k
theorem Dl.later {k:Value} {e:MapEntry} {es:List MapEntry} {n:Nat} {x y:Option (Nat×Value)} (h:Dl F f k es (n+1) x y):Dl F f k (e::es) n x y:=by
 rcases h with h|⟨i,v,h1,h2,h3,e',h4,h5⟩
 ·exact .inl h
 ·exact .inr ⟨i+1,v,by rw [h1];congr 2;omega,by rw [h2];congr 2;omega,h3,e',h4,h5⟩
theorem ND {kd:TypeDesc} {a b:Value} (h:Instr.sameNow kd a b=some true):SB f b a:=by
 cases a<;>cases b<;>first |(simp [SB,Instr.sameBits];done)|(cases kd<;>cases h)
theorem Eg (kd:TypeDesc) (k:Value):∀(es:List MapEntry) (i:Nat),(∀e∈es,vs F e.val=true)->
 (Instr.findNow kd k es i=none∧Instr.findNow kd (rv f k) (es.map (re f)) i=none)∨∃x y,Instr.findNow kd k es i=some x∧Instr.findNow kd (rv f k) (es.map (re f)) i=some y∧Dl F f k es i x y
 | [],i,_=>.inr ⟨none,none,rfl,rfl,.inl ⟨rfl,rfl⟩⟩
 |e::es,i,h=>by
  simp only [aC,Instr.findNow,re,Li];cases hn:Instr.sameNow kd k e.key with
  |none=>exact .inl ⟨rfl,rfl⟩
  |some b=>
   cases b with
   |true=>exact .inr ⟨_,_,rfl,rfl,.inr ⟨0,_,rfl,rfl,h e (aQ ..),e,rfl,ND hn⟩⟩
   |false=>exact (Eg kd k es (i+1) λe he=>h e (aR _ he)).imp id λ⟨x,y,h1,h2,h3⟩=>⟨x,y,h1,h2,h3.later⟩
def NF (P:Program) (t:TypeId):Bool:=match P.underlying t with |some .bool|some (.int _)|some .string=>true|_=>false
theorem Lj (h:Rn P f) {kt:TypeId} (ht:NF P kt=true) (d:Nat) {x x' y y':Value} (hx:VR F f x x') (hy:VR F f y y'):dN P F f (λb b'=>b=b'∧(b=true->SB f y x)) (Op.equalIn (d+1) kt x y) (Op.equalIn (d+1) kt x' y'):=by
 unfold NF at ht;cases hu:P.underlying kt with
 |none=>rw [hu] at ht;cases ht
 |some u=>
  rw [hu] at ht;cases u<;>first |(cases ht;done)|exact Ef d hu hx hy|exact Aa d hu hx hy|exact FZ h d hu hx hy
theorem F8 {kt:TypeId} (ht:NF P kt=true):YS P 8 kt=true:=by
 unfold NF at ht;unfold YS;cases hu:P.underlying kt with
 |none=>rw [hu] at ht;cases ht
 |some u=>
  rw [hu] at ht;cases u<;>first |(cases ht;done)|rfl
theorem Ac (h:Rn P f) {kt:TypeId} (ht:NF P kt=true) {k:Value} (hk:vs F k=true):∀(es:List MapEntry) (i:Nat),(∀e∈es,vs F e.key=true∧vs F e.val=true)->
 dN P F f (Dl F f k es i) (Instr.findAsking kt k es i) (Instr.findAsking kt (rv f k) (es.map (re f)) i)
 | [],i,_=>.ret (.inl ⟨rfl,rfl⟩)
 |e::es,i,he=>by
  simp only [aC];unfold Instr.findAsking;refine (Lj h ht 9999 ⟨rfl,hk⟩ ⟨rfl,(he e (aQ ..)).1⟩).bind ?_
  rintro b _ ⟨rfl,hb⟩;cases b with
  |true=>exact .ret (.inr ⟨0,_,rfl,rfl,(he e (aQ ..)).2,e,rfl,hb rfl⟩)
  |false=>exact (Ac h ht hk es (i+1) λe' he'=>he e' (aR _ he')).mono λ_ _ h=>h.later
theorem AZ (h:Rn P f) {kt:TypeId} (ht:NF P kt=true) {k:Value} (hk:vs F k=true) (es:List MapEntry) (he:∀e∈es,vs F e.key=true∧vs F e.val=true):
 dN P F f (Dl F f k es 0) (Instr.findKey kt k es) (Instr.findKey kt (rv f k) (es.map (re f))):=by
 unfold Instr.findKey;refine (eB kt).dY λd=>?_
 rcases Eg (F:=F) (f:=f) d k es 0 (λe h=>(he e h).2) with ⟨h1,h2⟩|⟨x,y,h1,h2,h3⟩
 ·rw [h1,h2];exact Ac h ht hk es 0 he
 ·rw [h1,h2];exact .ret h3
theorem vD (empty:Bool):∀(n d:Nat) (t:TypeId),YS P n t=true->∀{v:Value},vs F v=true->dN P F f Eq (Instr.checkKey empty d t v) (Instr.checkKey empty d t (rv f v))
 |0,_,_,h0,_,_=>by cases h0
 |n+1,0,_,_,_,_=>.bad trivial
 |n+1,d+1,t,ht,v,hv=>by
  unfold Instr.checkKey;refine (fD t).bind ?_
  rintro u _ ⟨rfl,hu⟩;unfold YS at ht;rw [hu] at ht;cases u with
  |struct fs=>
   rw [bC] at ht;cases v with
   |agg cs=>
    simp only [uw];refine dN.dY ?_ λr=>.ret rfl
    rw [<-Array.forIn_toList, <-Array.forIn_toList];refine FY fs.toList _ λfl hfl s=>?_
    split
    ·refine (BZ fl.type ⟨rfl,rV.1 hv⟩ _).bind ?_
     rintro p _ ⟨rfl,hp⟩;exact (vD empty n d fl.type (aV.1 ht.2 fl (by simpa using hfl)) hp).dY λ_=>.ret rfl
    ·exact .ret rfl
   |_=>exact .bad trivial
  |bool=>exact .ret rfl
  |int k=>exact .ret rfl
  |string=>exact .ret rfl
  |slice e=>exact .ret rfl
  |map k e=>exact .ret rfl
  |func a b c=>exact .ret rfl
  |_=>cases ht
def Ce (P:Program) (t:TypeId):Bool:=
 match P.underlying t with
 |some (.map k _)=>NF P k
 |_=>false
theorem NG (t:TypeId) {r r':Option Value} (hr:RX F f r r'):dN P F f (VR F f) (Instr.makeMap t r) (Instr.makeMap t r'):=by
 unfold Instr.makeMap
 have fin:dN P F f (VR F f) (do pure (.map (some (<-newObj (.map #[] 0))))) (do pure (.map (some (<-newObj (.map #[] 0))))):=by
  refine dN.bind (by have :=um (P:=P) (F:=F) (f:=f) (o:=.map #[] 0) (by intro e he;simp at he);simpa [ro] using this) ?_
  rintro r _ ⟨rfl,hr,_⟩;exact .ret ⟨by simp,by simpa using hr⟩
 rcases hr with ⟨rfl,rfl⟩|⟨v,rfl,rfl,hv⟩
 ·exact fin
 ·refine (eB t).dY λd=>?_
  cases d with
  |map k e=>exact (wO ⟨rfl,hv⟩).dY λ_=>fin
  |_=>exact .bad trivial
theorem NH {es:Array MapEntry} (h:∀e∈es,vs F e.key=true∧vs F e.val=true):∀e∈es.toList,vs F e.key=true∧vs F e.val=true:= λe he=>h e (by simpa using he)
theorem Qy (h:Rn P f) {t:TypeId} (ho:Ce P t=true) {m m' k k':Value} (hm:VR F f m m') (hk:VR F f k k') (ok:Bool):dN P F f (VR F f) (Instr.lookup t m k ok) (Instr.lookup t m' k' ok):=by
 obtain ⟨rfl,hms⟩:=hm;obtain ⟨rfl,hks⟩:=hk;unfold Instr.lookup;refine (fD t).bind ?_
 rintro u _ ⟨rfl,hu⟩;unfold Ce at ho;rw [hu] at ho;cases u with
 |map kt e=>
  dsimp only at ho;dsimp -zeta only
  extract_lets j1 j2 j2'
  have hj1:∀{v v':Value} (b:Bool),VR F f v v'->dN P F f (VR F f) (j1 (v,b)) (j1 (v',b)):=by
   intro v v' b hv;dsimp only [j1];cases ok
   ·exact .ret hv
   ·exact .ret (VR.tuple ((kZ.nil.push hv).push VR.bool))
  have hj2:∀es:Array MapEntry,(∀e∈es,vs F e.key=true∧vs F e.val=true)->dN P F f (VR F f) (j2 es) (j2' (es.map (re f))):=by
   intro es hes;dsimp only [j2,j2'];rw [show (es.map (re f)).isEmpty=es.isEmpty from by simp [Array.isEmpty],Array.toList_map];refine (vD es.isEmpty 8 _ kt (F8 ho) hks).dY λ_=>?_
   refine (AZ h ho hks es.toList (NH hes)).bind ?_
   rintro x y (⟨rfl,rfl⟩|⟨i,v,rfl,rfl,hv,e0,he0,hsb⟩)
   ·refine (EZ h.gK e).bind ?_
    intro z z' hz;exact hj1 false hz
   ·exact hj1 true ⟨rfl,hv⟩
  cases m with
  |map r=>
   rw [tF];cases r with
   |none=>
    have :=hj2 #[] (by intro e he;simp at he);rw [Array.map_empty] at this;exact this
   |some r=>
    refine (kV r (by simpa using hms)).bind ?_
    rintro o _ ⟨rfl,h1,h2⟩;cases o with
    |map es clock=>exact hj2 es h1
    |_=>exact .bad trivial
  |_=>exact .bad trivial
 |_=>cases ho
theorem yB {a b:Value} (hab:SB f a b) (ha:vs F a=true) (hb:vs F b=true):dN P F f (VR F f) (Instr.keyThatStays a b) (Instr.keyThatStays (rv f a) (rv f b)):=by
 unfold Instr.keyThatStays;rw [show Instr.sameBits 10000 (rv f a) (rv f b)=_ from hab];split
 ·exact .ret ⟨rfl,hb⟩
 ·refine (oq _).dY λn=>?_
  split
  ·exact .ret ⟨rfl,hb⟩
  ·exact .ret ⟨rfl,ha⟩
theorem kY (es:Array MapEntry) (i:Nat) (k:Value):(((es.map (re f))[i]?).map (·.key)).getD (rv f k)=rv f (((es[i]?).map (·.key)).getD k):=by
 rw [aG];cases es[i]?<;>rfl
theorem O7 {es:Array MapEntry} (hes:∀e∈es,vs F e.key=true∧vs F e.val=true) (i:Nat) {k:Value} (hk:vs F k=true):vs F (((es[i]?).map (·.key)).getD k)=true:=by
 cases h:es[i]? with
 |none=>exact hk
 |some e=>exact (hes e (bg h)).1
theorem A7 {g g':MapEntry->MapEntry} (hg:∀e,re f (g e)=g' (re f e)) (es:Array MapEntry) (i:Nat):(es.modify i g).map (re f)=(es.map (re f)).modify i g':=by
 apply Array.ext
 ·simp
 ·intro j h1 h2;simp only [Array.getElem_map,Array.getElem_modify];split
  ·rw [hg]
  ·rfl
theorem Dm {g:MapEntry->MapEntry} {es:Array MapEntry} (hes:∀e∈es,vs F e.key=true∧vs F e.val=true) (hg:∀e,vs F e.key=true∧vs F e.val=true->vs F (g e).key=true∧vs F (g e).val=true) (i:Nat):
 ∀e∈es.modify i g,vs F e.key=true∧vs F e.val=true:=by
 intro e he;obtain ⟨j,hj⟩:=Array.getElem?_of_mem he;rw [bB] at hj;split at hj
 ·obtain ⟨x,hx,rfl⟩:=Option.map_eq_some_iff.1 hj;exact hg x (hes x (bg hx))
 ·exact hes e (bg hj)
theorem O8 {es:Array MapEntry} (hes:∀e∈es,vs F e.key=true∧vs F e.val=true) {x:MapEntry} (hx:vs F x.key=true∧vs F x.val=true):∀e∈es.push x,vs F e.key=true∧vs F e.val=true:=
 λe he=>(Array.mem_push.1 he).elim (hes e) λh=>h ▸ hx
theorem wQ (r:Nat) (hA:F.A r=true) {es es':Array MapEntry} (c:Nat) (hes:∀e∈es,vs F e.key=true∧vs F e.val=true) (e:es'=es.map (re f)):
 dN P F f Eq (setObj r (.map es c)) (setObj (f r) (.map es' c)):=by subst e;exact rY r hA (o:=.map es c) hes rfl
theorem Cf (h:Rn P f) {t:TypeId} (ho:Ce P t=true) {m m' k k' v v':Value} (hm:VR F f m m') (hk:VR F f k k') (hv:VR F f v v'):dN P F f Eq (Instr.mapUpdate t m k v) (Instr.mapUpdate t m' k' v'):=by
 obtain ⟨rfl,hms⟩:=hm;obtain ⟨rfl,hks⟩:=hk;obtain ⟨rfl,hvs⟩:=hv;unfold Instr.mapUpdate;refine (fD t).bind ?_
 rintro u _ ⟨rfl,hu⟩;unfold Ce at ho;rw [hu] at ho;cases u with
 |map kt e=>
  dsimp only at ho ⊢;cases m with
  |map r=>
   rw [tF];cases r with
   |none=>exact fF _ _
   |some r=>
    have hA:F.A r=true:=by simpa using hms
    refine (kV r hA).bind ?_
    rintro o _ ⟨rfl,h1,h2⟩;cases o with
    |map es clock=>
     dsimp only [ro];rw [Array.toList_map];refine (vD false 8 _ kt (F8 ho) hks).dY λ_=>?_
     refine (AZ h ho hks es.toList (NH h1)).bind ?_
     rintro x y (⟨rfl,rfl⟩|⟨i,v0,rfl,rfl,hv0,e0,he0,hsb⟩)
     ·exact wQ r hA _ (O8 h1 ⟨hks,hvs⟩) (by rw [Array.map_push];rfl)
     ·simp only [Nat.zero_add];rw [kY];refine (yB (show SB f (((es[i]?).map (·.key)).getD k) k by rw [show es[i]?=some e0 by simpa using he0];exact hsb) (O7 h1 i hks) hks).bind ?_
      rintro k2 _ ⟨rfl,hk2⟩;exact wQ r hA _ (Dm (g:= λe=>{ key:=k2,val:=v,born:=e.born }) h1 (λe _=>⟨hk2,hvs⟩) i) (A7 (g:= λe=>{ key:=k2,val:=v,born:=e.born }) (g':= λe=>{ key:=rv f k2,val:=rv f v,born:=e.born }) (λe=>rfl) es i).symm
    |_=>exact .bad trivial
  |_=>exact .bad trivial
 |_=>cases ho
theorem Ll (h:Rn P f) {t:TypeId} (ho:Ce P t=true) {m m' k k':Value} (hm:VR F f m m') (hk:VR F f k k'):dN P F f (VR F f) (Instr.mapEntry t m k) (Instr.mapEntry t m' k'):=by
 obtain ⟨rfl,hms⟩:=hm;obtain ⟨rfl,hks⟩:=hk;unfold Instr.mapEntry;refine (fD t).bind ?_
 rintro u _ ⟨rfl,hu⟩;unfold Ce at ho;rw [hu] at ho;cases u with
 |map kt e=>
  dsimp only at ho ⊢;cases m with
  |map r=>
   rw [tF];cases r with
   |none=>exact fF _ _
   |some r=>
    have hA:F.A r=true:=by simpa using hms
    refine (kV r hA).bind ?_
    rintro o _ ⟨rfl,h1,h2⟩;cases o with
    |map es clock=>
     dsimp only [ro];rw [Array.toList_map];refine (vD false 8 _ kt (F8 ho) hks).dY λ_=>?_
     refine (AZ h ho hks es.toList (NH h1)).bind ?_
     rintro x y (⟨rfl,rfl⟩|⟨i,v,rfl,rfl,hv,e0,he0,hsb⟩)
     ·refine (EZ h.gK e).bind ?_
      rintro z _ ⟨rfl,hz⟩;refine (wQ r hA _ (O8 h1 ⟨hks,hz⟩) (by rw [Array.map_push];rfl)).dY λ_=>?_
      exact .ret (VR.tuple ((kZ.nil.push ⟨rfl,hz⟩).push VR.goInt))
     ·simp only [Nat.zero_add];rw [kY];refine (yB (show SB f (((es[i]?).map (·.key)).getD k) k by rw [show es[i]?=some e0 by simpa using he0];exact hsb) (O7 h1 i hks) hks).bind ?_
      rintro k2 _ ⟨rfl,hk2⟩;refine (wQ r hA _ (Dm (g:= λe=>{ key:=k2,val:=e.val,born:=e.born }) h1 (λe he=>⟨hk2,he.2⟩) i) (A7 (g:= λe=>{ key:=k2,val:=e.val,born:=e.born }) (g':= λe=>{ key:=rv f k2,val:=e.val,born:=e.born }) (λe=>rfl) es i).symm).dY λ_=>?_
      have eb:(((es.map (re f))[i]?).map (λe=>(e.born:Int))).getD 0=((es[i]?).map (λe=>(e.born:Int))).getD 0:=by
       rw [aG];cases es[i]?<;>rfl
      rw [eb];exact .ret (VR.tuple ((kZ.nil.push ⟨rfl,hv⟩).push VR.goInt))
    |_=>exact .bad trivial
  |_=>exact .bad trivial
 |_=>cases ho
theorem Ih (t:TypeId) {m m' k k' v v':Value} (hm:VR F f m m') (hk:VR F f k k') (hv:VR F f v v'):dN P F f Eq (Instr.entryStore t m k v) (Instr.entryStore t m' k' v'):=by
 obtain ⟨rfl,hms⟩:=hm;obtain ⟨rfl,hvs⟩:=hv;unfold Instr.entryStore;cases m with
 |map r=>
  rw [tF];cases r with
  |none=>exact .bad trivial
  |some r=>
   have hA:F.A r=true:=by simpa using hms
   refine (kV r hA).bind ?_
   rintro o _ ⟨rfl,h1,h2⟩;cases o with
   |map es clock=>
    dsimp only [ro];refine (wO hk).dY λborn=>?_
    have e1:(es.map (re f)).findIdx? (λe=>(e.born:Int)==born)=es.findIdx? (λe=>(e.born:Int)==born):=by
     rw [Array.findIdx?_map];rfl
    rw [e1];cases es.findIdx? (λe=>(e.born:Int)==born) with
    |none=>exact .bad trivial
    |some i=>exact wQ r hA _ (Dm (g:= λe=>{ key:=e.key,val:=v,born:=e.born }) h1 (λe he=>⟨he.1,hvs⟩) i) (A7 (g:= λe=>{ key:=e.key,val:=v,born:=e.born }) (g':= λe=>{ key:=e.key,val:=rv f v,born:=e.born }) (λe=>rfl) es i).symm
   |_=>exact .bad trivial
 |_=>exact .bad trivial
end
end
section
variable [Sh]
section
variable {P:Program} {F:Fit} {f:Nat->Nat} {α β γ δ:Type}
theorem TN (t:TypeId) {v v':Value} (hv:VR F f v v'):dN P F f (VR F f) (Instr.range t v) (Instr.range t v'):=by
 obtain ⟨rfl,hs⟩:=hv;unfold Instr.range;refine (eB t).dY λd=>?_
 have fin:∀o:Obj,oS F o->dN P F f (VR F f) (do pure (.pointer (some ⟨<-newObj o,0,none⟩))) (do pure (.pointer (some ⟨<-newObj (ro f o),0,none⟩))):=by
  intro o ho;refine (um ho).bind ?_
  rintro r _ ⟨rfl,hr,hl⟩;exact .ret (VR.ptr ⟨(EY hl).symm,hr⟩)
 cases d with
 |string=>
  cases v with
  |string s=>simp only [gM];exact fin (.stringIter s 0) trivial
  |_=>exact .bad trivial
 |map k e=>
  cases v with
  |map r=>
   rw [tF];cases r with
   |none=>exact fin (.mapIter none 0 #[] 0) rfl
   |some r=>
    have hA:F.A r=true:=by simpa using hs
    refine (kV r hA).bind ?_
    rintro o _ ⟨rfl,h1,h2⟩;cases o with
    |map es clock=>exact fin (.mapIter (some r) clock #[] clock) hA
    |_=>exact .bad trivial
  |_=>exact .bad trivial
 |_=>cases v<;>exact .bad trivial
theorem A8 (es:Array MapEntry) (p:Nat->Bool):(es.map (re f)).filter (λe=>p e.born)=(es.filter λe=>p e.born).map (re f):=by
 rw [Array.filter_map];rfl
theorem Qz (old new:Array MapEntry):((if old.isEmpty then #[none] else #[])++((old++new).map (re f)).map some:Array (Option MapEntry))=((if old.isEmpty then #[none] else #[])++(old++new).map some:Array (Option MapEntry)).map (Option.map (re f)):=by
 split<;>simp [Function.comp_def]
theorem WX (t:TypeId) (YQ:Bool) {v v':Value} (hv:VR F f v v'):dN P F f (VR F f) (Instr.next v YQ t) (Instr.next v' YQ t):=by
 obtain ⟨rfl,hs⟩:=hv;unfold Instr.next;have over:dN P F f (VR F f) (Pure.pure (.tuple #[.bool false])) (Pure.pure (.tuple #[.bool false])):=.ret (VR.tuple (kZ.nil.push VR.bool));cases v with
 |pointer a=>
  cases a with
  |none=>exact .bad trivial
  |some a=>
   obtain ⟨r,off,sp⟩:=a;cases off with
   |succ n=>exact .bad trivial
   |zero=>
    rw [eX];have hA:F.A r=true:=by simpa using hs
    cases hl:Sh.lk r with
    |true=>exact dN.ET hA hl
    |false=>
    simp only [ay,EY hl];refine (kV r hA).bind ?_
    rintro o _ ⟨rfl,h1,h2⟩;cases o with
    |stringIter s pos=>
     cases YQ with
     |false=>exact .bad trivial
     |true=>
      dsimp only [ro];split
      ·refine (rY r hA (o:=.stringIter s _) trivial rfl).dY λ_=>?_
       exact .ret (VR.tuple (((kZ.nil.push VR.bool).push VR.goInt).push VR.int))
      ·exact over
    |mapIter m since seen last=>
     cases YQ with
     |true=>cases m<;>exact .bad trivial
     |false=>
      cases m with
      |none=>exact over
      |some m=>
       dsimp only [ro,ay];refine (kV m h1).bind ?_
       rintro o _ ⟨rfl,h3,_⟩;cases o with
       |map es clock=>
        dsimp only [ro]
        have e1:(!seen.isEmpty&&!(es.map (re f)).isEmpty&&(es.map (re f)).all (·.born ≥ last))=(!seen.isEmpty&&!es.isEmpty&&es.all (·.born ≥ last)):=by
         rw [Array.all_map,show (es.map (re f)).isEmpty=es.isEmpty from by simp [Array.isEmpty]];rfl
        have e2:(es.map (re f)).filter (λe=>!seen.contains e.born)=(es.filter λe=>!seen.contains e.born).map (re f):=A8 es λb=>!seen.contains b
        rw [e1,e2];split
        ·exact .bad trivial
        ·generalize hl:es.filter (λe=>!seen.contains e.born)=left;have hlm:∀e∈left,vs F e.key=true∧vs F e.val=true:= λe he=>h3 e (by rw [<-hl] at he;exact (Array.mem_filter.1 he).1)
         have e3:(left.map (re f)).filter (λe=>decide (e.born<since))=(left.filter λe=>decide (e.born<since)).map (re f):=A8 left λb=>decide (b<since)
         have e4:(left.map (re f)).filter (λe=>decide (e.born ≥ since))=(left.filter λe=>decide (e.born ≥ since)).map (re f):=A8 left λb=>decide (b ≥ since)
         rw [e3,e4];generalize ho:left.filter (λe=>decide (e.born<since))=old;generalize hn:left.filter (λe=>decide (e.born ≥ since))=new
         have hom:∀e∈old++new,vs F e.key=true∧vs F e.val=true:= λe he=>by
          rcases Array.mem_append.1 he with he|he
          ·rw [<-ho] at he;exact hlm e (Array.mem_filter.1 he).1
          ·rw [<-hn] at he;exact hlm e (Array.mem_filter.1 he).1
         rw [<-Array.map_append,show (old.map (re f)).isEmpty=old.isEmpty from by simp [Array.isEmpty]]
         have e5:((if old.isEmpty then #[none] else #[])++((old++new).map (re f)).map some:Array (Option MapEntry))=((if old.isEmpty then #[none] else #[])++(old++new).map some:Array (Option MapEntry)).map (Option.map (re f)):=by
          exact Qz old new
         rw [e5,Array.size_map];generalize hc:((if old.isEmpty then #[none] else #[])++(old++new).map some:Array (Option MapEntry))=YT
         have hcm:∀e,some e∈YT->vs F e.key=true∧vs F e.val=true:= λe he=>by
          rw [<-hc] at he;rcases Array.mem_append.1 he with he|he
          ·split at he<;>simp at he
          ·obtain ⟨x,hx,hxe⟩:=Array.mem_map.1 he;cases hxe;exact hom _ hx
         refine (oq _).dY λn=>?_
         rw [aG];cases hg:YT[n]? with
         |none=>exact .bad trivial
         |some c=>
          cases c with
          |none=>exact over
          |some e=>
           have he:=hcm e (bg hg);refine (rY r hA (o:=.mapIter (some m) since (seen.push e.born) clock) h1 rfl).dY λ_=>?_
           exact .ret (VR.tuple (((kZ.nil.push VR.bool).push ⟨rfl,he.1⟩).push ⟨rfl,he.2⟩))
       |_=>exact .bad trivial
    |_=>cases YQ<;>exact .bad trivial
 |_=>exact .bad trivial
theorem NI {v v':Value} (hv:VR F f v v') (i:Nat):dN P F f (VR F f) (Instr.extract v i) (Instr.extract v' i):=by
 obtain ⟨rfl,hs⟩:=hv;unfold Instr.extract;cases v with
 |tuple vs=>
  rw [wz];have hv:kZ F f vs (vs.map (rv f)):=⟨rfl,wC.1 hs⟩;rcases hv.get i with ⟨h1,h2⟩|⟨v,h1,h2,h3⟩
  ·dsimp only;rw [h1];exact .bad trivial
  ·dsimp only;rw [h1,h2];exact .ret ⟨rfl,h3⟩
 |_=>exact .bad trivial
def NR (F:Fit) (f:Nat->Nat) (a b:Next):Prop:=
 match a with
 | .value v=>b= .value (rv f v)∧vs F v=true
 | .skip=>b= .skip
 | .enter g args=>b= .enter g (args.map (rv f))∧F.S g=true∧VS F args∧(F.V g=true∨args= #[])
 | .round l g t x y=>b= .round (f l) g (t.map (rv f)) x y∧F.A l=true∧F.S g=true∧VS F t∧F.code x=true∧F.code y=true
 |_=>False
structure Lm (P:Program) (F:Fit):Prop where
 body:∀g,F.S g=true->∃fn c,P.funcs[g]?=some fn∧fn.body=some c∧(fn.name== "runtime.NumGoroutine")=false∧F.code c=true
 sub:∀g,F.V g=true->F.S g=true
theorem Eh (h:Lm P F) {g:FuncId} (hg:F.S g=true) {as as':Array Value} (hv:F.V g=true∨as= #[]) (ha:kZ F f as as'):dN P F f (NR F f) (callFunc g as) (callFunc g as'):=by
 obtain ⟨fn,c,h1,h2,h3,_⟩:=h.body g hg;unfold callFunc
 refine .wF ?_ (λQ hQ=>by
  obtain ⟨hh,e1,e2⟩:=hQ.get g;obtain ⟨b,e3,e4⟩:=e2 fn;obtain ⟨c',hc'⟩:=Option.isSome_iff_exists.1 (e4 (by rw [h2];rfl));subst hc';rw [e1,h1];simp only [ay,e3,h3,h2];rfl)
 rw [h1];dsimp only;rw [h3];simp only [bD,if_false,h2,Option.isNone_some];exact .ret ⟨by rw [ha.1],hg,ha.2,hv⟩
theorem NJ {ps:List (Tmp×Value)}:∀{t t':Array Value},kZ F f t t'->(∀x∈ps,vs F x.2=true)->
 kZ F f (ps.foldl (λtmps (x:Tmp×Value)=>tmps.setIfInBounds x.1 x.2) t) ((ps.map λx=>(x.1,rv f x.2)).foldl (λtmps (x:Tmp×Value)=>tmps.setIfInBounds x.1 x.2) t'):=by
 induction ps with
 |nil=>intro t t' h _;exact h
 |cons p ps ih=>
  intro t t' h hp;simp only [aC,List.foldl_cons];refine ih ⟨by rw [h.1,Array.map_setIfInBounds], λy hy=>?_⟩ λx hx=>hp x (aR _ hx)
  rcases bH hy with hy|rfl
  ·exact h.2 y hy
  ·exact hp p (aQ ..)
theorem uK (l:Nat) (hA:F.A l=true):dN P F f (λa b=>b= { a with tmps:=a.tmps.map (rv f),defers:=f a.defers }∧oS F (.loop a)) (Instr.getLoop l) (Instr.getLoop (f l)):=by
 unfold Instr.getLoop;refine (kV l hA).bind ?_
 rintro o _ ⟨rfl,h1,h2⟩;cases o with
 |loop a=>exact .ret ⟨rfl,h1⟩
 |_=>exact .bad trivial
theorem TP (l:Nat) (hA:F.A l=true) {as as':Array Value} (ha:kZ F f as as'):dN P F f (NR F f) (Instr.yield l as) (Instr.yield (f l) as'):=by
 unfold Instr.yield;refine (uK l hA).bind ?_
 rintro r _ ⟨rfl,h1,h2,h3,h4,h5,h6⟩;dsimp only;rw [ha.size];split
 ·exact .bad trivial
 ·refine .ret ⟨?_,hA,h2,?_,h4,h5⟩
  all_goals
   have key:=NJ (F:=F) (f:=f) (ps:=(r.params.zip as).toList) (t:=r.tmps) (t':=r.tmps.map (rv f)) ⟨rfl,h1⟩ (λx hx=>ha.2 x.2 (by
    have h7:(x.1,x.2)∈r.params.toList.zip as.toList:=by simpa using hx
    simpa using (List.of_mem_zip h7).2))
  ·have e:(r.params.zip as').toList=(r.params.zip as).toList.map λx=>(x.1,rv f x.2):=by
    rw [ha.1];simp [List.zip_map_right]
   have k1:=key.1;rw [<-Array.foldl_toList, <-Array.foldl_toList,e];exact congrArg (λt=>Next.round (f l) r.fn t r.assign r.body) k1
  ·rw [<-Array.foldl_toList];exact key.2
end
end
section
variable [Sh]
def cOk (F:Fit):Value->Bool
 | .func (.func g) a b=>F.V g&&a.isEmpty&&b.isEmpty
 |v=>uB v
def fB (P:Program) (F:Fit):Operand->Bool
 | .tmp _=>true
 | .const v=>cOk F v
 | .global _=>false
 | .func g=>F.V g
def F9 (F:Fit):Operand->Bool
 | .func g=>F.S g
 | .const (.func (.func g) a b)=>F.S g&&a.isEmpty&&b.isEmpty
 |_=>false
def IU:Builtin->Bool
 | .append| .cap| .copy| .len| .max| .min=>true
 |_=>false
def xP (P:Program) (F:Fit) (c:Call):Bool:=
 c.args.all (fB P F)&&match c.callee with
  | .value x=>fB P F x||(c.args.isEmpty&&F9 F x)
  | .builtin b=>IU b
  | .invoke .. =>false
def lq (P:Program) (F:Fit):Op->Bool
 | .move x| .assign x| .nilCheck x| .unOp _ _ x| .box _ x| .load _ x| .field _ x _| .extract x _| .makeInterface _ x| .range _ x| .next x _=>fB P F x
 | .pick c a b=>fB P F c&&fB P F a&&fB P F b
 | .alloc _=>true
 | .build _ ps| .buildSlice _ _ ps=>ps.all λx=>fB P F x.2
 | .store _ a x| .makeSlice _ a x| .indexAddr _ a x| .index _ a x=>fB P F a&&fB P F x
 | .binOp op t x y _=>fB P F x&&fB P F y&&TL P op t x y
 | .convert s d x=>fB P F x&&NB P s d
 | .makeFunc fn a b=>Yy F fn&&(match fn with | .yield _=>false|_=>true)&&a.all (fB P F)&&b.all (fB P F)
 | .makeMap _ r=>r.all (fB P F)
 | .slice _ x l h m=>fB P F x&&l.all (fB P F)&&h.all (fB P F)&&m.all (fB P F)
 | .fieldAddr t x i=>fB P F x&&JS P t i
 | .lookup t x k _=>fB P F x&&fB P F k&&Ce P t
 | .mapUpdate t m k v| .insert t m k v=>fB P F m&&fB P F k&&fB P F v&&Ce P t
 | .mapEntry t m k=>fB P F m&&fB P F k&&Ce P t
 | .entryStore _ m k v=>fB P F m&&fB P F k&&fB P F v
 | .call c=>xP P F c
 | .panic _=>true
 |_=>false
section
variable {P:Program} {F:Fit} {f:Nat->Nat} {α β γ δ:Type}
theorem ZY {v:Value} (h:cOk F v=true):VR F f v v:=by
 have pl:uB v=true->VR F f v v:= λh=>⟨(CS (F:=F) (f:=f) h).1.symm,(CS (F:=F) (f:=f) h).2⟩
 cases v with
 |func fn a b=>
  cases fn with
  |func g=>
   simp only [cOk,bC] at h;obtain ⟨⟨h1,h2⟩,h3⟩:=h;have ea:a= #[]:=by simpa [Array.isEmpty] using h2
   have eb:b= #[]:=by simpa [Array.isEmpty] using h3
   subst ea;subst eb;exact ⟨by simp [V7],xz.2 ⟨h1,by intro x hx;simp at hx,by intro x hx;simp at hx⟩⟩
  |_=>exact pl h
 |_=>exact pl h
theorem tY (hR:Rn P f) {fr fr':Frame} (ht:kZ F f fr.tmps fr'.tmps) {x:Operand} (hx:fB P F x=true):VR F f (fr.eval x) (fr'.eval x):=by
 cases x with
 |tmp t=>
  show VR F f (fr.tmps.getD t undef) (fr'.tmps.getD t undef);rw [aA,aA];rcases ht.get t with ⟨h1,h2⟩|⟨v,h1,h2,h3⟩
  ·rw [h1,h2];exact ⟨by simp,by simp⟩
  ·rw [h1,h2];exact ⟨rfl,h3⟩
 |const v=>exact ZY hx
 |global g=>exact absurd hx (by simp [fB])
 |func g=>exact ⟨by show Value.func (.func g) #[] #[]=rv f (.func (.func g) #[] #[]);simp [V7],xz.2 ⟨hx,by intro x hx;simp at hx,by intro x hx;simp at hx⟩⟩
theorem Ga (hR:Rn P f) {fr fr':Frame} (ht:kZ F f fr.tmps fr'.tmps) {xs:Array Operand} (hx:xs.all (fB P F)=true):kZ F f (xs.map fr.eval) (xs.map fr'.eval):=by
 refine ⟨?_, λv hv=>?_⟩
 ·rw [Array.map_map];exact Array.map_congr_left λx h=>(tY hR ht (aV.1 hx x h)).1
 ·obtain ⟨x,h,rfl⟩:=Array.mem_map.1 hv;exact (tY hR ht (aV.1 hx x h)).2
theorem Cg (hR:Rn P f) {fr fr':Frame} (ht:kZ F f fr.tmps fr'.tmps) {x:Option Operand} (hx:x.all (fB P F)=true):RX F f (x.map fr.eval) (x.map fr'.eval):=by
 cases x with
 |none=>exact .inl ⟨rfl,rfl⟩
 |some x=>
  have :=tY hR ht (by simpa using hx:fB P F x=true);exact .inr ⟨_,rfl,by rw [ay,this.1],this.2⟩
theorem Lp (hR:Rn P f) {fr fr':Frame} (ht:kZ F f fr.tmps fr'.tmps) {ps:Array (Nat×Operand)} (hx:(ps.all λx=>fB P F x.2)=true):
 (ps.map λ(i,x)=>(i,fr'.eval x))=(ps.map λ(i,x)=>(i,fr.eval x)).map (λx=>(x.1,rv f x.2))∧∀x∈ps.map (λ(i,x)=>(i,fr.eval x)),vs F x.2=true:=by
 have key:∀x∈ps,VR F f (fr.eval x.2) (fr'.eval x.2):= λx h=>tY hR ht (aV.1 hx x h)
 refine ⟨?_, λx hx=>?_⟩
 ·rw [Array.map_map]
  exact Array.map_congr_left λx h=>by
   obtain ⟨i,y⟩:=x;exact congrArg (Prod.mk i) (key _ h).1
 ·obtain ⟨y,hy,rfl⟩:=Array.mem_map.1 hx;exact (key y hy).2
theorem fK {m m':Sem Value} (h:dN P F f (VR F f) m m'):dN P F f (NR F f) (do pure (.value (<-m))) (do pure (.value (<-m'))):=
 h.bind λa b hab=>.ret ⟨by rw [hab.1],hab.2⟩
theorem EH {m m':Sem Unit} (h:dN P F f Eq m m'):dN P F f (NR F f) (do m;pure .skip) (do m';pure .skip):=
 h.dY λ_=>.ret rfl
theorem Ew:∀(w:World) (es:Array Event),(∃x w' es',Sem.runT P Instr.panicnil w es=(.halt x w',es')∧Kz x∧DK w w')∨∃a w' es',Sem.runT P Instr.panicnil w es=(.ok a w',es')∧DK w w':=by
 intro w es;have hk:DK w (w.sys .env).2:= λr ds h=>by rw [Kw] at h;exact h
 unfold Instr.panicnil sys;simp only [Go.program,Bind.bind,Sem.bind,Sem.runT];cases (w.sys .env).1 with
 |strings env=>exact .inr ⟨_,_,_,rfl,hk⟩
 |_=>exact .inl ⟨_,_,_,rfl,trivial,hk⟩
theorem TR (v v':Value):dN P F f (VR F f) (Instr.panic v) (Instr.panic v'):=.oP λw es=>by
 cases v with
 |iface t x=>exact ⟨_,_,_,rfl,trivial,DK.refl⟩
 |nilIface=>
  unfold Instr.panic;refine mP Ew (λa w es=>?_) w es
  by_cases h:(a==1)=true
  ·rw [aj h];exact ⟨_,_,_,rfl,trivial,DK.refl⟩
  ·rw [aa h];exact tX _ w es
 |_=>exact ⟨_,_,_,rfl,trivial,DK.refl⟩
theorem xQ (hF:Lm P F) {v v':Value} (hv:VR F f v v') {as as':Array Value} (ha:kZ F f as as'):
 dN P F f (NR F f) (do let d <-Deferred.ofValue v as;invoke d.target d.args) (do let d <-Deferred.ofValue v' as';invoke d.target d.args):=by
 obtain ⟨rfl,hs⟩:=hv;cases v with
 |func fn first cap=>
  obtain ⟨h1,h2,h3⟩:=xz.1 hs;rw [tN];have happ:kZ F f (first ++as) (first.map (rv f)++as'):=kZ.append ⟨rfl,h2⟩ ha;cases fn with
  |func g=>exact Eh hF (hF.sub g h1) (.inl h1) (happ.append ⟨rfl,h3⟩)
  |yield l=>exact TP l h1 happ
  |_=>cases h1
 |nilFunc=>rw [nV];exact fF (α:=Next) .nilDeref _
 |_=>exact .bad trivial
theorem NK (hR:Rn P f) {b:Builtin} (hb:IU b=true) (ts:Array TypeId) (t:TypeId) (cs:Array Bool) {as as':Array Value} (ha:kZ F f as as'):
 dN P F f (NR F f) (builtin b ts t cs as) (builtin b ts t cs as'):=by
 cases b<;>first
  |(cases hb;done)
  |exact fK (Qs hR.gK ts t ha)
  |exact fK (ZU ts t ha)
  |exact fK (WU ts t ha)
  |exact fK (ZT ts t ha)
  |exact fK (ZV ts t ha)
  |exact fK (ZX ts t ha)
theorem WY (hR:Rn P f) (hF:Lm P F) {fr fr':Frame} (ht:kZ F f fr.tmps fr'.tmps) {c:Call} (hc:xP P F c=true) (t:TypeId):
 dN P F f (NR F f) (do let d <-resolve fr.eval c t;invoke d.target d.args) (do let d <-resolve fr'.eval c t;invoke d.target d.args):=by
 unfold xP at hc;rw [bC] at hc;have ha:=Ga hR ht hc.1;have h2:=hc.2;unfold resolve;cases hcl:c.callee with
 |value x=>
  rw [hcl] at h2;rcases Bool.or_eq_true_iff.1 h2 with h2|h2
  ·exact xQ hF (tY hR ht h2) ha
  ·rw [bC] at h2;have ea:c.args= #[]:=by simpa [Array.isEmpty] using h2.1
   obtain ⟨g,hg,e1⟩:∃g,F.S g=true∧∀fr:Frame,fr.eval x= .func (.func g) #[] #[]:=by
    have h3:=h2.2;cases x with
    |func g=>exact ⟨g,h3, λ_=>rfl⟩
    |const v=>
     cases v with
     |func fn a b=>
      cases fn with
      |func g=>
       simp only [F9,bC] at h3;obtain ⟨⟨h3,h4⟩,h5⟩:=h3;have e4:a= #[]:=by simpa [Array.isEmpty] using h4
       have e5:b= #[]:=by simpa [Array.isEmpty] using h5
       subst e4 e5;exact ⟨g,h3, λ_=>rfl⟩
      |_=>cases h3
     |_=>cases h3
    |_=>cases h3
   simp only [e1,ea,List.map_toArray,List.map_nil];exact Eh (as:= #[]) (as':= #[]) hF hg (.inr rfl) ⟨by simp,by intro v hv;simp at hv⟩
 |builtin b=>rw [hcl] at h2;exact NK hR h2 _ _ _ ha
 |invoke r n=>rw [hcl] at h2;cases h2
theorem IV (hR:Rn P f) (hF:Lm P F) {fr fr':Frame} (ht:kZ F f fr.tmps fr'.tmps) {o:Oper} (ho:lq P F o.op=true):dN P F f (NR F f) (execOp fr.eval o) (execOp fr'.eval o):=by
 unfold execOp;have ev:∀{x:Operand},fB P F x=true->VR F f (fr.eval x) (fr'.eval x):= λh=>tY hR ht h
 have av:∀{x:Operand},fB P F x=true->dN P F f (NR F f) (Pure.pure (.value (fr.eval x))) (Pure.pure (.value (fr'.eval x))):= λh=>.ret ⟨by rw [(ev h).1],(ev h).2⟩
 cases hop:o.op with
 |move x=>rw [hop] at ho;exact av ho
 |assign x=>rw [hop] at ho;exact av ho
 |pick c a b=>
  rw [hop] at ho;simp only [lq,bC] at ho;refine (Di (ev ho.1.1)).dY λt=>?_
  cases t
  ·exact av ho.2
  ·exact av ho.1.2
 |alloc t=>exact fK (TA hR.gK t)
 |box t x=>rw [hop] at ho;exact fK (ZR t (ev ho))
 |build t ps=>
  rw [hop] at ho;have :=Lp hR ht ho;exact fK (TE hR.gK t this.1 this.2)
 |buildSlice t n ps=>
  rw [hop] at ho;have :=Lp hR ht ho;exact fK (Ig hR.gK t n this.1 this.2)
 |load t a=>rw [hop] at ho;exact fK (Qq t (ev ho))
 |store t a x=>
  rw [hop] at ho;simp only [lq,bC] at ho;exact EH (Nq t (ev ho.1) (ev ho.2))
 |nilCheck x=>
  rw [hop] at ho;obtain ⟨e,hs⟩:=ev (x:=x) ho;dsimp only;rw [e];generalize fr.eval x=v at hs;cases v with
  |pointer a=>
   rw [eX];cases a with
   |none=>exact fF (α:=Next) .nilDeref _
   |some a=>exact .ret ⟨by simp,hs⟩
  |nilIface=>exact fF (α:=Next) .nilDeref _
  |nilFunc=>exact fF (α:=Next) .nilDeref _
  |func fn a b=>
   have h1:=(xz.1 hs).1;rw [tN];cases fn with
   |func g=>exact .ret ⟨by simp,hs⟩
   |yield l=>exact .ret ⟨by simp,hs⟩
   |_=>cases h1
  |_=>exact .ret ⟨rfl,hs⟩
 |binOp op t x y yt=>
  rw [hop] at ho;simp only [lq,bC] at ho;exact fK (TM hR ho.2 (ev ho.1.1) (ev ho.1.2) (λv e=>by subst e;rfl) (λv e=>by subst e;rfl))
 |unOp op t x=>rw [hop] at ho;exact fK (TG op (ev ho))
 |convert s d x=>
  rw [hop] at ho;simp only [lq,bC] at ho;exact fK (NC ho.2 (ev ho.1))
 |makeInterface t x=>
  rw [hop] at ho;refine fK ?_
  unfold Instr.makeInterface;refine (eB t).dY λd=>?_
  cases d<;>first |exact .bad trivial|exact .ret (VR.iface (ev ho))
 |makeFunc fn a b=>
  rw [hop] at ho;simp only [lq,bC] at ho;obtain ⟨⟨⟨h1,h2⟩,h3⟩,h4⟩:=ho;have ha:=Ga hR ht h3;have hb:=Ga hR ht h4;refine fK (.ret ⟨?_,xz.2 ⟨h1,ha.2,hb.2⟩⟩);rw [tN,ha.1,hb.1];cases fn<;>first |rfl|cases h2
 |makeMap t r=>rw [hop] at ho;exact fK (NG t (Cg hR ht ho))
 |makeSlice t l c=>
  rw [hop] at ho;simp only [lq,bC] at ho;exact fK (JU hR.gK t (ev ho.1) (ev ho.2))
 |slice t x l h m=>
  rw [hop] at ho;simp only [lq,bC] at ho;exact fK (Nt t (ev ho.1.1.1) (Cg hR ht ho.1.1.2) (Cg hR ht ho.1.2) (Cg hR ht ho.2))
 |fieldAddr t x i=>
  rw [hop] at ho;simp only [lq,bC] at ho;exact fK (Nr ho.2 (ev ho.1))
 |field t x i=>rw [hop] at ho;exact fK (TB t (ev ho) i)
 |indexAddr t x i=>
  rw [hop] at ho;simp only [lq,bC] at ho;exact fK (Ns t (ev ho.1) (ev ho.2))
 |index t x i=>
  rw [hop] at ho;simp only [lq,bC] at ho;exact fK (TC t (ev ho.1) (ev ho.2))
 |lookup t x k ok=>
  rw [hop] at ho;simp only [lq,bC] at ho;exact fK (Qy hR ho.2 (ev ho.1.1) (ev ho.1.2) ok)
 |mapUpdate t m k v=>
  rw [hop] at ho;simp only [lq,bC] at ho;exact EH (Cf hR ho.2 (ev ho.1.1.1) (ev ho.1.1.2) (ev ho.1.2))
 |insert t m k v=>
  rw [hop] at ho;simp only [lq,bC] at ho;exact EH (Cf hR ho.2 (ev ho.1.1.1) (ev ho.1.1.2) (ev ho.1.2))
 |mapEntry t m k=>
  rw [hop] at ho;simp only [lq,bC] at ho;exact fK (Ll hR ho.2 (ev ho.1.1) (ev ho.1.2))
 |entryStore t m k v=>
  rw [hop] at ho;simp only [lq,bC] at ho;exact EH (Ih t (ev ho.1.1) (ev ho.1.2) (ev ho.2))
 |range t x=>rw [hop] at ho;exact fK (TN t (ev ho))
 |next x s=>rw [hop] at ho;exact fK (WX _ s (ev ho))
 |extract x i=>rw [hop] at ho;exact fK (NI (ev ho) i)
 |call c=>rw [hop] at ho;exact WY hR hF ht ho _
 |panic x=>exact fK (TR _ _)
 |_=>rw [hop] at ho;cases ho
end
end
end Par
namespace Par
open Go Go.Conc
section
variable [Sh]
def codeOk (P:Program) (F:Fit):Code->Bool
 | .skip| .exit _| .ret| .refuse _| .label _=>true
 | .goto _=>false
 | .region _ ops _=>ops.all λo=>lq P F o.op
 | .seq a b=>codeOk P F a&&codeOk P F b
 | .cond c a b=>fB P F c&&codeOk P F a&&codeOk P F b
 | .block _ c| .loop c| .scope c=>codeOk P F c
 | .rangeFunc x _ a b=>fB P F x&&codeOk P F a&&codeOk P F b
structure nM (P:Program) (F:Fit):Prop where
 fit:Lm P F
 code:∀c,F.code c=codeOk P F c
def vE (f:Nat->Nat):Item->Item
 | .inRangeFunc l=>.inRangeFunc (f l)
 | .endRangeFunc l=>.endRangeFunc (f l)
 |x=>x
def Dn (P:Program) (F:Fit):Item->Prop
 | .code c=>F.code c=true
 | .inBlock _=>True
 | .inLoop c=>F.code c=true
 | .inScope c=>F.code c=true
 | .inRegion ops _=>(ops.all λo=>lq P F o.op)=true
 | .inRangeFunc l=>F.A l=true
 | .endRangeFunc l=>F.A l=true
 | .beginRound=>True
 | .call .. =>False
 | .extern .. =>False
def Lr (r:Nat):Deferred:={ target:=.collected r,args:= #[] }
structure mU (P:Program) (F:Fit) (fr:Frame):Prop where
 fn:F.S fr.fn=true
 tmps:VS F fr.tmps
 todo:∀i∈fr.todo,Dn P F i
 defers:∀d∈fr.defers,∃r,d=Lr r∧F.A r=true
 kind:fr.kind= .normal
 round:∀l,fr.roundOf=some l->F.A l=true
def jv (f:Nat->Nat) (fr:Frame):Frame:=
 { fr with tmps:=fr.tmps.map (rv f),todo:=fr.todo.map (vE f),defers:=fr.defers.map (rd f),roundOf:=fr.roundOf.map f }
section
variable {P:Program} {F:Fit} {f:Nat->Nat} {w W:World}
theorem mU.vsr {fr:Frame} (h:mU P F fr):kZ F f fr.tmps (jv f fr).tmps:=⟨rfl,h.tmps⟩
theorem Ls (ops:Array Oper) (tmps:Array Value):yielded ops (tmps.map (rv f))=yielded ops tmps:=by
 funext j;unfold yielded;cases h:(ops[j]?).bind (·.dst) with
 |none=>rfl
 |some d=>
  simp only [Option.bind_some,aG];cases ht:tmps[d]? with
  |none=>rfl
  |some v=>cases v<;>simp
theorem uL (fr:Frame) (v:Value) (hno:∀i∈fr.todo,Dn P F i):(jv f fr).finish (rv f v)=jv f (fr.finish v):=by
 cases ht:fr.todo with
 |nil=>simp [Frame.finish,jv,ht]
 |cons i k=>
  have hi:Dn P F i:=hno i (by simp [ht]);cases i with
  |inRegion ops l=>
   cases l with
   |nil=>simp [Frame.finish,jv,ht,vE]
   |cons x rest=>
    simp only [Frame.finish,jv,ht,aC,vE];cases (ops[x]?).bind (·.dst) with
    |none=>rfl
    |some d=>simp [Array.map_setIfInBounds]
  |call _ _ _ _=>exact hi.elim
  |extern _ _=>exact hi.elim
  |_=>simp [Frame.finish,jv,ht,vE]
theorem mU.finish {fr:Frame} (h:mU P F fr) {v:Value} (hv:vs F v=true):mU P F (fr.finish v):=by
 obtain ⟨h1,h2,h3,h4,h5,h6⟩:=h;unfold Frame.finish;split
 ·rename_i ops i rest k ht;rw [ht] at h3;refine ⟨h1,?_,?_,h4,h5,h6⟩
  ·dsimp only;split
   ·intro x hx;rcases bH hx with hx|rfl
    ·exact h2 x hx
    ·exact hv
   ·exact h2
  ·intro x hx;rcases bE.1 hx with rfl|hx
   ·exact h3 (.inRegion ops (i::rest)) (by simp)
   ·exact h3 x (by simp [hx])
 ·rename_i l k ht;rw [ht] at h3;refine ⟨h1,h2, λx hx=>?_,h4,h5,h6⟩;rcases bE.1 hx with rfl|hx
  ·exact h3 (.inRangeFunc l) (by simp)
  ·exact h3 x (by simp [hx])
 ·rename_i k ht;rw [ht] at h3;exact ⟨h1,h2, λx hx=>h3 x (by simp [hx]),h4,h5,h6⟩
 ·rename_i ht;rw [ht] at h3;exact az (h3 (.call _ _ _ _) (aQ ..))
 ·rename_i ht;rw [ht] at h3;exact az (h3 (.extern _ _) (aQ ..))
 ·exact ⟨h1,h2,h3,h4,h5,h6⟩
theorem mU.enter (hF:nM P F) {g:FuncId} (hg:F.S g=true) {as:Array Value} (ha:VS F as):mU P F (Frame.enter P g as .normal):=by
 obtain ⟨fn,c,h1,h2,_,h4⟩:=hF.fit.body g hg;refine ⟨hg, λx hx=>?_, λi hi=>?_,by simp [Frame.enter],rfl,by simp [Frame.enter]⟩
 ·rcases Array.mem_append.1 hx with hx|hx
  ·exact ha x hx
  ·rw [(Array.mem_replicate.1 hx).2];exact uy
 ·simp [Frame.enter,h1,h2] at hi;subst hi;exact h4
theorem Dq (hF:nM P F) {g:FuncId} (hg:F.S g=true) (as:Array Value):Frame.enter P g (as.map (rv f)) .normal=jv f (Frame.enter P g as .normal):=by
 obtain ⟨fn,c,h1,h2,_,h4⟩:=hF.fit.body g hg;simp [Frame.enter,jv,h1,h2,vE,Array.map_append,Array.map_replicate]
theorem mU.rnd {l:Nat} {g:FuncId} {t:Array Value} {a b:Code} (hl:F.A l=true) (hg:F.S g=true) (ht:VS F t) (ha:F.code a=true) (hb:F.code b=true):mU P F (Frame.round l g t a b .normal):=
 ⟨hg,ht, λi hi=>by simp [Frame.round] at hi;rcases hi with rfl|rfl|rfl<;>first |exact ha|exact trivial|exact hb,by simp [Frame.round],rfl, λl' hl'=>by simp [Frame.round] at hl';subst hl';exact hl⟩
theorem QA (l:Nat) (g:FuncId) (t:Array Value) (a b:Code):Frame.round (f l) g (t.map (rv f)) a b .normal=jv f (Frame.round l g t a b .normal):=by
 simp [Frame.round,jv,vE]
theorem Lu (P:Program) (fn:FuncId) (u:Array Event):seen P fn (u.map (rev f))=(seen P fn u).map (rev f):=by
 have step:∀(quiet:FuncId->Bool) (x:Bool×Array Event) (e:Event),seenStep quiet (x.1,x.2.map (rev f)) (rev f e)=((seenStep quiet x e).1,(seenStep quiet x e).2.map (rev f)):=by
  intro quiet x e;obtain ⟨q,a⟩:=x;obtain ⟨loc,wr,sy⟩:=e
  have plain:∀s:Bool,(rev f ⟨loc,wr,sy⟩).sync=s->(if (q&&!s)=true then a.map (rev f) else (a.map (rev f)).push (rev f ⟨loc,wr,sy⟩))=(if (q&&!s)=true then a else a.push ⟨loc,wr,sy⟩).map (rev f):=by
   intro s _;split
   ·rfl
   ·rw [Array.map_push]
  have hs:(rev f ⟨loc,wr,sy⟩).sync=sy:=by rfl
  cases loc with
  |mark m=>cases m<;>first |rfl|exact congrArg (Prod.mk q) (plain sy hs)
  |_=>exact congrArg (Prod.mk q) (plain sy hs)
 have key:∀(quiet:FuncId->Bool) (l:List Event) (x:Bool×Array Event),(l.map (rev f)).foldl (seenStep quiet) (x.1,x.2.map (rev f))=((l.foldl (seenStep quiet) x).1,(l.foldl (seenStep quiet) x).2.map (rev f)):=by
  intro quiet l
  induction l with
  |nil=>intro x;rfl
  |cons e l ih=>
   intro x;simp only [aC,List.foldl_cons];rw [step,ih]
 rw [seen_def,seen_def,Array.toList_map];have :=key (λf=>(P.funcs[f]?).any (·.norace)) u.toList ((P.funcs[fn]?).any (·.norace),#[]);rw [Array.map_empty] at this;rw [this]
end
end
section
variable [Sh]
def yC (P:Program) (F:Fit):Frame->List Frame->Prop
 |fr,[]=>mU P F fr∧fr.roundOf=none
 |fr,g::up=>mU P F fr∧g.mode= .run∧yC P F g up
def coll (F:Fit) (fr:Frame):Prop:=∀d∈fr.defers,∃r,d=Lr r∧F.A r=true
def PS (F:Fit) (cs:List Frame) (g:Goroutine) (w:World):Prop:=
 ∃fr up chain,g=G fr (up++cs)∧fr.mode= .panicking chain∧(∀x∈fr::up,coll F x)∧ES F w
def gw:GStep->World
 | .go _ w _| .comm _ _ _ _ w _| .spawn _ _ w _| .count _ w _| .timer _ _ w _| .alone _ _ w _| .newcoro _ _ _ w _| .coroswitch _ _ _ w _| .collect _ w _| .watch _ w _| .ended _ w _=>w
def Top (P Q:Program) (F:Fit) (f:Nat->Nat) (fr:Frame) (up:List Frame) (X:Frame):Prop:=
 X=jv f fr∨∃g as,F.S g=true∧VS F as∧(F.V g=true∨as= #[])∧up≠ []∧fr=Frame.enter P g as .normal∧X=Frame.enter Q g (as.map (rv f)) .normal
def SR (P Q:Program) (F:Fit) (f:Nat->Nat) (cs K:List Frame) (w W:World) (s S:GStep):Prop:=
 Out F w (gw s)∨match s with
 | .ended .. =>True
 | .go g w1 es=>PS F cs g w1∨∃vk zZ X W1 es',g=G vk (zZ++cs)∧yC P F vk zZ∧(vk.mode= .run∨vk.mode= .returning)∧Top P Q F f vk zZ X∧
     S= .go (G X (zZ.map (jv f)++K)) W1 es'∧Mv F f w W w1 W1∧CR F f w1 #[] #[] es es'
 |_=>False
section
variable {P Q:Program} {F:Fit} {f:Nat->Nat} {w W:World} {cs K:List Frame}
theorem yC.top {fr:Frame} {up:List Frame} (h:yC P F fr up):mU P F fr:=by
 cases up with
 |nil=>exact h.1
 |cons g up=>exact h.1
theorem yC.set {fr fr':Frame} {up:List Frame} (h:yC P F fr up) (h1:mU P F fr') (h2:fr'.roundOf=fr.roundOf):yC P F fr' up:=by
 cases up with
 |nil=>exact ⟨h1,h2.trans h.2⟩
 |cons g up=>exact ⟨h1,h.2⟩
theorem yC.push {fr fr':Frame} {up:List Frame} (h:yC P F fr up) (h1:mU P F fr') (hm:fr.mode= .run):yC P F fr' (fr::up):=⟨h1,hm,h⟩
theorem yC.coll:∀{fr:Frame} {up:List Frame},yC P F fr up->∀x∈fr::up,coll F x
 |fr,[],h=>by intro x hx;simp at hx;subst hx;exact h.1.defers
 |fr,g::up,h=>by
  intro x hx;rcases bE.1 hx with rfl|hx
  ·exact h.1.defers
  ·exact yC.coll h.2.2 x hx
theorem mU.todo' {fr:Frame} (h:mU P F fr) {t:List Item} (ht:∀i∈t,Dn P F i):mU P F { fr with todo:=t }:=
 ⟨h.fn,h.tmps,ht,h.defers,h.kind,h.round⟩
theorem pE (fr:Frame) (v:Value):(fr.finish v).roundOf=fr.roundOf:=by
 unfold Frame.finish;split<;>rfl
theorem sW (fr:Frame) (v:Value):(fr.finish v).mode=fr.mode:=by
 unfold Frame.finish;split<;>rfl
theorem O9 (w1:World):CR F f w1 #[] #[] #[] #[]:=⟨#[],by simp,by simp,by simp⟩
theorem Alike.quiet (hQ:Alike P Q):(λf:FuncId=>(Q.funcs[f]?).any (·.norace))= λf=>(P.funcs[f]?).any (·.norace):=by
 funext g;obtain ⟨h,h1,h2⟩:=hQ.get g;rw [h1];cases P.funcs[g]? with
 |none=>rfl
 |some fn=>
  obtain ⟨b,hb,_⟩:=h2 fn;simp [hb]
theorem Alike.seen (hQ:Alike P Q) (fn:FuncId) (es:Array Event):Go.seen Q fn es=Go.seen P fn es:=by
 rw [seen_def,seen_def,hQ.quiet];have :=congrFun hQ.quiet fn;simp only at this;rw [this]
theorem Lv (hQ:Alike P Q) {w1:World} {fn:FuncId} {es es':Array Event} (h:CR F f w1 #[] #[] es es'):CR F f w1 #[] #[] (seen P fn es++ #[]) (seen Q fn es'++ #[]):=by
 rw [hQ.seen];obtain ⟨u,rfl,rfl,hu⟩:=h;refine ⟨seen P fn u,by simp,by simp [Lu], λe he=>hu e (mem_seen he)⟩
theorem SR.quiet (ha:Ag F f w W) {vk:Frame} {zZ:List Frame} (hs:yC P F vk zZ) (hm:vk.mode= .run∨vk.mode= .returning):
 SR P Q F f cs K w W (.go (G vk (zZ++cs)) w #[]) (.go (G (jv f vk) (zZ.map (jv f)++K)) W #[]):=
 .inr (.inr ⟨vk,zZ,_,W,#[],rfl,hs,hm,.inl rfl,rfl,Mv.refl ha,O9 w⟩)
theorem SR.acts (hQ:Alike P Q) {w1 W1:World} {fn:FuncId} {es es':Array Event} {vk:Frame} {zZ:List Frame} (hs:yC P F vk zZ) (hm:vk.mode= .run∨vk.mode= .returning) (hv:Mv F f w W w1 W1) (he:CR F f w1 #[] #[] es es'):
 SR P Q F f cs K w W (GStep.after (seen P fn es) (.go (G vk (zZ++cs)) w1 #[])) (GStep.after (seen Q fn es') (.go (G (jv f vk) (zZ.map (jv f)++K)) W1 #[])):=
 .inr (.inr ⟨vk,zZ,_,W1,_,rfl,hs,hm,.inl rfl,rfl,hv,Lv hQ he⟩)
theorem SR.falls {w1:World} {es:Array Event} {fr:Frame} {up:List Frame} {S:GStep} (v:List PanicEntry) (hs:yC P F fr up) (hd:ES F w1):
 SR P Q F f cs K w W (GStep.after es (.go (G (fr.raise v) (up++cs)) w1 #[])) S:=by
 refine .inr (.inl ?_);have hc:=hs.coll
 have hm:∃ch,(fr.raise v).mode= .panicking ch:=by
  unfold Frame.raise;cases fr.mode with
  |panicking ch=>exact ⟨_,rfl⟩
  |_=>exact ⟨_,rfl⟩
 obtain ⟨ch,hm⟩:=hm;refine ⟨fr.raise v,up,ch,rfl,hm, λx hx=>?_,hd⟩;rcases bE.1 hx with rfl|hx
 ·have :=hc fr (aQ ..);intro d Tw;refine this d ?_
  unfold Frame.raise at Tw;cases hmm:fr.mode<;>(rw [hmm] at Tw;exact Tw)
 ·exact hc x (aR _ hx)
theorem nN (es:Array Event) (s:GStep):gw (GStep.after es s)=gw s:=by cases s<;>rfl
theorem Ch {α:Type} (m:Sem α) (w:World):w.heap.size<=(rw' (m.run P w)).heap.size:=by
 have :=runT_size (P:=P) m w #[];rw [Sem.runT_fst] at this;exact this
theorem Dr {α:Type} {m:Sem α} {w:World} {r:Result α} (h:m.run P w=r):w.heap.size<=(rw' r).heap.size:=h ▸ Ch (P:=P) m w
theorem Ii (fr:Frame) (k:List Frame) (d:Option Dying) (m:String) (w:World):w.heap.size<=(gw (endFatal P fr k d m w)).heap.size:=by
 unfold endFatal;dsimp only;split
 ·rename_i h;exact Dr h
 ·rename_i h;exact Dr h
 ·rename_i h;exact Dr h
theorem NL (fr:Frame) (k:List Frame) (d:Option Dying) (g:Nat) (w:World):w.heap.size<=(gw (early P fr k d g w)).heap.size:=by
 have ny:∀w0 w:World,w0.heap.size<=w.heap.size->w0.heap.size<=(gw (match w.heap[g]? with
  |some (.pending c elem)=>GStep.go { frame:=fr,callers:=k,status:=.running,dying:=d } { w with heap:=w.heap.setIfInBounds g (.cells c elem) }
  |_=>.ended (.stuck "early: the variable does not wait" (fr.pos P)) w)).heap.size:=by
  intro w0 w h;split
  ·simpa [gw] using h
  ·exact h
 unfold early;dsimp only;split
 ·exact ny w w (aJ _)
 ·split
  ·exact aJ _
  ·split
   ·exact ny w w (aJ _)
   ·split
    ·exact ny w w (aJ _)
    ·split
     ·exact aJ _
     ·exact aJ _
     ·exact aJ _
     ·exact ny w w (aJ _)
     ·split
      ·exact aJ _
      ·split
       ·exact ny w w (aJ _)
       ·split
        ·rename_i h;have :=Ch (P:=P) (choose (.early g)) w;rw [h] at this;exact ny _ _ this
        ·rename_i h;have :=Ch (P:=P) (choose (.early g)) w;rw [h] at this;exact this
        ·rename_i h;have :=Ch (P:=P) (choose (.early g)) w;rw [h] at this;exact this
theorem Lx {fr:Frame} {k:List Frame} (hk:(fr.kind==CallKind.early)=false) (m:Sem Next) (w:World):
 (rw' (m.runT P w #[]).1).heap.size<=(gw (stepG.apply P true fr k none m w)).heap.size:=by
 unfold stepG.apply;simp only [if_true,hk];generalize m.runT P w #[]=x;obtain ⟨x1,x2⟩:=x;rw [nN];cases x1 with
 |ok a w1=>
  cases a<;>first
   |exact aJ _
   |(dsimp only;split<;>exact aJ _)
   |(dsimp only;split<;>split<;>exact aJ _)
 |halt h w1=>
  cases h<;>first
   |exact aJ _
   |exact Ii ..
   |(rename_i u;cases u<;>first |exact aJ _|exact NL ..)
theorem Dt (hQ:Alike P Q) (hF:nM P F) (hi:∀a b,Sh.lk a=false->Sh.hol b=false->f a=f b->a=b) (ha:Ag F f w W) {fr:Frame} {up:List Frame} (hs:yC P F fr up) (hm:fr.mode= .run) {m m':Sem Next} (h:dN P F f (NR F f) m m'):
 SR P Q F f cs K w W (stepG.apply P true fr (up++cs) none m w) (stepG.apply Q true (jv f fr) (up.map (jv f)++K) none m' W):=by
 have hfr:=hs.top;have hr:=h.EX hQ hi w W #[] #[] ha;have hk:(fr.kind==CallKind.early)=false:=by rw [hfr.kind];rfl
 have hk':((jv f fr).kind==CallKind.early)=false:=hk;have hfn:(jv f fr).fn=fr.fn:=rfl;have hgw:=Lx (P:=P) (k:=up++cs) hk m w;rcases hr with ho|hr
 ·obtain ⟨b,b1,b2,b3⟩:=ho;exact .inl ⟨b,b1,by omega,b3⟩
 clear hgw;unfold stepG.apply;simp only [if_true,hk,hk',hfn];generalize m.runT P w #[]=x at hr;generalize m'.runT Q W #[]=y at hr;obtain ⟨x1,x2⟩:=x;obtain ⟨y1,y2⟩:=y;cases x1 with
 |ok a w1=>
  obtain ⟨b,W1,h1,h2,h3,h4⟩:=hr;simp only at h1 h4;subst h1;simp only [bD,if_false];cases a with
  |value v=>
   obtain ⟨rfl,hv⟩:=h2;have :=SR.acts (P:=P) (Q:=Q) (cs:=cs) (K:=K) (fn:=fr.fn) hQ (hs.set (hfr.finish hv) (pE fr v)) (.inl ((sW fr v).trans hm)) h3 h4;rw [<-uL (f:=f) fr v hfr.todo] at this;exact this
  |skip=>
   have h2':b= .skip:=h2
   subst h2';have :=SR.acts (P:=P) (Q:=Q) (cs:=cs) (K:=K) (fn:=fr.fn) hQ (hs.set (hfr.finish (v:=undef) uy) (pE fr _)) (.inl ((sW fr _).trans hm)) h3 h4;rw [<-uL (f:=f) fr undef hfr.todo,Kv] at this;exact this
  |enter g as=>
   obtain ⟨rfl,hg,has,hv⟩:=h2
   have this:SR P Q F f cs K w W (GStep.after (seen P fr.fn x2) (.go (G (Frame.enter P g as .normal) ((fr::up)++cs)) w1 #[])) (GStep.after (seen Q fr.fn y2) (.go (G (Frame.enter Q g (as.map (rv f)) .normal) ((fr::up).map (jv f)++K)) W1 #[])):=
    .inr (.inr ⟨_,fr::up,_,W1,_,rfl,hs.push (mU.enter hF hg has) hm,.inl rfl,.inr ⟨g,as,hg,has,hv,by simp,rfl,rfl⟩,rfl,h3,Lv hQ h4⟩)
   have hT:(jv f fr).todo=fr.todo.map (vE f):=rfl;cases ht:fr.todo with
   |nil=>simp only [hT,ht,List.map_nil];exact this
   |cons i k=>
    have hi:=hfr.todo i (by rw [ht];exact aQ ..);simp only [hT,ht,aC];cases i<;>first |exact this|exact az hi
  |round l g t x y=>
   obtain ⟨rfl,hl,hg,ht,hx,hy⟩:=h2;have :=SR.acts (P:=P) (Q:=Q) (cs:=cs) (K:=K) (fn:=fr.fn) hQ (hs.push (mU.rnd hl hg ht hx hy) hm) (.inl rfl) h3 h4;rw [<-QA (f:=f) l g t x y] at this;exact this
  |_=>exact h2.elim
 |halt hh w1=>
  obtain ⟨hb,hd⟩:=hr;cases hh with
  |panic v=>exact SR.falls _ hs hd
  |stuck s=>exact .inr trivial
  |unsupported u=>
   cases u<;>first |exact hb.elim|exact .inr trivial
  |_=>exact hb.elim
end
end
section
variable [Sh]
section
variable {P:Program} {F:Fit} {f:Nat->Nat} {w W:World} {cs K:List Frame}
theorem Gb (id:Nat):∀(k:List Item),exitTo id (k.map (vE f))=(exitTo id k).map (List.map (vE f))
 | []=>rfl
 |i::k=>by
  have ih:=Gb id k;cases i<;>first |exact ih|(simp only [aC,vE,exitTo];split<;>first |rfl|exact ih)
theorem Gc {id:Nat}:∀{k k':List Item},exitTo id k=some k'->∀i∈k',i∈k
 | [],k',h=>by cases h
 |i::k,k',h=>by
  intro j hj;have ih:∀k',exitTo id k=some k'->∀i∈k',i∈k:= λk'=>Gc
  cases i<;>first
   |exact aR _ (ih _ h j hj)
   |(simp only [exitTo] at h;split at h
     ·cases h;exact aR _ hj
     ·exact aR _ (ih _ h j hj))
theorem oC (l:Nat) (hA:F.A l=true) {jump:Option Code} (hj:∀c,jump=some c->F.code c=true):dN P F f (VR F f) (Instr.endRound l jump) (Instr.endRound (f l) jump):=by
 unfold Instr.endRound;refine (uK l hA).bind ?_
 rintro r _ ⟨rfl,h1,h2,h3,h4,h5,h6⟩;refine (rY l hA (o:=.loop { r with state:=if jump.isNone then .ready else .done,pending:=jump }) ⟨h1,h2,h3,h4,h5,hj⟩ rfl).bind λ_ _ _=>.ret VR.bool
theorem Ae (l:Nat) (hA:F.A l=true):dN P F f Eq (Instr.beginRound l) (Instr.beginRound (f l)):=by
 unfold Instr.beginRound;refine (uK l hA).bind ?_
 rintro r _ ⟨rfl,h1,h2,h3,h4,h5,h6⟩;refine (rY l hA (o:=.loop { r with state:=.busy }) ⟨h1,h2,h3,h4,h5,h6⟩ rfl).bind λ_ _ _=>?_
 cases r.state with
 |ready=>exact .ret rfl
 |_=>exact fF _ _
theorem Gd (l:Nat) (hA:F.A l=true):dN P F f (λa b=>a=b∧∀c,a=some c->F.code c=true) (Instr.endLoop l) (Instr.endLoop (f l)):=by
 unfold Instr.endLoop;refine (uK l hA).bind ?_
 rintro r _ ⟨rfl,h1,h2,h3,h4,h5,h6⟩;dsimp only;split
 ·exact dN.bind (R:= λ_ _=>False) (fF _ _) λ_ _ x=>x.elim
 ·exact (rY l hA (o:=.loop { r with state:=.exhausted }) ⟨h1,h2,h3,h4,h5,h6⟩ rfl).bind λ_ _ _=>.ret ⟨rfl,h6⟩
theorem yD (l:Nat) (hA:F.A l=true):dN P F f (λa b=>a= []∧b= []) (Instr.takeDeferred l) (Instr.takeDeferred (f l)):=by
 unfold Instr.takeDeferred;refine (kV l hA).bind ?_
 rintro o _ ⟨rfl,h1,h2⟩;cases o with
 |deferred ds=>
  rcases h1 with rfl|rfl
  ·exact (rY l hA (o:=.deferred none) (.inr rfl) rfl).bind λ_ _ _=>.ret ⟨rfl,rfl⟩
  ·exact .bad trivial
 |_=>exact .bad trivial
theorem Ci {fn:FuncId} (hfn:F.S fn=true) {t:Array Value} (ht:VS F t) (ps:Array Tmp) {a b:Code} (ha:F.code a=true) (hb:F.code b=true) {ar:Option Nat} (har:∀l,ar=some l->F.A l=true):
 dN P F f (λ(x y:Nat×List Deferred)=>y=(f x.1,x.2.map (rd f))∧F.A x.1=true∧∀d∈x.2,∃r,d=Lr r∧F.A r=true) (Instr.enterLoop fn t ps a b ar) (Instr.enterLoop fn (t.map (rv f)) ps a b (ar.map f)):=by
 unfold Instr.enterLoop
 have fin:∀(d:Nat) (mk:List Deferred),F.A d=true->(∀x∈mk,∃r,x=Lr r∧F.A r=true)->
  dN P F f (λ(x y:Nat×List Deferred)=>y=(f x.1,x.2.map (rd f))∧F.A x.1=true∧∀d∈x.2,∃r,d=Lr r∧F.A r=true)
   (do let r <-newObj (Obj.loop { state:=.ready,pending:=none,fn:=fn,tmps:=t,params:=ps,assign:=a,body:=b,defers:=d });pure (r,mk))
   (do let r <-newObj (Obj.loop { state:=.ready,pending:=none,fn:=fn,tmps:=t.map (rv f),params:=ps,assign:=a,body:=b,defers:=f d });pure (r,mk.map (rd f))):=by
  intro d mk h1 h2;refine (um (o:=.loop { state:=.ready,pending:=none,fn:=fn,tmps:=t,params:=ps,assign:=a,body:=b,defers:=d }) ⟨ht,hfn,h1,ha,hb,by intro c hc;cases hc⟩).bind ?_
  rintro r _ ⟨rfl,hr,_⟩;exact .ret ⟨rfl,hr,h2⟩
 cases ar with
 |none=>
  refine (um (o:=.deferred (some [])) (.inl rfl)).bind ?_
  rintro r _ ⟨rfl,hr,_⟩;have h0: [Lr r].map (rd f)= [Lr (f r)]:=by simp [Lr,rd]
  have h1:=fin r [Lr r] hr (by intro d hd;simp at hd;subst hd;exact ⟨r,rfl,hr⟩);rw [h0] at h1;exact h1
 |some l=>
  refine (uK l (har l rfl)).bind ?_
  rintro r _ ⟨rfl,h1,h2,h3,h4,h5,h6⟩;exact fin r.defers [] h3 (by intro d hd;cases hd)
end
end
end Par
