/- Part 35. -/
import Derived.Test.YtnemnkmojiljmaaGreatB05
import Derived.Test.YtnemnkmojiljmaaGreatB33
import Derived.Test.YtnemnkmojiljmaaGreatB34
set_option maxRecDepth 100000
set_option maxHeartbeats 0
set_option linter.all false
namespace Go.Proofs.Tryz
open Go Go.Conc Go.ConcN Go.ConcM Go.RowKit Go.Conc.Lib Go.ConcR.Gen Par
section
attribute [local instance] noSh jm
noncomputable def Eo:Code:=Tryz.f63.body.getD .skip
noncomputable def LW:Code:=(dM Eo).getD .skip
section
variable {Mu Wg cw cm cb bs bm bf bw:Nat} {ty:TypeId} {N:Nat->Nat} {J:Nat->Nat->(Nat->Prop)->World->Prop} {ro:Nat->Prop} {Anch:(Nat->Prop)->Goroutine->World->Prop}
variable {own:Nat->Prop} {W0:World} {i k c:Nat}
structure WK (cw cm cb bs bm bf bw:Nat) (ss:List fI) (n:Nat) (m:Bool) (own ro:Nat->Prop) (W:World):Prop where
 XN:ro cw
 rcb:ro cb
 Zg:ro bw
 XO:own cm
 Va:W.cell? ⟨cw,0,none⟩=some (.pointer (some ⟨bw,0,none⟩))
 XP:W.cell? ⟨cb,0,none⟩=some (.func (.func 58) #[] #[.pointer (some ⟨bs,0,none⟩),.pointer (some ⟨bf,0,none⟩),.pointer (some ⟨bm,0,none⟩)])
 vcm:W.cell? ⟨cm,0,none⟩=some (.bool m)
 Zh:∃A cap e fr,W.heap[bw]?=some (.cells #[.slice A ss.length cap,.int .i64 (n:Int),.int .i64 ((n+1:Nat):Int)] e fr)∧lV W W.heap.size bw ss n (n+1) A cap∧
  ∀a,A=some a->ro a.block∧∃cur e fr,W.heap[a.block]?=some (.cells cur e fr)∧∀x∈cur,fA x=true
structure Env (Mu Wg:Nat) (own ro:Nat->Prop) (W:World):Prop where
 rs:∀b,ro b->b≠Mu∧b≠Wg
 own:∀b,own b->b<W.heap.size∧b≠Mu∧b≠Wg∧¬ro b
 ro:∀b,ro b->b<W.heap.size
 mu:Mu<W.heap.size
 wg:Wg<W.heap.size
 kU:Tryz.prog.globals.size<W.heap.size
 wl:WgLive 104 Wg W
theorem Env.rel {W W1:World} {Mu Wg:Nat} {own Bq ro:Nat->Prop} {Z:gB} (h:Env Mu Wg own ro W) (hz:Z.sy Wg) (hr:dZ Z Bq W W1):Env Mu Wg own ro W1:=
 ⟨h.rs, λb hb=>⟨aK (h.own b hb).1 hr.size,(h.own b hb).2⟩, λb hb=>aK (h.ro b hb) hr.size,aK h.mu hr.size,aK h.wg hr.size,aK h.kU hr.size,lI h.wl (hr.sy _ hz)⟩
theorem fV {W W1:World} {b:Nat} (h:W1.heap[b]?=W.heap[b]?) (o:Nat):W1.cell? ⟨b,o,none⟩=W.cell? ⟨b,o,none⟩:=by
 unfold World.cell?;simp only [h]
theorem xu {W W1:World} {B B' b:Nat} {ss:List fI} {st nd:Nat} {A:Option Addr} {cap:Nat} (h:lV W B b ss st nd A cap) (hb:W1.heap[b]?=W.heap[b]?) (hA:∀a,A=some a->ss≠ []->W1.heap[a.block]?=W.heap[a.block]?) (hB:B<=B'):lV W1 B' b ss st nd A cap:=
 ⟨aK h.lt hB,(fV hb _).trans h.c0,(fV hb _).trans h.c1,(fV hb _).trans h.c2, λhn=>by
   obtain ⟨bb,off,e,h1,h2⟩:=h.rd hn;exact ⟨bb,off,e,aK h1 hB, λi j hi hj=>(fV (hA _ e (λx=>by rw [x] at hn;simp at hn)) _).trans (h2 i j hi hj)⟩,h.ok,h.len⟩
theorem WK.rely {ss:List fI} {n:Nat} {m:Bool} {Z:gB} {W W1:World} (h:WK cw cm cb bs bm bf bw ss n m own ro W) (hz:Z.ro=ro) (hr:dZ Z own W W1):WK cw cm cb bs bm bf bw ss n m own ro W1:=by
 have hro:∀b,ro b->W1.heap[b]?=W.heap[b]?:= λb hb=>hr.ro b (by rw [hz];exact hb)
 obtain ⟨a1,a2,a3,a4,a5,a6,a7,A,cap,e,fr,a8,a9,Vb⟩:=h;refine ⟨a1,a2,a3,a4,(fV (hro _ a1) _).trans a5,(fV (hro _ a2) _).trans a6,(fV (hr.own _ a4) _).trans a7,A,cap,e,fr,(hro _ a3).trans a8,xu a9 (hro _ a3) (λa e _=>hro _ (Vb a e).1) hr.size, λa ha=>?_⟩;obtain ⟨h1,cur,e',fr',h2,h3⟩:=Vb a ha;exact ⟨h1,cur,e',fr',(hro _ h1).trans h2,h3⟩
theorem Pz {m mm:Bool} {ss:List fI} {n s:Nat} {W:World} {Stop:(Nat->Prop)->Goroutine->World->Prop} {gz:Frame} {K':List Frame} (he:Env Mu Wg own ro W) (hw:WK cw cm cb bs bm bf bw ss n m own ro W) (hs:s<2 ^ (n+1)) (hn:n<=15)
 (oO:∀dL W',Kept ((cfg Mu Wg ty N J ro Anch).Zw k) own W dL W'->Gw Tryz.prog false ((cfg Mu Wg ty N J ro Anch).Zw k) Stop dL (G (gz.finish (.bool (gT ss (n+1) s mm))) K') W'):
 Gw Tryz.prog false ((cfg Mu Wg ty N J ro Anch).Zw k) Stop own (G (Frame.enter Tryz.prog 65 #[.pointer (some ⟨bw,0,none⟩),.int .u64 (s:Int),.bool mm] .normal) (gz::K')) W:=by
 classical
 obtain ⟨A,cap,e,fr,w1,w2,w3⟩:=hw.Zh;obtain ⟨As,hAs⟩:∃As:Nat->Prop,As= λb=>b=bw∨∃a,A=some a∧b=a.block:=⟨_,rfl⟩
 have hA1:∀b,As b->ro b:= λb hb=>by
  rw [hAs] at hb;rcases hb with rfl|⟨a,ha,rfl⟩
  ·exact hw.Zg
  ·exact (w3 a ha).1
 have on:∀b,As b->Bd (jX As W.heap.size) W.heap.size b=true:= λb hb=>gN.2 ⟨by unfold jX;exact decide_eq_true (.inl hb),he.ro b (hA1 b hb)⟩
 have hbw:As bw:=by rw [hAs];exact .inl rfl
 refine xk (S:=S1) (As:=As) (R:= λv _=>v= .bool (gT ss (n+1) s mm)) Oe gK he.kU (λb hb=>.inr (hA1 b hb)) (λb o hb ho=>?_) (λb hb=>?_) he.ro (λb hb=>?_) (λ_ _ h=>az h) (λh=>h) (g:=65) rfl ?_ (λw hsz hcell=>?_) λv w' f' dL W' hR hk _=>?_
 ·rw [hAs] at hb;rcases hb with rfl|⟨a,ha,rfl⟩
  ·rw [w1] at ho;cases ho;refine ⟨_,_,_,rfl, λv hv=>?_⟩;simp only [aB,bE,ax,or_false] at hv;rcases hv with rfl|rfl|rfl
   ·cases hA:A with
    |none=>simp
    |some a=>rw [jo,yK];exact on a.block (by rw [hAs];exact .inr ⟨a,hA,rfl⟩)
   ·simp
   ·simp
  ·obtain ⟨_,cur,e',fr',h2,h3⟩:=w3 a ha;rw [h2] at ho;cases ho;exact ⟨_,_,_,rfl, λv hv=>(kE (f:= λb=>b) (h3 v hv)).2⟩
 ·obtain ⟨h1,h2,h3,h4⟩:=he.own b hb;exact ⟨h1, λh=>by rcases h with (h|h)|h<;>first |exact h2 h|exact h3 h|exact h,h4⟩
 ·rcases hb with (rfl|rfl)|hb
  ·exact he.mu
  ·exact he.wg
  ·exact hb.elim
 ·intro v hv;simp only [aB,bE,ax,or_false] at hv;rcases hv with rfl|rfl|rfl
  ·rw [ER,yJ];exact on bw hbw
  ·simp
  ·simp
 ·have :=@Lo.MV jm w W.heap.size bw ss n (n+1) A cap (w2.keep λb o _=>hcell b o) (Nat.le_of_eq hsz.symm) (by omega) s hs mm;rw [CG] at this;exact this.mono λe w' h=>⟨_,h.1,rfl⟩
 ·subst hR;rw [mZ];exact oO dL W' hk
structure Sl (own:Nat->Prop) (W:World) (A:Option Addr) (l:List Int):Prop where
 blk:∀a,A=some a->own a.block∧∃cur e fr,W.heap[a.block]?=some (.cells cur e fr)∧∀x∈cur,fA x=true
 rd:BJ W W.heap.size A l
theorem Sl.rely {own:Nat->Prop} {Z:gB} {W W1:World} {A:Option Addr} {l:List Int} (h:Sl own W A l) (hr:dZ Z own W W1):Sl own W1 A l:=
 ⟨λa ha=>by
   obtain ⟨h1,cur,e,fr,h2,h3⟩:=h.blk a ha;exact ⟨h1,cur,e,fr,(hr.own _ h1).trans h2,h3⟩, λhn=>by
   obtain ⟨bb,off,e,h1,h2⟩:=h.rd hn;exact ⟨bb,off,e,aK h1 hr.size, λi j hi hj=>(fV (hr.own _ (h.blk _ e).1) _).trans (h2 i j hi hj)⟩⟩
theorem Sl.sub {own dL:Nat->Prop} {W:World} {A:Option Addr} {l:List Int} (h:Sl own W A l) (hs:∀b,own b->dL b):Sl dL W A l:=
 ⟨λa ha=>by
   obtain ⟨h1,h2⟩:=h.blk a ha;exact ⟨hs _ h1,h2⟩,h.rd⟩
def Ez (l:List Nat):List Int:=l.map λn:Nat=>(n:Int)
theorem Rw (l:List Nat):Ay l=(Ez l).map λx=>Value.int .i64 x:=by
 unfold Ay Ez;rw [List.map_map];rfl
theorem ap2 {s:Nat} {W:World} {Stop:(Nat->Prop)->Goroutine->World->Prop} {gz:Frame} {K':List Frame} (he:Env Mu Wg own ro W) (hs:s<2 ^ 16)
 (oO:∀A cap dL W',Kept ((cfg Mu Wg ty N J ro Anch).Zw k) own W dL W'->Sl dL W' A (Ez (nH s))->(∀a,A=some a->W.heap.size<=a.block)->Gw Tryz.prog false ((cfg Mu Wg ty N J ro Anch).Zw k) Stop dL (G (gz.finish (.slice A (Ez (nH s)).length cap)) K') W'):
 Gw Tryz.prog false ((cfg Mu Wg ty N J ro Anch).Zw k) Stop own (G (Frame.enter Tryz.prog 66 #[.int .u64 (s:Int)] .normal) (gz::K')) W:=by
 refine xk (S:=S1) (As:= λ_=>False) (R:= λv w'=>w'.ownsRow W.heap.size 3 1 v (nH s).length (Ay (nH s))∧eP w' v) Oe gK he.kU (λb hb=>hb.elim) (λb o hb ho=>hb.elim) (λb hb=>?_) he.ro (λb hb=>?_) (λ_ _ h=>az h) (λh=>h) (g:=66) rfl ?_ (λw hsz hcell=>?_) λv w' f' dL W' hR hk hm=>?_
 ·obtain ⟨h1,h2,h3,h4⟩:=he.own b hb;exact ⟨h1, λh=>by rcases h with (h|h)|h<;>first |exact h2 h|exact h3 h|exact h,h4⟩
 ·rcases hb with (rfl|rfl)|hb
  ·exact he.mu
  ·exact he.wg
  ·exact hb.elim
 ·intro v hv;simp only [aB,bE,ax,or_false] at hv;subst hv;simp
 ·have :=@Lo.Sg jm s hs w;rw [CG] at this;refine this.mono λe w' h=>?_
  obtain ⟨v,h1,h2,h3,_⟩:=h;exact ⟨v,h1,by rw [<-hsz];exact h2,h3⟩
 ·obtain ⟨h1,h2⟩:=hR;rw [Rw] at h1;obtain ⟨A,cap,rfl,hn,hrd⟩:=ownsRow.Wd (B:=w'.heap.size) h1;rw [fT];have hn':(nH s).length=(Ez (nH s)).length:=hn;rw [hn'];refine oO _ cap dL W' hk ⟨λa ha=>?_, λhpos=>?_⟩ λa ha=>?_
  ·cases hA:A with
   |none=>rw [hA] at ha;cases ha
   |some a0=>
    rw [hA] at ha h1 h2;have ha:some (ra f' a0)=some a:=ha;cases ha;obtain ⟨l1,l2⟩:=h1.lt a0.block rfl;obtain ⟨cur,e,q1,q2⟩:=h2 a0.block rfl;obtain ⟨_,g2,g3⟩:=hm.ge _ l1 l2;obtain ⟨fr',q3⟩:=hm.blk _ _ _ _ l1 q1;rw [Jg q2] at q3;exact ⟨g3,cur,e,fr',q3,q2⟩
  ·obtain ⟨bb,off,e,q1,q2⟩:=hrd (aJ _) hpos;subst e;have l1:=(h1.lt bb rfl).1;obtain ⟨_,g2,g3⟩:=hm.ge _ l1 q1;exact ⟨f' bb,off,rfl,g2, λi j hi hj=>by rw [hm.cell _ _ _ l1 (q2 i j hi hj),jE]⟩
  ·cases hA:A with
   |none=>rw [hA] at ha;cases ha
   |some a0=>
    rw [hA] at ha h1;have ha:some (ra f' a0)=some a:=ha;cases ha;obtain ⟨l1,l2⟩:=h1.lt a0.block rfl;exact (hm.ge _ l1 l2).1
end
end
section
attribute [local instance] noSh jm
theorem Jm (a b:Int):Az a b= -1∧a<b∨Az a b=0∧a=b∨Az a b=1∧b<a:=by
 unfold Az;rcases Int.lt_trichotomy a b with h|h|h
 ·left;exact ⟨aj h,h⟩
 ·right;left;subst h;exact ⟨by simp,rfl⟩
 ·right;right;exact ⟨by rw [aa (by omega),aj h],h⟩
def lexLt:List Int->List Int->Prop
 | [],[]=>False
 | [],_::_=>True
 |_::_,[]=>False
 |a::x,b::y=>a<b∨(a=b∧lexLt x y)
theorem DJ:∀l m:List Int,(lF l m<0↔lexLt l m)∧(lF l m=0↔l=m)
 | [],[]=>by simp [lF,lexLt]
 | [],_::_=>by simp [lF,lexLt]
 |_::_,[]=>by simp [lF,lexLt]
 |a::x,b::y=>by
  obtain ⟨h1,h2⟩:=DJ x y;unfold lF lexLt;rcases Jm a b with ⟨e,h⟩|⟨e,h⟩|⟨e,h⟩
  ·rw [aa (by omega),e];exact ⟨⟨λ_=>.inl h, λ_=>by omega⟩,⟨λh'=>by omega, λh'=>by injection h';omega⟩⟩
  ·rw [aj e];subst h;exact ⟨by rw [h1];simp,by rw [h2];simp⟩
  ·rw [aa (by omega),e];exact ⟨⟨λh'=>by omega, λh'=>by rcases h' with h'|h'<;>omega⟩,⟨λh'=>by omega, λh'=>by injection h';omega⟩⟩
theorem Ep:∀{l m r:List Int},lexLt l m->lexLt m r->lexLt l r
 | [],[],_,h,_=>h.elim
 |_::_,[],_,h,_=>h.elim
 |_,_::_,[],_,h=>h.elim
 | [],_::_,_::_,_,_=>trivial
 |a::x,b::y,c::z,h,k=>by
  unfold lexLt at *;rcases h with h|⟨rfl,h⟩<;>rcases k with k|⟨rfl,k⟩
  ·left;omega
  ·left;exact h
  ·left;exact k
  ·right;exact ⟨rfl,Ep h k⟩
def Lt (x y:List Int×Bool):Prop:=x.1.length<y.1.length∨(x.1.length=y.1.length∧(lexLt x.1 y.1∨(x.1=y.1∧x.2=false∧y.2=true)))
theorem Lt.trans {x y z:List Int×Bool} (h:Lt x y) (k:Lt y z):Lt x z:=by
 unfold Lt at *;rcases h with h|⟨h,h'⟩<;>rcases k with k|⟨k,k'⟩
 ·left;omega
 ·left;omega
 ·left;omega
 ·right;refine ⟨by omega,?_⟩;rcases h' with h'|⟨h1,h2,h3⟩<;>rcases k' with k'|⟨k1,k2,k3⟩
  ·exact .inl (Ep h' k')
  ·exact .inl (k1 ▸ h')
  ·exact .inl (h1 ▸ k')
  ·rw [h3] at k2;cases k2
theorem Jn (l st:List Int) (m fu:Bool):nL l m st fu true=true↔Lt (l,m) (st,fu):=by
 unfold nL orI Lt;obtain ⟨h1,h2⟩:=DJ l st;simp only [Bool.not_true,Bool.false_or];rcases Jm (l.length:Int) (st.length:Int) with ⟨e,h⟩|⟨e,h⟩|⟨e,h⟩
 ·rw [e];simp;left;omega
 ·rw [e,aj rfl];have hl:l.length=st.length:=by omega
  by_cases hq:lF l st<0
  ·simp [hq,hl,h1.1 hq]
  ·by_cases hz:lF l st=0
   ·have :=h2.1 hz;subst this;have hn:¬lexLt l l:= λx=>hq (h1.2 x)
    cases fu<;>cases m<;>simp [hz,hn]
   ·have hne:l≠st:= λx=>hz (h2.2 x)
    have hn:¬lexLt l st:= λx=>hq (h1.2 x)
    simp [hq,hz,hl,hn,hne]
 ·rw [e];simp;omega
def nZ (items:List (List Int×Bool)) (st:List Int) (fu found:Bool):Prop:=
 (found=false∧items= []∧st= []∧fu=false)∨(found=true∧(st,fu)∈items∧∀x∈items,¬Lt x (st,fu))
theorem Lt.irrefl (x:List Int×Bool):¬Lt x x:=by
 have :∀l:List Int,¬lexLt l l:=by
  intro l
  induction l with
  |nil=>exact λh=>h
  |cons a l ih=>intro h;rcases h with h|⟨_,h⟩
                ·omega
                ·exact ih h
 rintro (h|⟨_,h|⟨_,h,h'⟩⟩)
 ·omega
 ·exact this _ h
 ·rw [h] at h';cases h'
theorem nZ.add {items items':List (List Int×Bool)} {st l:List Int} {fu found m:Bool} (h:nZ items st fu found) (hi:∀x,x∈items'↔x∈items∨x=(l,m)):
 if nL l m st fu found then nZ items' l m true else nZ items' st fu found:=by
 rcases h with ⟨rfl,rfl,rfl,rfl⟩|⟨rfl,h1,h2⟩
 ·rw [aj (by unfold nL;simp)];refine .inr ⟨rfl,(hi _).2 (.inr rfl), λx hx=>?_⟩;rcases (hi x).1 hx with hx|rfl
  ·simp at hx
  ·exact Lt.irrefl _
 ·split
  ·rename_i hb;have hl:=(Jn l st m fu).1 hb;refine .inr ⟨rfl,(hi _).2 (.inr rfl), λx hx hx2=>?_⟩;rcases (hi x).1 hx with hx|rfl
   ·exact h2 x hx (hx2.trans hl)
   ·exact Lt.irrefl _ hx2
  ·rename_i hb;have hl:¬Lt (l,m) (st,fu):= λx=>hb ((Jn l st m fu).2 x)
   refine .inr ⟨rfl,(hi _).2 (.inl h1), λx hx=>?_⟩;rcases (hi x).1 hx with hx|rfl
   ·exact h2 x hx
   ·exact hl
end
section
attribute [local instance] noSh jm
section
variable {main:Bool} {Z:gB} {own:Nat->Prop} {Stop:(Nat->Prop)->Goroutine->World->Prop}
variable {b:Frame} {a:Act} {kk:List Item} {cs:List Frame} {W:World} {ops:Array Oper} {i:Nat} {rest:List Nat} {o:Oper} {x y:Operand} {ad:Addr}
theorem Vd {f:FuncId} {fn:Func} {c0:Code} {x:Operand} {caps:Array Value} {args:Array Operand} {ats:Array TypeId} (ho:ops[i]?=some o) (hw:Region.wanted o (yielded ops a.tmps)=true) (hk:b.kind≠ .early) (hop:o.op= .call { callee:=.value x,args,argTypes:=ats })
 (hx:a.eval x= .func (.func f) #[] caps) (hf:Tryz.prog.funcs[f]?=some fn) (hname:(fn.name== "runtime.NumGoroutine")=false) (hb:fn.body=some c0)
 (hn:∀W1,dZ Z own W W1->Gw Tryz.prog main Z Stop own (G (Frame.enter Tryz.prog f (args.map a.eval++caps) .normal) (b.at a (.inRegion ops (i::rest)::kk)::cs)) W1):
 Gw Tryz.prog main Z Stop own (G (b.at a (.inRegion ops (i::rest)::kk)) cs) W:=by
 have h1:¬fn.name= "runtime.NumGoroutine" :=by simpa using hname
 have h2:¬fn.body=none:=by rw [hb];simp
 have hr:∀w,(execOp a.eval o).run Tryz.prog w= .ok (.enter f (args.map a.eval++caps)) w:= λw=>by
  unfold execOp;simp [hop,hx,resolve,Deferred.ofValue,invoke,callFunc,hf,h1,h2]
 have he:∀w es,(execOp a.eval o).events Tryz.prog w es=es:= λw es=>by
  unfold execOp;simp [hop,hx,resolve,Deferred.ofValue,invoke,callFunc,hf,h1,h2]
 refine Gw.Cj rfl λW1 hr1=>⟨_,W1,#[],?_,vX.refl _, λe he=>by simp at he,by rw [lS];exact hn W1 hr1⟩
 rw [stepG_enter ho hw hk (hr W1)];have :listed Tryz.prog b.fn a o W1= #[]:=by unfold listed;rw [he];exact seen_none Tryz.prog _
 rw [this]
end
section
variable {Mu Wg cw cm cb bs bm bf bw:Nat} {ty:TypeId} {N:Nat->Nat} {J:Nat->Nat->(Nat->Prop)->World->Prop} {ro:Nat->Prop} {Anch:(Nat->Prop)->Goroutine->World->Prop}
variable {own:Nat->Prop} {W0:World} {i k c:Nat}
def jP (ss:List fI) (n:Nat) (m:Bool):List Nat:=(List.range (2 ^ n)).filter λs=>gT ss (n+1) s m
def gD (ss:List fI) (n c0 c1:Nat):List (List Int×Bool):=((jP ss n false).take c0).map (λs=>(Ez (nH s),false))++((jP ss n true).take c1).map (λs=>(Ez (nH s),true))
structure Fd (bs bm bf:Nat) (A:Option Addr) (cap:Nat) (st:List Int) (fu found:Bool) (Gu:Nat->Prop) (W:World):Prop where
 gs:Gu bs
 gm:Gu bm
 gf:Gu bf
 vs:∃e,W.heap[bs]?=some (.cells #[.slice A st.length cap] e)
 vm:∃e,W.heap[bm]?=some (.cells #[.bool fu] e)
 vf:∃e,W.heap[bf]?=some (.cells #[.bool found] e)
 sl:Sl Gu W A st
 len:st.length<=16
theorem Fd.keep {A:Option Addr} {cap:Nat} {st:List Int} {fu found:Bool} {Gu:Nat->Prop} {W W1:World} (h:Fd bs bm bf A cap st fu found Gu W) (hk:∀b,Gu b->W1.heap[b]?=W.heap[b]?):Fd bs bm bf A cap st fu found Gu W1:=by
 obtain ⟨g1,g2,g3,⟨e1,v1⟩,⟨e2,v2⟩,⟨e3,v3⟩,⟨s1,s2⟩,l⟩:=h;refine ⟨g1,g2,g3,⟨e1,(hk _ g1).trans v1⟩,⟨e2,(hk _ g2).trans v2⟩,⟨e3,(hk _ g3).trans v3⟩,⟨λa ha=>?_, λhn=>?_⟩,l⟩
 ·obtain ⟨q1,cur,e,fr,q2,q3⟩:=s1 a ha;exact ⟨q1,cur,e,fr,(hk _ q1).trans q2,q3⟩
 ·obtain ⟨bb,off,e,q1,q2⟩:=s2 hn;obtain ⟨p1,cur,_,_,p2,_⟩:=s1 _ e;exact ⟨bb,off,e,(aI.1 ((hk _ p1).trans p2)).1, λi j hi hj=>(fV (hk _ p1) _).trans (q2 i j hi hj)⟩
def JW (Mu Wg bs bm bf:Nat) (ro:Nat->Prop) (ss:List fI) (n c0 c1:Nat) (Gu:Nat->Prop) (W:World):Prop:=
 (∀b,Gu b->(∃o,W.heap[b]?=some o)∧b≠Mu∧b≠Wg∧¬ro b)∧∃A cap st fu found,Fd bs bm bf A cap st fu found Gu W∧nZ (gD ss n c0 c1) st fu found
theorem JW.keep {ss:List fI} {n c0 c1:Nat} {Gu:Nat->Prop} {W W1:World} (h:JW Mu Wg bs bm bf ro ss n c0 c1 Gu W) (hk:∀b,Gu b->W1.heap[b]?=W.heap[b]?):JW Mu Wg bs bm bf ro ss n c0 c1 Gu W1:=by
 obtain ⟨h1,A,cap,st,fu,found,h2,h3⟩:=h;exact ⟨λb hb=>⟨by obtain ⟨o,ho⟩:=(h1 b hb).1;exact ⟨o,(hk b hb).trans ho⟩,(h1 b hb).2⟩,A,cap,st,fu,found,h2.keep hk,h3⟩
theorem XQ {ss:List fI} {n k c o:Nat} {Gu:Nat->Prop} {W:World} (h:Jk (JW Mu Wg bs bm bf ro ss n) k c o Gu W):
 (∀b,Gu b->(∃o,W.heap[b]?=some o)∧b≠Mu∧b≠Wg∧¬ro b)∧∃A cap st fu found,Fd bs bm bf A cap st fu found Gu W∧nZ (if k=0 then gD ss n c o else gD ss n o c) st fu found:=by
 unfold Jk at h;split at h
 ·rename_i e;rw [aj e];exact h
 ·rename_i e;rw [aa e];exact h
theorem Mj {ss:List fI} {n k c o:Nat} {Gu:Nat->Prop} {W:World} (h1:∀b,Gu b->(∃o,W.heap[b]?=some o)∧b≠Mu∧b≠Wg∧¬ro b) {A:Option Addr} {cap:Nat} {st:List Int} {fu found:Bool} (h2:Fd bs bm bf A cap st fu found Gu W)
 (h3:nZ (if k=0 then gD ss n c o else gD ss n o c) st fu found):Jk (JW Mu Wg bs bm bf ro ss n) k c o Gu W:=by
 unfold Jk;split
 ·rename_i e;rw [aj e] at h3;exact ⟨h1,A,cap,st,fu,found,h2,h3⟩
 ·rename_i e;rw [aa e] at h3;exact ⟨h1,A,cap,st,fu,found,h2,h3⟩
theorem XR {m fu found:Bool} {l st:List Int} {A1 A2:Option Addr} {c1 c2:Nat} {Gu:Nat->Prop} {W:World} {Stop:(Nat->Prop)->Goroutine->World->Prop} {gz:Frame} {K':List Frame} (he:Env Mu Wg own ro W) (Jh:∀b,Gu b->own b) (hl:Sl own W A1 l) (hl1:l.length<=64) (hf:Fd bs bm bf A2 c2 st fu found Gu W)
 (oO:∀dL W',Kept ((cfg Mu Wg ty N J ro Anch).Zw k) own W dL W'->Gw Tryz.prog false ((cfg Mu Wg ty N J ro Anch).Zw k) Stop dL (G (gz.finish (.bool (nL l m st fu found))) K') W'):
 Gw Tryz.prog false ((cfg Mu Wg ty N J ro Anch).Zw k) Stop own (G (Frame.enter Tryz.prog 58 #[.slice A1 l.length c1,.bool m,.pointer (some ⟨bs,0,none⟩),.pointer (some ⟨bf,0,none⟩),.pointer (some ⟨bm,0,none⟩)] .normal) (gz::K')) W:=by
 classical
 obtain ⟨g1,g2,g3,⟨e1,v1⟩,⟨e2,v2⟩,⟨e3,v3⟩,s,ln⟩:=hf;obtain ⟨As,hAs⟩:∃As:Nat->Prop,As= λb=>(b=bs∨b=bm∨b=bf)∨(∃a,A1=some a∧b=a.block)∨∃a,A2=some a∧b=a.block:=⟨_,rfl⟩
 have hA1:∀b,As b->own b:= λb hb=>by
  rw [hAs] at hb;rcases hb with (rfl|rfl|rfl)|⟨a,ha,rfl⟩|⟨a,ha,rfl⟩
  ·exact Jh _ g1
  ·exact Jh _ g2
  ·exact Jh _ g3
  ·exact (hl.blk a ha).1
  ·exact Jh _ (s.blk a ha).1
 have on:∀b,As b->Bd (jX As W.heap.size) W.heap.size b=true:= λb hb=>gN.2 ⟨by unfold jX;exact decide_eq_true (.inl hb),(he.own b (hA1 b hb)).1⟩
 have i1:As bs:=by rw [hAs];exact .inl (.inl rfl)
 have i2:As bm:=by rw [hAs];exact .inl (.inr (.inl rfl))
 have i3:As bf:=by rw [hAs];exact .inl (.inr (.inr rfl))
 have i4:∀a,A1=some a->As a.block:= λa ha=>by rw [hAs];exact .inr (.inl ⟨a,ha,rfl⟩)
 have i5:∀a,A2=some a->As a.block:= λa ha=>by rw [hAs];exact .inr (.inr ⟨a,ha,rfl⟩)
 have sl1:∀(A:Option Addr) (p q:Nat),(∀a,A=some a->As a.block)->vs (FA S1 S1 (fH Tryz.prog S1 S1) (Bd (jX As W.heap.size) W.heap.size)) (.slice A p q)=true:= λA p q h=>by
  cases hA:A with
  |none=>simp
  |some a=>rw [jo,yK];exact on a.block (h a hA)
 have pt1:∀b,As b->vs (FA S1 S1 (fH Tryz.prog S1 S1) (Bd (jX As W.heap.size) W.heap.size)) (.pointer (some ⟨b,0,none⟩))=true:= λb h=>by rw [ER,yJ];exact on b h
 refine xk (S:=S1) (As:=As) (R:= λv _=>v= .bool (nL l m st fu found)) Oe gK he.kU (λb hb=>.inl (hA1 b hb)) (λb o hb ho=>?_) (λb hb=>?_) he.ro (λb hb=>?_) (λ_ _ h=>az h) (λh=>h) (g:=58) rfl ?_ (λw hsz hcell=>?_) λv w' f' dL W' hR hk _=>?_
 ·rw [hAs] at hb;rcases hb with (rfl|rfl|rfl)|⟨a,ha,rfl⟩|⟨a,ha,rfl⟩
  ·rw [v1] at ho;cases ho
   exact ⟨_,_,_,rfl, λv hv=>by simp at hv;subst hv;exact sl1 _ _ _ i5⟩
  ·rw [v2] at ho;cases ho
   exact ⟨_,_,_,rfl, λv hv=>by simp at hv;subst hv;simp⟩
  ·rw [v3] at ho;cases ho
   exact ⟨_,_,_,rfl, λv hv=>by simp at hv;subst hv;simp⟩
  ·obtain ⟨_,cur,e',fr',q2,q3⟩:=hl.blk a ha;rw [q2] at ho;cases ho
   exact ⟨_,_,_,rfl, λv hv=>(kE (f:= λb=>b) (q3 v hv)).2⟩
  ·obtain ⟨_,cur,e',fr',q2,q3⟩:=s.blk a ha;rw [q2] at ho;cases ho
   exact ⟨_,_,_,rfl, λv hv=>(kE (f:= λb=>b) (q3 v hv)).2⟩
 ·obtain ⟨q1,q2,q3,q4⟩:=he.own b hb;exact ⟨q1, λh=>by rcases h with (h|h)|h<;>first |exact q2 h|exact q3 h|exact h,q4⟩
 ·rcases hb with (rfl|rfl)|hb
  ·exact he.mu
  ·exact he.wg
  ·exact hb.elim
 ·intro v hv;simp only [aB,bE,ax,or_false] at hv;rcases hv with rfl|rfl|rfl|rfl|rfl
  ·exact sl1 _ _ _ i4
  ·simp
  ·exact pt1 _ i1
  ·exact pt1 _ i3
  ·exact pt1 _ i2
 ·have cc:∀b v e,W.heap[b]?=some (.cells #[v] e)->w.cell? ⟨b,0,none⟩=some v:= λb v e h=>by
   rw [hcell];unfold World.cell?;simp only [h];rfl
  have lt:∀b,As b->b<w.heap.size:= λb hb=>by rw [hsz];exact (he.own b (hA1 b hb)).1
  have :=@Lo.M0 jm w W.heap.size bs bf bm A1 A2 l st c1 c2 m fu found (hl.rd.keep λb o _=>hcell b o) (s.rd.keep λb o _=>hcell b o) hl1 (by omega) (cc _ _ _ v1) (cc _ _ _ v3) (cc _ _ _ v2) (Nat.le_of_eq hsz.symm) (lt _ i3) (lt _ i2);rw [CG] at this;exact this.mono λe w' h=>⟨_,h.1,rfl⟩
 ·subst hR;rw [mZ];exact oO dL W' hk
end
end
section
attribute [local instance] noSh jm
theorem Jo:(Tryz.f65.name== "runtime.NumGoroutine")=false:=by kernel_rfl
theorem XT:(Tryz.f66.name== "runtime.NumGoroutine")=false:=by kernel_rfl
theorem Rx:(Tryz.f58.name== "runtime.NumGoroutine")=false:=by kernel_rfl
theorem Jp:Tryz.f65.body=some (Tryz.f65.body.getD .skip):=by unfold Tryz.f65;rfl
theorem XU:Tryz.f66.body=some (Tryz.f66.body.getD .skip):=by unfold Tryz.f66;rfl
theorem Ry:Tryz.f58.body=some (Tryz.f58.body.getD .skip):=by unfold Tryz.f58;rfl
theorem Env.kept {Mu Wg:Nat} {own ro:Nat->Prop} {Z:gB} {W W':World} {dL:Nat->Prop} (h:Env Mu Wg own ro W) (hz:Z.sy Wg) (hk:Kept Z own W dL W'):Env Mu Wg dL ro W':=
 ⟨h.rs, λb hb=>by
   rcases hk.new b hb with h1|⟨h1,h2⟩
   ·exact ⟨aK (h.own b h1).1 hk.rely.size,(h.own b h1).2⟩
   ·exact ⟨h2, λe=>by have :=h.mu;omega, λe=>by have :=h.wg;omega, λe=>by have :=h.ro b e;omega⟩,
  λb hb=>aK (h.ro b hb) hk.rely.size,aK h.mu hk.rely.size,aK h.wg hk.rely.size,aK h.kU hk.rely.size,lI h.wl (hk.rely.sy _ hz)⟩
theorem WK.sub {cw cm cb bs bm bf bw:Nat} {ss:List fI} {n:Nat} {m:Bool} {own dL ro:Nat->Prop} {W:World} (h:WK cw cm cb bs bm bf bw ss n m own ro W) (hs:∀b,own b->dL b):WK cw cm cb bs bm bf bw ss n m dL ro W:=
 ⟨h.XN,h.rcb,h.Zg,hs _ h.XO,h.Va,h.XP,h.vcm,h.Zh⟩
theorem Kc {Mu:Nat} {Z:gB} {own dL:Nat->Prop} {W0 w W':World} (hz:Z.sy Mu) (hF:KM 97 Mu Z own W0 w) (hk:Kept Z own w dL W'):KM 97 Mu Z dL W' W':=
 ⟨dZ.refl _,Bh hF.2 (hk.rely.sy _ hz)⟩
section
variable {Mu Wg cw cm cb bs bm bf bw:Nat} {ty:TypeId} {N:Nat->Nat} {J:Nat->Nat->(Nat->Prop)->World->Prop} {ro:Nat->Prop} {Anch:(Nat->Prop)->Goroutine->World->Prop}
variable {own:Nat->Prop} {W0:World} {i k c:Nat}
noncomputable def Mk:Frame:={ (default:Frame) with fn:=Tryz.prog.funcs.size,defers:=[],mode:=.panicking [goexitEntry] }
noncomputable def GM (Wg cw cm Mu cb bs bm bf lim s:Nat) (Rz:List Deferred) (j8 j9 j10 j11 j12 j13 l6 l7 l8 l9 mg nO nP nQ mh mo mq mD mE mF mG mH mJ mK:Value):Goroutine:=
 G ((baseD 63).at ⟨#[.pointer (some ⟨Wg,0,none⟩),.pointer (some ⟨cw,0,none⟩),.pointer (some ⟨cm,0,none⟩),.pointer (some ⟨Mu,0,none⟩),.pointer (some ⟨cb,0,none⟩),.pointer (some ⟨bs,0,none⟩),.pointer (some ⟨bm,0,none⟩),.pointer (some ⟨bf,0,none⟩),j8,j9,j10,j11,j12,j13,.int .u64 (lim:Int),.int .u64 (s:Int),l6,l7,l8,l9,mg,nO,nP,nQ,mh,mo,mq,mD,mE,mF,mG,mH,mJ,mK],Rz⟩ [.code LW,.inLoop LW,.inBlock 0]) [Mk]
def Am (Wg cw cm Mu cb bs bm bf lim s:Nat) (Rz:List Deferred) (Q:Goroutine->Prop):Prop:=
 ∀j8 j9 j10 j11 j12 j13 l6 l7 l8 l9 mg nO nP nQ mh mo mq mD mE mF mG mH mJ mK,Q (GM Wg cw cm Mu cb bs bm bf lim s Rz j8 j9 j10 j11 j12 j13 l6 l7 l8 l9 mg nO nP nQ mh mo mq mD mE mF mG mH mJ mK)
theorem ae2 {m:Bool} {ss:List fI} {n s lim:Nat} {Rz:List Deferred} {w:World} {Stop:(Nat->Prop)->Goroutine->World->Prop}
 (hw:WK cw cm cb bs bm bf bw ss n m own ro W0) (he:Env Mu Wg own ro W0) (hs:s<lim) (hl:lim=2 ^ n) (hn:n<=15) (hF:KM 97 Mu ((cfg Mu Wg ty N J ro Anch).Zw k) own W0 w)
 (hp:gT ss (n+1) s m=false)
 (hnext:∀dL W',Kept ((cfg Mu Wg ty N J ro Anch).Zw k) own W0 dL W'->∀w',KM 97 Mu ((cfg Mu Wg ty N J ro Anch).Zw k) dL W' w'->Am Wg cw cm Mu cb bs bm bf lim (s+1) Rz λg=>Gw Tryz.prog false ((cfg Mu Wg ty N J ro Anch).Zw k) Stop dL g w'):
 Am Wg cw cm Mu cb bs bm bf lim s Rz λg=>Gw Tryz.prog false ((cfg Mu Wg ty N J ro Anch).Zw k) Stop own g w:=by
 intro j8 j9 j10 j11 j12 j13 l6 l7 l8 l9 mg nO nP nQ mh mo mq mD mE mF mG mH mJ mK;unfold Am at hnext;unfold GM at hnext ⊢;have hz:((cfg Mu Wg ty N J ro Anch).Zw k).sy Mu:=.inl (.inl rfl);have DL:((cfg Mu Wg ty N J ro Anch).Zw k).sy Wg:=.inl (.inr rfl);have hnm:¬((cfg Mu Wg ty N J ro Anch).Zw k).mute:= λh=>h
 have d0:decide ((s:Int)<(lim:Int))=true:=by simpa using hs
 have HL:=dw hl;clear hl;simp only [LW,Eo,dM,Tryz.f63,ak] at hnext ⊢;refine dH (n:=60) ?_
 repeat w_go (dF hz)
 refine cz λw₁ h₁=>?_
 replace hF:=dF hz hF h₁;clear h₁;have hw1:=hw.rely rfl hF.1;refine GH (o:=?_) (x:=?_) (ad:=⟨cw,0,none⟩) ?_ ?_ ?_ ?_ ?_ hnm (.inr hw1.XN) hw1.Va ?_
 rotate_left 2
 iterate 2 rfl
 ·k_ne
 iterate 2 rfl
 intro w₂ h₂;replace hF:=dF hz hF h₂;clear h₂ hw1;refine dH (n:=60) ?_
 walk_nrm
 repeat w_go (dF hz)
 refine cz λw₁ h₁=>?_
 replace hF:=dF hz hF h₁;clear h₁;have hw1:=hw.rely rfl hF.1;refine sF (o:=?_) (x:=?_) (ad:=⟨cm,0,none⟩) ?_ ?_ ?_ ?_ ?_ hnm (.inl hw1.XO) hw1.vcm ?_
 rotate_left 2
 iterate 2 rfl
 ·k_ne
 iterate 2 rfl
 intro w₂ h₂;replace hF:=dF hz hF h₂;clear h₂ hw1;refine dH (n:=60) ?_
 walk_nrm
 repeat w_go (dF hz)
 refine cz λw₁ h₁=>?_
 replace hF:=dF hz hF h₁;clear h₁;refine sJ (o:=?_) (args:=?_) (ats:=?_) ?_ ?_ ?_ ?_ Tryz.func65 Jo Jp ?_
 rotate_left 3
 iterate 2 rfl
 ·k_ne
 ·rfl
 intro w₂ h₂;replace hF:=dF hz hF h₂;clear h₂;walk_nrm;have hlm:s<2 ^ (n+1):=by have :=HL.out;rw [this] at hs;rw [Nat.pow_succ];omega
 refine Pz (he.rel DL hF.1) (hw.rely rfl hF.1) hlm hn λdL W' hk=>?_
 rw [hp];rw [Frame.finish_at];have hnx:=hnext dL W' ⟨hF.1.trans hk.rely,hk.sub, λb hb=>(hk.new b hb).imp id λh=>⟨aT hF.1.size h.1,h.2⟩⟩;clear hnext
 have aw4:(s:Int)+1<18446744073709551616:=by
  have :=HL.out;have h2:2 ^ n<=2 ^ 15:=Nat.pow_le_pow_right (by decide) hn;omega
 have hwr:IntKind.u64.wrap ((s:Int)+1)=((s+1:Nat):Int):=by rw [IntKind.wrap_u64];omega
 replace hF:=Kc hz hF hk;refine dH (n:=60) ?_
 walk_nrm
 repeat w_nl (dF hz)
 u_c stepG_inLoop (dF hz) hF
 rw [show ((s:Int)+1)=((s+1:Nat):Int) from by simp];exact cz λw₃ h₃=>hnx w₃ (dF hz hF h₃) _ _ _ _ _ _ _ _ _ _ _ _ _ _ _ _ _ _ _ _ _ _ _ _
end
end
end Go.Proofs.Tryz
