/- Part 2. -/
import Derived.Test.YtmhmpoeoapkbaaaGreatS01
import Derived.Test.YtmhmpoeoapkbaaaGreatH06
set_option maxRecDepth 100000
set_option maxHeartbeats 0
set_option linter.all false
section
namespace Go.Proofs.Tryz
open Go Go.RowKit Go.ChangeShapes Go.WideShapes Go.ChangeAt Go.Conc Go.ConcM Par
@[reducible] noncomputable def stA:Lo.St:=⟨.refuse "",.refuse ""⟩
@[reducible] noncomputable def stT:Lo.St:=⟨Tryz.c0,.refuse ""⟩
noncomputable def qa4:Program:=@Lo.prog stA
noncomputable def qa3:Program:=@Lo.prog stT
section
attribute [local instance] noSh
theorem qaa(st:Lo.St):Par.Alike (@Lo.prog st) Tryz.prog:=by
 have e1:Tryz.prog.stub 6 st.c5=(@Lo.prog st).stub 13 (Tryz.f13.body.getD .skip):=by
  rw[@Lo.iB st,Fh];exact(oO (fn:=Tryz.f13) ((zg Tryz.prog _ (by decide)).trans Tryz.func13) (by unfold Tryz.f13;rfl)).symm
 have e2:Tryz.prog=(Tryz.prog.stub 6 st.c5).stub 6 (Tryz.f6.body.getD .skip):=by
  rw[Fh];exact(oO Tryz.func6 (by unfold Tryz.f6;rfl)).symm
 have h1:=Par.Alike.stub (@Lo.prog st) 13 (Tryz.f13.body.getD .skip);rw[<-e1]at h1;have h:=Par.Alike.stub (Tryz.prog.stub 6 st.c5) 6 (Tryz.f6.body.getD .skip);rw[<-e2]at h;exact h1.trans h
theorem qaD:Par.Alike qa4 qa3:=by
 have h1:Par.Alike qa4 Tryz.prog:=qaa stA
 have h2:Par.Alike Tryz.prog qa3:=by
  unfold qa3;rw[@Lo.iB stT];exact(Par.Alike.stub _ _ _).trans (Par.Alike.stub _ _ _)
 exact h1.trans h2
end
theorem qbV(st:Lo.St)(g:FuncId)(h:Tryz.prog.funcs[g]?≠(@Lo.prog st).funcs[g]?):g=6∨g=13:=by
 by_cases e:g=6
 .exact .inl e
 .by_cases e2:g=13
  .exact .inr e2
  .exfalso;refine h ?_
   rw[@Lo.iB st];exact((zg _ _ e2).trans (zg _ _ e)).symm
noncomputable def f28r:Func:={ Tryz.f13 with body:=some (.refuse "") }
theorem func28r(c:Code):(@Lo.prog ⟨c,.refuse ""⟩).funcs[13]?=some f28r:=by
 rw[@Lo.iB];exact Nt ((zg Tryz.prog _ (by decide)).trans Tryz.func13) _
noncomputable def f14r:Func:={ Tryz.f6 with body:=some (.refuse "") }
theorem func14r:qa4.funcs[6]?=some f14r:=by
 unfold qa4;rw[@Lo.iB stA];exact(zg _ _ (by decide)).trans (Nt Tryz.func6 _)
theorem func14t:qa3.funcs[6]?=some TR:=by
 unfold qa3;rw[@Lo.iB stT];exact(zg _ _ (by decide)).trans (Nt Tryz.func6 _)
theorem qal{P:Program}{q:FuncId}{fn:Func}{why:String}(h:P.funcs[q]?=some fn)(hb:fn.body=some (.refuse why))(ar:Array Value)(cs:List Frame)(w:World):∃o w1,step P (lone (Frame.enter P q ar .normal) cs w)=.ended o w1:=by
 have key:∃o,stepG P true (G (Frame.enter P q ar .normal) cs) w=.ended o w #[]:=by
  unfold stepG G;simp[Frame.enter,h,hb,stepG.exec]
 obtain⟨o,e⟩:=key;exact⟨o,w,pq e⟩
theorem qcP(S:FuncId->Bool):Ar qa4 Tryz.prog S:= λg _ hne ar cs w=>by
 rcases qbV stA g hne with rfl|rfl
 .exact qal func14r rfl ar cs w
 .exact qal (func28r _) rfl ar cs w
theorem qbW:Plain qa3 6 (.bool true):=by
 refine⟨5, λc cs w hc=>?_⟩;rw[runN_add,TT func14t];show runN qa3 1 (lone (fT qa3) (c::cs) w)=_;simp only[runN];rw[step_leave_returned (JF func14t w)]
theorem qbX: @ai2 stT:= λw cs=>⟨.returned (.bool true),w,fT qa3,⟨rfl,rfl⟩,⟨5,TT func14t cs w⟩,rfl,JF func14t w⟩
theorem qaz(st:Lo.St):iA (@Lo.prog st)=true:=by
 rw[@Lo.iB st];exact DN _ _ _ (DN _ _ _ gD)
def ν0:List FuncId:=ρo++ [3,7,8,13,23,37]
def ωe(g:FuncId):Bool:=ν0.contains g
def δG(g:FuncId):Bool:=ν0.contains g&&g !=6
theorem qdZ:ν0.all (EK (@Lo.prog stA) ωe δG)=true:=by kernel_rfl
theorem qe0:ν0.all (EK (@Lo.prog stT) ωe δG)=true:=by kernel_rfl
end Go.Proofs.Tryz
end
section
namespace Go.Proofs.Tryz
open Go Go.RowKit Go.ChangeShapes Go.WideShapes Go.ChangeAt Go.Conc Go.ConcM Par
theorem qbY[Par.Sh](A:Nat->Bool):kL qa4 (FA ωe δG (fe qa4 ωe δG) A):=
 Mr (λg hg=>List.all_eq_true.1 qdZ g (by simpa[ωe]using hg)) (λg h=>by simp only[δG,Bool.and_eq_true]at h;exact h.1) A
theorem qb8[Par.Sh](A:Nat->Bool):kL qa3 (FA ωe δG (fe qa4 ωe δG) A):=by
 have h:kL qa3 (FA ωe δG (fe qa3 ωe δG) A):=Mr (λg hg=>List.all_eq_true.1 qe0 g (by simpa[ωe]using hg)) (λg h=>by simp only[δG,Bool.and_eq_true]at h;exact h.1) A
 rwa [qaD.code]at h
theorem qcZ(g:FuncId)(hg:ωe g=true):Tryz.prog.inits.idxOf? g=none:=by
 have h:(ν0.all λg=>Tryz.prog.inits.idxOf? g==none)=true:=by kernel_rfl
 have :=List.all_eq_true.1 h g (by simpa[ωe]using hg);simpa using this
theorem qd0(g:FuncId)(hg:ωe g=true)(h:Tryz.prog.funcs[g]?≠qa3.funcs[g]?):(g=6∧δG g=false)∨∀ar cs w,∃o w1,step qa3 (lone (Frame.enter qa3 g ar .normal) cs w)=.ended o w1:=by
 rcases qbV stT g h with rfl|rfl
 .exact .inl ⟨rfl,rfl⟩
 .exact .inr λar cs w=>qal (func28r _) rfl ar cs w
theorem qcw:Follows (@Lo.prog stA) ωe:=
 ⟨qaa stA,qcP ωe,rfl,rfl,by rw[@Lo.get stA _ _ Tryz.func25 (by decide) (by decide)];exact Tryz.func25,by rw[@Lo.get stA _ _ Tryz.func28 (by decide) (by decide)];exact Tryz.func28⟩
theorem qd1{P:Program}{b:Frame}{a:Act}{k:List Item}{cs:List Frame}{w:World}{ops:Array Oper}{i:Nat}{rest:List Nat}{o:Oper}{v:Value}(ho:ops[i]?=some o)(hw:Region.wanted o (yielded ops a.tmps)=true)(hr:(execOp a.eval o).run P w=.ok (.value v) w):
 step P (lone (b.at a (.inRegion ops (i::rest)::k)) cs w)=.next (lone (b.at (a.put o.dst v) (.inRegion ops rest::k)) cs w):=by
 have hg:=stepG_op (P:=P) (b:=b) (k:=k) (cs:=cs) (w:=w) (rest:=rest) ho hw
 have vg:(b.at a (.inRegion ops (i::rest)::k)).finish v=b.at (a.put o.dst v) (.inRegion ops rest::k):=by
  rw[Frame.finish_at,ho];rfl
 refine step_lone_go ?_
 rw[hg, <-vg];simp[stepG.apply,hr]
theorem qcx[Lo.St]{a:Act}{w:World}{o:Oper}{t bx:Nat}{v1 v2 v3 v4:Value}{fr:Nat×Nat}(hop:o.op=.load 26 (.tmp t))(hx:a.tmps[t]?=some (.pointer (some ⟨bx,0,none⟩)))(hb:w.heap[bx]?=some (.cells #[v1,v2,v3,v4] 26 fr)):
 (execOp a.eval o).run Lo.prog w=.ok (.value (.agg #[v1,v2,v3,v4])) w:=by
 have c0:w.cell? ⟨bx,0,none⟩=some v1:=by unfold World.cell?;simp only[hb];rfl
 have c1:w.cell? ⟨bx,1,none⟩=some v2:=by unfold World.cell?;simp only[hb];rfl
 have c2:w.cell? ⟨bx,2,none⟩=some v3:=by unfold World.cell?;simp only[hb];rfl
 have c3:w.cell? ⟨bx,3,none⟩=some v4:=by unfold World.cell?;simp only[hb];rfl
 have he:a.eval (.tmp t)=.pointer (some ⟨bx,0,none⟩):=by
  show a.tmps.getD t undef=_;rw[Array.getD_eq_getD_getElem?,hx];rfl
 unfold execOp;simp only[hop,he];simp[go_sem,Lo.runUnderlying,Lo.typeInfo,Lo.sizeOf,Lo.isAgg,Lo.zeroValue,Lo.underlying,c0,c1,c2,c3]
theorem qcy{P:Program}{g:FuncId}{fn:Func}{ops:Array Oper}{rest:List Nat}{z:Code}{a:Act}{w:World}{R:Value->World->Prop}(hf:P.funcs[g]?=some fn)(h:wpOps P ops (λe a w=>e=.normal∧z.wp P (bodyPost P fn λe w'=>∃v,e=.returned v∧R v w') a w) rest a w)(cs:List Frame):
 ∃n v w' fr',R v w'∧runN P n (lone ((base g).at a [.inRegion ops rest,.code z]) cs w)=.next (lone fr' cs w')∧fr'.leaving P w' (.returned v):=by
 obtain⟨e,a1,w1,⟨rfl,h2⟩,harr⟩:=wp_ops rest a w h (base g) [.code z] cs;obtain⟨n,v,w',fr',h3,h4,h5⟩:=Oz hf h2 cs;obtain⟨m,hm⟩:=Steps.trans harr ⟨n,h4⟩;exact⟨m,v,w',fr',h3,hm,h5⟩
def qbZ(L:List Part)(b:dO)(tb:Nat)(a:Act)(w:World)(v:gJ):Prop:=
 letI:=zi L Tryz.prog.types.size
 (∃(bx:Nat)(fr:Nat×Nat),a.tmps[tb]?=some (.pointer (some ⟨bx,0,none⟩))∧w.heap[bx]?=some (.cells #[.slice v.ah b.dJ.length v.ch,.slice v.ap b.dz.length v.cp,.slice v.iT b.steps.length v.cs,.slice v.ac b.dA.length v.cc] 26 fr))∧fC w w.heap.size b v∧
   ∃As:Nat->Prop,(∀x,As x->x<w.heap.size∧aL L x=true∧∃c e fr,w.heap[x]?=some (.cells c e fr)∧∀y∈c,∀(S V:FuncId->Bool)(cd:Code->Bool),vs (FA S V cd (Bd (iL As w.heap.size) w.heap.size)) y=true)∧∀(S V:FuncId->Bool)(cd:Code->Bool),vs (FA S V cd (Bd (iL As w.heap.size) w.heap.size)) (dY b v)=true
theorem qbi{L:List Part}{W w:World}(hL:∀x∈L,x.h=false->U9 L Tryz.prog.types.size W x)(hz:L.length+1<=w.heap.size)(h:∀x,x<L.length+1->w.heap[x]?=(wL L Tryz.prog.types.size W).heap[x]?):
 letI:=zi L Tryz.prog.types.size;(∀x,Bd (aL L) (L.length+1) x=true->x<w.heap.size∧aL L x=true∧∃c e fr,w.heap[x]?=some (.cells c e fr)∧∀y∈c,∀(S V:FuncId->Bool)(cd:Code->Bool),vs (FA S V cd (Bd (iL (λx=>Bd (aL L) (L.length+1) x=true) w.heap.size) w.heap.size)) y=true)∧
  ∀y,(∀(S V:FuncId->Bool)(cd:Code->Bool),vs (FA S V cd (Bd (aL L) (L.length+1))) y=true)->∀(S V:FuncId->Bool)(cd:Code->Bool),vs (FA S V cd (Bd (iL (λx=>Bd (aL L) (L.length+1) x=true) w.heap.size) w.heap.size)) y=true:=by
 letI:=zi L Tryz.prog.types.size
 have mono:∀y,(∀(S V:FuncId->Bool)(cd:Code->Bool),vs (FA S V cd (Bd (aL L) (L.length+1))) y=true)->∀(S V:FuncId->Bool)(cd:Code->Bool),vs (FA S V cd (Bd (iL (λx=>Bd (aL L) (L.length+1) x=true) w.heap.size) w.heap.size)) y=true:= λy hy S V cd=>
  xZ (F:=FA S V cd (Bd (aL L) (L.length+1))) (F':=FA S V cd (Bd (iL (λx=>Bd (aL L) (L.length+1) x=true) w.heap.size) w.heap.size)) ⟨rfl,rfl⟩ (λx hx=>gH.2 ⟨mZ.2 (.inl hx),Nat.lt_of_lt_of_le (gH.1 hx).2 hz⟩) y (hy S V cd)
 refine⟨λx hx=>?_,mono⟩;obtain⟨h1,h2⟩:=gH.1 hx;obtain⟨hb1,hb2⟩:=xe.1 h1;have hlt:x<(wL L Tryz.prog.types.size W).heap.size:=by rw[sQ];exact h2
 obtain⟨p,hp,e⟩:=Rb (W:=W) (L:=L) (bad:=Tryz.prog.types.size) hb1 (Array.getElem?_eq_getElem hlt);have hl:=hL p (List.mem_of_getElem? hp) ((zM (bad:=Tryz.prog.types.size) hb1 hp).2.2.symm.trans hb2);refine⟨by omega,h1,p.c,_,_,(h x h2).trans ((Array.getElem?_eq_getElem hlt).trans (by rw[e];rfl)), λy hy=>mono y λS V cd=>hl.ok y hy S V cd⟩
section
variable {L:List Part} {W:World} {g:FuncId} {fn:Func} {code z:Code} {b:dO} {tb n id:Nat} {ops:Array Oper} {rest:List Nat} {o0 o1:Oper} {t0:Nat} {ats:Array TypeId} {args args':Array Value}
theorem qcz(h:W.ShapedOpen Tryz.prog)(hg:ωe g=true)(hfn:Tryz.prog.funcs[g]?=some fn)(h14:g≠6)(h28:g≠13)(hL:∀x∈L,x.h=false->U9 L Tryz.prog.types.size W x)
 (ha:letI:=zi L Tryz.prog.types.size;VS (FA ωe δG (fe qa4 ωe δG) (Bd (aL L) (L.length+1))) args) (XJ:letI:=zi L Tryz.prog.types.size;args'=args.map (rv (fL L)))
 (kS:∀τ,Calls qa3 g args ((wL L Tryz.prog.types.size W).tp τ) λe _=>e=.returned (.bool true)) {Post:Value->World->Prop}
 (hpost:∀W',W'.tape=W.tape->W'.output=W.output->OsLater W.os W'.os->W.heap.size<=W'.heap.size->(∀b,b<W.heap.size->W'.heap[b]?=W.heap[b]?)->Post (.bool true) W'):
 Par.Ends Tryz.prog Post (solo (G (Frame.enter Tryz.prog g args' .normal) []) W) #[]:=by
 have hW:0<W.heap.size:=by obtain⟨o,h0,_⟩:=ZK h;exact(Array.getElem?_eq_some_iff.1 h0).1
 letI:Par.Sh:=zi L Tryz.prog.types.size;have hfT:qa3.funcs[g]?=some fn:=@Lo.get stT _ _ hfn h14 h28
 have qe1:qa3.globals.size=0:=by
  have :=(qaa stT).globals;show(@Lo.prog stT).globals.size=0;rw[<-this];exact NC
 have p0:Pos qa3 ωe δG (fe qa4 ωe δG) (af1 L Tryz.prog.types.size W):=qbS (P:=qa3) qb8 (qaz stT) qe1 (by show(@Lo.prog stT).info? _=none;rw[@Lo.info stT];exact V9) (λt i hi u=>PI t i (by rw[<- @Lo.info stT];exact hi) u) hW hL;have hsz:(af1 L Tryz.prog.types.size W).w0.heap.size=L.length+1:=sQ;have ha':VS (FA ωe δG (fe qa4 ωe δG) (Bd (af1 L Tryz.prog.types.size W).A (af1 L Tryz.prog.types.size W).w0.heap.size)) args:=by rw[hsz];exact ha
 have ZP:ic (fL L) (Frame.enter qa3 g args .normal)=Frame.enter Tryz.prog g args' .normal:=by
  have :=zA (P:=qa3) (F:=FA ωe δG (fe qa4 ωe δG) (Bd (aL L) (L.length+1))) (f:=fL L) (qb8 _) hg args;rw[<-this,XJ];unfold Frame.enter;rw[hfT,hfn]
 have hfo:=jM.enter (P:=qa3) (F:=FA ωe δG (fe qa4 ωe δG) (Bd (af1 L Tryz.prog.types.size W).A (af1 L Tryz.prog.types.size W).w0.heap.size)) (qb8 _) hg ha';have em:(Frame.enter qa3 g args .normal).mode=.run∧(Frame.enter qa3 g args .normal).roundOf=none:=⟨rfl,rfl⟩;refine iF.start ?_ (λb hb=>hb)
 rw[<-ZP];refine p0.tail (q:=6) (v0:=.bool true) (R:= λv _=>v=.bool true) (qaa stT) (λf=>jZ f true) (λF=>sw true) qd0 qbW LH (λx hx=>hx) (by rw[NC];exact hW) qcZ hfo em.1 em.2 (qav λτ=>(kS τ).mono λe w' he=>⟨_,he,rfl⟩) (λv' w' f' ar7 W3 hv' hB3=>?_) _;subst hv';rw[jZ];exact hpost W3 hB3.since.tape hB3.since.out hB3.since.os hB3.since.size hB3.kept
end
end Go.Proofs.Tryz
end
section
namespace Par
open Go Go.Conc Go.ConcM
def qaf(P:Program)(b:Frame)(k:List Item)(cs:List Frame)(T:Frame->World->Prop)(c:Code)(a:Act)(w:World):Prop:=
 ∃fr w',T fr w'∧Steps P (lone (b.at a (.code c::k)) cs w) (lone fr cs w')
theorem qaf.here{P:Program}{b:Frame}{k:List Item}{cs:List Frame}{z:Code}{T:Frame->World->Prop}{a:Act}{w:World}(h:T (b.at a (.code z::k)) w):qaf P b k cs T z a w:=⟨_,w,h,Steps.refl _ _⟩
theorem qbt{P:Program}{b:Frame}{k:List Item}{cs:List Frame}{z c:Code}{T:Frame->World->Prop}{a:Act}{w:World}(hz:z=c)(h:T (b.at a (.code z::k)) w):qaf P b k cs T c a w:=hz ▸ qaf.here (hz ▸ h)
theorem qaf.seq{P:Program}{b:Frame}{k:List Item}{cs:List Frame}{x y:Code}{T:Frame->World->Prop}{a:Act}{w:World}(h:x.wp P (λe a w=>e=.normal∧qaf P b k cs T y a w) a w):qaf P b k cs T (.seq x y) a w:=by
 obtain⟨e,a1,w1,⟨rfl,fr,w2,hT,hs⟩,harr⟩:=h b (.code y::k) cs;exact⟨fr,w2,hT,Steps.trans (.head step_seq harr) hs⟩
end Par
namespace Go.Proofs.Tryz
open Go Go.Conc Go.ConcN Go.ConcM Go.RowKit Go.Conc.Lib Go.ConcR.Gen Par
def AtQ(g:FuncId)(P:dO->Act->World->Prop)(N:Act->World->Prop)(z ωP:Code)(fr:Frame)(w:World):Prop:=
 (∃b a,P b a w∧fr=(base g).at a [.code z])∨∃a,N a w∧fr=(base g).at a [.code ωP]
section
variable {L:List Part} {W:World} {g:FuncId} {fn:Func} {code z ωP:Code} {tb n id:Nat} {ops:Array Oper} {rest:List Nat} {o0 o1:Oper} {t0:Nat} {ats:Array TypeId} {args args':Array Value}
theorem qcA(h:W.ShapedOpen Tryz.prog)(hg:ωe g=true)(hfn:Tryz.prog.funcs[g]?=some fn)(h14:g≠6)(h28:g≠13)(hbd:fn.body=some code)(hL:∀x∈L,x.h=false->U9 L Tryz.prog.types.size W x)
 (ha:letI:=zi L Tryz.prog.types.size;VS (FA ωe δG (fe qa4 ωe δG) (Bd (aL L) (L.length+1))) args) (XJ:letI:=zi L Tryz.prog.types.size;args'=args.map (rv (fL L)))
 (ho0:ops[0]?=some o0) (hw0:∀y,Region.wanted o0 y=true) (qeb:o0.op=.load 26 (.tmp tb)) (hd0:o0.dst=some t0)
 (ho1:ops[1]?=some o1) (hw1:∀y,Region.wanted o1 y=true) (hop1:o1.op=.call { callee:=.value (.func 13),args:= #[.tmp t0],argTypes:=ats })
 (hrange:List.range ops.size=0::1::rest) {T:dO->Act->World->Prop} {N:Act->World->Prop} (hT:∀b a w,T b a w->b.small∧fG b=0∧a.defers= []∧t0<a.tmps.size∧∃v,qbZ L b tb a w v) (hN:∀a w,N a w->a.defers= [])
 (hit:∀τ,qaf qa4 (base g) [] [Par.stk] (AtQ g T N (.seq (.region id ops false) z) ωP) code ⟨args++Array.replicate (fn.ntmps-args.size) undef,[]⟩ ((wL L Tryz.prog.types.size W).tp τ))
 (tail:∀b a w w'(v:gJ)A cap st eO found,T b a w->w.heap.size<=w'.heap.size->(∀x,x<w.heap.size->w'.heap[x]?=w.heap[x]?)->lq (fU (fA b (-1)) b.steps.length (iI (fA b (-1)) b.steps.length false).length (iI (fA b (-1)) b.steps.length true).length) st eO found->st.length<=16->xJ w' w'.heap.size A st->
   wpOps qa3 ops (λe a w=>e=.normal∧z.wp qa3 (bodyPost qa3 fn λe w'=>∃v,e=.returned v∧v=.bool true) a w) rest ((a.put o0.dst (dY b v)).put o1.dst (qap A st.length cap eO found)) w')
 (qe2:∀a w τ,N a w->ωP.wp qa3 (bodyPost qa3 fn λe w'=>∃v,e=.returned v∧v=.bool true) a (w.tp τ))
 {Post:Value->World->Prop}
 (hpost:∀W',W'.tape=W.tape->W'.output=W.output->OsLater W.os W'.os->W.heap.size<=W'.heap.size->(∀b,b<W.heap.size->W'.heap[b]?=W.heap[b]?)->Post (.bool true) W'):
 Par.Ends Tryz.prog Post (solo (G (Frame.enter Tryz.prog g args' .normal) []) W) #[]:=by
 have hW:0<W.heap.size:=by obtain⟨o,h0,_⟩:=ZK h;exact(Array.getElem?_eq_some_iff.1 h0).1
 letI:Par.Sh:=zi L Tryz.prog.types.size;have hfA:qa4.funcs[g]?=some fn:=@Lo.get stA _ _ hfn h14 h28
 have hfT:qa3.funcs[g]?=some fn:=@Lo.get stT _ _ hfn h14 h28
 have qe3:qa4.globals.size=0:=by
  have :=(qaa stA).globals;show(@Lo.prog stA).globals.size=0;rw[<-this];exact NC
 have p0:Pos qa4 ωe δG (fe qa4 ωe δG) (af1 L Tryz.prog.types.size W):=qbS (P:=qa4) qbY (qaz stA) qe3 (by show(@Lo.prog stA).info? _=none;rw[@Lo.info stA];exact V9) (λt i hi u=>PI t i (by rw[<- @Lo.info stA];exact hi) u) hW hL;have hsz:(af1 L Tryz.prog.types.size W).w0.heap.size=L.length+1:=sQ;have ha':VS (FA ωe δG (fe qa4 ωe δG) (Bd (af1 L Tryz.prog.types.size W).A (af1 L Tryz.prog.types.size W).w0.heap.size)) args:=by rw[hsz];exact ha
 have ZP:ic (fL L) (Frame.enter qa4 g args .normal)=Frame.enter Tryz.prog g args' .normal:=by
  have :=zA (P:=qa4) (F:=FA ωe δG (fe qa4 ωe δG) (Bd (aL L) (L.length+1))) (f:=fL L) (qbY _) hg args;rw[<-this,XJ];unfold Frame.enter;rw[hfA,hfn]
 have enA:=enter_at (P:=qa4) (f:=g) args hfA hbd;refine iF.start (iF.walk ?_ rfl rfl) (λb hb=>hb);rw[<-ZP];refine p0.seg (fT:=Frame.enter qa4 g args .normal) (K:=[]) (T:= λfr w=>(∃b a v,T b a w∧qbZ L b tb a w v∧fr=(base g).at (a.put o0.dst (dY b v)) [.inRegion ops (1::rest),.code z])∨∃a,N a w∧fr=(base g).at a [.code ωP]) (qaa stA) (qcP ωe) (jM.enter (qbY _) hg ha') (by rw[enA];rfl) (by rw[enA];rfl) (λfr w hx=>?_) (λτ=>?_) λfr w f dD W' hx hf hB=>?_
 .rcases hx with⟨b,a,v,_,_,rfl⟩|⟨a,_,rfl⟩<;>rfl
 .obtain⟨fr,w,hx,hsteps⟩:=hit τ;rcases hx with⟨b,a,hTa,rfl⟩|⟨a,hNa,rfl⟩
  .obtain⟨_,_,hd,ht0,v,hcall⟩:=hT b a w hTa;have qdQ:=hcall;obtain⟨⟨bx,fr,e1,e2⟩,_⟩:=qdQ
   have s1:Steps qa4 (lone ((base g).at a [.code (.seq (.region id ops false) z)]) [Par.stk] w) (lone ((base g).at (a.put o0.dst (dY b v)) [.inRegion ops (1::rest),.code z]) [Par.stk] w):=by
    refine .head step_seq (.head step_region ?_);rw[hrange];exact .one (qd1 ho0 (hw0 _) (@qcx stA _ _ _ _ _ _ _ _ _ _ qeb e1 e2))
   obtain⟨m,hm⟩:=hsteps.trans s1;refine⟨m,_,w,.inl ⟨b,a,v,hTa,hcall,rfl⟩,?_⟩;rw[enA];exact hm
  .obtain⟨m,hm⟩:=hsteps;refine⟨m,_,w,.inr ⟨a,hNa,rfl⟩,?_⟩;rw[enA];exact hm
 .have p1:=p0.next hB;refine .stop λW1 hr=>?_
  have p2:Pos qa4 ωe δG (fe qa4 ωe δG) ⟨w,W1,f, λb=>b<W.heap.size,dD,aL L⟩:=p1.move hr.size hr.own (λ_ h=>h) λb hb=>Nat.lt_of_lt_of_le (hB.Wu b hb) hr.size
  rcases hx with⟨b,a,v,hTa,⟨_,hb,As,hAs,hv⟩,rfl⟩|⟨a,hNa,rfl⟩
  .obtain⟨hs,hc,hd,ht0,_⟩:=hT b a w hTa
   have hget:(a.put o0.dst (dY b v)).tmps[t0]?=some (dY b v):=by
    rw[hd0];simp[Act.put,ht0]
   refine qcY (D:=⟨w,W1,f, λb=>b<W.heap.size,dD,aL L⟩) (st:=stA) (K:=[]) (As:=As) qcw p2 (λx hx=>?_) (hv _ _ _) hb hs hc (g:=g) (a:=a.put o0.dst (dY b v)) (ops:=ops) (i:=1) (rest:=rest) (kk:=[.code z]) (o:=o1) (t:=t0) (ats:=ats) (by rw[hd0];exact hd) ho1 hw1 hop1 hget hf ?_
   .obtain⟨q1,q2,c,e,fr,q3,q4⟩:=hAs x hx;exact⟨q1,q2,c,e,fr,q3, λy hy=>q4 y hy _ _ _⟩
   .intro D' A cap st eO found mJ iq hlen p3 went hrd hf3;have p4:Pos qa3 ωe δG (fe qa4 ωe δG) D':=p3.prog qaD qb8 (qaz stT);have hown:∀x,x<W.heap.size->D'.dR x:= λx hx=>went.sub x (hB.owns x hx)
    have qbU:Tryz.prog.globals.size<D'.W0.heap.size:=by
     rw[NC];have h1:=went.size;have h2:=hr.size;have h3:=hB.since.size;have h3:W.heap.size<=W'.heap.size:=h3;have h1:W1.heap.size<=D'.W0.heap.size:=h1;omega
    refine p4.tail (q:=6) (v0:=.bool true) (R:= λv _=>v=.bool true) (qaa stT) (λf=>jZ f true) (λF=>sw true) qd0 qbW LH (λx hx=>hown x (by rw[went.L]at hx;exact hx)) qbU qcZ (jM.alike qaD hf3) (nO _ _) (l6 _ _) (λτ=>?_) (λv' w' f' ar7 W3 hv' hB3=>?_) mJ
    .have vg:((base g).at (a.put o0.dst (dY b v)) (.inRegion ops (1::rest):: [.code z])).finish (qap A st.length cap eO found)=(base g).at ((a.put o0.dst (dY b v)).put o1.dst (qap A st.length cap eO found)) [.inRegion ops rest,.code z]:=by
      rw[Frame.finish_at,ho1];rfl
     rw[vg];obtain⟨n,v',w',fr',h1,h2,h3⟩:=qcy hfT (tail b a w (D'.w0.tp τ) v A cap st eO found hTa went.lone.size (λx hx=>went.lone.block x hx) iq hlen hrd) [Par.stk];exact⟨n,v',w',fr',h1,h2,h3⟩
    .subst hv';rw[jZ];have s1:=hB.since;have s3:=hB3.since;refine hpost W3 (s3.tape.trans (went.tape.trans (hr.tape.trans s1.tape))) (s3.out.trans (went.out.trans (hr.out.trans s1.out))) (((s1.os.trans hr.os).trans went.os).trans s3.os) (Nat.le_trans s1.size (Nat.le_trans hr.size (Nat.le_trans went.size s3.size))) λx hx=>?_
     have k1:W'.heap[x]?=W.heap[x]?:=hB.kept x hx
     have k2:W1.heap[x]?=W'.heap[x]?:=hr.own x (hB.owns x hx)
     have k3:D'.W0.heap[x]?=W1.heap[x]?:=went.kept x (hB.owns x hx)
     have k4:W3.heap[x]?=D'.W0.heap[x]?:=hB3.kept x (by rw[went.L];exact hx)
     exact k4.trans (k3.trans (k2.trans k1))
  .have p4:Pos qa3 ωe δG (fe qa4 ωe δG) ⟨w,W1,f, λb=>b<W.heap.size,dD,aL L⟩:=p2.prog qaD qb8 (qaz stT)
   have qbU:Tryz.prog.globals.size<W1.heap.size:=by
    rw[NC];have h2:=hr.size;have h3:W.heap.size<=W'.heap.size:=hB.since.size;omega
   refine p4.tail (q:=6) (v0:=.bool true) (R:= λv _=>v=.bool true) (qaa stT) (λf=>jZ f true) (λF=>sw true) qd0 qbW LH (λx hx=>hB.owns x hx) qbU qcZ (jM.alike qaD hf) rfl rfl (λτ=>?_) (λv' w' f' ar7 W3 hv' hB3=>?_) _
   .obtain⟨n,v',w',fr',h3,h4,h5⟩:=Oz hfT (qe2 a w τ hNa) [Par.stk];exact⟨n,v',w',fr',h3,h4,h5⟩
   .subst hv';rw[jZ];have s1:=hB.since;have s3:=hB3.since;refine hpost W3 (s3.tape.trans (hr.tape.trans s1.tape)) (s3.out.trans (hr.out.trans s1.out)) ((s1.os.trans hr.os).trans s3.os) (Nat.le_trans s1.size (Nat.le_trans hr.size s3.size)) λx hx=>?_
    have k1:W'.heap[x]?=W.heap[x]?:=hB.kept x hx
    have k2:W1.heap[x]?=W'.heap[x]?:=hr.own x (hB.owns x hx)
    have k4:W3.heap[x]?=W1.heap[x]?:=hB3.kept x hx
    exact k4.trans (k2.trans k1)
end
end Go.Proofs.Tryz
end
