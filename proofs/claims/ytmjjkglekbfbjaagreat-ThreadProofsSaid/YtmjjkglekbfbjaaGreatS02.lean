/- Part 2. -/
import Derived.Test.YtmjjkglekbfbjaaGreatS01
import Derived.Test.YtmjjkglekbfbjaaGreatH06
set_option maxRecDepth 100000
set_option maxHeartbeats 0
set_option linter.all false
section
namespace Go.Proofs.Tryz
open Go Go.RowKit Go.ChangeShapes Go.WideShapes Go.ChangeAt Go.Conc Go.ConcM cS
@[reducible] noncomputable def stA:Lo.St:=⟨.refuse "",.refuse ""⟩
@[reducible] noncomputable def GS:Lo.St:=⟨Tryz.c0,.refuse ""⟩
noncomputable def E0:Program:=@Lo.prog stA
noncomputable def H0:Program:=@Lo.prog GS
section
attribute [local instance] noSh
def P1(st:Lo.St):cS.Alike (@Lo.prog st) Tryz.prog:=by
 have e1:Tryz.prog.stub 5 st.c5=(@Lo.prog st).stub 6 (Tryz.f6.body.getD .skip):=by rw[@Lo.iB st,Fh];exact(oO (fn:=Tryz.f6) ((zg Tryz.prog _ (by decide)).trans Tryz.func6) (by unfold Tryz.f6;rfl)).symm
 have e2:Tryz.prog=(Tryz.prog.stub 5 st.c5).stub 5 (Tryz.f5.body.getD .skip):=by rw[Fh];exact(oO Tryz.func5 (by unfold Tryz.f5;rfl)).symm
 have h1:=cS.Alike.stub (@Lo.prog st) 6 (Tryz.f6.body.getD .skip);rw[<-e1]at h1;have h:=cS.Alike.stub (Tryz.prog.stub 5 st.c5) 5 (Tryz.f5.body.getD .skip);rw[<-e2]at h;exact h1.trans h
def B3:cS.Alike E0 H0:=by
 have h1:cS.Alike E0 Tryz.prog:=P1 stA
 have h2:cS.Alike Tryz.prog H0:=by unfold H0;rw[@Lo.iB GS];exact(cS.Alike.stub _ _ _).trans (cS.Alike.stub _ _ _)
 exact h1.trans h2
end
def mA(st:Lo.St)(g:FuncId)(h:Tryz.prog.funcs[g]?≠(@Lo.prog st).funcs[g]?):g=5∨g=6:=by
 by_cases e:g=5
 .exact .inl e
 .by_cases e2:g=6
  .exact .inr e2
  .exfalso;refine h ?_
   rw[@Lo.iB st];exact((zg _ _ e2).trans (zg _ _ e)).symm
noncomputable def f28r:Func:={ Tryz.f6 with body:=some (.refuse "") }
def func28r(c:Code):(@Lo.prog ⟨c,.refuse ""⟩).funcs[6]?=some f28r:=by rw[@Lo.iB];exact Nt ((zg Tryz.prog _ (by decide)).trans Tryz.func6) _
noncomputable def f14r:Func:={ Tryz.f5 with body:=some (.refuse "") }
def func14r:E0.funcs[5]?=some f14r:=by unfold E0;rw[@Lo.iB stA];exact(zg _ _ (by decide)).trans (Nt Tryz.func5 _)
def func14t:H0.funcs[5]?=some TR:=by unfold H0;rw[@Lo.iB GS];exact(zg _ _ (by decide)).trans (Nt Tryz.func5 _)
def B2{P:Program}{q:FuncId}{fn:Func}{why:String}(h:P.funcs[q]?=some fn)(hb:fn.body=some (.refuse why))(ar:Array Value)(cs:List Frame)(w:World):∃o w1,step P (lone (Frame.enter P q ar .normal) cs w)=.ended o w1:=by
 have key:∃o,stepG P true (G (Frame.enter P q ar .normal) cs) w=.ended o w #[]:=by unfold stepG G;simp[Frame.enter,h,hb,stepG.exec]
 obtain⟨o,e⟩:=key;exact⟨o,w,pq e⟩
def cI(S:FuncId->Bool):Ar E0 Tryz.prog S:= λg _ hne ar cs w=>by
 rcases mA stA g hne with rfl|rfl
 .exact B2 func14r rfl ar cs w
 .exact B2 (func28r _) rfl ar cs w
def eI:Plain H0 5 (.bool true):=by refine⟨5, λc cs w hc=>?_⟩;rw[runN_add,TT func14t];show runN H0 1 (lone (fT H0) (c::cs) w)=_;simp only[runN];rw[step_leave_returned (JF func14t w)]
def rI: @Gk GS:= λw cs=>⟨.returned (.bool true),w,fT H0,⟨rfl,rfl⟩,⟨5,TT func14t cs w⟩,rfl,JF func14t w⟩
def Z3(st:Lo.St):iA (@Lo.prog st)=true:=by rw[@Lo.iB st];exact DN _ _ _ (DN _ _ _ gD)
def ye:List FuncId:=ρo++ [3,6,7,8,9,10,28,34,35,36]
def mS(g:FuncId):Bool:=ye.contains g
def pS(g:FuncId):Bool:=ye.contains g&&g !=5
def eQ:ye.all (EK (@Lo.prog stA) mS pS)=true:=by kernel_rfl
def EQ:ye.all (EK (@Lo.prog GS) mS pS)=true:=by kernel_rfl
end Go.Proofs.Tryz
end
section
namespace Go.Proofs.Tryz
open Go Go.RowKit Go.ChangeShapes Go.WideShapes Go.ChangeAt Go.Conc Go.ConcM cS
def T8[cS.Sh](A:Nat->Bool):kL E0 (FA mS pS (fe E0 mS pS) A):=
 Mr (λg hg=>List.all_eq_true.1 eQ g (by simpa[mS]using hg)) (λg h=>by simp only[pS,Bool.and_eq_true]at h;exact h.1) A
def tI[cS.Sh](A:Nat->Bool):kL H0 (FA mS pS (fe E0 mS pS) A):=by
 have h:kL H0 (FA mS pS (fe H0 mS pS) A):=Mr (λg hg=>List.all_eq_true.1 EQ g (by simpa[mS]using hg)) (λg h=>by simp only[pS,Bool.and_eq_true]at h;exact h.1) A
 rwa [B3.code]at h
def gO(g:FuncId)(hg:mS g=true):Tryz.prog.inits.idxOf? g=none:=by
 have h:(ye.all λg=>Tryz.prog.inits.idxOf? g==none)=true:=by kernel_rfl
 have :=List.all_eq_true.1 h g (by simpa[mS]using hg);simpa using this
def kO(g:FuncId)(hg:mS g=true)(h:Tryz.prog.funcs[g]?≠H0.funcs[g]?):(g=5∧pS g=false)∨∀ar cs w,∃o w1,step H0 (lone (Frame.enter H0 g ar .normal) cs w)=.ended o w1:=by
 rcases mA GS g h with rfl|rfl
 .exact .inl ⟨rfl,rfl⟩
 .exact .inr λar cs w=>B2 (func28r _) rfl ar cs w
def CI:Follows (@Lo.prog stA) mS:=
 ⟨P1 stA,cI mS,rfl,rfl,by rw[@Lo.get stA _ _ Tryz.func19 (by decide) (by decide)];exact Tryz.func19,by rw[@Lo.get stA _ _ Tryz.func20 (by decide) (by decide)];exact Tryz.func20⟩
def fN{P:Program}{b:Frame}{a:Act}{k:List Item}{cs:List Frame}{w:World}{ops:Array Oper}{i:Nat}{rest:List Nat}{o:Oper}{v:Value}(ho:ops[i]?=some o)(hw:Region.wanted o (yielded ops a.tmps)=true)(hr:(execOp a.eval o).run P w=.ok (.value v) w):
 step P (lone (b.at a (.inRegion ops (i::rest)::k)) cs w)=.next (lone (b.at (a.put o.dst v) (.inRegion ops rest::k)) cs w):=by
 have hg:=stepG_op (P:=P) (b:=b) (k:=k) (cs:=cs) (w:=w) (rest:=rest) ho hw
 have vg:(b.at a (.inRegion ops (i::rest)::k)).finish v=b.at (a.put o.dst v) (.inRegion ops rest::k):=by rw[Frame.finish_at,ho];rfl
 refine step_lone_go ?_
 rw[hg, <-vg];simp[stepG.apply,hr]
def ZI[Lo.St]{a:Act}{w:World}{o:Oper}{t bx:Nat}{v1 v2 v3 v4:Value}{fr:Nat×Nat}(hop:o.op=.load 26 (.tmp t))(hx:a.tmps[t]?=some (.pointer (some ⟨bx,0,none⟩)))(hb:w.heap[bx]?=some (.cells #[v1,v2,v3,v4] 26 fr)):
 (execOp a.eval o).run Lo.prog w=.ok (.value (.agg #[v1,v2,v3,v4])) w:=by
 have c0:w.cell? ⟨bx,0,none⟩=some v1:=by unfold World.cell?;simp only[hb];rfl
 have c1:w.cell? ⟨bx,1,none⟩=some v2:=by unfold World.cell?;simp only[hb];rfl
 have c2:w.cell? ⟨bx,2,none⟩=some v3:=by unfold World.cell?;simp only[hb];rfl
 have c3:w.cell? ⟨bx,3,none⟩=some v4:=by unfold World.cell?;simp only[hb];rfl
 have he:a.eval (.tmp t)=.pointer (some ⟨bx,0,none⟩):=by show a.tmps.getD t undef=_;rw[Array.getD_eq_getD_getElem?,hx];rfl
 unfold execOp;simp only[hop,he];simp[go_sem,Lo.runUnderlying,Lo.typeInfo,Lo.sizeOf,Lo.isAgg,Lo.zeroValue,Lo.underlying,c0,c1,c2,c3]
def bJ{P:Program}{g:FuncId}{fn:Func}{ops:Array Oper}{rest:List Nat}{z:Code}{a:Act}{w:World}{R:Value->World->Prop}(hf:P.funcs[g]?=some fn)(h:wpOps P ops (λe a w=>e=.normal∧z.wp P (bodyPost P fn λe w'=>∃v,e=.returned v∧R v w') a w) rest a w)(cs:List Frame):
 ∃n v w' fr',R v w'∧runN P n (lone ((base g).at a [.inRegion ops rest,.code z]) cs w)=.next (lone fr' cs w')∧fr'.leaving P w' (.returned v):=by
 obtain⟨e,a1,w1,⟨rfl,h2⟩,harr⟩:=wp_ops rest a w h (base g) [.code z] cs;obtain⟨n,v,w',fr',h3,h4,h5⟩:=Oz hf h2 cs;obtain⟨m,hm⟩:=Steps.trans harr ⟨n,h4⟩;exact⟨m,v,w',fr',h3,hm,h5⟩
def cJ(L:List Part)(b:dO)(tb:Nat)(a:Act)(w:World)(v:gJ):Prop:=
 letI:=zi L Tryz.prog.types.size
 (∃(bx:Nat)(fr:Nat×Nat),a.tmps[tb]?=some (.pointer (some ⟨bx,0,none⟩))∧w.heap[bx]?=some (.cells #[.slice v.ah b.dJ.length v.ch,.slice v.ap b.dz.length v.cp,.slice v.iT b.steps.length v.cs,.slice v.ac b.dA.length v.cc] 26 fr))∧fC w w.heap.size b v∧
   ∃As:Nat->Prop,(∀x,As x->x<w.heap.size∧aL L x=true∧∃c e fr,w.heap[x]?=some (.cells c e fr)∧∀y∈c,∀(S V:FuncId->Bool)(cd:Code->Bool),vs (FA S V cd (Bd (iL As w.heap.size) w.heap.size)) y=true)∧∀(S V:FuncId->Bool)(cd:Code->Bool),vs (FA S V cd (Bd (iL As w.heap.size) w.heap.size)) (dY b v)=true
def T6{L:List Part}{W w:World}(hL:∀x∈L,x.h=false->U9 L Tryz.prog.types.size W x)(hz:L.length+1<=w.heap.size)(h:∀x,x<L.length+1->w.heap[x]?=(wL L Tryz.prog.types.size W).heap[x]?):
 letI:=zi L Tryz.prog.types.size;(∀x,Bd (aL L) (L.length+1) x=true->x<w.heap.size∧aL L x=true∧∃c e fr,w.heap[x]?=some (.cells c e fr)∧∀y∈c,∀(S V:FuncId->Bool)(cd:Code->Bool),vs (FA S V cd (Bd (iL (λx=>Bd (aL L) (L.length+1) x=true) w.heap.size) w.heap.size)) y=true)∧
  ∀y,(∀(S V:FuncId->Bool)(cd:Code->Bool),vs (FA S V cd (Bd (aL L) (L.length+1))) y=true)->∀(S V:FuncId->Bool)(cd:Code->Bool),vs (FA S V cd (Bd (iL (λx=>Bd (aL L) (L.length+1) x=true) w.heap.size) w.heap.size)) y=true:=by
 letI:=zi L Tryz.prog.types.size
 have mono:∀y,(∀(S V:FuncId->Bool)(cd:Code->Bool),vs (FA S V cd (Bd (aL L) (L.length+1))) y=true)->∀(S V:FuncId->Bool)(cd:Code->Bool),vs (FA S V cd (Bd (iL (λx=>Bd (aL L) (L.length+1) x=true) w.heap.size) w.heap.size)) y=true:= λy hy S V cd=>
  xZ (F:=FA S V cd (Bd (aL L) (L.length+1))) (F':=FA S V cd (Bd (iL (λx=>Bd (aL L) (L.length+1) x=true) w.heap.size) w.heap.size)) ⟨rfl,rfl⟩ (λx hx=>gH.2 ⟨mZ.2 (.inl hx),Nat.lt_of_lt_of_le (gH.1 hx).2 hz⟩) y (hy S V cd)
 refine⟨λx hx=>?_,mono⟩;obtain⟨h1,h2⟩:=gH.1 hx;obtain⟨hb1,hb2⟩:=xe.1 h1;have hlt:x<(wL L Tryz.prog.types.size W).heap.size:=by rw[sQ];exact h2
 obtain⟨p,hp,e⟩:=Rb (W:=W) (L:=L) (bad:=Tryz.prog.types.size) hb1 (Array.getElem?_eq_getElem hlt);have hl:=hL p (List.mem_of_getElem? hp) ((zM (bad:=Tryz.prog.types.size) hb1 hp).2.2.symm.trans hb2);refine⟨by omega,h1,p.c,_,_,(h x h2).trans ((Array.getElem?_eq_getElem hlt).trans (by rw[e];rfl)), λy hy=>mono y λS V cd=>hl.ok y hy S V cd⟩
section
variable {L:List Part} {W:World} {g:FuncId} {fn:Func} {code z:Code} {b:dO} {tb n id:Nat} {ops:Array Oper} {rest:List Nat} {o0 o1:Oper} {t0:Nat} {ats:Array TypeId} {args args':Array Value}
end
end Go.Proofs.Tryz
end
section
namespace cS
open Go Go.Conc Go.ConcM
def Z1(P:Program)(b:Frame)(k:List Item)(cs:List Frame)(T:Frame->World->Prop)(c:Code)(a:Act)(w:World):Prop:=
 ∃fr w',T fr w'∧Steps P (lone (b.at a (.code c::k)) cs w) (lone fr cs w')
def Z1.here{P:Program}{b:Frame}{k:List Item}{cs:List Frame}{z:Code}{T:Frame->World->Prop}{a:Act}{w:World}(h:T (b.at a (.code z::k)) w):Z1 P b k cs T z a w:=⟨_,w,h,Steps.refl _ _⟩
def eJ{P:Program}{b:Frame}{k:List Item}{cs:List Frame}{z c:Code}{T:Frame->World->Prop}{a:Act}{w:World}(hz:z=c)(h:T (b.at a (.code z::k)) w):Z1 P b k cs T c a w:=hz ▸ Z1.here (hz ▸ h)
def Z1.seq{P:Program}{b:Frame}{k:List Item}{cs:List Frame}{x y:Code}{T:Frame->World->Prop}{a:Act}{w:World}(h:x.wp P (λe a w=>e=.normal∧Z1 P b k cs T y a w) a w):Z1 P b k cs T (.seq x y) a w:=by obtain⟨e,a1,w1,⟨rfl,fr,w2,hT,hs⟩,harr⟩:=h b (.code y::k) cs;exact⟨fr,w2,hT,Steps.trans (.head step_seq harr) hs⟩
end cS
namespace Go.Proofs.Tryz
open Go Go.Conc Go.ConcN Go.ConcM Go.RowKit Go.Conc.Lib Go.ConcR.Gen cS
def SU(g:FuncId)(P:dO->Act->World->Prop)(N:Act->World->Prop)(z pT:Code)(fr:Frame)(w:World):Prop:=
 (∃b a,P b a w∧fr=(base g).at a [.code z])∨∃a,N a w∧fr=(base g).at a [.code pT]
section
variable {L:List Part} {W:World} {g:FuncId} {fn:Func} {code z pT:Code} {tb n id:Nat} {ops:Array Oper} {rest:List Nat} {o0 o1:Oper} {t0:Nat} {ats:Array TypeId} {args args':Array Value}
end
end Go.Proofs.Tryz
end
section
namespace Go.Proofs.Tryz
open Go Go.Conc Go.ConcN Go.ConcM Go.RowKit Go.Conc.Lib Go.ConcR.Gen cS
section
attribute [local instance] noSh gX
variable {dR own:Nat->Prop} {W0 W:World} {L:List (Nat×Obj)} {main:Bool} {Stop:(Nat->Prop)->Goroutine->World->Prop} {b:Frame} {a:Act} {kk:List Item} {cs:List Frame} {ops:Array Oper} {i:Nat} {rest:List Nat} {o:Oper} {x y:Operand}
def Sn.perm{L':List (Nat×Obj)}(S:Sn dR W0 L own W)(h:L.Perm L'):Sn dR W0 L' own W:=
 ⟨S.kept,S.lt, λp hp=>S.has p (h.mem_iff.2 hp),(h.map _).nodup_iff.1 S.nd⟩
def mN{v0:Value}{e:TypeId}{bb l c:Nat}{p:Option Addr}(S:Sn dR W0 ((bb,.cells #[v0] e)::L) own W)(hb0:∀x,dR x->x<W0.heap.size)(ho:ops[i]?=some o)(hw:Region.wanted o (yielded ops a.tmps)=true)(hk:b.kind≠ .early)(hop:o.op=.store 27 x y)(hx:a.eval x=.pointer (some ⟨bb,0,none⟩))(hy:a.eval y=.slice p l c)
 (hn:∀W',Sn dR W0 ((bb,.cells #[.slice p l c] e)::L) own W'->Gw Tryz.prog main Z0 Stop own (G (b.at (a.put o.dst undef) (.inRegion ops rest::kk)) cs) W'):
 Gw Tryz.prog main Z0 Stop own (G (b.at a (.inRegion ops (i::rest)::kk)) cs) W:=
 M7 ho hw hk hop hx hy (λh=>h) (S.mine (List.mem_cons_self ..)) (λh=>h) (S.cell (List.mem_cons_self ..)) (S.free (List.mem_cons_self ..)) λ_ hr=>hn _ ((S.rely hr).set hb0 _)
def T4{v0:Value}{e:TypeId}{bb:Nat}{n:Bool}(S:Sn dR W0 ((bb,.cells #[v0] e)::L) own W)(hb0:∀x,dR x->x<W0.heap.size)(ho:ops[i]?=some o)(hw:Region.wanted o (yielded ops a.tmps)=true)(hk:b.kind≠ .early)(hop:o.op=.store 4 x y)(hx:a.eval x=.pointer (some ⟨bb,0,none⟩))(hy:a.eval y=.bool n)
 (hn:∀W',Sn dR W0 ((bb,.cells #[.bool n] e)::L) own W'->Gw Tryz.prog main Z0 Stop own (G (b.at (a.put o.dst undef) (.inRegion ops rest::kk)) cs) W'):
 Gw Tryz.prog main Z0 Stop own (G (b.at a (.inRegion ops (i::rest)::kk)) cs) W:=
 r9 ho hw hk hop hx hy (λh=>h) (S.mine (List.mem_cons_self ..)) (λh=>h) (S.cell (List.mem_cons_self ..)) (S.free (List.mem_cons_self ..)) λ_ hr=>hn _ ((S.rely hr).set hb0 _)
end
section
attribute [local instance] noSh gX
variable {dR own:Nat->Prop} {W0 W:World} {b:dO} {v:gJ} {Stop:(Nat->Prop)->Goroutine->World->Prop} {fT:Frame} {K':List Frame}
def PJ(dR:Nat->Prop)(W0:World)(b:dO)(v:gJ):Prop:=
 ∀(own:Nat->Prop)(W:World)(Stop:(Nat->Prop)->Goroutine->World->Prop)(fT:Frame)(K':List Frame),Kept Z0 dR W0 own W->(∀a,own a->a<W.heap.size)->(∀dD W',Kept Z0 own W dD W'->Gw Tryz.prog true Z0 Stop dD (G (fT.finish (.int .i64 (fG b))) K') W')->
  Gw Tryz.prog true Z0 Stop own (G (Frame.enter Tryz.prog 19 #[dY b v] .normal) (fT::K')) W
def DO{bs bm bf:Nat}{T:Array Value}{c:Int}(t2:T[2]?=some (.pointer (some ⟨bs,0,none⟩)))(t3:T[3]?=some (.pointer (some ⟨bm,0,none⟩)))(t4:T[4]?=some (.pointer (some ⟨bf,0,none⟩)))(t5:T[5]?=some (.int .i64 c))
 (h1:W.cell? ⟨bs,0,none⟩=some (.slice none 0 0)) (h2:W.cell? ⟨bm,0,none⟩=some (.bool false)) (h3:W.cell? ⟨bf,0,none⟩=some (.bool false)):
 (results Tryz.f6 T).run Tryz.prog W=.ok (.tuple #[.slice none 0 0,.bool false,.bool false,.int .i64 c]) W∧∀e∈(results Tryz.f6 T).events Tryz.prog W #[],∃b,(b=bs∨b=bm∨b=bf)∧e.loc=.cell ⟨b,0,none⟩∧e.sync=false∧e.write=false:=by
 have g2:T.getD 2 undef=.pointer (some ⟨bs,0,none⟩):=by rw[Array.getD_eq_getD_getElem?,t2];rfl
 have g3:T.getD 3 undef=.pointer (some ⟨bm,0,none⟩):=by rw[Array.getD_eq_getD_getElem?,t3];rfl
 have g4:T.getD 4 undef=.pointer (some ⟨bf,0,none⟩):=by rw[Array.getD_eq_getD_getElem?,t4];rfl
 have g5:T.getD 5 undef=.int .i64 c:=by rw[Array.getD_eq_getD_getElem?,t5];rfl
 have hres:Tryz.f6.results= #[ResultVar.cell 2 27,ResultVar.cell 3 4,ResultVar.cell 4 4,ResultVar.tmp 5]:=by unfold Tryz.f6;rfl
 unfold results;rw[hres];refine⟨by simp[go_sem,t2,t3,t4,t5,h1,h2,h3], λe he=>?_⟩;simp[go_sem,t2,t3,t4,t5,h1,h2,h3]at he;rcases he with rfl|rfl|rfl
 .exact⟨bs,.inl rfl,rfl,rfl,rfl⟩
 .exact⟨bm,.inr (.inl rfl),rfl,rfl,rfl⟩
 .exact⟨bf,.inr (.inr rfl),rfl,rfl,rfl⟩
def LR(hb:PJ dR W0 b v)(hlt:∀a,dR a->a<W0.heap.size)(hc:fG b≠0)
 (hnext:∀dD W',Kept Z0 dR W0 dD W'->(∀a,dD a->a<W'.heap.size)->Gw Tryz.prog true Z0 Stop dD (G (fT.finish (.tuple #[.slice none 0 0,.bool false,.bool false,.int .i64 (fG b)])) K') W'):
 Gw Tryz.prog true Z0 Stop dR (G (Frame.enter Tryz.prog 6 #[dY b v] .normal) (fT::K')) W0:=by
 have S:Sn dR W0 [] dR W0:=Sn.start hlt;have HN:=Lib.hid hnext;clear hnext;have HB:=Lib.hid hb;clear hb;rw[enter_at _ Tryz.func6 JC];unfold dY
 walk_nrmf Tryz.f6
 simp only[lQ,Tryz.f6,Option.getD_some];have hF:dM Z0 dR W0 W0:=dM.refl _;refine dG (n:=60) ?_
 repeat w_nl eH
 refine Goes.stop λqa2 qa0=>?_
 replace S:=S.rely (eH hF qa0);clear hF qa0;refine VY (v1:=.slice v.ah b.dJ.length v.ch) (v2:=.slice v.ap b.dz.length v.cp) (v3:=.slice v.iT b.steps.length v.cs) (v4:=.slice v.ac b.dA.length v.cc) (o:=?_) (x:=?_) S ?_ ?_ ?_ ?_ ?_ ?_
 rotate_left 2
 iterate 2 rfl
 .k_ne
 iterate 2 rfl
 clear S;intro bx mD W1 S;walk_nrm;refine VZ (o:=?_) S ?_ ?_ ?_ ?_ ?_
 rotate_left 1
 iterate 2 rfl
 .k_ne
 iterate 1 rfl
 clear S;intro bs mD W1 S;walk_nrm;refine Fj (o:=?_) S ?_ ?_ ?_ ?_ ?_
 rotate_left 1
 iterate 2 rfl
 .k_ne
 iterate 1 rfl
 clear S;intro bm mD W1 S;walk_nrm;refine Fj (o:=?_) S ?_ ?_ ?_ ?_ ?_
 rotate_left 1
 iterate 2 rfl
 .k_ne
 iterate 1 rfl
 clear S;intro bf mD W1 S;walk_nrm;have hF:dM Z0 mD W1 W1:=dM.refl _;refine dG (n:=60) ?_
 repeat w_nl eH
 refine Goes.stop λqa2 qa0=>?_
 replace S:=S.rely (eH hF qa0);clear hF qa0;refine TC (v1:=.slice v.ah b.dJ.length v.ch) (v2:=.slice v.ap b.dz.length v.cp) (v3:=.slice v.iT b.steps.length v.cs) (v4:=.slice v.ac b.dA.length v.cc) (o:=?_) (x:=?_) (bb:=bx) (e:=26) S ?_ ?_ ?_ ?_ ?_ (by simp) ?_
 rotate_left 2
 iterate 2 rfl
 .k_ne
 iterate 2 rfl
 clear S;intro W1 S;walk_nrm;refine Nw (o:=?_) (args:=?_) (ats:=?_) S ?_ ?_ ?_ ?_ Tryz.func19 Ty Tz ?_
 rotate_left 3
 iterate 2 rfl
 .k_ne
 .rfl
 clear S;intro W1 S;walk_nrm;refine HB.out _ _ _ _ _ S.kept S.lt λxC W2 hk=>?_
 replace S:=S.call hk;clear hk mD W1;rw[Frame.finish_at];revert xC W2;intro mD W1 S;have HNC:=Lib.hid (And.intro HN.out hc);clear HN;obtain⟨c,hcc⟩:∃c,fG b=c:=⟨_,rfl⟩;rw[hcc]at hc⊢;have z2:(c !=0)=true:=by simpa using hc
 have HCC:=Lib.hid hcc;clear hcc hc;have hF:dM Z0 mD W1 W1:=dM.refl _;refine dG (n:=60) ?_
 walk_nrm
 repeat w_nl eH
 refine Goes.stop λqa2 qa0=>?_
 replace S:=S.rely (eH hF qa0);clear hF qa0;refine mN (bb:=bs) (p:=none) (l:=0) (c:=0) (o:=?_) (x:=?_) (y:=?_) (S.perm (@List.perm_middle _ _ [_,_] _)) hlt ?_ ?_ ?_ ?_ ?_ ?_ ?_
 rotate_left 3
 iterate 2 rfl
 .k_ne
 iterate 3 rfl
 clear S;intro W1 S;walk_nrm;refine T4 (bb:=bm) (n:=false) (o:=?_) (x:=?_) (y:=?_) (S.perm (@List.perm_middle _ _ [_,_] _)) hlt ?_ ?_ ?_ ?_ ?_ ?_ ?_
 rotate_left 3
 iterate 2 rfl
 .k_ne
 iterate 3 rfl
 clear S;intro W1 S;walk_nrm;refine T4 (bb:=bf) (n:=false) (o:=?_) (x:=?_) (y:=?_) (S.perm (@List.perm_middle _ _ [_,_] _)) hlt ?_ ?_ ?_ ?_ ?_ ?_ ?_
 rotate_left 3
 iterate 2 rfl
 .k_ne
 iterate 3 rfl
 clear S;intro W1 S;walk_nrm;have hF:dM Z0 mD W1 W1:=dM.refl _;refine dG (n:=60) ?_
 repeat w_nl eH
 refine Goes.stop λW4 hr=>?_
 replace S:=S.rely (eH hF hr);clear hF hr;refine Gw.xY rfl λW5 hr=>?_
 replace S:=S.rely hr;clear hr;have m1:mD bs:=S.mine (.tail _ (.tail _ (.head _)));have m2:mD bm:=S.mine (.tail _ (.head _));have m3:mD bf:=S.mine (.head _);have L1:= λ(T:Array Value)t2 t3 t4 t5=>DO (W:=W5) (T:=T) (bs:=bs) (bm:=bm) (bf:=bf) (c:=c) t2 t3 t4 t5 (S.cell (.tail _ (.tail _ (.head _)))) (S.cell (.tail _ (.head _))) (S.cell (.head _))
 refine⟨_,W5,_,GM (fn:=Tryz.f6) (b:=base 6) rfl rfl Tryz.func6 (L1 _ rfl rfl rfl rfl).1 rfl,qK.refl _, λe he=>?_,?_⟩
 .rw[jB];obtain⟨b,hb,e1,e2,e3⟩:=(L1 _ rfl rfl rfl rfl).2 e (mem_seen he);obtain⟨loc,wr,sy⟩:=e;dsimp only at e1 e2 e3;subst e1 e2 e3;refine⟨λh=>h,rfl,.inl ?_⟩;rcases hb with rfl|rfl|rfl
  .exact m1
  .exact m2
  .exact m3
 .rw[jB];have :=HNC.out.1 mD W5 S.kept S.lt;rw[HCC.out]at this;exact this
end
end Go.Proofs.Tryz
end
section
namespace Go.Proofs.Tryz
open Go Go.Conc Go.ConcN Go.ConcM Go.RowKit Go.Conc.Lib Go.ConcR.Gen cS
section
variable [cS.Sh] {st:Lo.St} {S V:FuncId->Bool} {cd:Code->Bool} {D:Oc} {As:Nat->Prop} {b:dO} {v:gJ} {Post:Value->World->Prop} {dead:Nat->Prop}
def b9(F:Follows (@Lo.prog st) S)(p:Pos (@Lo.prog st) S V cd D)(hl:S4 S V cd D As)(hv:vs (FA S V cd (Bd (iL As D.w0.heap.size) D.w0.heap.size)) (dY b v)=true)(hb:fC D.w0 D.w0.heap.size b v)(hs:b.small):PJ D.dR D.W0 b (NE v D.f0):=by
 intro own W Stop fT K' hk hlt hr;have p1:=(p.move hk.rely.size hk.rely.own hk.sub hlt).lean (As:=As) hl;refine p1.call F.alike F.bI F.lz F.e17 (args:= #[dY b v]) (R:= λx _=>x=.int .i64 (fG b)) (λx hx=>?_) (by simp only[List.map_toArray,List.map_cons,List.map_nil,y3]) (λτ=>?_) λv' w' f' dD W' hR hB=>?_
 .simp only[List.mem_toArray,List.mem_cons,List.not_mem_nil,or_false]at hx;subst hx;show vs (FA S V cd (Bd (iL As D.w0.heap.size) (K0 D.w0).heap.size)) _=true;rw[C0];exact hv
 .exact(@Lo.wE st ((K0 D.w0).tp τ) D.w0.heap.size b v (hb.keep λb o _=>T2 _ _ b o) (Nat.le_of_eq (C0 D.w0).symm) hs).mono λe w' h=>⟨_,h.1,rfl⟩
 .subst hR;rw[iC];exact hr dD W' (hB.kept' λb hb=>hb)
def y4(c:Int):Value:=.tuple #[.slice none 0 0,.bool false,.bool false,.int .i64 c]
def PQ(F:Follows (@Lo.prog st) S)(p:Pos (@Lo.prog st) S V cd D)(hl:S4 S V cd D As)(hv:vs (FA S V cd (Bd (iL As D.w0.heap.size) D.w0.heap.size)) (dY b v)=true)(hb:fC D.w0 D.w0.heap.size b v)(hs:b.small)(hc:fG b≠0)
 {g:FuncId} {a:Act} {ops:Array Oper} {i:Nat} {rest:List Nat} {kk:List Item} {o:Oper} {t:Nat} {ats:Array TypeId} {K:List Frame} (hd:a.defers= []) (ho:ops[i]?=some o) (hw:∀y,Region.wanted o y=true) (hop:o.op=.call { callee:=.value (.func 6),args:= #[.tmp t],argTypes:=ats }) (hx:a.tmps[t]?=some (dY b v))
 (hf:jM (@Lo.prog st) (FA S V cd (Bd D.A D.w0.heap.size)) ((base g).at a (.inRegion ops (i::rest)::kk)))
 (hk:∀(D':Oc)(mJ:Nat->Prop),Pos (@Lo.prog st) S V cd D'->cN D D'->
   jM (@Lo.prog st) (FA S V cd (Bd D'.A D'.w0.heap.size)) (((base g).at a (.inRegion ops (i::rest)::kk)).finish (y4 (fG b)))->iF Tryz.prog Post mJ D'.dR (G (ic D'.f0 (((base g).at a (.inRegion ops (i::rest)::kk)).finish (y4 (fG b)))) K) D'.W0):
 iF Tryz.prog Post dead D.dR (G (ic D.f0 ((base g).at a (.inRegion ops (i::rest)::kk))) K) D.W0:=by
 have gd:=p.ground
 have er:ic D.f0 ((base g).at a (.inRegion ops (i::rest)::kk))=(base g).at ⟨a.tmps.map (rv D.f0),[]⟩ (.inRegion ops (i::rest)::kk.map (ql D.f0)):=by unfold ic Frame.at;rw[hd];simp[ql,base]
 refine iF.walk ?_ rfl rfl
 rw[er];refine nK ho (hw _) (by intro h;cases h) hop Tryz.func6 TN JC λW1 hr1=>?_
 rw[<-er]
 have ea:(#[Operand.tmp t]:Array Operand).map (Act.eval ⟨a.tmps.map (rv D.f0),[]⟩)= #[dY b (NE v D.f0)]:=by simp only[List.map_toArray,List.map_cons,List.map_nil];show#[(a.tmps.map (rv D.f0)).getD t undef]=_;rw[show(a.tmps.map (rv D.f0)).getD t undef=rv D.f0 (dY b v)from by rw[Array.getD_eq_getD_getElem?,Array.getElem?_map,hx];rfl,y3]
 rw[ea];refine .stop λW2 hr2=>?_
 have hr:=hr1.trans hr2;have p2:=p.move (dD:=D.dR) hr.size hr.own (λ_ h=>h) λb hb=>Nat.lt_of_lt_of_le (gd.own b hb).1 hr.size
 refine iF.lt rfl rfl λhlo=>iF.walk (LR (b9 F p2 hl hv hb hs) (λa ha=>(hlo a ha).1) hc λdD W' hkp hlt'=>.stop λW3 hr3=>?_) rfl rfl
 have hkr:dM Z0 D.dR W2 W3:=hkp.rely.trans ⟨hr3.tape,hr3.out,hr3.os,hr3.size, λb hb=>hr3.own b (hkp.sub b hb), λ_ h=>False.elim h, λ_ h=>False.elim h, λ_ _ h=>False.elim h⟩;have p3:=p2.move (dD:=dD) hkr.size hkr.own hkp.sub λb hb=>Nat.lt_of_lt_of_le (hlt' b hb) hr3.size
 have vg:(ic D.f0 ((base g).at a (.inRegion ops (i::rest)::kk))).finish (.tuple #[.slice none 0 0,.bool false,.bool false,.int .i64 (fG b)])=ic D.f0 (((base g).at a (.inRegion ops (i::rest)::kk)).finish (y4 (fG b))):=by rw[<-oZ (F:=FA S V cd (Bd D.A D.w0.heap.size)) _ _ hf.todo];unfold y4;simp only[qY,List.map_toArray,List.map_cons,List.map_nil,fD,jZ,iC];rfl
 rw[vg];refine hk ⟨D.w0,W3,D.f0,D.L,dD,D.A⟩ _ p3 ⟨rfl,rfl,Below.refl _ _,hkr.tape.trans hr.tape,hkr.out.trans hr.out,hr.os.trans hkr.os,Nat.le_trans hr.size hkr.size, λb hb=>(hkr.own b hb).trans (hr.own b hb), λb hb=>hkp.sub b hb⟩ (hf.finish (q9.2 λx hx=>?_));simp only[List.mem_toArray,List.mem_cons,List.not_mem_nil,or_false]at hx;rcases hx with rfl|rfl|rfl|rfl<;>simp[JG]
end
end Go.Proofs.Tryz
end
section
namespace Go.Proofs.Tryz
open Go Go.Conc Go.ConcN Go.ConcM Go.RowKit Go.Conc.Lib Go.ConcR.Gen cS
def en(b:dO)(w:World)(pv:Value):Prop:=
 (fG b=0∧∃A cap st eO found,pv=T3 A st.length cap eO found∧lq (fU (fA b (-1)) b.steps.length (iI (fA b (-1)) b.steps.length false).length (iI (fA b (-1)) b.steps.length true).length) st eO found∧st.length<=16∧xJ w w.heap.size A st)∨(fG b≠0∧pv=y4 (fG b))
section
variable [cS.Sh] {st:Lo.St} {S V:FuncId->Bool} {cd:Code->Bool} {D:Oc} {As:Nat->Prop} {b:dO} {v:gJ} {Post:Value->World->Prop} {dead:Nat->Prop}
def QQ(F:Follows (@Lo.prog st) S)(p:Pos (@Lo.prog st) S V cd D)(hl:S4 S V cd D As)(hv:vs (FA S V cd (Bd (iL As D.w0.heap.size) D.w0.heap.size)) (dY b v)=true)(hb:fC D.w0 D.w0.heap.size b v)(hs:b.small)
 {g:FuncId} {a:Act} {ops:Array Oper} {i:Nat} {rest:List Nat} {kk:List Item} {o:Oper} {t:Nat} {ats:Array TypeId} {K:List Frame} (hd:a.defers= []) (ho:ops[i]?=some o) (hw:∀y,Region.wanted o y=true) (hop:o.op=.call { callee:=.value (.func 6),args:= #[.tmp t],argTypes:=ats }) (hx:a.tmps[t]?=some (dY b v))
 (hf:jM (@Lo.prog st) (FA S V cd (Bd D.A D.w0.heap.size)) ((base g).at a (.inRegion ops (i::rest)::kk)))
 (hk:∀(D':Oc)(pv:Value)(mJ:Nat->Prop),en b D'.w0 pv->Pos (@Lo.prog st) S V cd D'->cN D D'->
   jM (@Lo.prog st) (FA S V cd (Bd D'.A D'.w0.heap.size)) (((base g).at a (.inRegion ops (i::rest)::kk)).finish pv)->iF Tryz.prog Post mJ D'.dR (G (ic D'.f0 (((base g).at a (.inRegion ops (i::rest)::kk)).finish pv)) K) D'.W0):
 iF Tryz.prog Post dead D.dR (G (ic D.f0 ((base g).at a (.inRegion ops (i::rest)::kk))) K) D.W0:=by
 by_cases hc:fG b=0
 .exact eN F p hl hv hb hs hc hd ho hw hop hx hf λD' A cap st eO found mJ iq hlen p3 went hrd hf3=>hk D' _ mJ (.inl ⟨hc,A,cap,st,eO,found,rfl,iq,hlen,hrd⟩) p3 went hf3
 .exact PQ F p hl hv hb hs hc hd ho hw hop hx hf λD' mJ p3 went hf3=>hk D' _ mJ (.inr ⟨hc,rfl⟩) p3 went hf3
end
section
variable {L:List Part} {W:World} {g:FuncId} {fn:Func} {code z pT:Code} {tb n id:Nat} {ops:Array Oper} {rest:List Nat} {o0 o1:Oper} {t0:Nat} {ats:Array TypeId} {args args':Array Value}
def SJ(h:W.ShapedOpen Tryz.prog)(hg:mS g=true)(hfn:Tryz.prog.funcs[g]?=some fn)(mz:g≠5)(nz:g≠6)(hbd:fn.body=some code)(hL:∀x∈L,x.h=false->U9 L Tryz.prog.types.size W x)
 (ha:letI:=zi L Tryz.prog.types.size;VS (FA mS pS (fe E0 mS pS) (Bd (aL L) (L.length+1))) args) (XJ:letI:=zi L Tryz.prog.types.size;args'=args.map (rv (fL L)))
 (ho0:ops[0]?=some o0) (hw0:∀y,Region.wanted o0 y=true) (QR:o0.op=.load 26 (.tmp tb)) (hd0:o0.dst=some t0)
 (ho1:ops[1]?=some o1) (hw1:∀y,Region.wanted o1 y=true) (hop1:o1.op=.call { callee:=.value (.func 6),args:= #[.tmp t0],argTypes:=ats })
 (hrange:List.range ops.size=0::1::rest) {T:dO->Act->World->Prop} {N:Act->World->Prop} (hT:∀b a w,T b a w->b.small∧a.defers= []∧t0<a.tmps.size∧∃v,cJ L b tb a w v) (hN:∀a w,N a w->a.defers= [])
 (hit:∀τ,Z1 E0 (base g) [] [cS.stk] (SU g T N (.seq (.region id ops false) z) pT) code ⟨args++Array.replicate (fn.ntmps-args.size) undef,[]⟩ ((wL L Tryz.prog.types.size W).tp τ))
 (tail:∀b a w w'(v:gJ)pv,T b a w->w.heap.size<=w'.heap.size->(∀x,x<w.heap.size->w'.heap[x]?=w.heap[x]?)->en b w' pv->
   wpOps H0 ops (λe a w=>e=.normal∧z.wp H0 (bodyPost H0 fn λe w'=>∃v,e=.returned v∧v=.bool true) a w) rest ((a.put o0.dst (dY b v)).put o1.dst pv) w')
 (bR:∀a w τ,N a w->pT.wp H0 (bodyPost H0 fn λe w'=>∃v,e=.returned v∧v=.bool true) a (w.tp τ))
 {Post:Value->World->Prop}
 (hpost:∀W',W'.tape=W.tape->W'.output=W.output->OsLater W.os W'.os->W.heap.size<=W'.heap.size->(∀b,b<W.heap.size->W'.heap[b]?=W.heap[b]?)->Post (.bool true) W'):
 cS.Ends Tryz.prog Post (solo (G (Frame.enter Tryz.prog g args' .normal) []) W) #[]:=by
 have hW:0<W.heap.size:=by obtain⟨o,h0,_⟩:=ZK h;exact(Array.getElem?_eq_some_iff.1 h0).1
 letI:cS.Sh:=zi L Tryz.prog.types.size;have hfA:E0.funcs[g]?=some fn:=@Lo.get stA _ _ hfn mz nz
 have tz:H0.funcs[g]?=some fn:=@Lo.get GS _ _ hfn mz nz
 have cR:E0.globals.size=0:=by have :=(P1 stA).globals;show(@Lo.prog stA).globals.size=0;rw[<-this];exact NC
 have p0:Pos E0 mS pS (fe E0 mS pS) (af1 L Tryz.prog.types.size W):=bN (P:=E0) T8 (Z3 stA) cR (by show(@Lo.prog stA).info? _=none;rw[@Lo.info stA];exact V9) (λt i hi u=>PI t i (by rw[<- @Lo.info stA];exact hi) u) hW hL;have hsz:(af1 L Tryz.prog.types.size W).w0.heap.size=L.length+1:=sQ;have ha':VS (FA mS pS (fe E0 mS pS) (Bd (af1 L Tryz.prog.types.size W).A (af1 L Tryz.prog.types.size W).w0.heap.size)) args:=by rw[hsz];exact ha
 have ZP:ic (fL L) (Frame.enter E0 g args .normal)=Frame.enter Tryz.prog g args' .normal:=by have :=zA (P:=E0) (F:=FA mS pS (fe E0 mS pS) (Bd (aL L) (L.length+1))) (f:=fL L) (T8 _) hg args;rw[<-this,XJ];unfold Frame.enter;rw[hfA,hfn]
 have ei:=enter_at (P:=E0) (f:=g) args hfA hbd;refine iF.start (iF.walk ?_ rfl rfl) (λb hb=>hb);rw[<-ZP];refine p0.seg (fT:=Frame.enter E0 g args .normal) (K:=[]) (T:= λfr w=>(∃b a v,T b a w∧cJ L b tb a w v∧fr=(base g).at (a.put o0.dst (dY b v)) [.inRegion ops (1::rest),.code z])∨∃a,N a w∧fr=(base g).at a [.code pT]) (P1 stA) (cI mS) (jM.enter (T8 _) hg ha') (by rw[ei];rfl) (by rw[ei];rfl) (λfr w hx=>?_) (λτ=>?_) λfr w f dD W' hx hf hB=>?_
 .rcases hx with⟨b,a,v,_,_,rfl⟩|⟨a,_,rfl⟩<;>rfl
 .obtain⟨fr,w,hx,hsteps⟩:=hit τ;rcases hx with⟨b,a,Ge,rfl⟩|⟨a,un,rfl⟩
  .obtain⟨_,hd,ht0,v,hcall⟩:=hT b a w Ge;have LO:=hcall;obtain⟨⟨bx,fr,e1,e2⟩,_⟩:=LO
   have s1:Steps E0 (lone ((base g).at a [.code (.seq (.region id ops false) z)]) [cS.stk] w) (lone ((base g).at (a.put o0.dst (dY b v)) [.inRegion ops (1::rest),.code z]) [cS.stk] w):=by refine .head step_seq (.head step_region ?_);rw[hrange];exact .one (fN ho0 (hw0 _) (@ZI stA _ _ _ _ _ _ _ _ _ _ QR e1 e2))
   obtain⟨m,hm⟩:=hsteps.trans s1;refine⟨m,_,w,.inl ⟨b,a,v,Ge,hcall,rfl⟩,?_⟩;rw[ei];exact hm
  .obtain⟨m,hm⟩:=hsteps;refine⟨m,_,w,.inr ⟨a,un,rfl⟩,?_⟩;rw[ei];exact hm
 .have p1:=p0.next hB;refine .stop λW1 hr=>?_
  have p2:Pos E0 mS pS (fe E0 mS pS) ⟨w,W1,f, λb=>b<W.heap.size,dD,aL L⟩:=p1.move hr.size hr.own (λ_ h=>h) λb hb=>Nat.lt_of_lt_of_le (hB.Wu b hb) hr.size
  rcases hx with⟨b,a,v,Ge,⟨_,hb,As,hAs,hv⟩,rfl⟩|⟨a,un,rfl⟩
  .obtain⟨hs,hd,ht0,_⟩:=hT b a w Ge
   have hget:(a.put o0.dst (dY b v)).tmps[t0]?=some (dY b v):=by rw[hd0];simp[Act.put,ht0]
   refine QQ (D:=⟨w,W1,f, λb=>b<W.heap.size,dD,aL L⟩) (st:=stA) (K:=[]) (As:=As) CI p2 (λx hx=>?_) (hv _ _ _) hb hs (g:=g) (a:=a.put o0.dst (dY b v)) (ops:=ops) (i:=1) (rest:=rest) (kk:=[.code z]) (o:=o1) (t:=t0) (ats:=ats) (by rw[hd0];exact hd) ho1 hw1 hop1 hget hf ?_
   .obtain⟨q1,q2,c,e,fr,q3,q4⟩:=hAs x hx;exact⟨q1,q2,c,e,fr,q3, λy hy=>q4 y hy _ _ _⟩
   .intro D' pv mJ bP p3 went hf3;have p4:Pos H0 mS pS (fe E0 mS pS) D':=p3.prog B3 tI (Z3 GS);have hown:∀x,x<W.heap.size->D'.dR x:= λx hx=>went.sub x (hB.owns x hx)
    have S6:Tryz.prog.globals.size<D'.W0.heap.size:=by rw[NC];have h1:=went.size;have h2:=hr.size;have h3:=hB.since.size;have h3:W.heap.size<=W'.heap.size:=h3;have h1:W1.heap.size<=D'.W0.heap.size:=h1;omega
    refine p4.tail (q:=5) (v0:=.bool true) (R:= λv _=>v=.bool true) (P1 GS) (λf=>jZ f true) (λF=>sw true) kO eI LH (λx hx=>hown x (by rw[went.L]at hx;exact hx)) S6 gO (jM.alike B3 hf3) (nO _ _) (l6 _ _) (λτ=>?_) (λv' w' f' cn W3 hv' hB3=>?_) mJ
    .have vg:((base g).at (a.put o0.dst (dY b v)) (.inRegion ops (1::rest):: [.code z])).finish pv=(base g).at ((a.put o0.dst (dY b v)).put o1.dst pv) [.inRegion ops rest,.code z]:=by
      rw[Frame.finish_at,ho1];rfl
     rw[vg];obtain⟨n,v',w',fr',h1,h2,h3⟩:=bJ tz (tail b a w (D'.w0.tp τ) v pv Ge went.lone.size (λx hx=>went.lone.block x hx) bP) [cS.stk];exact⟨n,v',w',fr',h1,h2,h3⟩
    .subst hv';rw[jZ];have s1:=hB.since;have s3:=hB3.since;refine hpost W3 (s3.tape.trans (went.tape.trans (hr.tape.trans s1.tape))) (s3.out.trans (went.out.trans (hr.out.trans s1.out))) (((s1.os.trans hr.os).trans went.os).trans s3.os) (Nat.le_trans s1.size (Nat.le_trans hr.size (Nat.le_trans went.size s3.size))) λx hx=>?_
     have k1:W'.heap[x]?=W.heap[x]?:=hB.kept x hx
     have k2:W1.heap[x]?=W'.heap[x]?:=hr.own x (hB.owns x hx)
     have k3:D'.W0.heap[x]?=W1.heap[x]?:=went.kept x (hB.owns x hx)
     have k4:W3.heap[x]?=D'.W0.heap[x]?:=hB3.kept x (by rw[went.L];exact hx)
     exact k4.trans (k3.trans (k2.trans k1))
  .have p4:Pos H0 mS pS (fe E0 mS pS) ⟨w,W1,f, λb=>b<W.heap.size,dD,aL L⟩:=p2.prog B3 tI (Z3 GS)
   have S6:Tryz.prog.globals.size<W1.heap.size:=by rw[NC];have h2:=hr.size;have h3:W.heap.size<=W'.heap.size:=hB.since.size;omega
   refine p4.tail (q:=5) (v0:=.bool true) (R:= λv _=>v=.bool true) (P1 GS) (λf=>jZ f true) (λF=>sw true) kO eI LH (λx hx=>hB.owns x hx) S6 gO (jM.alike B3 hf) rfl rfl (λτ=>?_) (λv' w' f' cn W3 hv' hB3=>?_) _
   .obtain⟨n,v',w',fr',h3,h4,h5⟩:=Oz tz (bR a w τ un) [cS.stk];exact⟨n,v',w',fr',h3,h4,h5⟩
   .subst hv';rw[jZ];have s1:=hB.since;have s3:=hB3.since;refine hpost W3 (s3.tape.trans (hr.tape.trans s1.tape)) (s3.out.trans (hr.out.trans s1.out)) ((s1.os.trans hr.os).trans s3.os) (Nat.le_trans s1.size (Nat.le_trans hr.size s3.size)) λx hx=>?_
    have k1:W'.heap[x]?=W.heap[x]?:=hB.kept x hx
    have k2:W1.heap[x]?=W'.heap[x]?:=hr.own x (hB.owns x hx)
    have k4:W3.heap[x]?=W1.heap[x]?:=hB3.kept x hx
    exact k4.trans (k2.trans k1)
end
end Go.Proofs.Tryz
end
