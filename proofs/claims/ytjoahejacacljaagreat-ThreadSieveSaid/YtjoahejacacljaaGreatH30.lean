/- Part 30. -/
import Derived.Test.YtjoahejacacljaaGreatH09
import Derived.Test.YtjoahejacacljaaGreatH17
import Derived.Test.YtjoahejacacljaaGreatH16
set_option maxRecDepth 100000
set_option maxHeartbeats 0
set_option linter.all false
namespace Go.Proofs.Tryz
open Go Go.Conc Go.ConcN Go.ConcM Go.RowKit Go.Conc.Lib Go.ConcR.Gen cS
section
section
variable {main:Bool} {Z:fO} {own:Nat->Prop} {Stop:(Nat->Prop)->Goroutine->World->Prop}
variable {b:Frame} {a:Act} {kk:List Item} {cs:List Frame} {W:World} {ops:Array Oper} {i:Nat} {rest:List Nat} {o:Oper} {x y:Operand} {ad:Addr}
def nK{f:FuncId}{fn:Func}{c0:Code}{args:Array Operand}{ats:Array TypeId}(ho:ops[i]?=some o)(hw:Region.wanted o (yielded ops a.tmps)=true)(hk:b.kind≠ .early)(hop:o.op=.call { callee:=.value (.func f),args,argTypes:=ats })
 (hf:Tryz.prog.funcs[f]?=some fn) (hname:(fn.name== "runtime.NumGoroutine")=false) (hb:fn.body=some c0)
 (hn:∀W1,dM Z own W W1->Gw Tryz.prog main Z Stop own (G (Frame.enter Tryz.prog f (args.map a.eval) .normal) (b.at a (.inRegion ops (i::rest)::kk)::cs)) W1):
 Gw Tryz.prog main Z Stop own (G (b.at a (.inRegion ops (i::rest)::kk)) cs) W:=by
 have hb':fn.body.isNone=false:=by rw[hb];rfl
 refine Gw.xY rfl λW1 hr=>⟨_,W1,#[],?_,qK.refl _, λe he=>by simp at he,by rw[jB];exact hn W1 hr⟩
 rw[stepG_enter ho hw hk (run_call_body hop hf hname hb')];have:listed Tryz.prog b.fn a o W1= #[]:=by unfold listed;rw[events_call_body hop hf hname hb'];exact seen_none Tryz.prog _
 rw[this]
def DF{p:Option Addr}(ho:ops[i]?=some o)(hw:Region.wanted o (yielded ops a.tmps)=true)(hk:b.kind≠ .early)(hop:o.op=.load 75 x)(hx:a.eval x=.pointer (some ad))(hnm:¬Z.mute)
 (hz:own ad.block∨Z.ro ad.block) (hc:W.cell? ad=some (.pointer p))
 (hn:∀W1,dM Z own W W1->Gw Tryz.prog main Z Stop own (G (b.at (a.put o.dst (.pointer p)) (.inRegion ops rest::kk)) cs) W1):
 Gw Tryz.prog main Z Stop own (G (b.at a (.inRegion ops (i::rest)::kk)) cs) W:=
 yB ho hw hk hnm hz hc (λW1 _ hc1=>⟨by unfold execOp;simp only[hop,hx];simp[go_sem,hc1],by unfold execOp;simp only[hop,hx];simp[go_sem,hc1]⟩) hn
def S9{fn:Fn}{f1 f2:Array Value}(ho:ops[i]?=some o)(hw:Region.wanted o (yielded ops a.tmps)=true)(hk:b.kind≠ .early)(hop:o.op=.load 94 x)(hx:a.eval x=.pointer (some ad))(hnm:¬Z.mute)
 (hz:own ad.block∨Z.ro ad.block) (hc:W.cell? ad=some (.func fn f1 f2))
 (hn:∀W1,dM Z own W W1->Gw Tryz.prog main Z Stop own (G (b.at (a.put o.dst (.func fn f1 f2)) (.inRegion ops rest::kk)) cs) W1):
 Gw Tryz.prog main Z Stop own (G (b.at a (.inRegion ops (i::rest)::kk)) cs) W:=
 yB ho hw hk hnm hz hc (λW1 _ hc1=>⟨by unfold execOp;simp only[hop,hx];simp[go_sem,hc1],by unfold execOp;simp only[hop,hx];simp[go_sem,hc1]⟩) hn
def Ta{n:Int}(ho:ops[i]?=some o)(hw:Region.wanted o (yielded ops a.tmps)=true)(hk:b.kind≠ .early)(hop:o.op=.load 3 x)(hx:a.eval x=.pointer (some ad))(hnm:¬Z.mute)
 (hz:own ad.block∨Z.ro ad.block) (hc:W.cell? ad=some (.int .i64 n))
 (hn:∀W1,dM Z own W W1->Gw Tryz.prog main Z Stop own (G (b.at (a.put o.dst (.int .i64 n)) (.inRegion ops rest::kk)) cs) W1):
 Gw Tryz.prog main Z Stop own (G (b.at a (.inRegion ops (i::rest)::kk)) cs) W:=
 yB ho hw hk hnm hz hc (λW1 _ hc1=>⟨by unfold execOp;simp only[hop,hx];simp[go_sem,hc1],by unfold execOp;simp only[hop,hx];simp[go_sem,hc1]⟩) hn
def nD{n:Bool}(ho:ops[i]?=some o)(hw:Region.wanted o (yielded ops a.tmps)=true)(hk:b.kind≠ .early)(hop:o.op=.load 4 x)(hx:a.eval x=.pointer (some ad))(hnm:¬Z.mute)
 (hz:own ad.block∨Z.ro ad.block) (hc:W.cell? ad=some (.bool n))
 (hn:∀W1,dM Z own W W1->Gw Tryz.prog main Z Stop own (G (b.at (a.put o.dst (.bool n)) (.inRegion ops rest::kk)) cs) W1):
 Gw Tryz.prog main Z Stop own (G (b.at a (.inRegion ops (i::rest)::kk)) cs) W:=
 yB ho hw hk hnm hz hc (λW1 _ hc1=>⟨by unfold execOp;simp only[hop,hx];simp[go_sem,hc1],by unfold execOp;simp only[hop,hx];simp[go_sem,hc1]⟩) hn
def VF{p:Option Addr}{l c:Nat}(ho:ops[i]?=some o)(hw:Region.wanted o (yielded ops a.tmps)=true)(hk:b.kind≠ .early)(hop:o.op=.load 22 x)(hx:a.eval x=.pointer (some ad))(hnm:¬Z.mute)
 (hz:own ad.block∨Z.ro ad.block) (hc:W.cell? ad=some (.slice p l c))
 (hn:∀W1,dM Z own W W1->Gw Tryz.prog main Z Stop own (G (b.at (a.put o.dst (.slice p l c)) (.inRegion ops rest::kk)) cs) W1):
 Gw Tryz.prog main Z Stop own (G (b.at a (.inRegion ops (i::rest)::kk)) cs) W:=
 yB ho hw hk hnm hz hc (λW1 _ hc1=>⟨by unfold execOp;simp only[hop,hx];simp[go_sem,hc1],by unfold execOp;simp only[hop,hx];simp[go_sem,hc1]⟩) hn
def M7{p:Option Addr}{l c:Nat}{v0:Value}(ho:ops[i]?=some o)(hw:Region.wanted o (yielded ops a.tmps)=true)(hk:b.kind≠ .early)(hop:o.op=.store 22 x y)(hx:a.eval x=.pointer (some ad))(hy:a.eval y=.slice p l c)(hnm:¬Z.mute)
 (hz:own ad.block) (hns:¬Z.sy ad.block) (hc:W.cell? ad=some v0) (hf:W.frozen? ad=false)
 (hn:∀W1,dM Z own W W1->Gw Tryz.prog main Z Stop own (G (b.at (a.put o.dst undef) (.inRegion ops rest::kk)) cs) (W1.setCell ad (.slice p l c))):
 Gw Tryz.prog main Z Stop own (G (b.at a (.inRegion ops (i::rest)::kk)) cs) W:=
 yC ho hw hk hnm hz hns (λW1 hr=>by
  have hb:=hr.own _ hz;have hc1:W1.cell? ad=some v0:=by rw[<-hc];unfold World.cell?;rw[hb]
  have hf1:W1.frozen? ad=false:=by rw[<-hf];unfold World.frozen?;rw[hb]
  exact⟨by unfold execOp;simp only[hop,hx,hy];simp[go_sem,hc1,hf1],by unfold execOp;simp only[hop,hx,hy];simp[go_sem,hc1,hf1];rw[Go.events_store _ _ _ _ _ _ rfl];simp[hc1,hf1]⟩) hn
def r9{n:Bool}{v0:Value}(ho:ops[i]?=some o)(hw:Region.wanted o (yielded ops a.tmps)=true)(hk:b.kind≠ .early)(hop:o.op=.store 4 x y)(hx:a.eval x=.pointer (some ad))(hy:a.eval y=.bool n)(hnm:¬Z.mute)
 (hz:own ad.block) (hns:¬Z.sy ad.block) (hc:W.cell? ad=some v0) (hf:W.frozen? ad=false)
 (hn:∀W1,dM Z own W W1->Gw Tryz.prog main Z Stop own (G (b.at (a.put o.dst undef) (.inRegion ops rest::kk)) cs) (W1.setCell ad (.bool n))):
 Gw Tryz.prog main Z Stop own (G (b.at a (.inRegion ops (i::rest)::kk)) cs) W:=
 yC ho hw hk hnm hz hns (λW1 hr=>by
  have hb:=hr.own _ hz;have hc1:W1.cell? ad=some v0:=by rw[<-hc];unfold World.cell?;rw[hb]
  have hf1:W1.frozen? ad=false:=by rw[<-hf];unfold World.frozen?;rw[hb]
  exact⟨by unfold execOp;simp only[hop,hx,hy];simp[go_sem,hc1,hf1],by unfold execOp;simp only[hop,hx,hy];simp[go_sem,hc1,hf1];rw[Go.events_store _ _ _ _ _ _ rfl];simp[hc1,hf1]⟩) hn
end
end
end Go.Proofs.Tryz
section
end
namespace Go.Proofs.Tryz
open Go cS
section
attribute [local instance] noSh
def l1:List FuncId:=[35,36,37,38,42,43,63,64,65,93,94,95,109]
def S1(g:FuncId):Bool:=l1.contains g
def aj2:l1.all (EK Tryz.prog S1 S1)=true:=by kernel_rfl
def gD:iA Tryz.prog=true:=by kernel_rfl
def Lr(A:Nat->Bool):kL Tryz.prog (FA S1 S1 (fe Tryz.prog S1 S1) A):=
 Mr (λg hg=>bF.1 aj2 g (by simpa[S1]using hg)) (λ_ h=>h) A
@[reducible] noncomputable def gX:Lo.St:=⟨Tryz.f5.body.getD .skip,Tryz.f19.body.getD .skip⟩
def oO{P:Program}{q:FuncId}{fn:Func}{c:Code}(h:P.funcs[q]?=some fn)(hb:fn.body=some c):P.stub q c=P:=by
 unfold Program.stub
 have:(P.funcs.modify q λfn=>{ fn with body:=some c })=P.funcs:=by
  apply Array.ext_getElem?;intro i;rw[bz];split
  .rename_i e;subst e;rw[h];show some { fn with body:=some c }=some fn;rw[<-hb]
  .rfl
 rw[this]
def zf: @Lo.prog gX=Tryz.prog:=by rw[@Lo.iB gX];have h5:Tryz.prog.stub 5 (Tryz.f5.body.getD .skip)=Tryz.prog:=oO Tryz.func5 (by unfold Tryz.f5;rfl);have h16:Tryz.prog.stub 19 (Tryz.f19.body.getD .skip)=Tryz.prog:=oO Tryz.func19 (by unfold Tryz.f19;rfl);show(Tryz.prog.stub 5 (Tryz.f5.body.getD .skip)).stub 19 (Tryz.f19.body.getD .skip)=_;rw[h5,h16]
end
end Go.Proofs.Tryz
namespace Go.Proofs.Tryz
open Go Go.Conc Go.ConcN Go.ConcM Go.RowKit Go.Conc.Lib Go.ConcR.Gen cS
section
attribute [local instance] noSh gX
noncomputable def AX:Code:=Tryz.f40.body.getD .skip
noncomputable def LW:Code:=(fH AX).getD .skip
section
variable {Mu Wg cw cm cb bs bm bf bw:Nat} {ty:TypeId} {N:Nat->Nat} {J:Nat->Nat->(Nat->Prop)->World->Prop} {ro:Nat->Prop} {Anch:(Nat->Prop)->Goroutine->World->Prop}
variable {own:Nat->Prop} {W0:World} {i k c:Nat}
structure WK(cw cm cb bs bm bf bw:Nat)(ss:List eX)(n:Nat)(m:Bool)(own ro:Nat->Prop)(W:World):Prop where
 VG:ro cw
 Y3:ro cb
 Xk:ro bw
 VH:own cm
 Td:W.cell? ⟨cw,0,none⟩=some (.pointer (some ⟨bw,0,none⟩))
 VI:W.cell? ⟨cb,0,none⟩=some (.func (.func 35) #[] #[.pointer (some ⟨bs,0,none⟩),.pointer (some ⟨bf,0,none⟩),.pointer (some ⟨bm,0,none⟩)])
 Y4:W.cell? ⟨cm,0,none⟩=some (.bool m)
 Xl:∃A cap e fr,W.heap[bw]?=some (.cells #[.slice A ss.length cap,.int .i64 (n:Int),.int .i64 ((n+1:Nat):Int)] e fr)∧jG W W.heap.size bw ss n (n+1) A cap∧
  ∀a,A=some a->ro a.block∧∃cur e fr,W.heap[a.block]?=some (.cells cur e fr)∧∀x∈cur,eF x=true
structure Env(Mu Wg:Nat)(own ro:Nat->Prop)(W:World):Prop where
 rs:∀b,ro b->b≠Mu∧b≠Wg
 own:∀b,own b->b<W.heap.size∧b≠Mu∧b≠Wg∧¬ro b
 ro:∀b,ro b->b<W.heap.size
 mu:Mu<W.heap.size
 wg:Wg<W.heap.size
 ja:Tryz.prog.globals.size<W.heap.size
 wl:WgLive 90 Wg W
def Env.rel{W W1:World}{Mu Wg:Nat}{own xC ro:Nat->Prop}{Z:fO}(h:Env Mu Wg own ro W)(hz:Z.sy Wg)(hr:dM Z xC W W1):Env Mu Wg own ro W1:=
 ⟨h.rs, λb hb=>⟨aK (h.own b hb).1 hr.size,(h.own b hb).2⟩, λb hb=>aK (h.ro b hb) hr.size,aK h.mu hr.size,aK h.wg hr.size,aK h.ja hr.size,jl h.wl (hr.sy _ hz)⟩
def fJ{W W1:World}{b:Nat}(h:W1.heap[b]?=W.heap[b]?)(o:Nat):W1.cell? ⟨b,o,none⟩=W.cell? ⟨b,o,none⟩:=by unfold World.cell?;simp only[h]
def si{W W1:World}{B B' b:Nat}{ss:List eX}{st nd:Nat}{A:Option Addr}{cap:Nat}(h:jG W B b ss st nd A cap)(hb:W1.heap[b]?=W.heap[b]?)(hA:∀a,A=some a->ss≠ []->W1.heap[a.block]?=W.heap[a.block]?)(hB:B<=B'):jG W1 B' b ss st nd A cap:=
 ⟨aK h.lt hB,(fJ hb _).trans h.c0,(fJ hb _).trans h.c1,(fJ hb _).trans h.c2, λhn=>by obtain⟨bb,off,e,h1,h2⟩:=h.rd hn;exact⟨bb,off,e,aK h1 hB, λi j hi hj=>(fJ (hA _ e (λx=>by rw[x]at hn;simp at hn)) _).trans (h2 i j hi hj)⟩,h.ok,h.len⟩
def WK.rely{ss:List eX}{n:Nat}{m:Bool}{Z:fO}{W W1:World}(h:WK cw cm cb bs bm bf bw ss n m own ro W)(hz:Z.ro=ro)(hr:dM Z own W W1):WK cw cm cb bs bm bf bw ss n m own ro W1:=by
 have hro:∀b,ro b->W1.heap[b]?=W.heap[b]?:= λb hb=>hr.ro b (by rw[hz];exact hb)
 obtain⟨a1,a2,a3,a4,a5,a6,a7,A,cap,e,fr,a8,a9,Te⟩:=h;refine⟨a1,a2,a3,a4,(fJ (hro _ a1) _).trans a5,(fJ (hro _ a2) _).trans a6,(fJ (hr.own _ a4) _).trans a7,A,cap,e,fr,(hro _ a3).trans a8,si a9 (hro _ a3) (λa e _=>hro _ (Te a e).1) hr.size, λa ha=>?_⟩;obtain⟨h1,cur,e',fr',h2,h3⟩:=Te a ha;exact⟨h1,cur,e',fr',(hro _ h1).trans h2,h3⟩
def M8{m mm:Bool}{ss:List eX}{n s:Nat}{W:World}{Stop:(Nat->Prop)->Goroutine->World->Prop}{fT:Frame}{K':List Frame}(he:Env Mu Wg own ro W)(hw:WK cw cm cb bs bm bf bw ss n m own ro W)(hs:s<2^ (n+1))(hn:n<=15)
 (lU:∀dD W',Kept ((cfg Mu Wg ty N J ro Anch).Zw k) own W dD W'->Gw Tryz.prog false ((cfg Mu Wg ty N J ro Anch).Zw k) Stop dD (G (fT.finish (.bool (gP ss (n+1) s mm))) K') W'):
 Gw Tryz.prog false ((cfg Mu Wg ty N J ro Anch).Zw k) Stop own (G (Frame.enter Tryz.prog 42 #[.pointer (some ⟨bw,0,none⟩),.int .u64 (s:Int),.bool mm] .normal) (fT::K')) W:=by
 classical
 obtain⟨A,cap,e,fr,w1,w2,w3⟩:=hw.Xl;obtain⟨As,hAs⟩:∃As:Nat->Prop,As= λb=>b=bw∨∃a,A=some a∧b=a.block:=⟨_,rfl⟩
 have hA1:∀b,As b->ro b:= λb hb=>by
  rw[hAs]at hb;rcases hb with rfl|⟨a,ha,rfl⟩
  .exact hw.Xk
  .exact(w3 a ha).1
 have on:∀b,As b->Bd (iL As W.heap.size) W.heap.size b=true:= λb hb=>gH.2 ⟨by unfold iL;exact decide_eq_true (.inl hb),he.ro b (hA1 b hb)⟩
 have hbw:As bw:=by rw[hAs];exact .inl rfl
 refine rJ (S:=S1) (As:=As) (R:= λv _=>v=.bool (gP ss (n+1) s mm)) Lr gD he.ja (λb hb=>.inr (hA1 b hb)) (λb o hb ho=>?_) (λb hb=>?_) he.ro (λb hb=>?_) (λ_ _ h=>az h) (λh=>h) (g:=42) rfl ?_ (λw hsz hcell=>?_) λv w' f' dD W' hR hk _=>?_
 .rw[hAs]at hb;rcases hb with rfl|⟨a,ha,rfl⟩
  .rw[w1]at ho;cases ho;refine⟨_,_,_,rfl, λv hv=>?_⟩;simp only[aB,bD,ax,or_false]at hv;rcases hv with rfl|rfl|rfl
   .cases hA:A with
    |none=>simp
    |some a=>rw[gY,um];exact on a.block (by rw[hAs];exact .inr ⟨a,hA,rfl⟩)
   .simp
   .simp
  .obtain⟨_,cur,e',fr',h2,h3⟩:=w3 a ha;rw[h2]at ho;cases ho;exact⟨_,_,_,rfl, λv hv=>(iP (f:= λb=>b) (h3 v hv)).2⟩
 .obtain⟨h1,h2,h3,h4⟩:=he.own b hb;exact⟨h1, λh=>by rcases h with(h|h)|h<;>first|exact h2 h|exact h3 h|exact h,h4⟩
 .rcases hb with(rfl|rfl)|hb
  .exact he.mu
  .exact he.wg
  .exact hb.elim
 .intro v hv;simp only[aB,bD,ax,or_false]at hv;rcases hv with rfl|rfl|rfl
  .rw[BD,uk];exact on bw hbw
  .simp
  .simp
 .have :=@Lo.KN gX w W.heap.size bw ss n (n+1) A cap (w2.keep λb o _=>hcell b o) (Nat.le_of_eq hsz.symm) (by omega) s hs mm;rw[zf]at this;exact this.mono λe w' h=>⟨_,h.1,rfl⟩
 .subst hR;rw[jZ];exact lU dD W' hk
structure Sl(own:Nat->Prop)(W:World)(A:Option Addr)(l:List Int):Prop where
 blk:∀a,A=some a->own a.block∧∃cur e fr,W.heap[a.block]?=some (.cells cur e fr)∧∀x∈cur,eF x=true
 rd:xJ W W.heap.size A l
def Sl.rely{own:Nat->Prop}{Z:fO}{W W1:World}{A:Option Addr}{l:List Int}(h:Sl own W A l)(hr:dM Z own W W1):Sl own W1 A l:=
 ⟨λa ha=>by
   obtain⟨h1,cur,e,fr,h2,h3⟩:=h.blk a ha;exact⟨h1,cur,e,fr,(hr.own _ h1).trans h2,h3⟩, λhn=>by
   obtain⟨bb,off,e,h1,h2⟩:=h.rd hn;exact⟨bb,off,e,aK h1 hr.size, λi j hi hj=>(fJ (hr.own _ (h.blk _ e).1) _).trans (h2 i j hi hj)⟩⟩
def Sl.sub{own dD:Nat->Prop}{W:World}{A:Option Addr}{l:List Int}(h:Sl own W A l)(hs:∀b,own b->dD b):Sl dD W A l:=
 ⟨λa ha=>by obtain⟨h1,h2⟩:=h.blk a ha;exact⟨hs _ h1,h2⟩,h.rd⟩
def Bi(l:List Nat):List Int:=l.map λn:Nat=>(n:Int)
def Pq(l:List Nat):xh l=(Bi l).map λx=>Value.int .i64 x:=by unfold xh Bi;rw[List.map_map];rfl
def aj3{s:Nat}{W:World}{Stop:(Nat->Prop)->Goroutine->World->Prop}{fT:Frame}{K':List Frame}(he:Env Mu Wg own ro W)(hs:s<2^ 16)
 (lU:∀A cap dD W',Kept ((cfg Mu Wg ty N J ro Anch).Zw k) own W dD W'->Sl dD W' A (Bi (kK s))->(∀a,A=some a->W.heap.size<=a.block)->Gw Tryz.prog false ((cfg Mu Wg ty N J ro Anch).Zw k) Stop dD (G (fT.finish (.slice A (Bi (kK s)).length cap)) K') W'):
 Gw Tryz.prog false ((cfg Mu Wg ty N J ro Anch).Zw k) Stop own (G (Frame.enter Tryz.prog 43 #[.int .u64 (s:Int)] .normal) (fT::K')) W:=by
 refine rJ (S:=S1) (As:= λ_=>False) (R:= λv w'=>w'.ownsRow W.heap.size 3 1 v (kK s).length (xh (kK s))∧dU w' v) Lr gD he.ja (λb hb=>hb.elim) (λb o hb ho=>hb.elim) (λb hb=>?_) he.ro (λb hb=>?_) (λ_ _ h=>az h) (λh=>h) (g:=43) rfl ?_ (λw hsz hcell=>?_) λv w' f' dD W' hR hk hm=>?_
 .obtain⟨h1,h2,h3,h4⟩:=he.own b hb;exact⟨h1, λh=>by rcases h with(h|h)|h<;>first|exact h2 h|exact h3 h|exact h,h4⟩
 .rcases hb with(rfl|rfl)|hb
  .exact he.mu
  .exact he.wg
  .exact hb.elim
 .intro v hv;simp only[aB,bD,ax,or_false]at hv;subst hv;simp
 .have :=@Lo.Rv gX s hs w;rw[zf]at this;refine this.mono λe w' h=>?_
  obtain⟨v,h1,h2,h3,_⟩:=h;exact⟨v,h1,by rw[<-hsz];exact h2,h3⟩
 .obtain⟨h1,h2⟩:=hR;rw[Pq]at h1;obtain⟨A,cap,rfl,hn,hrd⟩:=ownsRow.PT (B:=w'.heap.size) h1;rw[fD];have hn':(kK s).length=(Bi (kK s)).length:=hn;rw[hn'];refine lU _ cap dD W' hk ⟨λa ha=>?_, λhpos=>?_⟩ λa ha=>?_
  .cases hA:A with
   |none=>rw[hA]at ha;cases ha
   |some a0=>
    rw[hA]at ha h1 h2;have ha:some (ra f' a0)=some a:=ha;cases ha;obtain⟨l1,l2⟩:=h1.lt a0.block rfl;obtain⟨cur,e,q1,q2⟩:=h2 a0.block rfl;obtain⟨_,g2,g3⟩:=hm.ge _ l1 l2;obtain⟨fr',q3⟩:=hm.blk _ _ _ _ l1 q1;rw[EL q2]at q3;exact⟨g3,cur,e,fr',q3,q2⟩
  .obtain⟨bb,off,e,q1,q2⟩:=hrd (aJ _) hpos;subst e;have l1:=(h1.lt bb rfl).1;obtain⟨_,g2,g3⟩:=hm.ge _ l1 q1;exact⟨f' bb,off,rfl,g2, λi j hi hj=>by rw[hm.cell _ _ _ l1 (q2 i j hi hj),iC]⟩
  .cases hA:A with
   |none=>rw[hA]at ha;cases ha
   |some a0=>
    rw[hA]at ha h1;have ha:some (ra f' a0)=some a:=ha;cases ha;obtain⟨l1,l2⟩:=h1.lt a0.block rfl;exact(hm.ge _ l1 l2).1
end
end
section
attribute [local instance] noSh gX
def Fa(a b:Int):xk a b= -1∧a<b∨xk a b=0∧a=b∨xk a b=1∧b<a:=by
 unfold xk;rcases Int.lt_trichotomy a b with h|h|h
 .left;exact⟨aj h,h⟩
 .right;left;subst h;exact⟨by simp,rfl⟩
 .right;right;exact⟨by rw[aa (by omega),aj h],h⟩
def lexLt:List Int->List Int->Prop
 | [],[]=>False
 | [],_::_=>True
 |_::_,[]=>False
 |a::x,b::y=>a<b∨(a=b∧lexLt x y)
def zZ:∀l m:List Int,(jq l m<0↔lexLt l m)∧(jq l m=0↔l=m)
 | [],[]=>by simp[jq,lexLt]
 | [],_::_=>by simp[jq,lexLt]
 |_::_,[]=>by simp[jq,lexLt]
 |a::x,b::y=>by
  obtain⟨h1,h2⟩:=zZ x y;unfold jq lexLt;rcases Fa a b with⟨e,h⟩|⟨e,h⟩|⟨e,h⟩
  .rw[aa (by omega),e];exact⟨⟨λ_=>.inl h, λ_=>by omega⟩,⟨λh'=>by omega, λh'=>by injection h';omega⟩⟩
  .rw[aj e];subst h;exact⟨by rw[h1];simp,by rw[h2];simp⟩
  .rw[aa (by omega),e];exact⟨⟨λh'=>by omega, λh'=>by rcases h' with h'|h'<;>omega⟩,⟨λh'=>by omega, λh'=>by injection h';omega⟩⟩
def AY:∀{l m r:List Int},lexLt l m->lexLt m r->lexLt l r
 | [],[],_,h,_=>h.elim
 |_::_,[],_,h,_=>h.elim
 |_,_::_,[],_,h=>h.elim
 | [],_::_,_::_,_,_=>trivial
 |a::x,b::y,c::z,h,k=>by
  unfold lexLt at *;rcases h with h|⟨rfl,h⟩<;>rcases k with k|⟨rfl,k⟩
  .left;omega
  .left;exact h
  .left;exact k
  .right;exact⟨rfl,AY h k⟩
def Lt(x y:List Int×Bool):Prop:=x.1.length<y.1.length∨(x.1.length=y.1.length∧(lexLt x.1 y.1∨(x.1=y.1∧x.2=false∧y.2=true)))
def Lt.trans{x y z:List Int×Bool}(h:Lt x y)(k:Lt y z):Lt x z:=by
 unfold Lt at *;rcases h with h|⟨h,h'⟩<;>rcases k with k|⟨k,k'⟩
 .left;omega
 .left;omega
 .left;omega
 .right;refine⟨by omega,?_⟩;rcases h' with h'|⟨h1,h2,h3⟩<;>rcases k' with k'|⟨k1,k2,k3⟩
  .exact .inl (AY h' k')
  .exact .inl (k1 ▸ h')
  .exact .inl (h1 ▸ k')
  .rw[h3]at k2;cases k2
def Fb(l st:List Int)(m eO:Bool):kN l m st eO true=true↔Lt (l,m) (st,eO):=by
 unfold kN oc Lt;obtain⟨h1,h2⟩:=zZ l st;simp only[Bool.not_true,Bool.false_or];rcases Fa (l.length:Int) (st.length:Int)with⟨e,h⟩|⟨e,h⟩|⟨e,h⟩
 .rw[e];simp;left;omega
 .rw[e,aj rfl];have hl:l.length=st.length:=by omega
  by_cases hq:jq l st<0
  .simp[hq,hl,h1.1 hq]
  .by_cases hz:jq l st=0
   .have :=h2.1 hz;subst this;have hn:¬lexLt l l:= λx=>hq (h1.2 x)
    cases eO<;>cases m<;>simp[hz,hn]
   .have hne:l≠st:= λx=>hz (h2.2 x)
    have hn:¬lexLt l st:= λx=>hq (h1.2 x)
    simp[hq,hz,hl,hn,hne]
 .rw[e];simp;omega
def lq(items:List (List Int×Bool))(st:List Int)(eO found:Bool):Prop:=
 (found=false∧items= []∧st= []∧eO=false)∨(found=true∧(st,eO)∈items∧∀x∈items,¬Lt x (st,eO))
def Lt.irrefl(x:List Int×Bool):¬Lt x x:=by
 have:∀l:List Int,¬lexLt l l:=by
  intro l
  induction l with
  |nil=>exactλh=>h
  |cons a l ih=>intro h;rcases h with h|⟨_,h⟩
                .omega
                .exact ih h
 rintro(h|⟨_,h|⟨_,h,h'⟩⟩)
 .omega
 .exact this _ h
 .rw[h]at h';cases h'
def lq.add{items items':List (List Int×Bool)}{st l:List Int}{eO found m:Bool}(h:lq items st eO found)(hi:∀x,x∈items'↔x∈items∨x=(l,m)):
 if kN l m st eO found then lq items' l m true else lq items' st eO found:=by
 rcases h with⟨rfl,rfl,rfl,rfl⟩|⟨rfl,h1,h2⟩
 .rw[aj (by unfold kN;simp)];refine .inr ⟨rfl,(hi _).2 (.inr rfl), λx hx=>?_⟩;rcases(hi x).1 hx with hx|rfl
  .simp at hx
  .exact Lt.irrefl _
 .split
  .rename_i hb;have hl:=(Fb l st m eO).1 hb;refine .inr ⟨rfl,(hi _).2 (.inr rfl), λx hx hx2=>?_⟩;rcases(hi x).1 hx with hx|rfl
   .exact h2 x hx (hx2.trans hl)
   .exact Lt.irrefl _ hx2
  .rename_i hb;have hl:¬Lt (l,m) (st,eO):= λx=>hb ((Fb l st m eO).2 x)
   refine .inr ⟨rfl,(hi _).2 (.inl h1), λx hx=>?_⟩;rcases(hi x).1 hx with hx|rfl
   .exact h2 x hx
   .exact hl
end
section
attribute [local instance] noSh gX
section
variable {main:Bool} {Z:fO} {own:Nat->Prop} {Stop:(Nat->Prop)->Goroutine->World->Prop}
variable {b:Frame} {a:Act} {kk:List Item} {cs:List Frame} {W:World} {ops:Array Oper} {i:Nat} {rest:List Nat} {o:Oper} {x y:Operand} {ad:Addr}
def Tf{f:FuncId}{fn:Func}{c0:Code}{x:Operand}{caps:Array Value}{args:Array Operand}{ats:Array TypeId}(ho:ops[i]?=some o)(hw:Region.wanted o (yielded ops a.tmps)=true)(hk:b.kind≠ .early)(hop:o.op=.call { callee:=.value x,args,argTypes:=ats })
 (hx:a.eval x=.func (.func f) #[] caps) (hf:Tryz.prog.funcs[f]?=some fn) (hname:(fn.name== "runtime.NumGoroutine")=false) (hb:fn.body=some c0)
 (hn:∀W1,dM Z own W W1->Gw Tryz.prog main Z Stop own (G (Frame.enter Tryz.prog f (args.map a.eval++caps) .normal) (b.at a (.inRegion ops (i::rest)::kk)::cs)) W1):
 Gw Tryz.prog main Z Stop own (G (b.at a (.inRegion ops (i::rest)::kk)) cs) W:=by
 have h1:¬fn.name= "runtime.NumGoroutine" :=by simpa using hname
 have h2:¬fn.body=none:=by rw[hb];simp
 have hr:∀w,(execOp a.eval o).run Tryz.prog w=.ok (.enter f (args.map a.eval++caps)) w:= λw=>by unfold execOp;simp[hop,hx,resolve,Deferred.ofValue,invoke,callFunc,hf,h1,h2]
 have he:∀w es,(execOp a.eval o).events Tryz.prog w es=es:= λw es=>by unfold execOp;simp[hop,hx,resolve,Deferred.ofValue,invoke,callFunc,hf,h1,h2]
 refine Gw.xY rfl λW1 hr1=>⟨_,W1,#[],?_,qK.refl _, λe he=>by simp at he,by rw[jB];exact hn W1 hr1⟩
 rw[stepG_enter ho hw hk (hr W1)];have:listed Tryz.prog b.fn a o W1= #[]:=by unfold listed;rw[he];exact seen_none Tryz.prog _
 rw[this]
end
section
variable {Mu Wg cw cm cb bs bm bf bw:Nat} {ty:TypeId} {N:Nat->Nat} {J:Nat->Nat->(Nat->Prop)->World->Prop} {ro:Nat->Prop} {Anch:(Nat->Prop)->Goroutine->World->Prop}
variable {own:Nat->Prop} {W0:World} {i k c:Nat}
def iI(ss:List eX)(n:Nat)(m:Bool):List Nat:=(List.range (2^ n)).filter λs=>gP ss (n+1) s m
def fU(ss:List eX)(n c0 c1:Nat):List (List Int×Bool):=((iI ss n false).take c0).map (λs=>(Bi (kK s),false))++((iI ss n true).take c1).map (λs=>(Bi (kK s),true))
structure Fd(bs bm bf:Nat)(A:Option Addr)(cap:Nat)(st:List Int)(eO found:Bool)(Gu:Nat->Prop)(W:World):Prop where
 gs:Gu bs
 gm:Gu bm
 gf:Gu bf
 vs:∃e,W.heap[bs]?=some (.cells #[.slice A st.length cap] e)
 vm:∃e,W.heap[bm]?=some (.cells #[.bool eO] e)
 vf:∃e,W.heap[bf]?=some (.cells #[.bool found] e)
 sl:Sl Gu W A st
 len:st.length<=16
def Fd.keep{A:Option Addr}{cap:Nat}{st:List Int}{eO found:Bool}{Gu:Nat->Prop}{W W1:World}(h:Fd bs bm bf A cap st eO found Gu W)(hk:∀b,Gu b->W1.heap[b]?=W.heap[b]?):Fd bs bm bf A cap st eO found Gu W1:=by
 obtain⟨g1,g2,g3,⟨e1,v1⟩,⟨e2,v2⟩,⟨e3,v3⟩,⟨s1,s2⟩,l⟩:=h;refine⟨g1,g2,g3,⟨e1,(hk _ g1).trans v1⟩,⟨e2,(hk _ g2).trans v2⟩,⟨e3,(hk _ g3).trans v3⟩,⟨λa ha=>?_, λhn=>?_⟩,l⟩
 .obtain⟨q1,cur,e,fr,q2,q3⟩:=s1 a ha;exact⟨q1,cur,e,fr,(hk _ q1).trans q2,q3⟩
 .obtain⟨bb,off,e,q1,q2⟩:=s2 hn;obtain⟨p1,cur,_,_,p2,_⟩:=s1 _ e;exact⟨bb,off,e,(aI.1 ((hk _ p1).trans p2)).1, λi j hi hj=>(fJ (hk _ p1) _).trans (q2 i j hi hj)⟩
def JW(Mu Wg bs bm bf:Nat)(ro:Nat->Prop)(ss:List eX)(n c0 c1:Nat)(Gu:Nat->Prop)(W:World):Prop:=
 (∀b,Gu b->(∃o,W.heap[b]?=some o)∧b≠Mu∧b≠Wg∧¬ro b)∧∃A cap st eO found,Fd bs bm bf A cap st eO found Gu W∧lq (fU ss n c0 c1) st eO found
def JW.keep{ss:List eX}{n c0 c1:Nat}{Gu:Nat->Prop}{W W1:World}(h:JW Mu Wg bs bm bf ro ss n c0 c1 Gu W)(hk:∀b,Gu b->W1.heap[b]?=W.heap[b]?):JW Mu Wg bs bm bf ro ss n c0 c1 Gu W1:=by obtain⟨h1,A,cap,st,eO,found,h2,h3⟩:=h;exact⟨λb hb=>⟨by obtain⟨o,ho⟩:=(h1 b hb).1;exact⟨o,(hk b hb).trans ho⟩,(h1 b hb).2⟩,A,cap,st,eO,found,h2.keep hk,h3⟩
def VJ{ss:List eX}{n k c o:Nat}{Gu:Nat->Prop}{W:World}(h:Jk (JW Mu Wg bs bm bf ro ss n) k c o Gu W):
 (∀b,Gu b->(∃o,W.heap[b]?=some o)∧b≠Mu∧b≠Wg∧¬ro b)∧∃A cap st eO found,Fd bs bm bf A cap st eO found Gu W∧lq (if k=0 then fU ss n c o else fU ss n o c) st eO found:=by
 unfold Jk at h;split at h
 .rename_i e;rw[aj e];exact h
 .rename_i e;rw[aa e];exact h
def Jy{ss:List eX}{n k c o:Nat}{Gu:Nat->Prop}{W:World}(h1:∀b,Gu b->(∃o,W.heap[b]?=some o)∧b≠Mu∧b≠Wg∧¬ro b){A:Option Addr}{cap:Nat}{st:List Int}{eO found:Bool}(h2:Fd bs bm bf A cap st eO found Gu W)
 (h3:lq (if k=0 then fU ss n c o else fU ss n o c) st eO found):Jk (JW Mu Wg bs bm bf ro ss n) k c o Gu W:=by
 unfold Jk;split
 .rename_i e;rw[aj e]at h3;exact⟨h1,A,cap,st,eO,found,h2,h3⟩
 .rename_i e;rw[aa e]at h3;exact⟨h1,A,cap,st,eO,found,h2,h3⟩
def VK{m eO found:Bool}{l st:List Int}{A1 A2:Option Addr}{c1 c2:Nat}{Gu:Nat->Prop}{W:World}{Stop:(Nat->Prop)->Goroutine->World->Prop}{fT:Frame}{K':List Frame}(he:Env Mu Wg own ro W)(Uh:∀b,Gu b->own b)(hl:Sl own W A1 l)(hl1:l.length<=64)(hf:Fd bs bm bf A2 c2 st eO found Gu W)
 (lU:∀dD W',Kept ((cfg Mu Wg ty N J ro Anch).Zw k) own W dD W'->Gw Tryz.prog false ((cfg Mu Wg ty N J ro Anch).Zw k) Stop dD (G (fT.finish (.bool (kN l m st eO found))) K') W'):
 Gw Tryz.prog false ((cfg Mu Wg ty N J ro Anch).Zw k) Stop own (G (Frame.enter Tryz.prog 35 #[.slice A1 l.length c1,.bool m,.pointer (some ⟨bs,0,none⟩),.pointer (some ⟨bf,0,none⟩),.pointer (some ⟨bm,0,none⟩)] .normal) (fT::K')) W:=by
 classical
 obtain⟨g1,g2,g3,⟨e1,v1⟩,⟨e2,v2⟩,⟨e3,v3⟩,s,ln⟩:=hf;obtain⟨As,hAs⟩:∃As:Nat->Prop,As= λb=>(b=bs∨b=bm∨b=bf)∨(∃a,A1=some a∧b=a.block)∨∃a,A2=some a∧b=a.block:=⟨_,rfl⟩
 have hA1:∀b,As b->own b:= λb hb=>by
  rw[hAs]at hb;rcases hb with(rfl|rfl|rfl)|⟨a,ha,rfl⟩|⟨a,ha,rfl⟩
  .exact Uh _ g1
  .exact Uh _ g2
  .exact Uh _ g3
  .exact(hl.blk a ha).1
  .exact Uh _ (s.blk a ha).1
 have on:∀b,As b->Bd (iL As W.heap.size) W.heap.size b=true:= λb hb=>gH.2 ⟨by unfold iL;exact decide_eq_true (.inl hb),(he.own b (hA1 b hb)).1⟩
 have i1:As bs:=by rw[hAs];exact .inl (.inl rfl)
 have i2:As bm:=by rw[hAs];exact .inl (.inr (.inl rfl))
 have i3:As bf:=by rw[hAs];exact .inl (.inr (.inr rfl))
 have i4:∀a,A1=some a->As a.block:= λa ha=>by rw[hAs];exact .inr (.inl ⟨a,ha,rfl⟩)
 have i5:∀a,A2=some a->As a.block:= λa ha=>by rw[hAs];exact .inr (.inr ⟨a,ha,rfl⟩)
 have sl1:∀(A:Option Addr)(p q:Nat),(∀a,A=some a->As a.block)->vs (FA S1 S1 (fe Tryz.prog S1 S1) (Bd (iL As W.heap.size) W.heap.size)) (.slice A p q)=true:= λA p q h=>by
  cases hA:A with
  |none=>simp
  |some a=>rw[gY,um];exact on a.block (h a hA)
 have dl:∀b,As b->vs (FA S1 S1 (fe Tryz.prog S1 S1) (Bd (iL As W.heap.size) W.heap.size)) (.pointer (some ⟨b,0,none⟩))=true:= λb h=>by rw[BD,uk];exact on b h
 refine rJ (S:=S1) (As:=As) (R:= λv _=>v=.bool (kN l m st eO found)) Lr gD he.ja (λb hb=>.inl (hA1 b hb)) (λb o hb ho=>?_) (λb hb=>?_) he.ro (λb hb=>?_) (λ_ _ h=>az h) (λh=>h) (g:=35) rfl ?_ (λw hsz hcell=>?_) λv w' f' dD W' hR hk _=>?_
 .rw[hAs]at hb;rcases hb with(rfl|rfl|rfl)|⟨a,ha,rfl⟩|⟨a,ha,rfl⟩
  .rw[v1]at ho;cases ho
   exact⟨_,_,_,rfl, λv hv=>by simp at hv;subst hv;exact sl1 _ _ _ i5⟩
  .rw[v2]at ho;cases ho
   exact⟨_,_,_,rfl, λv hv=>by simp at hv;subst hv;simp⟩
  .rw[v3]at ho;cases ho
   exact⟨_,_,_,rfl, λv hv=>by simp at hv;subst hv;simp⟩
  .obtain⟨_,cur,e',fr',q2,q3⟩:=hl.blk a ha;rw[q2]at ho;cases ho
   exact⟨_,_,_,rfl, λv hv=>(iP (f:= λb=>b) (q3 v hv)).2⟩
  .obtain⟨_,cur,e',fr',q2,q3⟩:=s.blk a ha;rw[q2]at ho;cases ho
   exact⟨_,_,_,rfl, λv hv=>(iP (f:= λb=>b) (q3 v hv)).2⟩
 .obtain⟨q1,q2,q3,q4⟩:=he.own b hb;exact⟨q1, λh=>by rcases h with(h|h)|h<;>first|exact q2 h|exact q3 h|exact h,q4⟩
 .rcases hb with(rfl|rfl)|hb
  .exact he.mu
  .exact he.wg
  .exact hb.elim
 .intro v hv;simp only[aB,bD,ax,or_false]at hv;rcases hv with rfl|rfl|rfl|rfl|rfl
  .exact sl1 _ _ _ i4
  .simp
  .exact dl _ i1
  .exact dl _ i3
  .exact dl _ i2
 .have cc:∀b v e,W.heap[b]?=some (.cells #[v] e)->w.cell? ⟨b,0,none⟩=some v:= λb v e h=>by
   rw[hcell];unfold World.cell?;simp only[h];rfl
  have lt:∀b,As b->b<w.heap.size:= λb hb=>by rw[hsz];exact(he.own b (hA1 b hb)).1
  have :=@Lo.KQ gX w W.heap.size bs bf bm A1 A2 l st c1 c2 m eO found (hl.rd.keep λb o _=>hcell b o) (s.rd.keep λb o _=>hcell b o) hl1 (by omega) (cc _ _ _ v1) (cc _ _ _ v3) (cc _ _ _ v2) (Nat.le_of_eq hsz.symm) (lt _ i3) (lt _ i2);rw[zf]at this;exact this.mono λe w' h=>⟨_,h.1,rfl⟩
 .subst hR;rw[jZ];exact lU dD W' hk
end
end
section
attribute [local instance] noSh gX
def Fe:(Tryz.f42.name== "runtime.NumGoroutine")=false:=by kernel_rfl
def VL:(Tryz.f43.name== "runtime.NumGoroutine")=false:=by kernel_rfl
def Pv:(Tryz.f35.name== "runtime.NumGoroutine")=false:=by kernel_rfl
def Ff:Tryz.f42.body=some (Tryz.f42.body.getD .skip):=by unfold Tryz.f42;rfl
def VM:Tryz.f43.body=some (Tryz.f43.body.getD .skip):=by unfold Tryz.f43;rfl
def Pw:Tryz.f35.body=some (Tryz.f35.body.getD .skip):=by unfold Tryz.f35;rfl
def Env.kept{Mu Wg:Nat}{own ro:Nat->Prop}{Z:fO}{W W':World}{dD:Nat->Prop}(h:Env Mu Wg own ro W)(hz:Z.sy Wg)(hk:Kept Z own W dD W'):Env Mu Wg dD ro W':=
 ⟨h.rs, λb hb=>by
   rcases hk.new b hb with h1|⟨h1,h2⟩
   .exact⟨aK (h.own b h1).1 hk.rely.size,(h.own b h1).2⟩
   .exact⟨h2, λe=>by have :=h.mu;omega, λe=>by have :=h.wg;omega, λe=>by have :=h.ro b e;omega⟩,
  λb hb=>aK (h.ro b hb) hk.rely.size,aK h.mu hk.rely.size,aK h.wg hk.rely.size,aK h.ja hk.rely.size,jl h.wl (hk.rely.sy _ hz)⟩
def WK.sub{cw cm cb bs bm bf bw:Nat}{ss:List eX}{n:Nat}{m:Bool}{own dD ro:Nat->Prop}{W:World}(h:WK cw cm cb bs bm bf bw ss n m own ro W)(hs:∀b,own b->dD b):WK cw cm cb bs bm bf bw ss n m dD ro W:=
 ⟨h.VG,h.Y3,h.Xk,hs _ h.VH,h.Td,h.VI,h.Y4,h.Xl⟩
def GI{Mu:Nat}{Z:fO}{own dD:Nat->Prop}{W0 w W':World}(hz:Z.sy Mu)(hF:KM 83 Mu Z own W0 w)(hk:Kept Z own w dD W'):KM 83 Mu Z dD W' W':=
 ⟨dM.refl _,wZ hF.2 (hk.rely.sy _ hz)⟩
section
variable {Mu Wg cw cm cb bs bm bf bw:Nat} {ty:TypeId} {N:Nat->Nat} {J:Nat->Nat->(Nat->Prop)->World->Prop} {ro:Nat->Prop} {Anch:(Nat->Prop)->Goroutine->World->Prop}
variable {own:Nat->Prop} {W0:World} {i k c:Nat}
noncomputable def Jz:Frame:={ (default:Frame)with fn:=Tryz.prog.funcs.size,defers:=[],mode:=.panicking [goexitEntry] }
noncomputable def DI(Wg cw cm Mu cb bs bm bf lim s:Nat)(Px:List Deferred)(j8 j9 j10 j11 j12 j13 M9 Na Nb Nc Nf RZ ba ia Ng Nh Ni Nj Nk Nl Nn Np Nq Nr:Value):Goroutine:=
 G ((baseD 40).at ⟨#[.pointer (some ⟨Wg,0,none⟩),.pointer (some ⟨cw,0,none⟩),.pointer (some ⟨cm,0,none⟩),.pointer (some ⟨Mu,0,none⟩),.pointer (some ⟨cb,0,none⟩),.pointer (some ⟨bs,0,none⟩),.pointer (some ⟨bm,0,none⟩),.pointer (some ⟨bf,0,none⟩),j8,j9,j10,j11,j12,j13,.int .u64 (lim:Int),.int .u64 (s:Int),M9,Na,Nb,Nc,Nf,RZ,ba,ia,Ng,Nh,Ni,Nj,Nk,Nl,Nn,Np,Nq,Nr],Px⟩ [.code LW,.inLoop LW,.inBlock 0]) [Jz]
def wJ(Wg cw cm Mu cb bs bm bf lim s:Nat)(Px:List Deferred)(Q:Goroutine->Prop):Prop:=
 ∀j8 j9 j10 j11 j12 j13 M9 Na Nb Nc Nf RZ ba ia Ng Nh Ni Nj Nk Nl Nn Np Nq Nr,Q (DI Wg cw cm Mu cb bs bm bf lim s Px j8 j9 j10 j11 j12 j13 M9 Na Nb Nc Nf RZ ba ia Ng Nh Ni Nj Nk Nl Nn Np Nq Nr)
def Y5{m:Bool}{ss:List eX}{n s lim:Nat}{Px:List Deferred}{w:World}{Stop:(Nat->Prop)->Goroutine->World->Prop}
 (hw:WK cw cm cb bs bm bf bw ss n m own ro W0) (he:Env Mu Wg own ro W0) (hs:s<lim) (hl:lim=2^ n) (hn:n<=15) (hF:KM 83 Mu ((cfg Mu Wg ty N J ro Anch).Zw k) own W0 w)
 (hp:gP ss (n+1) s m=false)
 (hnext:∀dD W',Kept ((cfg Mu Wg ty N J ro Anch).Zw k) own W0 dD W'->∀w',KM 83 Mu ((cfg Mu Wg ty N J ro Anch).Zw k) dD W' w'->wJ Wg cw cm Mu cb bs bm bf lim (s+1) Px λg=>Gw Tryz.prog false ((cfg Mu Wg ty N J ro Anch).Zw k) Stop dD g w'):
 wJ Wg cw cm Mu cb bs bm bf lim s Px λg=>Gw Tryz.prog false ((cfg Mu Wg ty N J ro Anch).Zw k) Stop own g w:=by
 intro j8 j9 j10 j11 j12 j13 M9 Na Nb Nc Nf RZ ba ia Ng Nh Ni Nj Nk Nl Nn Np Nq Nr;unfold wJ at hnext;unfold DI at hnext⊢;have hz:((cfg Mu Wg ty N J ro Anch).Zw k).sy Mu:=.inl (.inl rfl);have z8:((cfg Mu Wg ty N J ro Anch).Zw k).sy Wg:=.inl (.inr rfl);have hnm:¬((cfg Mu Wg ty N J ro Anch).Zw k).mute:= λh=>h
 have d0:decide ((s:Int)<(lim:Int))=true:=by simpa using hs
 have HL:=dw hl;clear hl;simp only[LW,AX,fH,Tryz.f40,ak]at hnext⊢;refine dG (n:=60) ?_
 repeat w_go (dB hz)
 refine cz λqa2 qa0=>?_
 replace hF:=dB hz hF qa0;clear qa0;have hw1:=hw.rely rfl hF.1;refine DF (o:=?_) (x:=?_) (ad:=⟨cw,0,none⟩) ?_ ?_ ?_ ?_ ?_ hnm (.inr hw1.VG) hw1.Td ?_
 rotate_left 2
 iterate 2 rfl
 .k_ne
 iterate 2 rfl
 intro qa4 qa1;replace hF:=dB hz hF qa1;clear qa1 hw1;refine dG (n:=60) ?_
 walk_nrm
 repeat w_go (dB hz)
 refine cz λqa2 qa0=>?_
 replace hF:=dB hz hF qa0;clear qa0;have hw1:=hw.rely rfl hF.1;refine nD (o:=?_) (x:=?_) (ad:=⟨cm,0,none⟩) ?_ ?_ ?_ ?_ ?_ hnm (.inl hw1.VH) hw1.Y4 ?_
 rotate_left 2
 iterate 2 rfl
 .k_ne
 iterate 2 rfl
 intro qa4 qa1;replace hF:=dB hz hF qa1;clear qa1 hw1;refine dG (n:=60) ?_
 walk_nrm
 repeat w_go (dB hz)
 refine cz λqa2 qa0=>?_
 replace hF:=dB hz hF qa0;clear qa0;refine nK (o:=?_) (args:=?_) (ats:=?_) ?_ ?_ ?_ ?_ Tryz.func42 Fe Ff ?_
 rotate_left 3
 iterate 2 rfl
 .k_ne
 .rfl
 intro qa4 qa1;replace hF:=dB hz hF qa1;clear qa1;walk_nrm;have hlm:s<2^ (n+1):=by have :=HL.out;rw[this]at hs;rw[Nat.pow_succ];omega
 refine M8 (he.rel z8 hF.1) (hw.rely rfl hF.1) hlm hn λdD W' hk=>?_
 rw[hp];rw[Frame.finish_at];have hnx:=hnext dD W' ⟨hF.1.trans hk.rely,hk.sub, λb hb=>(hk.new b hb).imp id λh=>⟨aS hF.1.size h.1,h.2⟩⟩;clear hnext
 have aq4:(s:Int)+1<18446744073709551616:=by have :=HL.out;have h2:2^ n<=2^ 15:=Nat.pow_le_pow_right (by decide) hn;omega
 have hwr:IntKind.u64.wrap ((s:Int)+1)=((s+1:Nat):Int):=by rw[IntKind.wrap_u64];omega
 replace hF:=GI hz hF hk;refine dG (n:=60) ?_
 walk_nrm
 repeat w_nl (dB hz)
 u_c stepG_inLoop (dB hz) hF
 rw[show((s:Int)+1)=((s+1:Nat):Int)from by simp];exact cz λqa3 qa7=>hnx qa3 (dB hz hF qa7) _ _ _ _ _ _ _ _ _ _ _ _ _ _ _ _ _ _ _ _ _ _ _ _
end
end
section
attribute [local instance] noSh gX
def Ns:Tryz.f44.body=some MF:=by unfold MF Tryz.f44;rfl
def vL:Tryz.f45.body=some MG:=by unfold MG Tryz.f45;rfl
structure Um(X own ro:Nat->Prop)(W W':World):Prop where
 blk:∀b,¬X b->own b∨ro b->W'.heap[b]?=W.heap[b]?
 size:W.heap.size<=W'.heap.size
def Um.refl{X own ro:Nat->Prop}{W:World}:Um X own ro W W:=⟨λ_ _ _=>rfl,aJ _⟩
def Um.rely{X own ro:Nat->Prop}{Z:fO}{W W' W'':World}(h:Um X own ro W W')(hz:Z.ro=ro)(hr:dM Z own W' W''):Um X own ro W W'':=
 ⟨λb hX hb=>(hb.elim (hr.own b) (λx=>hr.ro b (by rw[hz];exact x))).trans (h.blk b hX hb),aS h.size hr.size⟩
def Um.set{X own ro:Nat->Prop}{W W':World}{ad:Addr}{v:Value}(h:Um X own ro W W')(hX:X ad.block):Um X own ro W (W'.setCell ad v):=
 ⟨λb hb ho=>(Go.Conc.aside_setCell W' ad v |>.block b λe=>hb (e ▸ hX)).trans (h.blk b hb ho),aS h.size (Nat.le_of_eq (Go.Conc.aside_setCell W' ad v).size.symm)⟩
def WK.D7{cw cm cb bs bm bf bw:Nat}{ss:List eX}{n:Nat}{m:Bool}{X own ro:Nat->Prop}{W W1:World}(h:WK cw cm cb bs bm bf bw ss n m own ro W)(ho:Um X own ro W W1)(hX:∀b,X b->¬ro b∧b≠cm):WK cw cm cb bs bm bf bw ss n m own ro W1:=by
 have hro:∀b,ro b->W1.heap[b]?=W.heap[b]?:= λb hb=>ho.blk b (λx=>(hX b x).1 hb) (.inr hb)
 obtain⟨a1,a2,a3,a4,a5,a6,a7,A,cap,e,fr,a8,a9,Te⟩:=h;refine⟨a1,a2,a3,a4,(fJ (hro _ a1) _).trans a5,(fJ (hro _ a2) _).trans a6,(fJ (ho.blk _ (λx=>(hX _ x).2 rfl) (.inl a4)) _).trans a7,A,cap,e,fr,(hro _ a3).trans a8,si a9 (hro _ a3) (λa e _=>hro _ (Te a e).1) ho.size, λa ha=>?_⟩;obtain⟨h1,cur,e',fr',h2,h3⟩:=Te a ha;exact⟨h1,cur,e',fr',(hro _ h1).trans h2,h3⟩
def C1(W:World)(b:Nat)(v:Value):Prop:=∃e,W.heap[b]?=some (.cells #[v] e)
def C1.cell{W:World}{b:Nat}{v:Value}(h:C1 W b v):W.cell? ⟨b,0,none⟩=some v:=by obtain⟨e,h⟩:=h;unfold World.cell?;simp only[h];rfl
def C1.free{W:World}{b:Nat}{v:Value}(h:C1 W b v):W.frozen? ⟨b,0,none⟩=false:=by obtain⟨e,h⟩:=h;unfold World.frozen?;simp only[h];rfl
def C1.same{W W1:World}{b:Nat}{v:Value}(h:C1 W b v)(hk:W1.heap[b]?=W.heap[b]?):C1 W1 b v:=by obtain⟨e,h⟩:=h;exact⟨e,hk.trans h⟩
def C1.set{W:World}{b:Nat}{v0:Value}(h:C1 W b v0)(v:Value):C1 (W.setCell ⟨b,0,none⟩ v) b v:=by obtain⟨e,h⟩:=h;exact⟨e,by rw[heap_setCell_same W b 0 _ e v h];rfl⟩
def xD{Wg:Nat}{W:World}{ad:Addr}{v:Value}(h:WgLive 90 Wg W)(hne:Wg≠ad.block):WgLive 90 Wg (W.setCell ad v):=by
 obtain⟨a,b,h⟩:=h;refine⟨a,b,?_⟩;show(W.setCell ad v).heap[Wg]?=_
 rw[(Go.Conc.aside_setCell W ad v).block Wg hne];exact h
def xE{Mu:Nat}{W:World}{ad:Addr}{v:Value}(h:wY 83 Mu W)(hne:Mu≠ad.block):wY 83 Mu (W.setCell ad v):=by
 obtain⟨a,b,h⟩:=h;refine⟨a,b,?_⟩;show(W.setCell ad v).heap[Mu]?=_
 rw[(Go.Conc.aside_setCell W ad v).block Mu hne];exact h
section
variable {Mu Wg cw cm cb bs bm bf bw:Nat} {ty:TypeId} {N:Nat->Nat} {J:Nat->Nat->(Nat->Prop)->World->Prop} {ro:Nat->Prop} {Anch:(Nat->Prop)->Goroutine->World->Prop}
variable {own:Nat->Prop} {W0:World} {i k c:Nat}
def VN{m:Bool}{ss:List eX}{n s lim n0:Nat}{Px:List Deferred}{w:World}(hne:Mu≠Wg)(hi:i≠0)(uD:bs≠bm∧bs≠bf∧bm≠bf)(hJ:J=JW Mu Wg bs bm bf ro ss n)(hcN:c<N k)
 (hit:∀o x,x∈(if k=0 then fU ss n (c+1) o else fU ss n o (c+1))↔x∈(if k=0 then fU ss n c o else fU ss n o c)∨x=(Bi (kK s),m))
 (hw:WK cw cm cb bs bm bf bw ss n m own ro W0) (he:Env Mu Wg own ro W0) (hs:s<lim) (hl:lim=2^ n) (hn:n<=15) (hF:KM 83 Mu ((cfg Mu Wg ty N J ro Anch).Zw k) own W0 w)
 (hp:gP ss (n+1) s m=true)
 (hnext:∀dD W' w' n',WK cw cm cb bs bm bf bw ss n m dD ro W'->Env Mu Wg dD ro W'->KM 83 Mu ((cfg Mu Wg ty N J ro Anch).Zw k) dD W' w'->wJ Wg cw cm Mu cb bs bm bf lim (s+1) Px λg=>Gw Tryz.prog false ((cfg Mu Wg ty N J ro Anch).Zw k) (At Tryz.prog (cfg Mu Wg ty N J ro Anch).sys i (qx N k (c+1) n')) dD g w'):
 wJ Wg cw cm Mu cb bs bm bf lim s Px λg=>Gw Tryz.prog false ((cfg Mu Wg ty N J ro Anch).Zw k) (At Tryz.prog (cfg Mu Wg ty N J ro Anch).sys i (qx N k c n0)) own g w:=by
 intro j8 j9 j10 j11 j12 j13 M9 Na Nb Nc Nf RZ ba ia Ng Nh Ni Nj Nk Nl Nn Np Nq Nr;unfold wJ at hnext;unfold DI at hnext⊢;have hz:((cfg Mu Wg ty N J ro Anch).Zw k).sy Mu:=.inl (.inl rfl);have z8:((cfg Mu Wg ty N J ro Anch).Zw k).sy Wg:=.inl (.inr rfl);have hnm:¬((cfg Mu Wg ty N J ro Anch).Zw k).mute:= λh=>h
 have d0:decide ((s:Int)<(lim:Int))=true:=by simpa using hs
 have HL:=dw hl;clear hl;simp only[LW,AX,fH,Tryz.f40,ak]at hnext⊢;refine dG (n:=60) ?_
 repeat w_go (dB hz)
 refine cz λqa2 qa0=>?_
 replace hF:=dB hz hF qa0;clear qa0;have hw1:=hw.rely rfl hF.1;refine DF (o:=?_) (x:=?_) (ad:=⟨cw,0,none⟩) ?_ ?_ ?_ ?_ ?_ hnm (.inr hw1.VG) hw1.Td ?_
 rotate_left 2
 iterate 2 rfl
 .k_ne
 iterate 2 rfl
 intro qa4 qa1;replace hF:=dB hz hF qa1;clear qa1 hw1;refine dG (n:=60) ?_
 walk_nrm
 repeat w_go (dB hz)
 refine cz λqa2 qa0=>?_
 replace hF:=dB hz hF qa0;clear qa0;have hw1:=hw.rely rfl hF.1;refine nD (o:=?_) (x:=?_) (ad:=⟨cm,0,none⟩) ?_ ?_ ?_ ?_ ?_ hnm (.inl hw1.VH) hw1.Y4 ?_
 rotate_left 2
 iterate 2 rfl
 .k_ne
 iterate 2 rfl
 intro qa4 qa1;replace hF:=dB hz hF qa1;clear qa1 hw1;refine dG (n:=60) ?_
 walk_nrm
 repeat w_go (dB hz)
 refine cz λqa2 qa0=>?_
 replace hF:=dB hz hF qa0;clear qa0;refine nK (o:=?_) (args:=?_) (ats:=?_) ?_ ?_ ?_ ?_ Tryz.func42 Fe Ff ?_
 rotate_left 3
 iterate 2 rfl
 .k_ne
 .rfl
 intro qa4 qa1;replace hF:=dB hz hF qa1;clear qa1;walk_nrm;have hlm:s<2^ (n+1):=by have :=HL.out;rw[this]at hs;rw[Nat.pow_succ];omega
 refine M8 (he.rel z8 hF.1) (hw.rely rfl hF.1) hlm hn λdD W' hk=>?_
 rw[hp];rw[Frame.finish_at]
 have aq4:(s:Int)+1<18446744073709551616:=by have :=HL.out;have h2:2^ n<=2^ 15:=Nat.pow_le_pow_right (by decide) hn;omega
 have aq5:s<2^ 16:=by have :=HL.out;have h2:2^ n<=2^ 15:=Nat.pow_le_pow_right (by decide) hn;omega
 have hwr:IntKind.u64.wrap ((s:Int)+1)=((s+1:Nat):Int):=by rw[IntKind.wrap_u64];omega
 replace hw:=(hw.rely rfl (hF.1.trans hk.rely)).sub hk.sub;replace he:=(he.rel z8 hF.1).kept z8 hk;replace hF:=GI hz hF hk;clear hk;refine dG (n:=60) ?_
 walk_nrm
 repeat w_nl (dB hz)
 refine cz λqa2 qa0=>?_
 replace hF:=dB hz hF qa0;clear qa0;refine nK (o:=?_) (args:=?_) (ats:=?_) ?_ ?_ ?_ ?_ Tryz.func43 VL VM ?_
 rotate_left 3
 iterate 2 rfl
 .k_ne
 .rfl
 intro qa4 qa1;replace hF:=dB hz hF qa1;clear qa1;walk_nrm;refine aj3 (he.rel z8 hF.1) aq5 λA cap xC W2 hk hsl hnw=>?_
 rw[Frame.finish_at];have hcm0:=hw.VH;replace hw:=(hw.rely rfl (hF.1.trans hk.rely)).sub hk.sub
 have hnew:∀a,A=some a->a.block≠cm:= λa ha e=>by have h1:=hnw a ha;have h2:=(he.own _ hcm0).1;have h3:=hF.1.size;omega
 replace he:=(he.rel z8 hF.1).kept z8 hk;replace hF:=GI hz hF hk;clear hk;have Sx:(Bi (kK s)).length<=16:=by unfold Bi kK;rw[List.length_map];exact CQ _ _
 generalize hL:Bi (kK s)=l at hsl hit Sx⊢;refine dG (n:=60) ?_
 walk_nrm
 repeat w_nl (dB hz)
 refine cz λqa2 qa0=>?_
 replace hF:=dB hz hF qa0;clear qa0;refine nK (o:=?_) (args:=?_) (ats:=?_) ?_ ?_ ?_ ?_ Tryz.func44 Vd Ns ?_
 rotate_left 3
 iterate 2 rfl
 .k_ne
 .rfl
 intro qa4 qa1;replace hF:=dB hz hF qa1;clear qa1;rw[enter_at _ Tryz.func44 Ns]
 walk_nrmf Tryz.f44
 rw[show qx N k c n0=.bd k ⟨lk .ld,c,n0⟩from aj hcN];have Py:Beside (cfg Mu Wg ty N J ro Anch) ((cfg Mu Wg ty N J ro Anch).Zw k) xC:=⟨λb hb h=>by rcases h with h|h<;>first|exact(he.own b hb).2.1 h|exact(he.own b hb).2.2.1 h, λb hb h=>by rcases h with h|h<;>first|exact(he.rs b hb).1 h|exact(he.rs b hb).2 h, λb i h=>az h⟩;refine Yt hne hi Py (λo Gu W1 w3 hr1 ZR cy na=>?_) hF;have e0:(i==0)=false:=by simpa using hi
 rw[e0];subst hJ;obtain⟨hG,A2,cap2,st,eO,found,Sz,iq⟩:=VJ cy;clear cy;have hw1:=(hw.rely rfl hr1).sub (dD:= λb=>xC b∨Gu b) λb h=>.inl h
 have he1:Env Mu Wg (λb=>xC b∨Gu b) ro W1:=⟨he.rs, λb hb=>by
  rcases hb with hb|hb
  .exact(he.rel z8 hr1).own b hb
  .obtain⟨⟨o',ho'⟩,q2,q3,q4⟩:=hG b hb;exact⟨(aI.1 ho').1,q2,q3,q4⟩,(he.rel z8 hr1).ro,(he.rel z8 hr1).mu,(he.rel z8 hr1).wg,(he.rel z8 hr1).ja,(he.rel z8 hr1).wl⟩
 have hs1:=(hsl.rely hr1).sub (dD:= λb=>xC b∨Gu b) λb h=>.inl h
 have hcm2:=hw.VH;have hs2:=hsl;clear hw he hr1 hF
 rename KM 83 Mu ((cfg Mu Wg ty N (JW Mu Wg bs bm bf ro ss n) ro Anch).Zw k) (λb=>xC b∨Gu b) W1 w3=>hF
 refine dG (n:=60) ?_
 walk_nrm
 repeat w_nl (dB hz)
 refine cz λqa2 qa0=>?_
 replace hF:=dB hz hF qa0;clear qa0;have hw2:=hw1.rely rfl hF.1;refine S9 (o:=?_) (x:=?_) (ad:=⟨cb,0,none⟩) ?_ ?_ ?_ ?_ ?_ hnm (.inr hw2.Y3) hw2.VI ?_
 rotate_left 2
 iterate 2 rfl
 .k_ne
 iterate 2 rfl
 intro qa4 qa1;replace hF:=dB hz hF qa1;clear qa1 hw2;refine dG (n:=60) ?_
 walk_nrm
 repeat w_nl (dB hz)
 refine cz λqa2 qa0=>?_
 replace hF:=dB hz hF qa0;clear qa0;have hw2:=hw1.rely rfl hF.1;refine nD (o:=?_) (x:=?_) (ad:=⟨cm,0,none⟩) ?_ ?_ ?_ ?_ ?_ hnm (.inl hw2.VH) hw2.Y4 ?_
 rotate_left 2
 iterate 2 rfl
 .k_ne
 iterate 2 rfl
 intro qa4 qa1;replace hF:=dB hz hF qa1;clear qa1 hw2;walk_nrm;refine Tf (o:=?_) (args:=?_) (ats:=?_) (x:=?_) (caps:=?_) ?_ ?_ ?_ ?_ ?_ Tryz.func35 Pv Pw ?_
 rotate_left 5
 iterate 2 rfl
 .k_ne
 iterate 2 rfl
 intro qa4 qa1;replace hF:=dB hz hF qa1;clear qa1;walk_nrm;have hll:l.length<=64:=by omega
 refine VK (he1.rel z8 hF.1) (λb h=>.inr h) (hs1.rely hF.1) hll (Sz.keep λb hb=>hF.1.own b (.inr hb)) λuj W4 hk4=>?_
 rw[Frame.finish_at];have hr4:=hF.1.trans hk4.rely;have hw4:=(hw1.rely rfl hr4).sub hk4.sub;have vM:=Sz.keep λb hb=>hr4.own b (.inr hb)
 have hG4:∀b,Gu b->(∃o,W4.heap[b]?=some o)∧b≠Mu∧b≠Wg∧¬ro b:= λb hb=>⟨by obtain⟨o',ho'⟩:=(hG b hb).1;exact⟨o',(hr4.own b (.inr hb)).trans ho'⟩,(hG b hb).2⟩
 have hs4:=(hs1.rely hr4).sub hk4.sub;have tL:∀b,Gu b->uj b:= λb hb=>hk4.sub b (.inr hb)
 have Y6:¬Gu cm:= λh=>ZR cm h hcm2
 replace he1:=(he1.rel z8 hF.1).kept z8 hk4;replace hF:=GI hz hF hk4;have Xm:Beside (cfg Mu Wg ty N (JW Mu Wg bs bm bf ro ss n) ro Anch) ((cfg Mu Wg ty N (JW Mu Wg bs bm bf ro ss n) ro Anch).Zw k) uj:=⟨λb hb h=>by rcases h with h|h<;>first|exact(he1.own b hb).2.1 h|exact(he1.own b hb).2.2.1 h, λb hb h=>by rcases h with h|h<;>first|exact(he1.rs b hb).1 h|exact(he1.rs b hb).2 h, λb i h=>az h⟩;have hadd:=iq.add (hit o)
 have Tg:∀a,A=some a->a.block≠bs∧a.block≠bm∧a.block≠bf:= λa ha=>by have h1:=(hs2.blk a ha).1;exact⟨λe=>ZR _ Sz.gs (e ▸ h1), λe=>ZR _ Sz.gm (e ▸ h1), λe=>ZR _ Sz.gf (e ▸ h1)⟩
 clear hk4 hr4 Sz iq hw1 hs1 hG Py;cases hbt:kN l m st eO found with
 |false=>
  rw[hbt]at hadd;have hadd:lq (if k=0 then fU ss n (c+1) o else fU ss n o (c+1)) st eO found:=hadd;refine dG (n:=60) ?_
  walk_nrm
  repeat w_nl (dB hz)
  refine cz λqa2 qa0=>?_
  replace hF:=dB hz hF qa0;clear qa0;refine nK (o:=?_) (args:=?_) (ats:=?_) ?_ ?_ ?_ ?_ Tryz.func45 EM vL ?_
  rotate_left 3
  iterate 2 rfl
  .k_ne
  .rfl
  intro qa4 qa1;replace hF:=dB hz hF qa1;clear qa1;rw[enter_at _ Tryz.func45 vL]
  walk_nrmf Tryz.f45
  refine IV hne hi Xm tL (λw' hF'=>Jy (λb hb=>⟨by obtain⟨o',ho'⟩:=(hG4 b hb).1;exact⟨o',(hF'.1.own b (tL b hb)).trans ho'⟩,(hG4 b hb).2⟩) (vM.keep λb hb=>hF'.1.own b (tL b hb)) hadd) (λw' hF'=>?_) hF;have Y7:¬Gu cm:=Y6;rw[e0]
  have ae:WK cw cm cb bs bm bf bw ss n m (λb=>uj b∧¬Gu b) ro w':=by have hx:=WK.rely (Z:=(cfg Mu Wg ty N (JW Mu Wg bs bm bf ro ss n) ro Anch).Zw k) (own:= λb=>uj b∧¬Gu b) ⟨hw4.VG,hw4.Y3,hw4.Xk,⟨hw4.VH,Y7⟩,hw4.Td,hw4.VI,hw4.Y4,hw4.Xl⟩ rfl hF'.1;exact hx
  have hE:Env Mu Wg (λb=>uj b∧¬Gu b) ro w':=by have hx:=he1.rel z8 hF'.1;exact⟨hx.rs, λb hb=>hx.own b hb.1,hx.ro,hx.mu,hx.wg,hx.ja,hx.wl⟩
  have hnx:= λw'' h=>hnext (λb=>uj b∧¬Gu b) w' w'' o ae hE h
  replace hF:KM 83 Mu ((cfg Mu Wg ty N (JW Mu Wg bs bm bf ro ss n) ro Anch).Zw k) (λb=>uj b∧¬Gu b) w' w':=⟨dM.refl _,hF'.2⟩;clear hnext hF' ae hE;refine dG (n:=60) ?_
  walk_nrm
  repeat w_nl (dB hz)
  u_c stepG_inLoop (dB hz) hF
  rw[show((s:Int)+1)=((s+1:Nat):Int)from by simp];exact cz λqa3 qa7=>hnx qa3 (dB hz hF qa7) _ _ _ _ _ _ _ _ _ _ _ _ _ _ _ _ _ _ _ _ _ _ _ _
 |true=>
  rw[hbt]at hadd;have hadd:lq (if k=0 then fU ss n (c+1) o else fU ss n o (c+1)) l m true:=hadd;obtain⟨X,hX⟩:∃X:Nat->Prop,X= λb=>b=bs∨b=bm∨b=bf:=⟨_,rfl⟩
  obtain⟨GU,oa⟩:∃GU:Nat->Prop,GU= λb=>Gu b∨∃a,A=some a∧b=a.block:=⟨_,rfl⟩
  have dy:∀b,X b->Gu b:= λb hb=>by
   rw[hX]at hb;rcases hb with rfl|rfl|rfl
   .exact vM.gs
   .exact vM.gm
   .exact vM.gf
  have rS:∀b,X b->¬ro b∧b≠cm:= λb hb=>⟨(hG4 b (dy b hb)).2.2.2, λe=>Y6 (e ▸ dy b hb)⟩
  have Y8:∀b,GU b->uj b:= λb hb=>by
   rw[oa]at hb;rcases hb with hb|⟨a,ha,rfl⟩
   .exact tL b hb
   .exact(hs4.blk a ha).1
  have Y7:¬GU cm:= λh=>by
   rw[oa]at h;rcases h with h|⟨a,ha,e⟩
   .exact Y6 h
   .exact hnew a ha e.symm
  have hsy:∀b,Gu b->¬((cfg Mu Wg ty N (JW Mu Wg bs bm bf ro ss n) ro Anch).Zw k).sy b:= λb hb h=>by
   rcases h with(h|h)|h
   .exact(hG4 b hb).2.1 h
   .exact(hG4 b hb).2.2.1 h
   .exact h
  have ZZ:∀b,Gu b->Mu≠b:= λb hb e=>(hG4 b hb).2.1 e.symm
  have hO:Um X uj ro W4 W4:=.refl;have wl:=he1.wl;have il:∀b,Gu b->Wg≠b:= λb hb e=>(hG4 b hb).2.2.1 e.symm
  have k1:C1 W4 bs _:=vM.vs;have k2:C1 W4 bm _:=vM.vm;have k3:C1 W4 bf _:=vM.vf;refine dG (n:=60) ?_
  walk_nrm
  repeat w_nl (dB hz)
  refine cz λqa2 qa0=>?_
  replace hF:=dB hz hF qa0;clear qa0;have ol:=hw4.rely rfl hF.1;refine nD (o:=?_) (x:=?_) (ad:=⟨cm,0,none⟩) ?_ ?_ ?_ ?_ ?_ hnm (.inl ol.VH) ol.Y4 ?_
  rotate_left 2
  iterate 2 rfl
  .k_ne
  iterate 2 rfl
  intro qa4 qa1;replace hF:=dB hz hF qa1;clear qa1 ol;refine dG (n:=60) ?_
  walk_nrm
  repeat w_nl (dB hz)
  refine cz λqa2 qa0=>?_
  replace hF:=dB hz hF qa0;clear qa0;replace k1:=k1.same (hF.1.own _ (tL _ vM.gs));replace k2:=k2.same (hF.1.own _ (tL _ vM.gm));replace k3:=k3.same (hF.1.own _ (tL _ vM.gf));replace hO:=hO.rely rfl hF.1;replace wl:=jl wl (hF.1.sy _ z8);refine M7 (o:=?_) (x:=?_) (y:=?_) (ad:=⟨bs,0,none⟩) (p:=A) (l:=l.length) (c:=cap) ?_ ?_ ?_ ?_ ?_ ?_ hnm (tL _ vM.gs) (hsy _ vM.gs) k1.cell k1.free ?_
  rotate_left 3
  iterate 2 rfl
  .k_ne
  iterate 3 rfl
  intro qa4 qa1;have ml:=xE (ad:=⟨bs,0,none⟩) (v:=.slice A l.length cap) (dB hz hF qa1).2 (ZZ _ vM.gs);replace k1:=(k1.same (qa1.own _ (tL _ vM.gs))).set (.slice A l.length cap);replace k2:=(k2.same (qa1.own _ (tL _ vM.gm))).same ((Go.Conc.aside_setCell qa4 ⟨bs,0,none⟩ (.slice A l.length cap)).block bm (Ne.symm uD.1));replace k3:=(k3.same (qa1.own _ (tL _ vM.gf))).same ((Go.Conc.aside_setCell qa4 ⟨bs,0,none⟩ (.slice A l.length cap)).block bf (Ne.symm uD.2.1));replace hO:=(hO.rely rfl qa1).set (ad:=⟨bs,0,none⟩) (v:=.slice A l.length cap) (by rw[hX];exact .inl rfl);replace wl:=xD (ad:=⟨bs,0,none⟩) (v:=.slice A l.length cap) (jl wl (qa1.sy _ z8)) (il _ vM.gs);generalize qa4.setCell ⟨bs,0,none⟩ (.slice A l.length cap)=w5 at ml k1 k2 k3 hO wl⊢;clear qa1;replace hF:KM 83 Mu ((cfg Mu Wg ty N (JW Mu Wg bs bm bf ro ss n) ro Anch).Zw k) uj w5 w5:=⟨dM.refl _,ml⟩;clear ml;walk_nrm;refine r9 (o:=?_) (x:=?_) (y:=?_) (ad:=⟨bm,0,none⟩) (n:=m) ?_ ?_ ?_ ?_ ?_ ?_ hnm (tL _ vM.gm) (hsy _ vM.gm) k2.cell k2.free ?_
  rotate_left 3
  iterate 2 rfl
  .k_ne
  iterate 3 rfl
  intro qa4 qa1;have ml:=xE (ad:=⟨bm,0,none⟩) (v:=.bool m) (dB hz hF qa1).2 (ZZ _ vM.gm);replace k1:=(k1.same (qa1.own _ (tL _ vM.gs))).same ((Go.Conc.aside_setCell qa4 ⟨bm,0,none⟩ (.bool m)).block bs uD.1);replace k2:=(k2.same (qa1.own _ (tL _ vM.gm))).set (.bool m);replace k3:=(k3.same (qa1.own _ (tL _ vM.gf))).same ((Go.Conc.aside_setCell qa4 ⟨bm,0,none⟩ (.bool m)).block bf (Ne.symm uD.2.2));replace hO:=(hO.rely rfl qa1).set (ad:=⟨bm,0,none⟩) (v:=.bool m) (by rw[hX];exact .inr (.inl rfl));replace wl:=xD (ad:=⟨bm,0,none⟩) (v:=.bool m) (jl wl (qa1.sy _ z8)) (il _ vM.gm);generalize qa4.setCell ⟨bm,0,none⟩ (.bool m)=w6 at ml k1 k2 k3 hO wl⊢;clear qa1;replace hF:KM 83 Mu ((cfg Mu Wg ty N (JW Mu Wg bs bm bf ro ss n) ro Anch).Zw k) uj w6 w6:=⟨dM.refl _,ml⟩;clear ml;walk_nrm;refine r9 (o:=?_) (x:=?_) (y:=?_) (ad:=⟨bf,0,none⟩) (n:=true) ?_ ?_ ?_ ?_ ?_ ?_ hnm (tL _ vM.gf) (hsy _ vM.gf) k3.cell k3.free ?_
  rotate_left 3
  iterate 2 rfl
  .k_ne
  iterate 3 rfl
  intro qa4 qa1;have ml:=xE (ad:=⟨bf,0,none⟩) (v:=.bool true) (dB hz hF qa1).2 (ZZ _ vM.gf);replace k1:=(k1.same (qa1.own _ (tL _ vM.gs))).same ((Go.Conc.aside_setCell qa4 ⟨bf,0,none⟩ (.bool true)).block bs uD.2.1);replace k2:=(k2.same (qa1.own _ (tL _ vM.gm))).same ((Go.Conc.aside_setCell qa4 ⟨bf,0,none⟩ (.bool true)).block bm uD.2.2);replace k3:=(k3.same (qa1.own _ (tL _ vM.gf))).set (.bool true);replace hO:=(hO.rely rfl qa1).set (ad:=⟨bf,0,none⟩) (v:=.bool true) (by rw[hX];exact .inr (.inr rfl));replace wl:=xD (ad:=⟨bf,0,none⟩) (v:=.bool true) (jl wl (qa1.sy _ z8)) (il _ vM.gf);generalize qa4.setCell ⟨bf,0,none⟩ (.bool true)=w7 at ml k1 k2 k3 hO wl⊢;clear qa1;replace hF:KM 83 Mu ((cfg Mu Wg ty N (JW Mu Wg bs bm bf ro ss n) ro Anch).Zw k) uj w7 w7:=⟨dM.refl _,ml⟩;clear ml;replace hw4:=hw4.D7 hO rS;replace he1:Env Mu Wg uj ro w7:=⟨he1.rs, λb hb=>⟨aK (he1.own b hb).1 hO.size,(he1.own b hb).2⟩, λb hb=>aK (he1.ro b hb) hO.size,aK he1.mu hO.size,aK he1.wg hO.size,aK he1.ja hO.size,wl⟩
  have ey:∀a,A=some a->¬X a.block:= λa ha h=>by
   rw[hX]at h;rcases h with h|h|h
   .exact(Tg a ha).1 h
   .exact(Tg a ha).2.1 h
   .exact(Tg a ha).2.2 h
  have hsU:Sl GU w7 A l:=⟨λa ha=>by
   obtain⟨q1,cur,e,fr,q2,q3⟩:=hs4.blk a ha;exact⟨by rw[oa];exact .inr ⟨a,ha,rfl⟩,cur,e,fr,(hO.blk _ (ey a ha) (.inl q1)).trans q2,q3⟩, λhn'=>by
   obtain⟨bb,off,e,q1,q2⟩:=hs4.rd hn';exact⟨bb,off,e,aK q1 hO.size, λi j hi hj=>(fJ (hO.blk _ (ey _ e) (.inl (hs4.blk _ e).1)) _).trans (q2 i j hi hj)⟩⟩
  have hfU:Fd bs bm bf A cap l m true GU w7:=⟨by rw[oa];exact .inl vM.gs,by rw[oa];exact .inl vM.gm,by rw[oa];exact .inl vM.gf,k1,k2,k3,hsU,Sx⟩;refine dG (n:=60) ?_
  walk_nrm
  repeat w_nl (dB hz)
  refine cz λqa2 qa0=>?_
  replace hF:=dB hz hF qa0;clear qa0;refine nK (o:=?_) (args:=?_) (ats:=?_) ?_ ?_ ?_ ?_ Tryz.func45 EM vL ?_
  rotate_left 3
  iterate 2 rfl
  .k_ne
  .rfl
  intro qa4 qa1;replace hF:=dB hz hF qa1;clear qa1;rw[enter_at _ Tryz.func45 vL]
  walk_nrmf Tryz.f45
  refine IV (Gu:=GU) hne hi Xm Y8 (λw' hF'=>Jy (λb hb=>by obtain⟨q1,q2,q3,q4⟩:=(he1.rel z8 hF'.1).own b (Y8 b hb);exact⟨⟨_,aW q1⟩,q2,q3,q4⟩) (hfU.keep λb hb=>hF'.1.own b (Y8 b hb)) hadd) (λw' hF'=>?_) hF
  rw[e0]
  have ae:WK cw cm cb bs bm bf bw ss n m (λb=>uj b∧¬GU b) ro w':=by have hx:=WK.rely (Z:=(cfg Mu Wg ty N (JW Mu Wg bs bm bf ro ss n) ro Anch).Zw k) (own:= λb=>uj b∧¬GU b) ⟨hw4.VG,hw4.Y3,hw4.Xk,⟨hw4.VH,Y7⟩,hw4.Td,hw4.VI,hw4.Y4,hw4.Xl⟩ rfl hF'.1;exact hx
  have hE:Env Mu Wg (λb=>uj b∧¬GU b) ro w':=by have hx:=he1.rel z8 hF'.1;exact⟨hx.rs, λb hb=>hx.own b hb.1,hx.ro,hx.mu,hx.wg,hx.ja,hx.wl⟩
  have hnx:= λw'' h=>hnext (λb=>uj b∧¬GU b) w' w'' o ae hE h
  replace hF:KM 83 Mu ((cfg Mu Wg ty N (JW Mu Wg bs bm bf ro ss n) ro Anch).Zw k) (λb=>uj b∧¬GU b) w' w':=⟨dM.refl _,hF'.2⟩;clear hnext hF' ae hE;refine dG (n:=60) ?_
  walk_nrm
  repeat w_nl (dB hz)
  u_c stepG_inLoop (dB hz) hF
  rw[show((s:Int)+1)=((s+1:Nat):Int)from by simp];exact cz λqa3 qa7=>hnx qa3 (dB hz hF qa7) _ _ _ _ _ _ _ _ _ _ _ _ _ _ _ _ _ _ _ _ _ _ _ _
end
end
section
attribute [local instance] noSh gX
def cnt(ss:List eX)(n:Nat)(m:Bool)(s:Nat):Nat:=((List.range s).filter λs=>gP ss (n+1) s m).length
def vN(ss:List eX)(n:Nat)(m:Bool)(s:Nat):((List.range (s+1)).filter λs=>gP ss (n+1) s m)=((List.range s).filter λs=>gP ss (n+1) s m)++if gP ss (n+1) s m then[s]else[]:=by
 rw[List.range_succ,List.filter_append];congr 1
 by_cases h:gP ss (n+1) s m=true<;>simp[h]
def GJ{ss:List eX}{n:Nat}{m:Bool}{s:Nat}(h:gP ss (n+1) s m=true):cnt ss n m (s+1)=cnt ss n m s+1:=by unfold cnt;rw[vN,h];simp
def Y9{ss:List eX}{n:Nat}{m:Bool}{s:Nat}(h:gP ss (n+1) s m=false):cnt ss n m (s+1)=cnt ss n m s:=by unfold cnt;rw[vN,h];simp
def DJ(ss:List eX)(n:Nat)(m:Bool)(s:Nat):∀d,∃r,((List.range (s+d)).filter λs=>gP ss (n+1) s m)=((List.range s).filter λs=>gP ss (n+1) s m)++r
 |0=>⟨[],by simp⟩
 |d+1=>by obtain⟨r,h⟩:=DJ ss n m s d;exact⟨_,by rw[<-Nat.add_assoc,vN,h,List.append_assoc]⟩
def JA{ss:List eX}{n:Nat}{m:Bool}{s:Nat}(h:s<=2^ n):(iI ss n m).take (cnt ss n m s)=(List.range s).filter λs=>gP ss (n+1) s m:=by obtain⟨r,hr⟩:=DJ ss n m s (2^ n-s);rw[show s+(2^ n-s)=2^ n from by omega]at hr;unfold iI cnt;rw[hr,List.take_left]
def Za{ss:List eX}{n:Nat}{m:Bool}{s:Nat}(h:s<=2^ n):cnt ss n m s<=(iI ss n m).length:=by obtain⟨r,hr⟩:=DJ ss n m s (2^ n-s);rw[show s+(2^ n-s)=2^ n from by omega]at hr;unfold iI cnt;rw[hr,List.length_append];omega
def Pz{ss:List eX}{n k s:Nat}(hk:k<2)(hs:s<2^ n)(h:gP ss (n+1) s (decide (k=1))=true)(o:Nat)(x:List Int×Bool):
 x∈(if k=0 then fU ss n (cnt ss n (decide (k=1)) s+1) o else fU ss n o (cnt ss n (decide (k=1)) s+1))↔x∈(if k=0 then fU ss n (cnt ss n (decide (k=1)) s) o else fU ss n o (cnt ss n (decide (k=1)) s))∨x=(Bi (kK s),decide (k=1)):=by
 have e1:=JA (ss:=ss) (m:=decide (k=1)) (Nat.le_of_lt hs);have e2:=JA (ss:=ss) (m:=decide (k=1)) (s:=s+1) hs;rw[GJ h,vN,h,aj rfl]at e2;obtain rfl|rfl:k=0∨k=1:=by omega
 .rw[aj rfl,aj rfl];unfold fU;simp only[Nat.zero_ne_one,decide_false]at e1 e2⊢;rw[e1,e2];simp only[List.map_append,aC,List.map_nil,List.mem_append,aR];exact or_right_comm
 .rw[aa (by decide),aa (by decide)];unfold fU;simp only[decide_true]at e1 e2⊢;rw[e1,e2];simp only[List.map_append,aC,List.map_nil,List.mem_append,aR];exact or_assoc.symm
section
variable {Mu Wg cw cm cb bs bm bf bw:Nat} {ty:TypeId} {N:Nat->Nat} {J:Nat->Nat->(Nat->Prop)->World->Prop} {ro:Nat->Prop} {Anch:(Nat->Prop)->Goroutine->World->Prop}
variable {i k:Nat}
def VO{ss:List eX}{n lim:Nat}{Px:List Deferred}(hne:Mu≠Wg)(hi:i≠0)(uD:bs≠bm∧bs≠bf∧bm≠bf)(hJ:J=JW Mu Wg bs bm bf ro ss n)(hk:k<2)(hN:∀k,k<2->N k=(iI ss n (decide (k=1))).length)(hl:lim=2^ n)(hn:n<=15)
 (hend:∀own W0 w n0,WK cw cm cb bs bm bf bw ss n (decide (k=1)) own ro W0->Env Mu Wg own ro W0->KM 83 Mu ((cfg Mu Wg ty N J ro Anch).Zw k) own W0 w->wJ Wg cw cm Mu cb bs bm bf lim lim Px λg=>Gw Tryz.prog false ((cfg Mu Wg ty N J ro Anch).Zw k) (At Tryz.prog (cfg Mu Wg ty N J ro Anch).sys i (qx N k (N k) n0)) own g w):
 ∀d s own W0 w n0,lim=s+d->WK cw cm cb bs bm bf bw ss n (decide (k=1)) own ro W0->Env Mu Wg own ro W0->KM 83 Mu ((cfg Mu Wg ty N J ro Anch).Zw k) own W0 w->
  wJ Wg cw cm Mu cb bs bm bf lim s Px λg=>Gw Tryz.prog false ((cfg Mu Wg ty N J ro Anch).Zw k) (At Tryz.prog (cfg Mu Wg ty N J ro Anch).sys i (qx N k (cnt ss n (decide (k=1)) s) n0)) own g w:=by
 intro d
 induction d with
 |zero=>
  intro s own W0 w n0 hs hw he hF;obtain rfl:s=lim:=by omega
  have:cnt ss n (decide (k=1)) s=N k:=by rw[hN k hk,hl];rfl
  rw[this];exact hend own W0 w n0 hw he hF
 |succ d ih=>
  intro s own W0 w n0 hs hw he hF;have hslt:s<lim:=by omega
  cases hp:gP ss (n+1) s (decide (k=1))with
  |false=>
   refine Y5 hw he hslt hl hn hF hp λdD W' hkp w' hF'=>?_
   have :=ih (s+1) dD W' w' n0 (by omega) ((hw.rely rfl hkp.rely).sub hkp.sub) (he.kept (show((cfg Mu Wg ty N J ro Anch).Zw k).sy Wg from .inl (.inr rfl)) hkp) hF';rw[Y9 hp]at this;exact this
  |true=>
   refine VN hne hi uD hJ ?_ (Pz hk (by omega) hp) hw he hslt hl hn hF hp λdD W' w' n' hw' he' hF'=>?_
   .rw[hN k hk];have h1:=Za (ss:=ss) (m:=decide (k=1)) (s:=s+1) (n:=n) (by omega);rw[GJ hp]at h1;omega
   .have :=ih (s+1) dD W' w' n' (by omega) hw' he' hF';rw[GJ hp]at this;exact this
end
end
section
attribute [local instance] noSh gX
def nm_done:(Tryz.f41.name== "runtime.NumGoroutine")=false:=by kernel_rfl
def VP:Tryz.f41.body=some (Tryz.f41.body.getD .skip):=by unfold Tryz.f41;rfl
def Zb(T:Array Value):QuitsD Tryz.prog 2 0 (G { (baseD 40).at ⟨T,[]⟩ []with mode:=.returning } [Jz]):=by
 refine QuitsD.ctl (g':=G Jz []) rfl (λw=>?_) ?_
 .simp[G,stepG,unwind,doReturn,results,Frame.at,baseD,Jz,Tryz.func40,Tryz.f40,seen,GStep.after,goexitEntry]
 refine QuitsD.ctl (g':={ G Jz []with status:=.finished }) rfl (λw=>?_) ⟨rfl,rfl⟩;simp[G,stepG,unwind,Jz,goexitEntry,Frame.catches];rfl
def aj5{P:Program}{Z:fO}{X:(Nat->Prop)->Goroutine->World->Prop}{own:Nat->Prop}{g:Goroutine}{W:World}{i:Nat}(e:(i==0)=false)(h:Gw P (i==0) Z X own g W):Gw P false Z X own g W:=by rw[e]at h;exact h
section
variable {Mu Wg cw cm cb bs bm bf bw:Nat} {N:Nat->Nat} {J:Nat->Nat->(Nat->Prop)->World->Prop} {ro:Nat->Prop} {Anch:(Nat->Prop)->Goroutine->World->Prop}
variable {i k:Nat}
def VQ{m:Bool}{ss:List eX}{n lim n0:Nat}{own:Nat->Prop}{W0 w:World}(hne:Mu≠Wg)(hi:i≠0)(hw:WK cw cm cb bs bm bf bw ss n m own ro W0)(he:Env Mu Wg own ro W0)(hF:KM 83 Mu ((cfg Mu Wg 90 N J ro Anch).Zw k) own W0 w):
 wJ Wg cw cm Mu cb bs bm bf lim lim [dcall 41 #[.pointer (some ⟨Wg,0,none⟩)]] λg=>Gw Tryz.prog false ((cfg Mu Wg 90 N J ro Anch).Zw k) (At Tryz.prog (cfg Mu Wg 90 N J ro Anch).sys i (qx N k (N k) n0)) own g w:=by
 intro j8 j9 j10 j11 j12 j13 M9 Na Nb Nc Nf RZ ba ia Ng Nh Ni Nj Nk Nl Nn Np Nq Nr;unfold DI;have hz:((cfg Mu Wg 90 N J ro Anch).Zw k).sy Mu:=.inl (.inl rfl);have z8:((cfg Mu Wg 90 N J ro Anch).Zw k).sy Wg:=.inl (.inr rfl);rw[show qx N k (N k) n0=.wg k .wr from aa (Nat.lt_irrefl _)];have e0:(i==0)=false:=by simpa using hi
 simp only[LW,AX,fH,Tryz.f40,ak];refine dG (n:=60) ?_
 repeat w_nl (dB hz)
 u_in (dB hz) hF
 rw[stepG_unwind_enter rfl Tryz.func41 nm_done VP];simp only[goes_go];refine⟨by u_nil,?_⟩
 walk_nrmf Tryz.f41
 refine cz λqa2 qa0=>?_
 replace hF:=dB hz hF qa0;exact aj5 e0 (ad8 (P:=Tryz.prog) (L:=Tryz.link) (C:=cfg Mu Wg 90 N J ro Anch) (k:=k) (own:=own) (W0:=W0) Tryz.mK rfl (FW hne) hi rfl (Zb _) (λ_ _ _ _ _ _=>trivial) qa2 ⟨hF.1,jl he.wl (hF.1.sy _ z8)⟩)
def DL(Wg cw cm Mu cb bs bm bf:Nat):Deferred:={ target:=.fn (.func 40) #[.pointer (some ⟨Wg,0,none⟩),.pointer (some ⟨cw,0,none⟩),.pointer (some ⟨cm,0,none⟩),.pointer (some ⟨Mu,0,none⟩),.pointer (some ⟨cb,0,none⟩),.pointer (some ⟨bs,0,none⟩),.pointer (some ⟨bm,0,none⟩),.pointer (some ⟨bf,0,none⟩)],args:= #[] }
def Ls(w:World):stepG Tryz.prog false (born Tryz.prog (DL Wg cw cm Mu cb bs bm bf)) w=
 .go (G ((baseD 40).at ⟨#[.pointer (some ⟨Wg,0,none⟩),.pointer (some ⟨cw,0,none⟩),.pointer (some ⟨cm,0,none⟩),.pointer (some ⟨Mu,0,none⟩),.pointer (some ⟨cb,0,none⟩),.pointer (some ⟨bs,0,none⟩),.pointer (some ⟨bm,0,none⟩),.pointer (some ⟨bf,0,none⟩),undef,undef,undef,undef,undef,undef,undef,undef,undef,undef,undef,undef,undef,undef,undef,undef,undef,undef,undef,undef,undef,undef,undef,undef,undef,undef],[]⟩ [.code AX]) [Jz]) w #[]:=by
 simp[born,DL,stepG,unwind,callDeferred,invoke,callFunc,Tryz.func40,Tryz.f40,seen,GStep.after,G,Frame.enter,Frame.at,baseD,Jz,AX]
def VT{ss:List eX}{n:Nat}{own:Nat->Prop}{w:World}(hne:Mu≠Wg)(hi:i≠0)(uD:bs≠bm∧bs≠bf∧bm≠bf)(hJ:J=JW Mu Wg bs bm bf ro ss n)(hk:k<2)(hN:∀k,k<2->N k=(iI ss n (decide (k=1))).length)(hn:n<=15)
 (hw:WK cw cm cb bs bm bf bw ss n (decide (k=1)) own ro w) (he:Env Mu Wg own ro w) (hm:wY 83 Mu w):
 Gw Tryz.prog false ((cfg Mu Wg 90 N J ro Anch).Zw k) (At Tryz.prog (cfg Mu Wg 90 N J ro Anch).sys i (qx N k 0 0)) own (born Tryz.prog (DL Wg cw cm Mu cb bs bm bf)) w:=by
 have hall:=VO (Mu:=Mu) (Wg:=Wg) (cw:=cw) (cm:=cm) (cb:=cb) (bs:=bs) (bm:=bm) (bf:=bf) (bw:=bw) (ty:=90) (N:=N) (J:=J) (ro:=ro) (Anch:=Anch) (i:=i) (k:=k) (ss:=ss) (n:=n) (lim:=2^ n) (Px:=[dcall 41 #[.pointer (some ⟨Wg,0,none⟩)]]) hne hi uD hJ hk hN rfl hn (λown W0 w n0 h1 h2 h3=>VQ hne hi h1 h2 h3) (2^ n) 0 own w;have hz:((cfg Mu Wg 90 N J ro Anch).Zw k).sy Mu:=.inl (.inl rfl);have z8:((cfg Mu Wg 90 N J ro Anch).Zw k).sy Wg:=.inl (.inr rfl);have hnm:¬((cfg Mu Wg 90 N J ro Anch).Zw k).mute:= λh=>h
 have hF:KM 83 Mu ((cfg Mu Wg 90 N J ro Anch).Zw k) own w w:=⟨dM.refl _,hm⟩;have JB:= λw' h=>hall w' 0 (by omega) hw he h
 have h0:cnt ss n (decide (k=1)) 0=0:=rfl;rw[h0]at JB;clear hall h0;have hsh:IntKind.u64.wrap ((2:Int)^ n)=((2^ n:Nat):Int):=vC n (by omega);have hlim:∃lim,lim=2^ n:=⟨_,rfl⟩;unfold wJ DI at JB;simp only[LW,AX,fH,Tryz.f40,ak]at JB;refine dG (n:=60) ?_
 u_in (dB hz) hF
 rw[Ls];simp only[goes_go];refine⟨by u_nil,?_⟩;simp only[AX,Tryz.f40,ak]
 repeat w_nl (dB hz)
 u_defer (dB hz) hF
 repeat w_nl (dB hz)
 refine cz λqa2 qa0=>?_
 replace hF:=dB hz hF qa0;clear qa0;have hw1:=hw.rely rfl hF.1;refine DF (o:=?_) (x:=?_) (ad:=⟨cw,0,none⟩) ?_ ?_ ?_ ?_ ?_ hnm (.inr hw1.VG) hw1.Td ?_
 rotate_left 2
 iterate 2 rfl
 .k_ne
 iterate 2 rfl
 intro qa4 qa1;replace hF:=dB hz hF qa1;clear qa1 hw1;refine dG (n:=60) ?_
 walk_nrm
 repeat w_nl (dB hz)
 refine cz λqa2 qa0=>?_
 replace hF:=dB hz hF qa0;clear qa0;have hw1:=hw.rely rfl hF.1;obtain⟨A,cap,e,fr,x1,x2,x3⟩:=hw1.Xl;refine Ta (o:=?_) (x:=?_) (ad:=⟨bw,1,none⟩) ?_ ?_ ?_ ?_ ?_ hnm (.inr hw1.Xk) x2.c1 ?_
 rotate_left 2
 iterate 2 rfl
 .k_ne
 iterate 2 rfl
 intro qa4 qa1;replace hF:=dB hz hF qa1;clear qa1 hw1 x1 x2 x3;refine dG (n:=60) ?_
 walk_nrm
 repeat w_but "code.loop" (dB hz)
 u_c stepG_loop (dB hz) hF
 first
  |exact cz λqa3 qa7=>JB qa3 (dB hz hF qa7) _ _ _ _ _ _ _ _ _ _ _ _ _ _ _ _ _ _ _ _ _ _ _ _
  |(rw[show((2:Int)^ n)=((2^ n:Nat):Int)from by simp];exact cz λqa3 qa7=>JB qa3 (dB hz hF qa7) _ _ _ _ _ _ _ _ _ _ _ _ _ _ _ _ _ _ _ _ _ _ _ _)
end
end
end Go.Proofs.Tryz
