/- Part 28. -/
import Derived.Test.YtjoahejacacljaaGreatH08
import Derived.Test.YtjoahejacacljaaGreatH25
set_option maxRecDepth 100000
set_option maxHeartbeats 0
set_option linter.all false
namespace Go.Proofs
open Go Go.RowKit Go.Maps
section
variable [Lo.St]
def any_false{α:Type}{f:α->Bool}{l:List α}(h:∀x∈l,f x=false):l.any f=false:=by rw[List.any_eq_false];exactλx hx=>by rw[h x hx];simp
structure CkS(dI:List (Int×Int))(cs:List (Int×Int×Int))(limit:Int):Prop where
 nl:dI.length<=6
 nc:1<=cs.length∧cs.length<=4
 lot:∀x∈dI,jU x=false
 cut:∀x∈cs,jv x=false
 lim:0<=limit∧limit<=1000000
def CkS.zero{dI:List (Int×Int)}{cs:List (Int×Int×Int)}{limit:Int}(h:CkS dI cs limit):fI dI cs limit=0:=by
 have b1:kH cs.length 1 4=true:=by unfold kH;have :=h.nc;simp;omega
 have b2:kH limit 0 1000000=true:=by unfold kH;have :=h.lim;simp;omega
 unfold fI;rw[aa (by have :=h.nl;omega),aa (by rw[b1];simp),aa (by rw[any_false h.lot];simp),aa (by rw[any_false h.cut];simp),aa (by rw[b2];simp)]
def SH{P:Program}{q:FuncId}{fn:Func}(h:P.funcs[q]?=some fn)(c:Code):(P.stub q c).funcs[q]?=some { fn with body:=some c }:=by
 show(P.funcs.modify q _)[q]?=_
 rw[bz,aj rfl,h];rfl
def Lo.at5:Lo.prog.funcs[5]?=some { Tryz.f5 with body:=some Lo.St.c5 }:=by rw[Lo.iB];exact cS.oJ _ _ _ (SH Tryz.func5 _) (by decide)
def Lo.call5(args:Array Value)(w:World):Sem.run Lo.prog (callFunc 5 args) w=.ok (.enter 5 args) w:=by
 have hn:(Tryz.f5.name== "runtime.NumGoroutine")=false:=by kernel_rfl
 unfold callFunc;simp only[program,Bind.bind,Sem.bind,Sem.run,Lo.at5,hn];rfl
def Gk[Lo.St]:Prop:=∀w:World,Calls Lo.prog 5 #[] w λe w'=>e=.returned (.bool true)∧w'=w
end
section
noncomputable def Tryz.lQ:Code:=Tryz.f19.body.getD .skip
noncomputable def Tryz.pd:Code:=(Tryz.fE 15 Tryz.lQ).getD .skip
variable [Lo.St]
end
section
attribute [local instance] cS.noSh
noncomputable def Tryz.uf:Code:=Tryz.f5.body.getD .skip
noncomputable def Tryz.W8:Code:=(Tryz.fE 8 Tryz.uf).getD .skip
noncomputable def Tryz.W9:Code:=(Tryz.fE 9 Tryz.uf).getD .skip
def VB(n g cap:Nat):gJ:={ Uj n with ac:=some ⟨g,0,none⟩,cc:=cap }
def lx(n:Nat)(a:Act)(w:World):Prop:=
 ∃(L:List Nat)(bo g q m2 o2 q2 m4 o4 q4 m6 o6 q6:Nat),(a.defers= []∧a.tmps.size=160∧(∀S cd,cS.VS (cS.FA S S cd λb=>decide (b∈L)) a.tmps))∧
  (∀b∈L,∃c e fr,w.heap[b]?=some (.cells c e fr)∧∀x∈c,cS.eF x=true∨∃p l cp,x=.slice p l cp∧∀q,p=some q->q.block∈L)∧
  (a.tmps[2]?=some (.slice (some ⟨m2,o2,none⟩) 5 q2)∧a.tmps[3]?=some (.int .i64 0)∧a.tmps[4]?=some (.slice (some ⟨m4,o4,none⟩) 4 q4)∧a.tmps[5]?=some (.int .i64 0)∧a.tmps[6]?=some (.slice (some ⟨m6,o6,none⟩) 2 q6)∧a.tmps[7]?=some (.int .i64 0)∧
    a.tmps[8]?=some (.pointer (some ⟨bo,0,none⟩))∧a.tmps[9]?=some (.int .i64 3)∧a.tmps[10]?=some (.int .i64 0))∧
  (bo∈L∧g∈L∧m2∈L∧m4∈L∧m6∈L∧(∀k,1<=k->k<=17->n+k∈L)∧∀b∈L,n<=b∨b=m2∨b=m4∨b=m6)∧
  w.heap[bo]?=some (.cells #[.slice (some ⟨n+1,0,none⟩) 2 2,.slice (some ⟨n+2,0,none⟩) 5 5,.slice (some ⟨n+13,0,none⟩) 4 4,.slice (some ⟨g,0,none⟩) 4 q] 40)∧4<=q∧
  (∀k,k<18->w.heap[n+k]?=(La n)[k]?)∧(∀j,j<12->w.cell? ⟨g,j,none⟩=some (.int .i64 (([0,105,110,2,90,90,4,14,16,1,14,20][j]?).getD 0)))∧
  jR w (some ⟨m2,o2,none⟩) 5 (p8 qV)∧jR w (some ⟨m4,o4,none⟩) 4 (yY qV)∧xJ w w.heap.size (some ⟨m6,o6,none⟩) (zT qV 1)
def rZ{X:World}{b off l c:Nat}{L:List Nat}(h:cS.dU X (.slice (some ⟨b,off,none⟩) l c)):∃c e fr,X.heap[b]?=some (.cells c e fr)∧∀x∈c,cS.eF x=true∨∃p l cp,x=.slice p l cp∧∀q,p=some q->q.block∈L:=by obtain⟨c,e,h1,h2⟩:=h b rfl;exact⟨c,e,_,h1, λx hx=>.inl (h2 x hx)⟩
def Ph{X:World}{n:Nat}{L:List Nat}(h:∀k,k<18->X.heap[n+k]?=(La n)[k]?)(hL:∀k,1<=k->k<=17->n+k∈L){k:Nat}(h1:1<=k)(h2:k<=17):
 ∃c e fr,X.heap[n+k]?=some (.cells c e fr)∧∀x∈c,cS.eF x=true∨∃p l cp,x=.slice p l cp∧∀q,p=some q->q.block∈L:=by
 rw[h k (by omega)];have pl:∀{c:Array Value},(c.all cS.eF)=true->∀x∈c,cS.eF x=true∨∃p l cp,x=.slice p l cp∧∀q,p=some q->q.block∈L:= λhc x hx=>.inl (Array.all_eq_true'.1 hc x hx)
 obtain rfl|rfl|rfl|rfl|rfl|rfl|rfl|rfl|rfl|rfl|rfl|rfl|rfl|rfl|rfl|rfl|rfl:k=1∨k=2∨k=3∨k=4∨k=5∨k=6∨k=7∨k=8∨k=9∨k=10∨k=11∨k=12∨k=13∨k=14∨k=15∨k=16∨k=17:=by omega
 all_goals refine⟨_,_,_,rfl,?_⟩
 all_goals first|(refine pl ?_;simp[cS.eF];done)|skip
 intro x hx;simp only[aB,bD,ax,or_false]at hx;rcases hx with rfl|rfl|rfl|rfl|rfl|rfl|rfl|rfl|rfl|rfl|rfl|rfl|rfl|rfl|rfl|rfl|rfl|rfl|rfl|rfl|rfl|rfl|rfl|rfl|rfl|rfl|rfl|rfl
 all_goals first|exact .inl rfl|(refine .inr ⟨_,_,_,rfl,?_⟩;intro q hq;cases hq;exact hL _ (by omega) (by omega))
variable [Lo.St]
def td(n:Nat):Value:=.agg #[.slice (some ⟨n+1,0,none⟩) 2 2,.slice (some ⟨n+2,0,none⟩) 5 5,.slice (some ⟨n+13,0,none⟩) 4 4,.slice (some ⟨n+17,0,none⟩) 3 3]
def Ul(n:Nat):Obj:=.cells #[.slice (some ⟨n+1,0,none⟩) 2 2,.slice (some ⟨n+2,0,none⟩) 5 5,.slice (some ⟨n+13,0,none⟩) 4 4,.slice (some ⟨n+17,0,none⟩) 3 3] 40
structure xB(n bb:Nat)(X:World):Prop where
 at_:∀k,k<18->X.heap[n+k]?=(La n)[k]?
 box:X.heap[bb]?=some (Ul n)
 lt:n+18<=X.heap.size
def xB.below{n bb:Nat}{X X':World}(h:xB n bb X)(hb:Below X.heap.size X X'):xB n bb X':=
 ⟨λk hk=>(hb.block _ (by have :=h.lt;omega)).trans (h.at_ k hk),(hb.block _ (aI.1 h.box).1).trans h.box,aS h.lt hb.size⟩
def xB.alloc{n bb:Nat}{X:World}(h:xB n bb X)(o:Obj):xB n bb (X.alloc o):=h.below ((di _ _).alloc (aJ _) o)
def zY{X:World}{b:Nat}{v0 v1 v2 v3:Value}{e:TypeId}(h:X.heap[b]?=some (.cells #[v0,v1,v2,v3] e)):X.cell? ⟨b,0,none⟩=some v0∧X.cell? ⟨b,1,none⟩=some v1∧X.cell? ⟨b,2,none⟩=some v2∧X.cell? ⟨b,3,none⟩=some v3:=by unfold World.cell?;simp only[h];exact⟨rfl,rfl,rfl,rfl⟩
def xB.cells{n bb:Nat}{X:World}(h:xB n bb X):X.cell? ⟨bb,0,none⟩=some (.slice (some ⟨n+1,0,none⟩) 2 2)∧X.cell? ⟨bb,1,none⟩=some (.slice (some ⟨n+2,0,none⟩) 5 5)∧X.cell? ⟨bb,2,none⟩=some (.slice (some ⟨n+13,0,none⟩) 4 4)∧X.cell? ⟨bb,3,none⟩=some (.slice (some ⟨n+17,0,none⟩) 3 3):=zY h.box
def M6{X:World}{A:Option Addr}{n:Nat}{o:List Int}(h:jR X A n o)(hn:0<n):∃b off,A=some ⟨b,off,none⟩:=by obtain⟨b,off,e,_⟩:=h hn;exact⟨b,off,e⟩
def Lo.Pj{n bb:Nat}{X:World}(h:xB n bb X):Calls Lo.prog 11 #[td n] X λe X'=>∃b off cap,e=.returned (.tuple #[.slice (some ⟨b,off,none⟩) 5 cap,.int .i64 0])∧jR X' (some ⟨b,off,none⟩) 5 (p8 qV)∧cS.dU X' (.slice (some ⟨b,off,none⟩) 5 cap)∧Below X.heap.size X X':=by
 refine(Lo.K8 (b:=qV) (v:=Uj n) rfl (Gx h.at_ h.lt) (aJ _) Dq).mono ?_
 rintro e X'⟨hb,h2⟩;rw[aa (by rw[Dm];simp),aj Dn]at h2;obtain⟨A,cap,rfl,hs,hp⟩:=h2;obtain⟨b,off,rfl⟩:=M6 hs (by decide);exact⟨b,off,cap,rfl,hs,hp,hb⟩
def Lo.Pk{n bb:Nat}{X:World}(h:xB n bb X):Calls Lo.prog 16 #[td n] X λe X'=>∃b off cap,e=.returned (.tuple #[.slice (some ⟨b,off,none⟩) 4 cap,.int .i64 0])∧jR X' (some ⟨b,off,none⟩) 4 (yY qV)∧cS.dU X' (.slice (some ⟨b,off,none⟩) 4 cap)∧Below X.heap.size X X':=by
 refine(Lo.K9 (b:=qV) (v:=Uj n) rfl (Gx h.at_ h.lt) (aJ _) Dq).mono ?_
 rintro e X'⟨hb,h2⟩;rw[aa (by rw[Dm];simp),aj Dn]at h2;obtain⟨A,cap,rfl,hs,hp⟩:=h2;obtain⟨b,off,rfl⟩:=M6 hs (by decide);exact⟨b,off,cap,rfl,hs,hp,hb⟩
def Lo.SI{n bb:Nat}{X:World}(h:xB n bb X):Calls Lo.prog 17 #[td n,.int .i64 1] X λe X'=>∃b off cap,e=.returned (.tuple #[.slice (some ⟨b,off,none⟩) 2 cap,.int .i64 0])∧xJ X' X'.heap.size (some ⟨b,off,none⟩) (zT qV 1)∧cS.dU X' (.slice (some ⟨b,off,none⟩) 2 cap)∧Below X.heap.size X X':=by
 refine(Lo.O0 (b:=qV) (v:=Uj n) rfl (Gx h.at_ h.lt) (aJ _) Dq 1 λ_ _=>R9).mono ?_
 rintro e X'⟨hb,h2⟩;rw[aa (by rw[Dm];simp),aa (by decide),aj Dn]at h2;obtain⟨A,cap,rfl,hs,hp⟩:=h2;obtain⟨b,off,rfl,_⟩:=hs (by rw[Jl];decide);exact⟨b,off,cap,rfl,hs,hp,hb⟩
def VC{n bb g cap:Nat}{X:World}(h:xB n bb X)(hg:g<X.heap.size)(hc:4<=cap)(hs:∀j,j<12->X.cell? ⟨g,j,none⟩=some (.int .i64 (([0,105,110,2,90,90,4,14,16,1,14,20][j]?).getD 0))):fC X X.heap.size lT (VB n g cap):=by
 have b:=Gx h.at_ h.lt;refine⟨b.dJ,b.dz,b.steps,b.ins,b.outs, λ_=>⟨g,0,rfl,hg, λi j hi hj=>?_⟩,b.lh,b.lp,b.ls,hc⟩;rw[show 0+(i*3+j)=i*3+j by omega,hs (i*3+j) (by have:lT.dA.length=4:=rfl;omega)];have hi:i<4:=hi;obtain rfl|rfl|rfl|rfl:i=0∨i=1∨i=2∨i=3:=by omega
 all_goals obtain rfl|rfl|rfl:j=0∨j=1∨j=2:=by omega
 all_goals rfl
def ap4(n g cap:Nat):Value:=.agg #[.slice (some ⟨n+1,0,none⟩) 2 2,.slice (some ⟨n+2,0,none⟩) 5 5,.slice (some ⟨n+13,0,none⟩) 4 4,.slice (some ⟨g,0,none⟩) 4 cap]
def Lo.SK{n g cap:Nat}{X:World}(h:fC X X.heap.size lT (VB n g cap)):Calls Lo.prog 18 #[ap4 n g cap] X λe X'=>e=.returned (.tuple #[.int .i64 3,.int .i64 0])∧Below X.heap.size X X':=by
 refine(Lo.O3 (b:=lT) (v:=VB n g cap) rfl h (aJ _) EW).mono ?_
 rintro e X'⟨hb,h2⟩;rw[aa (by rw[EU];simp),O4]at h2;exact⟨h2,hb⟩
def Pm{X:World}{base e size n cap g:Nat}{xs:List Value}(h:X.ownsRow base e size (.slice (some ⟨g,0,none⟩) n cap) n xs):n<=cap∧∀j u,xs[j]?=some u->X.cell? ⟨g,j,none⟩=some u:=by
 obtain⟨hl,h|⟨g',cap',cur,he,hb,hg,h1,h2,h3,h4⟩⟩:=h
 .cases h.1
 .cases he;refine⟨h1, λj u hu=>?_⟩;rw[<-h4,List.getElem?_take]at hu;unfold World.cell?;simp only[hg];split at hu
  .simpa using hu
  .cases hu
def Lo.Xi:Lo.prog.underlying 38=some (.slice 42):=(Lo.underlying 38).trans (by kernel_rfl)
def Lo.YS:(Lo.prog.info? 42).map (λi=>(i.zero,i.size,i.bytes))=some (some (.agg #[.int .i64 0,.int .i64 0,.int .i64 0]),3,24):=by rw[Lo.info];kernel_rfl
def Lo.ap5(w:World)(z:Code)(hz:z=Tryz.W8):cS.vQ Lo.prog (Conc.base 5) [] [cS.stk] z (lx w.heap.size) Tryz.uf ⟨Array.replicate 160 undef,[]⟩ w:=by
 obtain⟨U,U2,U3,U4,U5,U6⟩:=Lo.facts;have C:=Lo.call Tryz.func8;have C11:=Lo.call Tryz.func15;have C12:=Lo.call Tryz.func11;have C13:=Lo.call Tryz.func16;have C14:=Lo.call Tryz.func17;have C15:=Lo.call Tryz.func18;simp only[Tryz.uf,Tryz.f5,ak,Array.replicate_succ,Array.replicate_zero,List.push_toArray,List.append_toArray,List.nil_append,List.cons_append];refine cS.vQ.seq ?_
 go_wp2;refine cS.vQ.seq ?_
 have ox:=dw (show dY qV (Uj w.heap.size)=td w.heap.size from rfl)
 go_wp2_with(go_at_call 15;refine(Lo.Jj _).mono ?_;rintro e w1⟨rfl,hw1⟩;rw[ox.out];unfold td;have HW1:=dw hw1;clear hw1)
 have hX:xB w.heap.size w1.heap.size (w1.alloc (Ul w.heap.size)):=by
  have hs:w1.heap.size=w.heap.size+18:=by rw[HW1.out,qD];rfl
  refine⟨λk hk=>?_,cK _ _,by simp;omega⟩;rw[cZ _ _ _ (by omega),HW1.out];exact jT _ _ _ hk
 have hbe:Below w.heap.size w (w1.alloc (Ul w.heap.size)):=by rw[HW1.out];exact(mo _ _).alloc (by rw[qD];omega) _
 obtain⟨X,Hk⟩:∃X,w1.alloc (Ul w.heap.size)=X:=⟨_,rfl⟩;have YT:=Hk;unfold Ul at YT;rw[YT];rw[Hk]at hX hbe;have hbb:w1.heap.size<X.heap.size:=(aI.1 hX.box).1;have hbn:w.heap.size+18<=w1.heap.size:=by rw[HW1.out,qD];exact aJ _
 clear Hk YT HW1;obtain⟨n,hn⟩:∃n,w.heap.size=n:=⟨_,rfl⟩;obtain⟨bb,YU⟩:∃bb,w1.heap.size=bb:=⟨_,rfl⟩;rw[hn]at hX hbe ox;rw[YU]at hX hbb hbn;rw[hn]at hbn;rw[hn,YU];clear YU;have px:=dw (aM hX hbe);obtain⟨c0,c1,c2,c3⟩:=hX.cells;clear hX hbe;refine cS.vQ.seq ?_
 go_wp2_with(go_at_call 11;refine(Lo.Pj px.out.1).mono ?_;rintro e X2⟨m2,o2,q2,rfl,hs2,hp2,hb2⟩;have WV:=dw (aM hs2 (aM hp2 hb2));have hz2:=hb2.size;clear hs2 hp2 hb2)
 have hX2:=px.out.1.below WV.out.2.2;replace hbb:bb<X2.heap.size:=aK hbb hz2;obtain⟨d0,d1,d2,d3⟩:=hX2.cells;have HXB:=dw hX2;clear hX2 c0 c1 c2 c3 hz2;refine cS.vQ.seq ?_
 go_wp2_with(go_at_call 16;refine(Lo.Pk HXB.out).mono ?_;rintro e X3⟨m4,o4,q4,rfl,hs2,hp2,hb2⟩;have cW:=dw (aM hs2 (aM hp2 hb2));have hz2:=hb2.size;clear hs2 hp2 hb2)
 have Lk:=HXB.out.below cW.out.2.2;replace hbb:bb<X3.heap.size:=aK hbb hz2;obtain⟨c0,c1,c2,c3⟩:=Lk.cells;have rx:=dw Lk;clear Lk d0 d1 d2 d3 hz2;refine cS.vQ.seq ?_
 go_wp2_with(go_at_call 17;refine(Lo.SI rx.out).mono ?_;rintro e X4⟨m6,o6,q6,rfl,hs2,hp2,hb2⟩;have eW:=dw (aM hs2 (aM hp2 hb2));have hz2:=hb2.size;clear hs2 hp2 hb2)
 have Ok:=rx.out.below eW.out.2.2;replace hbb:bb<X4.heap.size:=aK hbb hz2;obtain⟨d0,d1,d2,d3⟩:=Ok.cells;have Xj:=dw Ok;clear Ok c0 c1 c2 c3 hz2;refine cS.vQ.seq ?_
 go_wp2;obtain⟨X5,vd⟩:∃X5,X4.alloc (Ul n)=X5:=⟨_,rfl⟩;have YV:=vd;unfold Ul at YV;rw[YV];have Hh:xB n bb X5:=by rw[<-vd];exact Xj.out.alloc _
 have Sy:X5.heap[X4.heap.size]?=some (Ul n):=by rw[<-vd];exact cK _ _
 have hb5:Below X4.heap.size X4 X5:=by rw[<-vd];exact(di _ _).alloc (aJ _) _
 clear vd YV;have YX:X4.heap.size<X5.heap.size:=(aI.1 Sy).1;replace hbb:bb<X5.heap.size:=Nat.lt_trans hbb YX
 have hne:bb≠X4.heap.size:= λe=>by have :=(aI.1 Xj.out.box).1;omega
 obtain⟨bo,SL⟩:∃bo,X4.heap.size=bo:=⟨_,rfl⟩;rw[SL]at Sy YX hne hb5;rw[SL];obtain⟨c0,c1,c2,c3⟩:=Hh.cells;have ap6:n+17<X5.heap.size:=by have :=Hh.lt;omega
 have fW:=dw (aM Hh (aM Sy hb5));clear d0 d1 d2 d3 Hh Sy hb5;obtain⟨i0,hi,hz0,hz1,hz2⟩:=info_parts Lo.YS
 have hown:(X5.alloc (.cells #[] 42)).ownsRow X5.heap.size 42 3 (.slice (some ⟨X5.heap.size,0,none⟩) 0 0) 0 []:=by
  refine⟨rfl,.inr ⟨X5.heap.size,0,#[],rfl,aJ _,?_,aJ _,?_,?_,?_⟩⟩
  .exact cK _ _
  all_goals simp
 have sx:cS.dU (X5.alloc (.cells #[] 42)) (.slice (some ⟨X5.heap.size,0,none⟩) 0 0):= λg hg=>by
  obtain rfl:X5.heap.size=g:=by simpa[Value.ownBlock]using hg
  exact⟨#[],42,cK _ _,by simp⟩
 have hnew:∀j u,([.int .i64 0,.int .i64 105,.int .i64 110,.int .i64 2,.int .i64 90,.int .i64 90,.int .i64 4,.int .i64 14,.int .i64 16]:List Value)[j]?=some u->(X5.alloc (.cells #[] 42)).cell? ((⟨n+17,0,none⟩:Addr).add j)=some u:=
  World.news_of_block (t:=42) (fr:=(0,0)) (cs:= #[.int .i64 0,.int .i64 105,.int .i64 110,.int .i64 2,.int .i64 90,.int .i64 90,.int .i64 4,.int .i64 14,.int .i64 16]) (by rw[cZ _ _ _ ap6];exact fW.out.1.at_ 17 (by omega))
 have HO:=dw (aM hown (aM sx hnew));clear hown sx hnew;refine cS.vQ.seq ?_
 go_wp2_with(first
  |(go_at_call 8;refine(Lo.Bw _ _ _).mono ?_;rintro e w1⟨rfl,rfl⟩)
  |(at_builtin;refine cS.qi rfl _ _ 38 rfl X5.heap.size 42 i0 (.agg #[.int .i64 0,.int .i64 0,.int .i64 0]) 3 24 Lo.Xi hi hz0 hz1 hz2 rfl (by decide) _ 0 [] rfl HO.out.1 ⟨n+17,0,none⟩ 3 3 _ rfl rfl HO.out.2.2 (by intro u hu;simp only[bD,ax,or_false]at hu;rcases hu with rfl|rfl|rfl|rfl|rfl|rfl|rfl|rfl|rfl<;>rfl) (by omega) (by unfold maxLen;omega) (by omega) (by simp) (X5.heap.size+1) (by simp) HO.out.2.1 (by intro u hu;simp only[bD,ax,or_false]at hu;rcases hu with rfl|rfl|rfl|rfl|rfl|rfl|rfl|rfl|rfl<;>rfl) (by intro u hu;simp[Value.cells]at hu;subst hu;rfl) ?_))
 intro g1 q1 X6 h1 h2 h3 h4 h5 h6;have hb6:Below X5.heap.size X5 X6:=((di _ _).alloc (aJ _) _).grown h2 (by simp) (λk hk=>by simp[Value.ownBlock]at hk;omega);have kw:=hb6.size;have hg1:X5.heap.size<=g1:=by rcases h3 with h3|h3<;>(try simp[Value.ownBlock]at h3)<;>omega
 have HG:=dw (aM h1 (aM h5 (aM hb6 (aM h2 h6))));clear h1 h2 h3 h5 hb6 h6;have hown:((X6.alloc (.cells #[.int .i64 14,.int .i64 20] 33)).alloc (.cells #[.int .i64 1,.int .i64 14,.int .i64 20] 42)).ownsRow X5.heap.size 42 3 (.slice (some ⟨g1,0,none⟩) 3 q1) 3 _:=(HG.out.1.alloc _).alloc _;have uQ:cS.dU ((X6.alloc (.cells #[.int .i64 14,.int .i64 20] 33)).alloc (.cells #[.int .i64 1,.int .i64 14,.int .i64 20] 42)) (.slice (some ⟨g1,0,none⟩) 3 q1):=(HG.out.2.1.alloc _).alloc _
 have hnew:∀j u,([.int .i64 1,.int .i64 14,.int .i64 20]:List Value)[j]?=some u->((X6.alloc (.cells #[.int .i64 14,.int .i64 20] 33)).alloc (.cells #[.int .i64 1,.int .i64 14,.int .i64 20] 42)).cell? ((⟨X6.heap.size+1,0,none⟩:Addr).add j)=some u:=
  World.news_of_block (t:=42) (fr:=(0,0)) (cs:= #[.int .i64 1,.int .i64 14,.int .i64 20]) (by have :=cK (X6.alloc (.cells #[.int .i64 14,.int .i64 20] 33)) (.cells #[.int .i64 1,.int .i64 14,.int .i64 20] 42);rwa [World.size_alloc]at this)
 have Wk:=dw (aM hown (aM uQ hnew));clear hown uQ hnew
 go_wp2_with(first
  |(go_at_call 8;refine(Lo.Bw _ _ _).mono ?_;rintro e w1⟨rfl,rfl⟩)
  |(at_builtin;refine cS.qi rfl _ _ 38 rfl X5.heap.size 42 i0 (.agg #[.int .i64 0,.int .i64 0,.int .i64 0]) 3 24 Lo.Xi hi hz0 hz1 hz2 rfl (by decide) _ 3 _ rfl Wk.out.1 ⟨X6.heap.size+1,0,none⟩ 1 1 _ rfl rfl Wk.out.2.2 (by intro u hu;simp only[bD,ax,or_false]at hu;rcases hu with rfl|rfl|rfl<;>rfl) (by omega) (by unfold maxLen;omega) (by omega) (by simp;omega) (X6.heap.size+2) (by simp) Wk.out.2.1 (by intro u hu;simp only[bD,ax,or_false]at hu;rcases hu with rfl|rfl|rfl<;>rfl) (by intro u hu;simp[Value.cells]at hu;subst hu;rfl) ?_))
 intro g2 q2' X8 h1 h2 h3 h4' h5 h6;have SN:Below X5.heap.size X5 X8:=HG.out.2.2.1.trans ((((di _ X6).alloc (aJ _) (.cells #[.int .i64 14,.int .i64 20] 33)).alloc (by simp) (.cells #[.int .i64 1,.int .i64 14,.int .i64 20] 42)).mono kw |>.grown h2 (by simp;omega) (λk hk=>by simp[Value.ownBlock]at hk;omega));have hz8:=SN.size;have hg2:X5.heap.size<=g2:=by rcases h3 with h3|h3<;>(try simp[Value.ownBlock]at h3)<;>omega
 obtain⟨hcap,SQ⟩:=Pm h1;have VD:=fW.out.1.below SN;have Pn:X8.heap[bo]?=some (Ul n):=(SN.block bo YX).trans fW.out.2.1
 obtain⟨_,_,_,e3⟩:=zY Pn;have f3:X8.frozen? ⟨bo,3,none⟩=false:=by unfold World.frozen?;simp only[Pn];rfl
 have H8:=dw (aM SN (aM hcap (aM SQ (aM VD (aM Pn (aM h5 (aM h6 h2)))))));clear SN hcap SQ VD Pn h1 h2 h3 h5 h6;go_wp2;obtain⟨X9,VE⟩:∃X9,X8.setCell ⟨bo,3,none⟩ (.slice (some ⟨g2,0,none⟩) 4 q2')=X9:=⟨_,rfl⟩;rw[VE];have D7:∀k:Nat,k≠bo->X9.heap[k]?=X8.heap[k]?:= λk hk=>by rw[<-VE];exact Below.heap_setCell X8 ⟨bo,3,none⟩ _ k hk
 have xd:X9.heap.size=X8.heap.size:=by rw[<-VE];simp[World.setCell]
 have Po:X9.heap[bo]?=some (.cells #[.slice (some ⟨n+1,0,none⟩) 2 2,.slice (some ⟨n+2,0,none⟩) 5 5,.slice (some ⟨n+13,0,none⟩) 4 4,.slice (some ⟨g2,0,none⟩) 4 q2'] 40):=by rw[<-VE,heap_setCell_same X8 bo 3 _ 40 _ H8.out.2.2.2.2.1];rfl
 have ap7:=fW.out.1.lt;have SS:xB n bb X9:=⟨λk hk=>(D7 _ (by have :=(aI.1 Xj.out.box).1;have :=Xj.out.lt;omega)).trans (H8.out.2.2.2.1.at_ k hk),(D7 _ hne).trans H8.out.2.2.2.1.box,by rw[xd];exact H8.out.2.2.2.1.lt⟩;have xj:∀j u,([.int .i64 0,.int .i64 105,.int .i64 110,.int .i64 2,.int .i64 90,.int .i64 90,.int .i64 4,.int .i64 14,.int .i64 16]++ [.int .i64 1,.int .i64 14,.int .i64 20]:List Value)[j]?=some u->X9.cell? ⟨g2,j,none⟩=some u:= λj u hu=>(dm (a:=⟨g2,j,none⟩) (D7 g2 (by omega))).trans (H8.out.2.2.1 j u hu)
 have hbk:fC X9 X9.heap.size lT (VB n g2 q2'):=VC SS (by rw[xd];exact h4') H8.out.2.1 (λj hj=>xj j _ (by
  obtain rfl|rfl|rfl|rfl|rfl|rfl|rfl|rfl|rfl|rfl|rfl|rfl:j=0∨j=1∨j=2∨j=3∨j=4∨j=5∨j=6∨j=7∨j=8∨j=9∨j=10∨j=11:=by omega
  all_goals rfl))
 obtain⟨d0,d1,d2,d3⟩:=zY Po;have H9:=dw (aM VE (aM xd (aM D7 (aM Po (aM SS hbk)))));clear VE xd D7 Po SS xj hbk e3 f3;refine cS.vQ.seq ?_
 go_wp2_with(go_at_call 18;refine(Lo.SK (n:=n) (g:=g2) (cap:=q2') H9.out.2.2.2.2.2).mono ?_;rintro e YY⟨rfl,Lp⟩;have H10:=dw Lp;clear Lp)
 simp only[Tryz.W8,Tryz.uf,Tryz.f5,Tryz.fE,Tryz.jF,ak,Nat.reduceEqDiff,if_true,if_false,reduceIte];refine cS.vQ.here ?_
 obtain⟨VE,xd,D7,Po,SS,_⟩:=H9.out;obtain⟨SN,hcap,SQ,VD,Pn,tx,hpg,hgr⟩:=H8.out;have Lp:=H10.out;have as7:X6.heap.size+1+1<=X8.heap.size:=by have h:=hgr.size;simpa using h
 have au8:=Lp.size;have ap7:=fW.out.1.lt;have Jv:∀b:Nat,b≠bo->b<X8.heap.size->YY.heap[b]?=X8.heap[b]?:= λb h1 h2=>(Lp.block b (by omega)).trans (D7 b h1)
 have Jw:∀b:Nat,b<bo->YY.heap[b]?=X4.heap[b]?:= λb h1=>(Jv b (by omega) (by omega)).trans ((SN.block b (by omega)).trans (fW.out.2.2.block b h1))
 have YZ:Below X2.heap.size X2 X4:=cW.out.2.2.trans (eW.out.2.2.mono cW.out.2.2.size)
 have L4:∀{b off l c:Nat},cS.dU X4 (.slice (some ⟨b,off,none⟩) l c)->cS.dU YY (.slice (some ⟨b,off,none⟩) l c)∧b<bo:= λ{b off l c}h=>by
  obtain⟨c',e,h1,_⟩:=h b rfl;have hb:b<bo:=by rw[<-SL];exact(aI.1 h1).1
  exact⟨h.keep λg hg=>by cases hg;exact Jw b hb,hb⟩
 have R4:∀{k b off m:Nat}{f:Nat->Nat->Value},Rd X4 X4.heap.size k (some ⟨b,off,none⟩) m f->Rd YY YY.heap.size k (some ⟨b,off,none⟩) m f:= λ{k b off m f}h hn=>by obtain⟨b',off',e,h1,h2⟩:=h hn;exact⟨b',off',e,by omega, λi j hi hj=>(dm (a:=⟨b',off'+(i*k+j),none⟩) (Jw b' (by omega))).trans (h2 i j hi hj)⟩
 have p2:=L4 (WV.out.2.1.keep λg hg=>YZ.block g (by obtain⟨c',e,h1,_⟩:=WV.out.2.1 g hg;exact(aI.1 h1).1))
 have p4:=L4 (cW.out.2.1.keep λg hg=>eW.out.2.2.block g (by obtain⟨c',e,h1,_⟩:=cW.out.2.1 g hg;exact(aI.1 h1).1))
 have p6:=L4 eW.out.2.1;have r2:=R4 (WV.out.1.below YZ);have r4:=R4 (cW.out.1.below eW.out.2.2);have r6:=R4 eW.out.1;have au9:n+18<=bo:=by rw[<-SL];exact Xj.out.lt
 have ea:∀k,k<18->YY.heap[n+k]?=(La n)[k]?:= λk hk=>(Jw _ (by omega)).trans (Xj.out.at_ k hk)
 have ap8:bb<bo:=by rw[<-SL];exact(aI.1 Xj.out.box).1
 have ux:YY.heap[bb]?=some (Ul n):=(Jw _ ap8).trans Xj.out.box
 have bl:=(Lp.block bo (by omega)).trans Po;obtain⟨L,hL⟩:∃L,L= [n+1,n+2,n+3,n+4,n+5,n+6,n+7,n+8,n+9,n+10,n+11,n+12,n+13,n+14,n+15,n+16,n+17,bb,bo,X5.heap.size,g1,X6.heap.size+1,g2,m2,m4,m6]:=⟨_,rfl⟩
 have hk:∀k,1<=k->k<=17->n+k∈L:= λk h1 h2=>by
  rw[hL];obtain rfl|rfl|rfl|rfl|rfl|rfl|rfl|rfl|rfl|rfl|rfl|rfl|rfl|rfl|rfl|rfl|rfl:k=1∨k=2∨k=3∨k=4∨k=5∨k=6∨k=7∨k=8∨k=9∨k=10∨k=11∨k=12∨k=13∨k=14∨k=15∨k=16∨k=17:=by omega
  all_goals simp
 have l1:=hk 1 (by omega) (by omega);have l2:=hk 2 (by omega) (by omega);have l13:=hk 13 (by omega) (by omega);have l17:=hk 17 (by omega) (by omega);have lbb:bb∈L:=by rw[hL];simp
 have Dd:bo∈L:=by rw[hL];simp
 have lx5:X5.heap.size∈L:=by rw[hL];simp
 have lg1:g1∈L:=by rw[hL];simp
 have lx6:X6.heap.size+1∈L:=by rw[hL];simp
 have vx:g2∈L:=by rw[hL];simp
 have Hd:m2∈L:=by rw[hL];simp
 have Kd:m4∈L:=by rw[hL];simp
 have Nd:m6∈L:=by rw[hL];simp
 have hcases:∀b∈L,(∃k,1<=k∧k<=17∧b=n+k)∨b=bb∨b=bo∨b=X5.heap.size∨b=g1∨b=X6.heap.size+1∨b=g2∨b=m2∨b=m4∨b=m6:= λb hb=>by
  rw[hL]at hb;simp only[bD,ax,or_false]at hb;rcases hb with h|h|h|h|h|h|h|h|h|h|h|h|h|h|h|h|h|h
  case inr.inr.inr.inr.inr.inr.inr.inr.inr.inr.inr.inr.inr.inr.inr.inr.inr=>exact .inr h
  all_goals exact .inl ⟨b-n,by omega,by omega,by omega⟩
 have Ho:=dw (aM hcases (aM hL (aM VE D7)));clear hL hcases VE D7;refine⟨L,bo,g2,q2',m2,o2,q2,m4,o4,q4,m6,o6,q6,⟨rfl,rfl, λS cd=>?_⟩, λb hb=>?_,⟨rfl,rfl,rfl,rfl,rfl,rfl,rfl,rfl,rfl⟩,⟨Dd,vx,Hd,Kd,Nd,hk, λb hb=>?_⟩,bl,hcap,ea, λj hj=>?_,r2,r4,r6⟩
 .clear p2 p4 p6 r2 r4 r6 L4 R4 ea ux bl hk Jw Jv YZ Lp SN SQ VD Pn tx hpg hgr Po SS c0 c1 c2 c3 d0 d1 d2 d3;simp[cS.VS,cS.lV,cS.q9,cS.um,cS.uk,cS.FA,l1,l2,l13,l17,lbb,Dd,lx5,lg1,lx6,vx,Hd,Kd,Nd]
 .rcases Ho.out.1 b hb with⟨k,h1,h2,rfl⟩|rfl|rfl|rfl|h|rfl|h|rfl|rfl|rfl
  .exact Ph ea hk h1 h2
  .refine⟨_,_,_,ux, λx hx=>?_⟩;simp only[aB,bD,ax,or_false]at hx;rcases hx with rfl|rfl|rfl|rfl
   all_goals(refine .inr ⟨_,_,_,rfl,?_⟩;intro q hq;cases hq;assumption)
  .refine⟨_,_,_,bl, λx hx=>?_⟩;simp only[aB,bD,ax,or_false]at hx;rcases hx with rfl|rfl|rfl|rfl
   all_goals(refine .inr ⟨_,_,_,rfl,?_⟩;intro q hq;cases hq;assumption)
  .by_cases he:X5.heap.size=g1
   .rw[he];exact rZ (hpg.keep λg hg=>by cases hg;exact Jv g1 (by omega) (by omega))
   .obtain⟨c,e,q1',ap9⟩:=HG.out.2.2.2.2 X5.heap.size rfl;refine⟨c,e,(0,0),(Jv _ (by omega) (by omega)).trans ((hgr.block _ (by simp;omega) (λh=>he (by simpa[Value.ownBlock]using h))).trans ?_), λx hx=>.inl (ap9 x hx)⟩;rw[cZ _ _ _ (by simp;omega),cZ _ _ _ (by omega)];exact q1'
  .rw[h];exact rZ (hpg.keep λg hg=>by cases hg;exact Jv g1 (by omega) (by omega))
  .have aq0:X6.heap.size+1≠g1:=by omega
   have aq1:=hgr.size;simp at aq1;refine⟨#[.int .i64 1,.int .i64 14,.int .i64 20],42,(0,0),(Jv _ (by omega) (by omega)).trans ((hgr.block _ (by simp) (λh=>aq0 (by simpa[Value.ownBlock]using h))).trans ?_), λx hx=>.inl ?_⟩
   .have :=cK (X6.alloc (.cells #[.int .i64 14,.int .i64 20] 33)) (.cells #[.int .i64 1,.int .i64 14,.int .i64 20] 42)
    rwa [World.size_alloc]at this
   .simp only[aB,bD,ax,or_false]at hx;rcases hx with rfl|rfl|rfl<;>rfl
  .rw[h];exact rZ (tx.keep λg hg=>by cases hg;exact Jv g2 (by omega) (by omega))
  .exact rZ p2.1
  .exact rZ p4.1
  .exact rZ p6.1
 .rcases Ho.out.1 b hb with⟨k,h1,h2,rfl⟩|rfl|rfl|rfl|rfl|rfl|rfl|rfl|rfl|rfl
  .exact .inl (by omega)
  .exact .inl (by omega)
  all_goals first|(exact .inl (by omega))|simp
 .refine(dm (a:=⟨g2,j,none⟩) (Jv g2 (by omega) (by omega))).trans (SQ j _ ?_);obtain rfl|rfl|rfl|rfl|rfl|rfl|rfl|rfl|rfl|rfl|rfl|rfl:j=0∨j=1∨j=2∨j=3∨j=4∨j=5∨j=6∨j=7∨j=8∨j=9∨j=10∨j=11:=by omega
  all_goals rfl
end
section
def Pp{who:List Nat}{hours:Int}{found:Bool}(h:qE [(10,10),(25,25)] [(10,0,100),(5,0,0)] 1 4 who hours found):who= [0,1]∧hours=5∧found=true:=by
 have Ax:vS 2 2 [0,1]:=⟨rfl,by decide⟩;have Bx:Bf [(10,10),(25,25)] [(10,0,100),(5,0,0)] 1 [0,1]:=by unfold Bf;decide
 cases found with
 |false=>exact absurd Bx ((h.no rfl).2.2 _ Ax (by decide))
 |true=>
  obtain⟨h1,h2,h3,h4,h5⟩:=h.yes rfl;have h6:=h5 _ Ax (by decide) Bx;obtain⟨hl,hm⟩:=h1
  match who,hl,hm,h3,h4,h6 with
  | [a,b],_,hm,h3,h4,h6=>
    have ha:a<2:=hm a (by simp);have hb:b<2:=hm b (by simp);obtain rfl|rfl:a=0∨a=1:=by omega
    all_goals obtain rfl|rfl:b=0∨b=1:=by omega
    .exact absurd h3 (by unfold Bf;decide)
    .exact⟨rfl,h4.trans (by decide),rfl⟩
    .exact absurd h3 (by unfold Bf;decide)
    .exfalso;rw[h4]at h6;revert h6;decide
variable [Lo.St]
def ze{X:World}{b:Nat}{c:Array Value}{e:TypeId}{fr:Nat×Nat}(h:X.heap[b]?=some (.cells c e fr))(o:Nat):X.cell? ⟨b,o,none⟩=c[o]?:=by unfold World.cell?;simp only[h];cases c[o]?<;>rfl
def Lo.SV{X:World}{b1 b2:Nat}(h1:X.heap[b1]?=some (.cells #[.int .i64 10,.int .i64 10,.int .i64 25,.int .i64 25] 33))(h2:X.heap[b2]?=some (.cells #[.int .i64 10,.int .i64 0,.int .i64 100,.int .i64 5,.int .i64 0,.int .i64 0] 60)):
 Calls Lo.prog 20 #[.slice (some ⟨b1,0,none⟩) 2 2,.slice (some ⟨b2,0,none⟩) 2 2,.int .i64 1] X λe X'=>∃A cap,e=.returned (.tuple #[.slice A 2 cap,.int .i64 5,.bool true,.int .i64 0])∧xJ X' X'.heap.size A [0,1]∧Below X.heap.size X X':=by
 have q1:YM X X.heap.size (some ⟨b1,0,none⟩) [(10,10),(25,25)]:= λ_=>⟨b1,0,rfl,(aI.1 h1).1, λi j hi hj=>by
  rw[ze h1];have hi:i<2:=hi;obtain rfl|rfl:i=0∨i=1:=by omega
  all_goals obtain rfl|rfl:j=0∨j=1:=by omega
  all_goals rfl⟩
 have q2:YN X X.heap.size (some ⟨b2,0,none⟩) [(10,0,100),(5,0,0)]:= λ_=>⟨b2,0,rfl,(aI.1 h2).1, λi j hi hj=>by
  rw[ze h2];have hi:i<2:=hi;obtain rfl|rfl:i=0∨i=1:=by omega
  all_goals obtain rfl|rfl|rfl:j=0∨j=1∨j=2:=by omega
  all_goals rfl⟩
 refine(Lo.O9 q1 q2 (by decide) (by decide) (aJ _) 1).mono ?_
 rintro e X'⟨hb,hx⟩;rw[aa (by decide)]at hx;obtain⟨A,cap,who,hours,found,rfl,iq,hw⟩:=hx;obtain⟨rfl,rfl,rfl⟩:=Pp iq;refine⟨A,cap,rfl, λ_=>?_,hb⟩;obtain⟨g,rfl,_,hg,hc⟩:=hw (by decide);refine⟨g,0,rfl,hg, λi j hi hj=>?_⟩;have hi:i<2:=hi;obtain rfl:j=0:=by omega
 obtain rfl|rfl:i=0∨i=1:=by omega
 .exact hc 0 (by decide)
 .exact hc 1 (by decide)
def Y2{X:World}{b B:Nat}{l:List Int}{fr:Nat×Nat}(h:X.heap[b]?=some (.cells (l.map λx=>Value.int .i64 x).toArray 3 fr))(hB:X.heap.size<=B):xJ X B (some ⟨b,0,none⟩) l:= λ_=>by
 refine⟨b,0,rfl,aK (aI.1 h).1 hB, λi j hi hj=>?_⟩;obtain rfl:j=0:=by omega
 rw[show 0+(i*1+0)=i from by omega,ze h];simp[hi]
def SX{X:World}{b B n:Nat}{l:List Int}{fr:Nat×Nat}(h:X.heap[b]?=some (.cells (l.map λx=>Value.int .i64 x).toArray 33 fr))(hl:l.length=2*n)(hB:X.heap.size<=B):YL X B (some ⟨b,0,none⟩) n l:= λ_=>by
 refine⟨b,0,rfl,aK (aI.1 h).1 hB, λi j hi hj=>?_⟩;rw[show 0+(i*2+j)=2*i+j from by omega,ze h];have:2*i+j<l.length:=by omega
 simp[this]
def oM:List Obj:=[.cells #[.int .i64 105,.int .i64 110] 33,.cells #[.int .i64 9,.int .i64 13] 33,.cells #[.int .i64 90,.int .i64 90] 33,.cells #[.int .i64 5,.int .i64 5] 33,.cells #[.int .i64 14,.int .i64 16] 33,.cells #[.int .i64 105,.int .i64 110,.int .i64 9,.int .i64 13,.int .i64 90,.int .i64 90,.int .i64 5,.int .i64 5,.int .i64 14,.int .i64 16] 33]
def oL:List Obj:=[.cells #[.int .i64 2,.int .i64 10] 33,.cells #[.int .i64 0,.int .i64 2] 33,.cells #[.int .i64 0,.int .i64 0,.int .i64 2,.int .i64 10,.int .i64 0,.int .i64 0,.int .i64 0,.int .i64 2] 33]
def ug{X X':World}{k n:Nat}{A:Option Addr}{f:Nat->Nat->Value}(h:Rd X X.heap.size k A n f)(hb:Below X.heap.size X X'):Rd X' X'.heap.size k A n f:= λhn=>by obtain⟨b,off,e,h1,h2⟩:=h hn;exact⟨b,off,e,aK h1 hb.size, λi j hi hj=>(dH hb _ _ h1).trans (h2 i j hi hj)⟩
def Lo.aq2{X:World}{m2 o2 q2:Nat}(r:YL X X.heap.size (some ⟨m2,o2,none⟩) 5 (p8 qV)):Calls Lo.prog 21 #[.slice (some ⟨m2,o2,none⟩) 5 q2,.slice (some ⟨X.heap.size+5,0,none⟩) 5 5] (nZ oM X) λe X'=>e=.returned (.bool true)∧Below X.heap.size X X':=by
 have hb:=mo oM X;refine(Lo.wH (l1:=p8 qV) (l2:=[105,110,9,13,90,90,5,5,14,16]) (ug r hb) (SX (l:=[105,110,9,13,90,90,5,5,14,16]) (jT oM X 5 (by decide)) rfl (aJ _)) (by decide) (aJ _)).mono ?_
 rintro e X'⟨rfl,hb2⟩;refine⟨?_,hb.trans (hb2.mono hb.size)⟩;rw[R8];rfl
def Lo.aq3{X:World}{m2 o2 q2:Nat}(r:YL X X.heap.size (some ⟨m2,o2,none⟩) 4 (yY qV)):Calls Lo.prog 21 #[.slice (some ⟨m2,o2,none⟩) 4 q2,.slice (some ⟨X.heap.size+2,0,none⟩) 4 4] (nZ oL X) λe X'=>e=.returned (.bool true)∧Below X.heap.size X X':=by
 have hb:=mo oL X;refine(Lo.wH (l1:=yY qV) (l2:=[0,0,2,10,0,0,0,2]) (ug r hb) (SX (l:=[0,0,2,10,0,0,0,2]) (jT oL X 2 (by decide)) rfl (aJ _)) (by decide) (aJ _)).mono ?_
 rintro e X'⟨rfl,hb2⟩;refine⟨?_,hb.trans (hb2.mono hb.size)⟩;rw[Vp];rfl
def Lo.Hx{X:World}{A:Option Addr}{c:Nat}(x y:Int)(r:xJ X X.heap.size A [x,y]):Calls Lo.prog 22 #[.slice A 2 c,.slice (some ⟨X.heap.size,0,none⟩) 2 2] (X.alloc (.cells #[.int .i64 x,.int .i64 y] 3)) λe X'=>e=.returned (.bool true)∧Below X.heap.size X X':=by
 have hb:=(di X.heap.size X).alloc (aJ _) (.cells #[.int .i64 x,.int .i64 y] 3);refine(Lo.Sa (l1:=[x,y]) (l2:=[x,y]) (ug r hb) (Y2 (l:=[x,y]) (cK _ _) (aJ _)) (by simp) (by simp) (aJ _)).mono ?_
 rintro e X'⟨rfl,hb2⟩;exact⟨by simp,hb.trans (hb2.mono hb.size)⟩
def Lo.ai6{X:World}{m2 o2 q2:Nat}(r:YL X X.heap.size (some ⟨m2,o2,none⟩) 5 (p8 qV)):Calls Lo.prog 21 #[.slice (some ⟨m2,o2,none⟩) 5 q2,.slice (some ⟨X.heap.size+1+1+1+1+1,0,none⟩) 5 5] ((((((X.alloc (.cells #[.int .i64 105,.int .i64 110] 33)).alloc (.cells #[.int .i64 9,.int .i64 13] 33)).alloc (.cells #[.int .i64 90,.int .i64 90] 33)).alloc (.cells #[.int .i64 5,.int .i64 5] 33)).alloc (.cells #[.int .i64 14,.int .i64 16] 33)).alloc (.cells #[.int .i64 105,.int .i64 110,.int .i64 9,.int .i64 13,.int .i64 90,.int .i64 90,.int .i64 5,.int .i64 5,.int .i64 14,.int .i64 16] 33)) λe X'=>e=.returned (.bool true)∧Below X.heap.size X X':=Lo.aq2 r
def Lo.ai7{X:World}{m2 o2 q2:Nat}(r:YL X X.heap.size (some ⟨m2,o2,none⟩) 4 (yY qV)):Calls Lo.prog 21 #[.slice (some ⟨m2,o2,none⟩) 4 q2,.slice (some ⟨X.heap.size+1+1,0,none⟩) 4 4] (((X.alloc (.cells #[.int .i64 2,.int .i64 10] 33)).alloc (.cells #[.int .i64 0,.int .i64 2] 33)).alloc (.cells #[.int .i64 0,.int .i64 0,.int .i64 2,.int .i64 10,.int .i64 0,.int .i64 0,.int .i64 0,.int .i64 2] 33)) λe X'=>e=.returned (.bool true)∧Below X.heap.size X X':=Lo.aq3 r
def Lo.ai8{w:World}{m2 o2 q2 m4 o4 q4 m6 o6 q6 qp:Nat}{Ap:Option Addr}(r2:jR w (some ⟨m2,o2,none⟩) 5 (p8 qV))(r4:jR w (some ⟨m4,o4,none⟩) 4 (yY qV))(r6:xJ w w.heap.size (some ⟨m6,o6,none⟩) (zT qV 1))(rp:xJ w w.heap.size Ap [2,3])(t0 t1 t8 tW t16 t17 AW BW t20 t21 t22 t23 t24 t25 t26 t27 t28 t29 t30 t31 t32 t33 t34 t35 t36 t37 t38 t39 t40 t41 t42 t43 t44 t45 t46 t47 t48 t49 t50 t51 t52 t53 t54 t55 t56 t57 t58 t59 t60 t61 t62 t63 t64 t65 t66 t67 t68 t69 t70 t71 t72 t73 t74 t75 t76 t77 t78 t79 t80 GW t82 t83 t84 t85 t86 t87 fX t89 oX t91 NX t93 TX cY fY oY bZ pZ PA VA lB nB oB t105 pB t107 rB t109 sB tB DB KB PB cC t116 t117 dC t119 eC gC mC pC t124 AC CC t127 GC PC t130 t131 cD pD tD AD CD DD t138 t139 ID t141 MD t143 SD t145 t146 WD t148 cE dE eE t152 kE t154 tE t156 t157 zE t159:Value):
 Tryz.W9.wp Lo.prog (bodyPost Lo.prog Tryz.f5 λe w'=>∃v,e=.returned v∧v=.bool true) ⟨#[t0,t1,.slice (some ⟨m2,o2,none⟩) 5 q2,.int .i64 0,.slice (some ⟨m4,o4,none⟩) 4 q4,.int .i64 0,.slice (some ⟨m6,o6,none⟩) 2 q6,.int .i64 0,t8,.int .i64 3,.int .i64 0,.slice Ap 2 qp,.bool true,.bool true,.int .i64 0,tW,t16,t17,AW,BW,t20,t21,t22,t23,t24,t25,t26,t27,t28,t29,t30,t31,t32,t33,t34,t35,t36,t37,t38,t39,t40,t41,t42,t43,t44,t45,t46,t47,t48,t49,t50,t51,t52,t53,t54,t55,t56,t57,t58,t59,t60,t61,t62,t63,t64,t65,t66,t67,t68,t69,t70,t71,t72,t73,t74,t75,t76,t77,t78,t79,t80,GW,t82,t83,t84,t85,t86,t87,fX,t89,oX,t91,NX,t93,TX,cY,fY,oY,bZ,pZ,PA,VA,lB,nB,oB,t105,pB,t107,rB,t109,sB,tB,DB,KB,PB,cC,t116,t117,dC,t119,eC,gC,mC,pC,t124,AC,CC,t127,GC,PC,t130,t131,cD,pD,tD,AD,CD,DD,t138,t139,ID,t141,MD,t143,SD,t145,t146,WD,t148,cE,dE,eE,t152,kE,t154,tE,t156,t157,zE,t159],[]⟩ w:=by
 obtain⟨U,U2,U3,U4,U5,U6⟩:=Lo.facts;have C:=Lo.call Tryz.func8;have C6:=Lo.call Tryz.func20;have C8:=Lo.call Tryz.func22;have C17:=Lo.call Tryz.func21;have HR:=dw (aM r2 (aM r4 (aM r6 rp)));clear r2 r4 r6 rp
 have hj:∀X:World,Below w.heap.size w X->X.cell? ⟨m6,o6,none⟩=some (.int .i64 1)∧X.cell? ⟨m6,o6+1,none⟩=some (.int .i64 0):= λX hb=>by have h:=HR.out.2.2.1;rw[Jl]at h;obtain⟨b,off,e,h1,h2⟩:=h (by decide);cases e;exact⟨(dH hb _ _ h1).trans (h2 0 0 (by decide) (by omega)),(dH hb _ _ h1).trans (h2 1 0 (by decide) (by omega))⟩
 have HJ:=dw hj;have Ix:=dw trivial;have Jx:=dw trivial;have Nx:=dw trivial;clear hj;simp only[Tryz.W9,Tryz.uf,Tryz.f5,Tryz.fE,Tryz.jF,ak,Nat.reduceEqDiff,if_true,if_false,reduceIte]
 go_wp2_with(first
  |(go_at_call 8;refine(Lo.Bw _ _ _).mono ?_;rintro e w1⟨rfl,rfl⟩)
  |(go_at_call 20;refine(Lo.SV (b1:=w.heap.size+2) (b2:=w.heap.size+4) (jT [.cells #[.int .i64 10,.int .i64 10] 33,.cells #[.int .i64 25,.int .i64 25] 33,.cells #[.int .i64 10,.int .i64 10,.int .i64 25,.int .i64 25] 33,.cells #[.int .i64 0,.int .i64 100] 33,.cells #[.int .i64 10,.int .i64 0,.int .i64 100,.int .i64 5,.int .i64 0,.int .i64 0] 60] w 2 (by simp)) (jT [.cells #[.int .i64 10,.int .i64 10] 33,.cells #[.int .i64 25,.int .i64 25] 33,.cells #[.int .i64 10,.int .i64 10,.int .i64 25,.int .i64 25] 33,.cells #[.int .i64 0,.int .i64 100] 33,.cells #[.int .i64 10,.int .i64 0,.int .i64 100,.int .i64 5,.int .i64 0,.int .i64 0] 60] w 4 (by simp))).mono ?_;rintro e w5⟨Aw,qw,rfl,hrw,hb5⟩;have hbw:=(mo [.cells #[.int .i64 10,.int .i64 10] 33,.cells #[.int .i64 25,.int .i64 25] 33,.cells #[.int .i64 10,.int .i64 10,.int .i64 25,.int .i64 25] 33,.cells #[.int .i64 0,.int .i64 100] 33,.cells #[.int .i64 10,.int .i64 0,.int .i64 100,.int .i64 5,.int .i64 0,.int .i64 0] 60] w).trans (hb5.mono (mo [.cells #[.int .i64 10,.int .i64 10] 33,.cells #[.int .i64 25,.int .i64 25] 33,.cells #[.int .i64 10,.int .i64 10,.int .i64 25,.int .i64 25] 33,.cells #[.int .i64 0,.int .i64 100] 33,.cells #[.int .i64 10,.int .i64 0,.int .i64 100,.int .i64 5,.int .i64 0,.int .i64 0] 60] w).size);obtain⟨k0,k1⟩:=HJ.out w5 hbw;have HS:=dw (aM hrw hbw);clear hrw hb5 hbw)
  |(have t1:=Ix;clear Ix t1;go_at_call 21;refine(Lo.ai6 (ug HR.out.1 HS.out.2)).mono ?_;rintro e w6⟨rfl,hb6⟩;have H6:=dw hb6;clear hb6)
  |(have t1:=H6;clear t1;have t2:=Jx;clear Jx t2;go_at_call 21;refine(Lo.ai7 (ug (ug HR.out.2.1 HS.out.2) H6.out)).mono ?_;rintro e w7⟨rfl,Uk⟩;have H7:=dw Uk;clear Uk)
  |(have t1:=H7;clear t1;have t2:=Nx;clear Nx t2;go_at_call 22;refine(Lo.Hx 2 3 (ug (ug (ug HR.out.2.2.2 HS.out.2) H6.out) H7.out)).mono ?_;rintro e w8⟨rfl,SN⟩;have H8:=dw SN;clear SN)
  |(have t1:=H8;clear t1;go_at_call 22;refine(Lo.Hx 0 1 (ug (ug (ug HS.out.1 H6.out) H7.out) H8.out)).mono ?_;rintro e w9⟨rfl,hb9⟩))
 go_ret;exact⟨_,rfl,rfl⟩
end
end Go.Proofs
