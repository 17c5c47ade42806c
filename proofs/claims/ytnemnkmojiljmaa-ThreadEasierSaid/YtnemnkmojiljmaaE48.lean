/- ThreadEasier answers true, whatever comes in, on every schedule; its arguments read behind the call as they did: no condition of its own beside the row. Printed by program from longer texts: names are short. -/
import Derived.Test.YtnemnkmojiljmaaRows
import Derived.Test.YtnemnkmojiljmaaE46
import Derived.Test.YtnemnkmojiljmaaE47
set_option maxRecDepth 100000
set_option maxHeartbeats 8000000
set_option linter.all false
section
namespace Go.Proofs
open Go Go.RowKit
section
variable [Lo.St]
theorem Lo.Nr {w:World} {B:Nat} {lots:List (Int×Int)} {cs:List (Int×Int×Int)} {A1 A2:Option Addr} {c1 c2:Nat} (h5:Ia) (h1:K8 w B A1 lots) (h2:IJ w B A2 cs) (hB:B<=w.heap.size) (hcap:lots.length<=c1) (limit p a b b16 lot:Int) (yJ:0<=b16∧b16<65536) (AA:0<=lot∧lot<256):
 Calls Lo.prog 4 #[.slice A1 lots.length c1,.slice A2 cs.length c2,.int .i64 limit,.agg #[.int .i64 p,.int .i64 a,.int .i64 b],.int .u16 b16,.int .u8 lot] w λe _=>e= .returned (.bool true):=by
 by_cases hno:40<lots.length∨40<cs.length∨cK lots cs limit≠0
 ·exact Lo.QM h5 h1 h2 hB limit p a b b16 lot hno
 ·exact Lo.Nl h5 h1 h2 hB hcap limit p a b b16 lot yJ AA (Classical.not_not.1 λh=>hno (.inr (.inr h)))
end
namespace Try
open Go.ChangeShapes Go.WideShapes Go.ChangeAt Go.Conc Go.ConcM Par
theorem K6 {w:World} {B:Nat} {lots:List (Int×Int)} {cs:List (Int×Int×Int)} {A1 A2:Option Addr} {c1 c2:Nat} (h1:K8 w B A1 lots) (h2:IJ w B A2 cs) (hB:B<=w.heap.size) (hcap:lots.length<=c1) (limit p a b b16 lot:Int) (yJ:0<=b16∧b16<65536) (AA:0<=lot∧lot<256):
 Calls lC 4 #[.slice A1 lots.length c1,.slice A2 cs.length c2,.int .i64 limit,.agg #[.int .i64 p,.int .i64 a,.int .i64 b],.int .u16 b16,.int .u8 lot] w λe _=>e= .returned (.bool true):=by
 rw [<-UY];exact @Lo.Nr OI w B lots cs A1 A2 c1 c2 an3 h1 h2 hB hcap limit p a b b16 lot yJ AA
theorem laid:laidOutB Try.prog=true:=by kernel_rfl
theorem knob:ownKnob Try.prog.godebug=none:=by kernel_rfl
theorem Xk:Try.prog.info? Try.prog.types.size=none:=by kernel_rfl
theorem Ns:Try.prog.types.all (λi=>match i.desc with | .named n _=>n != "sync.copyChecker" |_=>true)=true:=by kernel_rfl
theorem QO (t:TypeId) (i:TypeInfo) (h:Try.prog.info? t=some i) (u:TypeId):i.desc≠ .named "sync.copyChecker" u:=Jf Ns t i h u
theorem an6:sameLayout Try.prog Try.prog.depth 0 32=false:=by kernel_rfl
theorem an7:sameLayout Try.prog Try.prog.depth 0 34=false:=by kernel_rfl
theorem ac7 {P:Program} (fits:TypeId->Bool) (hf:fits 0=false) (h0:P.underlying 0=some (.tuple #[])) (d count off n:Nat):rowAt P fits d 0 count off n=false:=by
 cases d with
 |zero=>rfl
 |succ d=>simp [rowAt,hf,h0]
theorem ac8 {P:Program} {u:TypeId} {fs:Array Field} (h0:P.underlying 0=some (.tuple #[])) (hu:P.underlying u=some (.struct fs)) (hl:sameLayout P P.depth 0 u=false) (d count off n:Nat):liesAt P d 0 count off u n=false:=by
 cases d with
 |zero=>rfl
 |succ d=>
  have h1:rowAt P (λx=>sameLayout P P.depth x u) P.depth 0 count off n=false:=ac7 _ hl h0 _ _ _ _;simp only [liesAt,hu,h1,Bool.or_false]
theorem at7:Try.prog.underlying 0=some (.tuple #[]):=by kernel_rfl
theorem an8 {u:TypeId} {fs:Array Field} (hu:Try.prog.underlying u=some (.struct fs)) (hl:sameLayout Try.prog Try.prog.depth 0 u=false) (d count off n:Nat):liesAt Try.prog d 0 count off u n=false:=ac8 at7 hu hl d count off n
theorem ac9:((begin Try.prog (λ_ _=>0) default).world.heap[0]?).map (λo=>match o with | .cells _ t _=>t==0|_=>false)=some true:=by kernel_rfl
theorem Xl {P:Program} (hg:P.globals.size=0) (s0:((begin P (λ_ _=>0) default).world.heap[0]?).map (λo=>match o with | .cells _ t _=>t==0|_=>false)=some true) {W:World} (h:W.ShapedOpen P):∃c fr,W.heap[0]?=some (.cells c 0 fr):=by
 have hlt:0<(begin P (λ_ _=>0) default).world.heap.size:=by
  cases hx:(begin P (λ_ _=>0) default).world.heap[0]? with
  |none=>rw [hx] at s0;cases s0
  |some o=>exact (aa.1 hx).1
 obtain ⟨o,o0,h1,h2,h3⟩:=h.2 0 (by rw [hg];exact aj _) hlt;rw [if_neg (by rw [hg];decide)] at h3;subst h3;rw [h2] at s0;cases o with
 |cells c t fr=>
  have h5:=aD s0;obtain rfl:t=0:=by simpa using h5
  exact ⟨c,fr,h1⟩
 |_=>cases s0
theorem U7 {W:World} (h:W.ShapedOpen Try.prog):∃c fr,W.heap[0]?=some (.cells c 0 fr):=Xl OJ ac9 h
theorem OO {W:World} (h:W.ShapedOpen Try.prog) {u:TypeId} {fs:Array Field} (hu:Try.prog.underlying u=some (.struct fs)) (hl:sameLayout Try.prog Try.prog.depth 0 u=false) {b0:Nat} {a:Addr} {n:Nat} (hh:W.has Try.prog .any b0 a u n):1<=a.block∧a.block<W.heap.size∧∃C e fr,W.heap[a.block]?=some (.cells C e fr):=by
 obtain ⟨_,_,row,cells,hs,hla⟩:=hh
 have hc:∃C e fr,W.heap[a.block]?=some (.cells C e fr)∧row=e:=by
  unfold World.shape? at hs;cases hx:W.heap[a.block]? with
  |none=>rw [hx] at hs;cases hs
  |some o=>
   rw [hx] at hs;cases o with
   |cells C e fr=>exact ⟨C,e,fr,rfl,by cases hs;rfl⟩
   |_=>cases hs
 obtain ⟨C,e,fr,hx,rfl⟩:=hc;refine ⟨?_,(aa.1 hx).1,C,row,fr,hx⟩;rcases Nat.eq_zero_or_pos a.block with h0|h0
 ·obtain ⟨c,fr',h0'⟩:=U7 h;rw [h0,h0'] at hx;cases hx;rw [an8 hu hl] at hla;cases hla
 ·exact h0
end Try
end Go.Proofs
end
section
namespace Go.Proofs.Try
open Go Go.RowKit Go.ChangeShapes Go.WideShapes Go.ChangeAt Go.Conc Go.ConcM Par
open Go.Proofs.Ytnemnkmojiljmaa
theorem cells3:Try.prog.cellsOf 3=1:=by kernel_rfl
theorem DD:Try.prog.cellsOf 32=2:=by kernel_rfl
theorem OP:Try.prog.cellsOf 34=3:=by kernel_rfl
theorem ad1:wU Try.prog 3 (Try.prog.cellsOf 3):=by rw [cells3];exact Np Try.underlying3
theorem Yi:wU Try.prog 32 2:=ze Try.underlying32 (λi f hi=>by
 match i,hi with
 |0,hi=>cases hi;exact ad1
 |1,hi=>cases hi;exact ad1
 |i+2,hi=>simp at hi) (λj hj=>by
 rcases j with _|_|j
 ·refine ⟨0,{ name:= "Low",type:=3,offset:=0,embedded:=false,tag:= "",pkgPath:= "",byteOffset:=0 },rfl,?_,?_⟩<;>dsimp only <;>(try rw [cells3])<;>omega
 ·refine ⟨1,{ name:= "High",type:=3,offset:=1,embedded:=false,tag:= "",pkgPath:= "",byteOffset:=8 },rfl,?_,?_⟩<;>dsimp only <;>(try rw [cells3])<;>omega
 ·omega)
theorem Yj:wU Try.prog 34 3:=ze Try.underlying34 (λi f hi=>by
 match i,hi with
 |0,hi=>cases hi;exact ad1
 |1,hi=>cases hi;show wU Try.prog 32 (Try.prog.cellsOf 32);rw [DD];exact Yi
 |i+2,hi=>simp at hi) (λj hj=>by
 rcases j with _|_|_|j
 ·refine ⟨0,{ name:= "Pace",type:=3,offset:=0,embedded:=false,tag:= "",pkgPath:= "",byteOffset:=0 },rfl,?_,?_⟩<;>dsimp only <;>(try rw [cells3])<;>omega
 ·refine ⟨1,{ name:= "Errs",type:=32,offset:=1,embedded:=false,tag:= "",pkgPath:= "",byteOffset:=8 },rfl,?_,?_⟩<;>dsimp only <;>(try rw [DD])<;>omega
 ·refine ⟨1,{ name:= "Errs",type:=32,offset:=1,embedded:=false,tag:= "",pkgPath:= "",byteOffset:=8 },rfl,?_,?_⟩<;>dsimp only <;>(try rw [DD])<;>omega
 ·omega)
theorem ad2:((begin Try.prog (λ_ _=>0) default).world.heap[3]?).map (λo=>match o with | .cells .. =>true|_=>false)=some true:=by kernel_rfl
theorem Xm {P:Program} (hg:P.globals.size=0) (s0:((begin P (λ_ _=>0) default).world.heap[3]?).map (λo=>match o with | .cells .. =>true|_=>false)=some true) {W:World} (h:W.ShapedOpen P):∃c e fr,W.heap[3]?=some (.cells c e fr):=by
 have hlt:3<(begin P (λ_ _=>0) default).world.heap.size:=by
  cases hx:(begin P (λ_ _=>0) default).world.heap[3]? with
  |none=>rw [hx] at s0;cases s0
  |some o=>exact (aa.1 hx).1
 obtain ⟨o,o0,h1,h2,h3⟩:=h.2 3 (by rw [hg];exact aL _) hlt;rw [if_neg (by rw [hg];decide)] at h3;subst h3;rw [h2] at s0;cases o with
 |cells c t fr=>exact ⟨c,t,fr,h1⟩
 |_=>cases s0
theorem dummy {W:World} (h:W.ShapedOpen Try.prog):KZ W (3,0,#[]):=by
 obtain ⟨c,e,fr,h3⟩:=Xm OJ ad2 h;exact ⟨by show 1<=3;omega,(aa.1 h3).1,⟨c,e,fr,h3, λi v hv=>by simp at hv⟩, λv hv=>by simp at hv⟩
theorem QS {W:World} (h:W.ShapedOpen Try.prog) {A:Option Addr} {len cap b0:Nat} (hA:∀a,A=some a->W.has Try.prog .any b0 a 32 cap∧∃D:Nat->Nat->Int,∀i j,i<len->j<2->W.cell? ⟨a.block,a.off+(i*2+j),none⟩=some (.int .i64 (D i j))):
 ∃(lots:List (Int×Int)) (x:Part),lots.length=len∧KZ W x∧PartOf x A (iO lots):=by
 have key:∃lots:List (Int×Int),lots.length=len∧∀a,A=some a->∀i j,i<lots.length->j<2->W.cell? ⟨a.block,a.off+(i*2+j),none⟩=some (xJ lots i j):=by
  cases A with
  |none=>exact ⟨List.replicate len (0,0),by simp, λa h=>by cases h⟩
  |some a=>
   obtain ⟨_,D,hD⟩:=hA a rfl;refine ⟨(List.range len).map λi=>(D i 0,D i 1),by simp, λa' h i j hi hj=>?_⟩;cases h;have hi':i<len:=by simpa using hi
   rw [hD i j hi' hj];rcases j with _|_|j
   ·simp [xJ,hi']
   ·simp [xJ,hi']
   ·omega
 obtain ⟨lots,hl,hc⟩:=key
 obtain ⟨x,h1,h2⟩:=OM (dummy h) (A:=A) (cs:=iO lots) (λa ha=>by
  obtain ⟨hh,_⟩:=hA a ha;obtain ⟨n1,n2,n3⟩:=OO h Try.underlying32 an6 hh;refine ⟨hh.2.1,n1,n2,n3, λi v hv=>?_⟩;have hi:=(aJ.1 hv).1;rw [wR] at hi;have e:(i / 2)*2+i%2=i:=by omega
  have h3:=wT lots (i / 2) (i%2) (by omega) (by omega);rw [e,hv] at h3;have h4:=hc a ha (i / 2) (i%2) (by omega) (by omega);rw [e] at h4;rw [h4,h3]) (λv hv=>by obtain ⟨y,rfl⟩:=FB hv;rfl)
 exact ⟨lots,x,hl,h1,h2⟩
theorem Nt {l:List (Int×Int×Int)} {u:Value} (h:u∈lU l):∃x,u= .int .i64 x:=by
 simp only [lU,List.mem_flatMap,aT,List.not_mem_nil,or_false] at h;obtain ⟨x,_,rfl|rfl|rfl⟩:=h<;>exact ⟨_,rfl⟩
theorem QT {W:World} (h:W.ShapedOpen Try.prog) {A:Option Addr} {len cap b0:Nat} (hA:∀a,A=some a->W.has Try.prog .any b0 a 34 cap∧∃D:Nat->Nat->Int,∀i j,i<len->j<3->W.cell? ⟨a.block,a.off+(i*3+j),none⟩=some (.int .i64 (D i j))):
 ∃(lots:List (Int×Int×Int)) (x:Part),lots.length=len∧KZ W x∧PartOf x A (lU lots):=by
 have key:∃lots:List (Int×Int×Int),lots.length=len∧∀a,A=some a->∀i j,i<lots.length->j<3->W.cell? ⟨a.block,a.off+(i*3+j),none⟩=some (cutAt lots i j):=by
  cases A with
  |none=>exact ⟨List.replicate len (0,0,0),by simp, λa h=>by cases h⟩
  |some a=>
   obtain ⟨_,D,hD⟩:=hA a rfl;refine ⟨(List.range len).map λi=>(D i 0,D i 1,D i 2),by simp, λa' h i j hi hj=>?_⟩;cases h;have hi':i<len:=by simpa using hi
   rw [hD i j hi' hj];rcases j with _|_|_|j
   ·simp [cutAt,hi']
   ·simp [cutAt,hi']
   ·simp [cutAt,hi']
   ·omega
 obtain ⟨lots,hl,hc⟩:=key
 obtain ⟨x,h1,h2⟩:=OM (dummy h) (A:=A) (cs:=lU lots) (λa ha=>by
  obtain ⟨hh,_⟩:=hA a ha;obtain ⟨n1,n2,n3⟩:=OO h Try.underlying34 an7 hh;refine ⟨hh.2.1,n1,n2,n3, λi v hv=>?_⟩;have hi:=(aJ.1 hv).1;rw [Ni] at hi;have e:(i / 3)*3+i%3=i:=by omega
  have h3:=wS lots (i / 3) (i%3) (by omega) (by omega);rw [e,hv] at h3;have h4:=hc a ha (i / 3) (i%3) (by omega) (by omega);rw [e] at h4;rw [h4,h3]) (λv hv=>by obtain ⟨y,rfl⟩:=Nt hv;rfl)
 exact ⟨lots,x,hl,h1,h2⟩
theorem au0:S0 4=true:=by kernel_rfl
theorem q4:Try.prog.funcs[4]?=lC.funcs[4]?:=by unfold lC;exact (x8 Try.prog _ (by decide)).symm
theorem OQ {K n:Nat} {L:List Part} {bad:TypeId} {W:World} {k:Nat} {x:Part} (hk:L[k]?=some x) {A:Option Addr} {cs:List Value} (hp:PartOf x A cs) (hA:A=none->n=0) {F:Nat->Nat->Value} (hF:∀i j,i<n->j<K->cs[i*K+j]?=some (F i j)) (τ:Nat->Question->Nat):Rd ((wL L bad W).tp τ) ((wL L bad W).tp τ).heap.size K (K3 (k+1) A) n F:= λhn=>by
 cases A with
 |none=>have :=hA rfl;omega
 |some a=>
  obtain ⟨_,rfl⟩:=hp a rfl;refine ⟨k+1,0,rfl,?_, λi j hi hj=>?_⟩
  ·show k+1<(wL L bad W).heap.size;have :=(aJ.1 hk).1;rw [yE];omega
  ·rw [Nat.zero_add,Xj hk];simpa using hF i j hi hj
theorem Nu {W:World} (h:W.ShapedOpen Try.prog) {A1 A2:Option Addr} {c1 c2:Nat} {lots:List (Int×Int)} {cs:List (Int×Int×Int)} {x y:Part} (hx:KZ W x) (hy:KZ W y) (px:PartOf x A1 (iO lots)) (py:PartOf y A2 (lU cs)) (n1:A1=none->lots.length=0) (n2:A2=none->cs.length=0) (hcap:lots.length<=c1)
 (limit p a b b16 lot:Int) (yJ:0<=b16∧b16<65536) (AA:0<=lot∧lot<256) {Post:Value->World->Prop}
 (hpost:∀W',W'.tape=W.tape->W'.output=W.output->OsLater W.os W'.os->W.heap.size<=W'.heap.size->(∀b,b<W.heap.size->W'.heap[b]?=W.heap[b]?)->Post (.bool true) W'):
 Par.Ends Try.prog Post (solo (G (Frame.enter Try.prog 4 #[.slice A1 lots.length c1,.slice A2 cs.length c2,.int .i64 limit,.agg #[.int .i64 p,.int .i64 a,.int .i64 b],.int .u16 b16,.int .u8 lot] .normal) []) W) #[]:=by
 have hW:0<W.heap.size:=by obtain ⟨c,fr,h0⟩:=U7 h;exact (aa.1 h0).1
 letI:Par.Sh:=Vm [x,y] Try.prog.types.size;refine iM.start (U1 (P:=lC) (Q:=Try.prog) (S:=S0) (V:=V0) (cd:=dL lC S0 V0) (L:=[x,y]) (bad:=Try.prog.types.size) (q:=5) (v0:=.bool true) (g:=4) (args:= #[.slice (K3 1 A1) lots.length c1,.slice (K3 2 A2) cs.length c2,.int .i64 limit,.agg #[.int .i64 p,.int .i64 a,.int .i64 b],.int .u16 b16,.int .u8 lot]) ac3 (λf=>lD f true) (λF=>vN true) ac6 plain0 Nh ac5 ac4 OJ OJ Xk QO an4 au0 q4 hW (λz hz=>?_) (λv hv=>?_) ?_ (λτ=>?_) hpost) (λb hb=>hb)
 ·simp only [aT,List.not_mem_nil,or_false] at hz;rcases hz with rfl|rfl
  ·exact hx
  ·exact hy
 ·simp only [List.mem_toArray,aT,List.not_mem_nil,or_false] at hv;rcases hv with rfl|rfl|rfl|rfl|rfl|rfl
  ·exact K5 (L:=[x,y]) (k:=0) (by show 0<2;omega) _ _
  ·exact K5 (L:=[x,y]) (k:=1) (by show 1<2;omega) _ _
  ·simp
  ·rw [mZ];intro v hv;simp only [List.mem_toArray,aT,List.not_mem_nil,or_false] at hv;rcases hv with rfl|rfl|rfl<;>simp
  ·simp
  ·simp
 ·have e1:=K4 (L:=[x,y]) (bad:=Try.prog.types.size) (k:=0) px rfl;have e2:=K4 (L:=[x,y]) (bad:=Try.prog.types.size) (k:=1) py rfl;simp only [List.map_toArray,List.map_cons,List.map_nil,dX,iH,rz];rw [e1,e2]
 ·exact K6 (OQ (L:=[x,y]) (k:=0) rfl px n1 (λi j hi hj=>wT _ i j hi hj) τ) (OQ (L:=[x,y]) (k:=1) rfl py n2 (λi j hi hj=>wS _ i j hi hj) τ) (aj _) hcap limit p a b b16 lot yJ AA
end Go.Proofs.Try
end
section
namespace Go.Proofs.Ytnemnkmojiljmaa
open Go Go.RowKit Go.ChangeShapes Go.WideShapes Go.ChangeAt Go.Conc Go.ConcM Par Go.Proofs.Try
theorem Nv:(Try.f4.params.toList.all λt=>Try.prog.readableRec t&&decide (t<Try.prog.types.size))=true:=by kernel_rfl
theorem Jh:Try.f4.resultTypes= #[4]:=by unfold Try.f4;rfl
theorem easier_lifted (os:Os) (started:os.Started) (H:Type) (enc:TypeId×Value->H) (F:Stop.Interp):
 ReturnsInLeavingWide Rows.threadEasierRow.assume Try.checked os 4 .any (Rows.threadEasierSpec.pre6 enc Try.prog Try.f4 Rows.threadEasierRow.domain false) ((OpenSpec.ofChange Rows.threadEasierSpec).postWith enc Try.prog Try.f4 F (outsideKept [.timePasses]) false true false):=by
 refine Dn (C:=Try.checked) Try.knob started Try.func4
  (ChangeSpec.witness6c (enc:=enc) (C:=Try.checked) ⟨#[],#[.slice none 0 0,.slice none 0 0,.int .i64 0,.agg #[.int .i64 0,.int .i64 0,.int .i64 0],.int .u16 0,.int .u8 0],[]⟩ 8 (by kernel_rfl) (by kernel_rfl) (by kernel_rfl) (by kernel_rfl)) ?_
 intro W base args ds gs before hsh hval0 hW _;have hval:∀(j:Nat) t v,Try.f4.params[j]?=some t->args[j]?=some v->Value.okWide Try.prog W .any base t v:=hval0
 have hW':=hW;obtain ⟨p,q,hA0,hV,rfl,hfz,_⟩:=hW;have hA:DataW.TrodAll enc Try.prog W 0 (λ_=>true) true Try.f4.params.toList args.toList ds p:=hA0;have hAk:=hA;rw [Try.params4] at hA hval;obtain ⟨rfl,rfl⟩:=trodVars_none hV;obtain ⟨l⟩:=args;obtain ⟨v0,vs1,d0,ds1,p0,q1,e0,rfl,rfl,h0,hA⟩:=trodAll_cons hA;obtain ⟨v1,vs2,d1,ds2,p1,q2,rfl,rfl,rfl,h1,hA⟩:=trodAll_cons hA;obtain ⟨v2,vs3,d2,ds3,p2,q3,rfl,rfl,rfl,h2,hA⟩:=trodAll_cons hA;obtain ⟨v3,vs4,d3,ds4,p3,q4',rfl,rfl,rfl,h3,hA⟩:=trodAll_cons hA;obtain ⟨v4,vs5,d4,ds5,p4,q5,rfl,rfl,rfl,h4,hA⟩:=trodAll_cons hA;obtain ⟨v5,vs6,d5,ds6,p5,q6,rfl,rfl,rfl,h5,hA⟩:=trodAll_cons hA;obtain ⟨rfl,rfl,rfl⟩:=trodAll_nil hA;have e0:l= [v0,v1,v2,v3,v4,v5]:=e0;subst e0;obtain ⟨A1,n1,c1,rfl,hc1,hz1,ha1⟩:=Ib Try.underlying22 Try.DD Yi (hval 0 22 v0 rfl rfl) h0;obtain ⟨A2,n2,c2,rfl,hc2,hz2,ha2⟩:=Ib Try.underlying23 Try.OP Yj (hval 1 23 v1 rfl rfl) h1;obtain ⟨limit,rfl,rfl,rfl,wl⟩:=open_int Try.underlying3 (hval 2 3 v2 rfl rfl) h2;obtain ⟨x,y,z,rfl⟩:=Nq Try.underlying34 Try.OP Yj (hval 3 34 v3 rfl rfl) h3;obtain ⟨b16,rfl,rfl,rfl,wb⟩:=open_int Try.underlying35 (hval 4 35 v4 rfl rfl) h4;obtain ⟨lot,rfl,rfl,rfl,wt⟩:=open_int Try.underlying5 (hval 5 5 v5 rfl rfl) h5;obtain ⟨lots,X,hl1,hX,pX⟩:=QS hsh ha1;obtain ⟨cs,Y,hl2,hY,pY⟩:=QT hsh ha2;subst hl1;subst hl2
 have yJ:0<=b16∧b16<65536:=by
  simp [Lit.wf,IntKind.min,IntKind.max,IntKind.signed,IntKind.bits] at wb;omega
 have AA:0<=lot∧lot<256:=by
  simp [Lit.wf,IntKind.min,IntKind.max,IntKind.signed,IntKind.bits] at wt;omega
 refine Nu hsh hX hY pX pY (λh=>(hz1 h).1) (λh=>(hz2 h).1) hc1 limit x y z b16 lot yJ AA λW' t1 t2 t3 t4 t5=>⟨?_,t3⟩
 have hbel:Below W.heap.size W { W' with os:=W.os }:=⟨rfl,t1,t2,t4,t5⟩;refine ⟨_,_,_,[],_,[],hW',?_,zb Try.laid hbel (λt ht=>?_) hAk (DataW.TrodAll.lt hAk),rfl,hbel.frame _, λh=>by cases h⟩
 ·show DataW.TrodAll enc Try.prog _ _ _ _ Try.f4.resultTypes.toList _ _ _;rw [Jh];exact trodAll_mk1 (shut_bool Try.underlying4 true)
 ·have :=aV.1 Nv t ht;simpa using this
theorem threadEasier_holds:Rows.ThreadEasierSaid:=
 OpenClaim.holds_of_wide_leaving_time 4 Try.f4 rfl rfl rfl rfl rfl rfl rfl ⟨rfl,rfl,rfl,rfl,rfl⟩ rfl rfl rfl rfl rfl (by kernel_rfl) Try.func4 (by kernel_rfl)
  (of_decide_eq_true (by kernel_rfl)) (by unfold Func.isWrapper;first |(rw [if_pos (by decide+kernel)];kernel_rfl)|(rw [if_neg (by decide+kernel)];exact ⟨rfl,rfl⟩))
  (λos started H enc _ F=>easier_lifted os started H enc F)
end Go.Proofs.Ytnemnkmojiljmaa
end
