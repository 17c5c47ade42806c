/- Part 50. -/
import Derived.Test.YtnemnkmojiljmaaRows
import Derived.Test.YtnemnkmojiljmaaF48
import Derived.Test.YtnemnkmojiljmaaF49
set_option maxRecDepth 100000
set_option maxHeartbeats 8000000
set_option linter.all false
section
namespace Go.Proofs
open Go Go.RowKit
section
variable [Lo.St]
end
namespace Try
open Go.ChangeShapes Go.WideShapes Go.ChangeAt Go.Conc Go.ConcM Par
theorem laid:laidOutB Try.prog=true:=by kernel_rfl
theorem knob:ownKnob Try.prog.godebug=none:=by kernel_rfl
theorem Xl:Try.prog.info? Try.prog.types.size=none:=by kernel_rfl
theorem Nt:Try.prog.types.all (λi=>match i.desc with | .named n _=>n != "sync.copyChecker" |_=>true)=true:=by kernel_rfl
theorem QV (t:TypeId) (i:TypeInfo) (h:Try.prog.info? t=some i) (u:TypeId):i.desc≠ .named "sync.copyChecker" u:=Jf Nt t i h u
theorem an3:sameLayout Try.prog Try.prog.depth 0 32=false:=by kernel_rfl
theorem an4:sameLayout Try.prog Try.prog.depth 0 34=false:=by kernel_rfl
theorem ac5 {P:Program} (fits:TypeId->Bool) (hf:fits 0=false) (h0:P.underlying 0=some (.tuple #[])) (d count off n:Nat):rowAt P fits d 0 count off n=false:=by
 cases d with
 |zero=>rfl
 |succ d=>simp [rowAt,hf,h0]
theorem ac6 {P:Program} {u:TypeId} {fs:Array Field} (h0:P.underlying 0=some (.tuple #[])) (hu:P.underlying u=some (.struct fs)) (hl:sameLayout P P.depth 0 u=false) (d count off n:Nat):liesAt P d 0 count off u n=false:=by
 cases d with
 |zero=>rfl
 |succ d=>
  have h1:rowAt P (λx=>sameLayout P P.depth x u) P.depth 0 count off n=false:=ac5 _ hl h0 _ _ _ _;simp only [liesAt,hu,h1,Bool.or_false]
theorem au2:Try.prog.underlying 0=some (.tuple #[]):=by kernel_rfl
theorem an5 {u:TypeId} {fs:Array Field} (hu:Try.prog.underlying u=some (.struct fs)) (hl:sameLayout Try.prog Try.prog.depth 0 u=false) (d count off n:Nat):liesAt Try.prog d 0 count off u n=false:=ac6 au2 hu hl d count off n
theorem ac7:((begin Try.prog (λ_ _=>0) default).world.heap[0]?).map (λo=>match o with | .cells _ t _=>t==0|_=>false)=some true:=by kernel_rfl
theorem Xm {P:Program} (hg:P.globals.size=0) (s0:((begin P (λ_ _=>0) default).world.heap[0]?).map (λo=>match o with | .cells _ t _=>t==0|_=>false)=some true) {W:World} (h:W.ShapedOpen P):∃c fr,W.heap[0]?=some (.cells c 0 fr):=by
 have hlt:0<(begin P (λ_ _=>0) default).world.heap.size:=by
  cases hx:(begin P (λ_ _=>0) default).world.heap[0]? with
  |none=>rw [hx] at s0;cases s0
  |some o=>exact (aa.1 hx).1
 obtain ⟨o,o0,h1,h2,h3⟩:=h.2 0 (by rw [hg];exact aj _) hlt;rw [if_neg (by rw [hg];decide)] at h3;subst h3;rw [h2] at s0;cases o with
 |cells c t fr=>
  have h5:=aD s0;obtain rfl:t=0:=by simpa using h5
  exact ⟨c,fr,h1⟩
 |_=>cases s0
theorem UZ {W:World} (h:W.ShapedOpen Try.prog):∃c fr,W.heap[0]?=some (.cells c 0 fr):=Xm OO ac7 h
theorem OT {W:World} (h:W.ShapedOpen Try.prog) {u:TypeId} {fs:Array Field} (hu:Try.prog.underlying u=some (.struct fs)) (hl:sameLayout Try.prog Try.prog.depth 0 u=false) {b0:Nat} {a:Addr} {n:Nat} (hh:W.has Try.prog .any b0 a u n):1<=a.block∧a.block<W.heap.size∧∃C e fr,W.heap[a.block]?=some (.cells C e fr):=by
 obtain ⟨_,_,row,cells,hs,hla⟩:=hh
 have hc:∃C e fr,W.heap[a.block]?=some (.cells C e fr)∧row=e:=by
  unfold World.shape? at hs;cases hx:W.heap[a.block]? with
  |none=>rw [hx] at hs;cases hs
  |some o=>
   rw [hx] at hs;cases o with
   |cells C e fr=>exact ⟨C,e,fr,rfl,by cases hs;rfl⟩
   |_=>cases hs
 obtain ⟨C,e,fr,hx,rfl⟩:=hc;refine ⟨?_,(aa.1 hx).1,C,row,fr,hx⟩;rcases Nat.eq_zero_or_pos a.block with h0|h0
 ·obtain ⟨c,fr',h0'⟩:=UZ h;rw [h0,h0'] at hx;cases hx;rw [an5 hu hl] at hla;cases hla
 ·exact h0
end Try
end Go.Proofs
end
section
namespace Go.Proofs.Try
open Go Go.RowKit Go.ChangeShapes Go.WideShapes Go.ChangeAt Go.Conc Go.ConcM Par
open Go.Proofs.Ytnemnkmojiljmaa
theorem cells3:Try.prog.cellsOf 3=1:=by kernel_rfl
theorem Dx:Try.prog.cellsOf 32=2:=by kernel_rfl
theorem Xn:Try.prog.cellsOf 34=3:=by kernel_rfl
theorem ac8:xX Try.prog 3 (Try.prog.cellsOf 3):=by rw [cells3];exact Ns Try.underlying3
theorem Yk:xX Try.prog 32 2:=y8 Try.underlying32 (λi f hi=>by
 match i,hi with
 |0,hi=>cases hi;exact ac8
 |1,hi=>cases hi;exact ac8
 |i+2,hi=>simp at hi) (λj hj=>by
 rcases j with _|_|j
 ·refine ⟨0,{ name:= "Low",type:=3,offset:=0,embedded:=false,tag:= "",pkgPath:= "",byteOffset:=0 },rfl,?_,?_⟩<;>dsimp only <;>(try rw [cells3])<;>omega
 ·refine ⟨1,{ name:= "High",type:=3,offset:=1,embedded:=false,tag:= "",pkgPath:= "",byteOffset:=8 },rfl,?_,?_⟩<;>dsimp only <;>(try rw [cells3])<;>omega
 ·omega)
theorem an6:xX Try.prog 34 3:=y8 Try.underlying34 (λi f hi=>by
 match i,hi with
 |0,hi=>cases hi;exact ac8
 |1,hi=>cases hi;show xX Try.prog 32 (Try.prog.cellsOf 32);rw [Dx];exact Yk
 |i+2,hi=>simp at hi) (λj hj=>by
 rcases j with _|_|_|j
 ·refine ⟨0,{ name:= "Pace",type:=3,offset:=0,embedded:=false,tag:= "",pkgPath:= "",byteOffset:=0 },rfl,?_,?_⟩<;>dsimp only <;>(try rw [cells3])<;>omega
 ·refine ⟨1,{ name:= "Errs",type:=32,offset:=1,embedded:=false,tag:= "",pkgPath:= "",byteOffset:=8 },rfl,?_,?_⟩<;>dsimp only <;>(try rw [Dx])<;>omega
 ·refine ⟨1,{ name:= "Errs",type:=32,offset:=1,embedded:=false,tag:= "",pkgPath:= "",byteOffset:=8 },rfl,?_,?_⟩<;>dsimp only <;>(try rw [Dx])<;>omega
 ·omega)
theorem ac9:((begin Try.prog (λ_ _=>0) default).world.heap[3]?).map (λo=>match o with | .cells .. =>true|_=>false)=some true:=by kernel_rfl
theorem Xo {P:Program} (hg:P.globals.size=0) (s0:((begin P (λ_ _=>0) default).world.heap[3]?).map (λo=>match o with | .cells .. =>true|_=>false)=some true) {W:World} (h:W.ShapedOpen P):∃c e fr,W.heap[3]?=some (.cells c e fr):=by
 have hlt:3<(begin P (λ_ _=>0) default).world.heap.size:=by
  cases hx:(begin P (λ_ _=>0) default).world.heap[3]? with
  |none=>rw [hx] at s0;cases s0
  |some o=>exact (aa.1 hx).1
 obtain ⟨o,o0,h1,h2,h3⟩:=h.2 3 (by rw [hg];exact aL _) hlt;rw [if_neg (by rw [hg];decide)] at h3;subst h3;rw [h2] at s0;cases o with
 |cells c t fr=>exact ⟨c,t,fr,h1⟩
 |_=>cases s0
theorem dummy {W:World} (h:W.ShapedOpen Try.prog):K6 W (3,0,#[]):=by
 obtain ⟨c,e,fr,h3⟩:=Xo OO ac9 h;exact ⟨by show 1<=3;omega,(aa.1 h3).1,⟨c,e,fr,h3, λi v hv=>by simp at hv⟩, λv hv=>by simp at hv⟩
theorem QW {W:World} (h:W.ShapedOpen Try.prog) {A:Option Addr} {len cap b0:Nat} (hA:∀a,A=some a->W.has Try.prog .any b0 a 32 cap∧∃D:Nat->Nat->Int,∀i j,i<len->j<2->W.cell? ⟨a.block,a.off+(i*2+j),none⟩=some (.int .i64 (D i j))):
 ∃(lots:List (Int×Int)) (x:Part),lots.length=len∧K6 W x∧PartOf x A (xK lots):=by
 have key:∃lots:List (Int×Int),lots.length=len∧∀a,A=some a->∀i j,i<lots.length->j<2->W.cell? ⟨a.block,a.off+(i*2+j),none⟩=some (CB lots i j):=by
  cases A with
  |none=>exact ⟨List.replicate len (0,0),by simp, λa h=>by cases h⟩
  |some a=>
   obtain ⟨_,D,hD⟩:=hA a rfl;refine ⟨(List.range len).map λi=>(D i 0,D i 1),by simp, λa' h i j hi hj=>?_⟩;cases h;have hi':i<len:=by simpa using hi
   rw [hD i j hi' hj];rcases j with _|_|j
   ·simp [CB,hi']
   ·simp [CB,hi']
   ·omega
 obtain ⟨lots,hl,hc⟩:=key
 obtain ⟨x,h1,h2⟩:=OQ (dummy h) (A:=A) (cs:=xK lots) (λa ha=>by
  obtain ⟨hh,_⟩:=hA a ha;obtain ⟨n1,n2,n3⟩:=OT h Try.underlying32 an3 hh;refine ⟨hh.2.1,n1,n2,n3, λi v hv=>?_⟩;have hi:=(aJ.1 hv).1;rw [Me] at hi;have e:(i / 2)*2+i%2=i:=by omega
  have h3:=Eu lots (i / 2) (i%2) (by omega) (by omega);rw [e,hv] at h3;have h4:=hc a ha (i / 2) (i%2) (by omega) (by omega);rw [e] at h4;rw [h4,h3]) (λv hv=>by obtain ⟨y,rfl⟩:=Mf hv;rfl)
 exact ⟨lots,x,hl,h1,h2⟩
theorem Nu {l:List (Int×Int×Int)} {u:Value} (h:u∈wo l):∃x,u= .int .i64 x:=by
 simp only [wo,List.mem_flatMap,aT,List.not_mem_nil,or_false] at h;obtain ⟨x,_,rfl|rfl|rfl⟩:=h<;>exact ⟨_,rfl⟩
theorem QX {W:World} (h:W.ShapedOpen Try.prog) {A:Option Addr} {len cap b0:Nat} (hA:∀a,A=some a->W.has Try.prog .any b0 a 34 cap∧∃D:Nat->Nat->Int,∀i j,i<len->j<3->W.cell? ⟨a.block,a.off+(i*3+j),none⟩=some (.int .i64 (D i j))):
 ∃(lots:List (Int×Int×Int)) (x:Part),lots.length=len∧K6 W x∧PartOf x A (wo lots):=by
 have key:∃lots:List (Int×Int×Int),lots.length=len∧∀a,A=some a->∀i j,i<lots.length->j<3->W.cell? ⟨a.block,a.off+(i*3+j),none⟩=some (cutAt lots i j):=by
  cases A with
  |none=>exact ⟨List.replicate len (0,0,0),by simp, λa h=>by cases h⟩
  |some a=>
   obtain ⟨_,D,hD⟩:=hA a rfl;refine ⟨(List.range len).map λi=>(D i 0,D i 1,D i 2),by simp, λa' h i j hi hj=>?_⟩;cases h;have hi':i<len:=by simpa using hi
   rw [hD i j hi' hj];rcases j with _|_|_|j
   ·simp [cutAt,hi']
   ·simp [cutAt,hi']
   ·simp [cutAt,hi']
   ·omega
 obtain ⟨lots,hl,hc⟩:=key
 obtain ⟨x,h1,h2⟩:=OQ (dummy h) (A:=A) (cs:=wo lots) (λa ha=>by
  obtain ⟨hh,_⟩:=hA a ha;obtain ⟨n1,n2,n3⟩:=OT h Try.underlying34 an4 hh;refine ⟨hh.2.1,n1,n2,n3, λi v hv=>?_⟩;have hi:=(aJ.1 hv).1;rw [Md] at hi;have e:(i / 3)*3+i%3=i:=by omega
  have h3:=Et lots (i / 3) (i%3) (by omega) (by omega);rw [e,hv] at h3;have h4:=hc a ha (i / 3) (i%3) (by omega) (by omega);rw [e] at h4;rw [h4,h3]) (λv hv=>by obtain ⟨y,rfl⟩:=Nu hv;rfl)
 exact ⟨lots,x,hl,h1,h2⟩
theorem q4:Try.prog.funcs[4]?=jR.funcs[4]?:=by unfold jR;exact (vL Try.prog _ (by decide)).symm
theorem OU {K n:Nat} {L:List Part} {bad:TypeId} {W:World} {k:Nat} {x:Part} (hk:L[k]?=some x) {A:Option Addr} {cs:List Value} (hp:PartOf x A cs) (hA:A=none->n=0) {F:Nat->Nat->Value} (hF:∀i j,i<n->j<K->cs[i*K+j]?=some (F i j)) (τ:Nat->Question->Nat):Rd ((wL L bad W).tp τ) ((wL L bad W).tp τ).heap.size K (K7 (k+1) A) n F:= λhn=>by
 cases A with
 |none=>have :=hA rfl;omega
 |some a=>
  obtain ⟨_,rfl⟩:=hp a rfl;refine ⟨k+1,0,rfl,?_, λi j hi hj=>?_⟩
  ·show k+1<(wL L bad W).heap.size;have :=(aJ.1 hk).1;rw [yB];omega
  ·rw [Nat.zero_add,Xk hk];simpa using hF i j hi hj
end Go.Proofs.Try
end
