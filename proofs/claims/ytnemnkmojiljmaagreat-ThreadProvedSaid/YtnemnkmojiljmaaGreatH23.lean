/- Part 23. -/
import Derived.Test.YtnemnkmojiljmaaGreatH21
set_option maxRecDepth 100000
set_option maxHeartbeats 0
set_option linter.all false
namespace Go.Proofs
open Go Go.RowKit Go.Maps
section
variable [Lo.St]
def jR (w:World) (A:Option Addr) (n:Nat) (o:List Int):Prop:=Rd w w.heap.size 2 A n λi j=>.int .i64 ((o[2*i+j]?).getD 0)
theorem jR.below {w w':World} {A:Option Addr} {n:Nat} {o:List Int} (h:jR w A n o) (hb:Below w.heap.size w w'):jR w' A n o:= λhn=>by
 obtain ⟨b,off,e,h1,h2⟩:=h hn;exact ⟨b,off,e,aK h1 hb.size, λi j hi hj=>(dH hb _ _ h1).trans (h2 i j hi hj)⟩
theorem uU (o:List Int) {n i j:Nat} (hl:o.length=2*n) (hi:i<n) (hj:j<2):(gW o)[i*2+j]?=some (.int .i64 ((o[2*i+j]?).getD 0)):=by
 rw [show i*2+j=2*i+j from by omega];exact sW o (by omega)
theorem Lo.vJ {w:World} {B:Nat} {b:dO} {v:gJ} {x:Value} (hx:x=dY b v) (hb:fC w B b v) (hB:B<=w.heap.size) (hg:b.good) (hand:Int) (hh: -1<=hand∧hand<=64) (hho:gN (fA b hand) (dZ b hand)=true):
 Calls Lo.prog 43 #[x,.int .i64 hand] w λe w'=>∃A cap,e= .returned (.tuple #[.slice A (fA b hand).length cap,.int .i64 0])∧(fA b hand).length<=cap∧(∀m,m<=(fA b hand).length->jR w' A m (mG (fA b hand) (dZ b hand)))∧Below w.heap.size w w':=by
 refine (Lo.zR hx hb hB hg hand hh).mono λe w' h=>?_
 unfold qC at h;rw [aj hho] at h;obtain ⟨v,rfl,hown,_,hbe⟩:=h;obtain ⟨A,cap,rfl,hc,hr⟩:=ownsRow.rd (B:=w'.heap.size) (f:= λi j=>.int .i64 (((mG (fA b hand) (dZ b hand))[2*i+j]?).getD 0)) hown (λi j hi hj=>uU _ (pV _ _) hi hj);exact ⟨A,cap,rfl,hc, λm hm=>hr m hm (aJ _),hbe⟩
theorem Lo.K7 {w:World} {B:Nat} {b:dO} {v:gJ} {x:Value} (hx:x=dY b v) (hb:fC w B b v) (hB:B<=w.heap.size) (hg:b.good) (hand:Int) (hh: -1<=hand∧hand<=64) (hho:gN (fA b hand) (dZ b hand)=true):
 Calls Lo.prog 43 #[x,.int .i64 hand] w λe w'=>∃A cap,e= .returned (.tuple #[.slice A (fA b hand).length cap,.int .i64 0])∧(fA b hand).length<=cap∧(∀m,m<=(fA b hand).length->jR w' A m (mG (fA b hand) (dZ b hand)))∧Below w.heap.size w w'∧∀m c,Par.dU w' (.slice A m c):=by
 refine (Lo.zR hx hb hB hg hand hh).mono λe w' h=>?_
 unfold qC at h;rw [aj hho] at h;obtain ⟨v,rfl,hown,hpl,hbe⟩:=h;obtain ⟨A,cap,rfl,hc,hr⟩:=ownsRow.rd (B:=w'.heap.size) (f:= λi j=>.int .i64 (((mG (fA b hand) (dZ b hand))[2*i+j]?).getD 0)) hown (λi j hi hj=>uU _ (pV _ _) hi hj);exact ⟨A,cap,rfl,hc, λm hm=>hr m hm (aJ _),hbe, λ_ _ g hg=>hpl g (by cases A<;>exact hg)⟩
theorem Lo.Jh {w:World} {B:Nat} {b:dO} {v:gJ} {x:Value} (hx:x=dY b v) (hb:fC w B b v) (hB:B<=w.heap.size) (hg:b.good) (hand:Int) (hh: -1<=hand∧hand<=64) (hho:gN (fA b hand) (dZ b hand)=false):
 Calls Lo.prog 43 #[x,.int .i64 hand] w λe w'=>e= .returned (.tuple #[.slice none 0 0,.int .i64 9])∧Below w.heap.size w w':=by
 refine (Lo.zR hx hb hB hg hand hh).mono λe w' h=>?_
 unfold qC at h;rw [aa (by rw [hho];simp)] at h;exact h
theorem Lo.gV {w:World} {B:Nat} {b:dO} {v:gJ} {x:Value} (hx:x=dY b v) (hb:fC w B b v) (hB:B<=w.heap.size) (hg:b.small):
 Calls Lo.prog 17 #[x] w λe w'=>e= .returned (.int .i64 (fG b))∧Below w.heap.size w w':=hx ▸ Lo.wE hb hB hg
abbrev qR (b:dO):Bool:=gN (fA b (-1)) (dZ b (-1))
abbrev p8 (b:dO):List Int:=mG (fA b (-1)) (dZ b (-1))
def p9 (w:World) (b:dO) (e:Ending) (w':World):Prop:=
 Below w.heap.size w w'∧
 if fG b≠0 then e= .returned (.tuple #[.slice none 0 0,.int .i64 (fG b)])
 else if qR b=true then ∃A cap,e= .returned (.tuple #[.slice A b.dz.length cap,.int .i64 0])∧jR w' A b.dz.length (p8 b)∧Par.dU w' (.slice A b.dz.length cap)
 else e= .returned (.tuple #[.slice none 0 0,.int .i64 9])
theorem Lo.K8 {w:World} {B:Nat} {b:dO} {v:gJ} {x:Value} (hx:x=dY b v) (hb:fC w B b v) (hB:B<=w.heap.size) (hs:b.small):
 Calls Lo.prog 15 #[x] w (p9 w b):=by
 obtain ⟨U,U2,U3,U4,U5,U6⟩:=Lo.facts;subst hx;have hbv:Value.agg #[.slice v.ah b.dJ.length v.ch,.slice v.ap b.dz.length v.cp,.slice v.iT b.steps.length v.cs,.slice v.ac b.dA.length v.cc]=dY b v:=rfl;rw [<-hbv];have hb1:fC (w.alloc (.cells #[.slice v.ah b.dJ.length v.ch,.slice v.ap b.dz.length v.cp,.slice v.iT b.steps.length v.cs,.slice v.ac b.dA.length v.cc] 26)) B b v:=hb.keep λb o h=>dh _ _ _ (by show b<w.heap.size;omega)
 have hcb:∀j:Nat,(w.alloc (.cells #[.slice v.ah b.dJ.length v.ch,.slice v.ap b.dz.length v.cp,.slice v.iT b.steps.length v.cs,.slice v.ac b.dA.length v.cc] 26)).cell? ⟨w.heap.size,j,none⟩=(#[Value.slice v.ah b.dJ.length v.ch,.slice v.ap b.dz.length v.cp,.slice v.iT b.steps.length v.cs,.slice v.ac b.dA.length v.cc]:Array Value)[j]?:= λj=>by rw [cO _ _ _ _ rfl]
 have iy:=dw hbv;have HB1:=dw hb1;have kE:=dw hcb;clear hbv hb1 hb hcb;generalize v.ah=ah at iy HB1 kE ⊢;generalize v.ch=ch at iy HB1 kE ⊢;generalize v.ap=ap at iy HB1 kE ⊢;generalize v.cp=cp at iy HB1 kE ⊢;generalize v.iT=iT at iy HB1 kE ⊢;generalize v.cs=cs at iy HB1 kE ⊢;generalize v.ac=ac at iy HB1 kE ⊢;generalize v.cc=cc at iy HB1 kE ⊢;have C:=Lo.call Tryz.func17;have C2:=Lo.call Tryz.func43
 by_cases hcf:fG b=0
 ·have hg:=lM hs hcf;have hw1:=yR b (-1);have wG:=dw hcf;clear hcf;cases hho:qR b with
  |false=>
   have HH:=dw hho;clear hho;go_enter Lo.get Tryz.func15,Tryz.ntmps15
   go_wp2_with (first
    |(go_at_call 17;refine (Lo.gV iy.out HB1.out (by simp;omega) hs).mono ?_;rintro e w1 ⟨rfl,hb1⟩;rw [wG.out];have HB2:=dw hb1;clear hb1;have c0:=(dH HB2.out w.heap.size 0 (by simp)).trans (kE.out 0);have c1:=(dH HB2.out w.heap.size 1 (by simp)).trans (kE.out 1);have c2:=(dH HB2.out w.heap.size 2 (by simp)).trans (kE.out 2);have c3:=(dH HB2.out w.heap.size 3 (by simp)).trans (kE.out 3))
    |(go_at_call 43;refine (Lo.Jh iy.out (HB1.out.keep λb o h=>dH HB2.out b o (by simp;omega)) (by have :=HB2.out.size;simp at this;omega) hg (-1) (by omega) HH.out).mono ?_;rintro e w2 ⟨rfl,hb2⟩))
   go_ret2
   show p9 _ _ _ _;unfold p9;rw [aa (by rw [wG.out];simp),aa (by rw [HH.out];simp)];exact ⟨(((di _ _).alloc (aJ _) _).trans (HB2.out.mono (by simp))).trans (hb2.mono (by have :=HB2.out.size;simp at this;omega)),rfl⟩
  |true=>
   have HH:=dw hho;clear hho;rw [aa (by omega)] at hw1;have hwl:b.dz.length<=(fA b (-1)).length:=by omega
   go_enter Lo.get Tryz.func15,Tryz.ntmps15
   go_wp2_with (first
    |(go_at_call 17;refine (Lo.gV iy.out HB1.out (by simp;omega) hs).mono ?_;rintro e w1 ⟨rfl,hb1⟩;rw [wG.out];have HB2:=dw hb1;clear hb1;have c0:=(dH HB2.out w.heap.size 0 (by simp)).trans (kE.out 0);have c1:=(dH HB2.out w.heap.size 1 (by simp)).trans (kE.out 1);have c2:=(dH HB2.out w.heap.size 2 (by simp)).trans (kE.out 2);have c3:=(dH HB2.out w.heap.size 3 (by simp)).trans (kE.out 3))
    |(go_at_call 43;refine (Lo.K7 iy.out (HB1.out.keep λb o h=>dH HB2.out b o (by simp;omega)) (by have :=HB2.out.size;simp at this;omega) hg (-1) (by omega) HH.out).mono ?_;rintro e w2 ⟨A,cap,rfl,hcap,hr,hb2,hpl⟩;have RU:=dw hpl;clear hpl;have hpc:b.dz.length<=cap:=aS hwl hcap;have HR:=dw (hr _ hwl);have HB3:=dw hb2;clear hr;have k1:=(dH hb2 w.heap.size 1 (by have :=HB2.out.size;simp at this;omega)).trans c1;clear hb2))
   go_ret2
   show p9 _ _ _ _;unfold p9;rw [aa (by rw [wG.out];simp),aj HH.out];have hbe:Below w.heap.size w w2:=(((di _ _).alloc (aJ _) _).trans (HB2.out.mono (by simp))).trans (HB3.out.mono (by have :=HB2.out.size;simp at this;omega));refine ⟨hbe,?_⟩;exact ⟨_,_,rfl,HR.out,RU.out _ _⟩
 ·have wG:=dw hcf;clear hcf;generalize hcx:fG b=cx at wG;have RZ:=dw hcx;have hne:¬cx=0:=wG.out;clear hcx;go_enter Lo.get Tryz.func15,Tryz.ntmps15
  go_wp2_with (go_at_call 17;refine (Lo.gV iy.out HB1.out (by simp;omega) hs).mono ?_;rintro e w1 ⟨rfl,hb1⟩;rw [RZ.out];have HB2:=dw hb1;clear hb1)
  go_ret2
  show p9 _ _ _ _;unfold p9;rw [RZ.out,aj hne];exact ⟨((di _ _).alloc (aJ _) _).trans (HB2.out.mono (by simp)),rfl⟩
end
section
variable [Lo.St]
def qU (o:List Int) (np:Nat):Nat->List Int
 |0=>[]
 |k+1=>qU o np k++ [(o[2*(np+2*k+1)]?).getD 0,(o[2*(np+2*k+1)+1]?).getD 0]
theorem Dk (o:List Int) (np:Nat):∀k,(qU o np k).length=2*k
 |0=>rfl
 |k+1=>by unfold qU;rw [List.length_append,Dk o np k];simp;omega
abbrev yY (b:dO):List Int:=qU (p8 b) b.dz.length b.steps.length
def qa (w:World) (b:dO) (e:Ending) (w':World):Prop:=
 Below w.heap.size w w'∧
 if fG b≠0 then e= .returned (.tuple #[.slice none 0 0,.int .i64 (fG b)])
 else if qR b=true then ∃A cap,e= .returned (.tuple #[.slice A b.steps.length cap,.int .i64 0])∧jR w' A b.steps.length (yY b)∧Par.dU w' (.slice A b.steps.length cap)
 else e= .returned (.tuple #[.slice none 0 0,.int .i64 9])
theorem Lo.K9 {w:World} {B:Nat} {b:dO} {v:gJ} {x:Value} (hx:x=dY b v) (hb:fC w B b v) (hB:B<=w.heap.size) (hs:b.small):
 Calls Lo.prog 20 #[x] w (qa w b):=by
 obtain ⟨U,U2,U3,U4,U5,U6⟩:=Lo.facts;subst hx;have hbv:Value.agg #[.slice v.ah b.dJ.length v.ch,.slice v.ap b.dz.length v.cp,.slice v.iT b.steps.length v.cs,.slice v.ac b.dA.length v.cc]=dY b v:=rfl;rw [<-hbv];have hb1:fC (w.alloc (.cells #[.slice v.ah b.dJ.length v.ch,.slice v.ap b.dz.length v.cp,.slice v.iT b.steps.length v.cs,.slice v.ac b.dA.length v.cc] 26)) B b v:=hb.keep λb o h=>dh _ _ _ (by show b<w.heap.size;omega)
 have hcb:∀j:Nat,(w.alloc (.cells #[.slice v.ah b.dJ.length v.ch,.slice v.ap b.dz.length v.cp,.slice v.iT b.steps.length v.cs,.slice v.ac b.dA.length v.cc] 26)).cell? ⟨w.heap.size,j,none⟩=(#[Value.slice v.ah b.dJ.length v.ch,.slice v.ap b.dz.length v.cp,.slice v.iT b.steps.length v.cs,.slice v.ac b.dA.length v.cc]:Array Value)[j]?:= λj=>by rw [cO _ _ _ _ rfl]
 have iy:=dw hbv;have HB1:=dw hb1;have kE:=dw hcb;clear hbv hb1 hb hcb;generalize v.ah=ah at iy HB1 kE ⊢;generalize v.ch=ch at iy HB1 kE ⊢;generalize v.ap=ap at iy HB1 kE ⊢;generalize v.cp=cp at iy HB1 kE ⊢;generalize v.iT=iT at iy HB1 kE ⊢;generalize v.cs=cs at iy HB1 kE ⊢;generalize v.ac=ac at iy HB1 kE ⊢;generalize v.cc=cc at iy HB1 kE ⊢;have C:=Lo.call Tryz.func17;have C2:=Lo.call Tryz.func43;obtain ⟨i0,hi,hz0,hz1,hz2⟩:=info_parts Lo.Rx
 by_cases hcf:fG b=0
 ·have hg:=lM hs hcf;have hw1:=yR b (-1);have wG:=dw hcf;clear hcf;cases hho:qR b with
  |false=>
   have HH:=dw hho;clear hho;go_enter Lo.get Tryz.func20,Tryz.ntmps20
   go_wp2_with (first
    |(go_at_call 17;refine (Lo.gV iy.out HB1.out (by simp;omega) hs).mono ?_;rintro e w1 ⟨rfl,hb1⟩;rw [wG.out];have HB2:=dw hb1;clear hb1;have c0:=(dH HB2.out w.heap.size 0 (by simp)).trans (kE.out 0);have c1:=(dH HB2.out w.heap.size 1 (by simp)).trans (kE.out 1);have c2:=(dH HB2.out w.heap.size 2 (by simp)).trans (kE.out 2);have c3:=(dH HB2.out w.heap.size 3 (by simp)).trans (kE.out 3))
    |(go_at_call 43;refine (Lo.Jh iy.out (HB1.out.keep λb o h=>dH HB2.out b o (by simp;omega)) (by have :=HB2.out.size;simp at this;omega) hg (-1) (by omega) HH.out).mono ?_;rintro e w2 ⟨rfl,hb2⟩))
   go_ret2
   show qa _ _ _ _;unfold qa;rw [aa (by rw [wG.out];simp),aa (by rw [HH.out];simp)];exact ⟨(((di _ _).alloc (aJ _) _).trans (HB2.out.mono (by simp))).trans (hb2.mono (by have :=HB2.out.size;simp at this;omega)),rfl⟩
  |true=>
   have HH:=dw hho;clear hho;rw [aa (by omega),aH] at hw1;have hn8:=hg.n8;have ag1:=hg.p12;go_enter Lo.get Tryz.func20,Tryz.ntmps20
   go_wp2_with (first
    |(go_at_call 17;refine (Lo.gV iy.out HB1.out (by simp;omega) hs).mono ?_;rintro e w1 ⟨rfl,hb1⟩;rw [wG.out];have HB2:=dw hb1;clear hb1;have c0:=(dH HB2.out w.heap.size 0 (by simp)).trans (kE.out 0);have c1:=(dH HB2.out w.heap.size 1 (by simp)).trans (kE.out 1);have c2:=(dH HB2.out w.heap.size 2 (by simp)).trans (kE.out 2);have c3:=(dH HB2.out w.heap.size 3 (by simp)).trans (kE.out 3))
    |(go_at_call 43;refine (Lo.vJ iy.out (HB1.out.keep λb o h=>dH HB2.out b o (by simp;omega)) (by have :=HB2.out.size;simp at this;omega) hg (-1) (by omega) HH.out).mono ?_;rintro e w2 ⟨A,cap,rfl,hcap,hr,hb2⟩;rw [hw1];rw [hw1] at hcap hr;have HR:=dw (hr _ (aJ _));have HB3:=dw hb2;clear hr;have k1:=(dH hb2 w.heap.size 1 (by have :=HB2.out.size;simp at this;omega)).trans c1;have k2:=(dH hb2 w.heap.size 2 (by have :=HB2.out.size;simp at this;omega)).trans c2;clear hb2))
   have hbe:Below w.heap.size w w2:=(((di _ _).alloc (aJ _) _).trans (HB2.out.mono (by simp))).trans (HB3.out.mono (by have :=HB2.out.size;simp at this;omega));have szw:w.heap.size+1<=w2.heap.size:=by have :=HB2.out.size;have :=HB3.out.size;simp at *;omega
   have I8:=dw hbe;have hol:(p8 b).length=2*(b.dz.length+2*b.steps.length):=(pV _ _).trans (by rw [hw1]);generalize hos:mG (fA b (-1)) (dZ b (-1))=os at HR hol;have HOS:=dw hos;clear hbe HB3 HB2 HB1 kE c0 c1 c2 c3 hos
   go_loopw [7,25] (λv i wr=>∃k:Nat,k<=b.steps.length∧i= .int .i64 (k:Int)∧wr.ownsRow w2.heap.size 51 2 v k (gW (qU os b.dz.length k))∧Par.dU wr v∧Below w2.heap.size w2 wr) (λ_ i _=>b.steps.length - (intOf i).toNat)
   case atStart=>exact ⟨0,bg _,rfl,by simpa [qU,gW] using World.ownsRow_nil w2 w2.heap.size 51 2,Par.dU.nil _,di _ _⟩
   case round=>
    obtain ⟨k,hk,rfl,hown,hpl,hb⟩:=hrel;have HP:=dw hpl;clear hpl
    by_cases hlt:k<b.steps.length
    ·have hlt':(k:Int)<(b.steps.length:Int):=by omega
     obtain ⟨bb,off,rfl,hbb,hc⟩:=(HR.out.below hb) (by omega);have g0:wr.cell? ⟨bb,off+(b.dz.length+2*k+1)*2,none⟩=some (.int .i64 ((os[2*(b.dz.length+2*k+1)+0]?).getD 0)):=hc (b.dz.length+2*k+1) 0 (by omega) (by omega);have g1:wr.cell? ⟨bb,off+(b.dz.length+2*k+1)*2+1,none⟩=some (.int .i64 ((os[2*(b.dz.length+2*k+1)+1]?).getD 0)):=hc (b.dz.length+2*k+1) 1 (by omega) (by omega);have hin:qU os b.dz.length (k+1)=qU os b.dz.length k++ [(os[2*(b.dz.length+2*k+1)+0]?).getD 0,(os[2*(b.dz.length+2*k+1)+1]?).getD 0]:=rfl;generalize (os[2*(b.dz.length+2*k+1)+0]?).getD 0=y0 at g0 hin;generalize (os[2*(b.dz.length+2*k+1)+1]?).getD 0=y1 at g1 hin;have e0:wr.cell? ⟨bb,off+(b.dz.length+2*k+1)*2,none⟩=some (.int .i64 y0):=g0;have e1:wr.cell? ⟨bb,off+(b.dz.length+2*k+1)*2+1,none⟩=some (.int .i64 y1):=g1;have d1:wr.cell? ⟨w.heap.size,1,none⟩=some (.slice ap b.dz.length cp):=(dH hb _ _ (by omega)).trans k1;have Yw:=hb.size;have HB:=dw hb;have HI:=dw hin;clear hb hc hin g0 g1
     go_wp2_with (first
      |(at_builtin;refine Par.fZ rfl _ _ 29 rfl w2.heap.size 51 i0 (.agg #[.int .i64 0,.int .i64 0]) 2 16 Lo.WS hi hz0 hz1 hz2 rfl (by decide) _ _ _ rfl (hown.alloc _) ⟨wr.heap.size,0,none⟩ 1 1 [.int .i64 y0,.int .i64 y1] rfl rfl ?c1 ?c2 ?c3 ?c4 ?c5 (HP.out.alloc _) ?c6 ?c7 ?_)
      |go_in)
     case c1=>
      intro j u hj
      match j,hj with
      |0,hj=>simp at hj;subst hj;simp [Addr.add]
      |1,hj=>simp at hj;subst hj;simp [Addr.add]
     case c2=>intro u hu;simp at hu;rcases hu with rfl|rfl<;>rfl
     case c3=>unfold maxLen;omega
     case c4=>omega
     case c5=>simp;omega
     case c6=>intro u hu;simp at hu;rcases hu with rfl|rfl<;>rfl
     case c7=>intro u hu;simp [Value.cells] at hu;subst hu;rfl
     intro v' w3 hown' hgrow _ hp';have Rw:=dw hp';clear hp';have R:=dw ((HB.out.alloc Yw _).grown hgrow (by simp;omega) (λj hj=>(hown.lt j hj).1));have RO:=dw hown';clear hown' hgrow hown HB;go_wp2;go_roundw
     case rel=>exact ⟨k+1,by omega,by go_num,by rw [HI.out];simpa [gW] using RO.out,Rw.out,R.out⟩
     case measure=>simp [intOf];omega
    ·obtain rfl:k=b.steps.length:=by omega
     obtain ⟨A2,cap2,rfl,_,hr2⟩:=ownsRow.rd (B:=wr.heap.size) (f:= λi j=>.int .i64 (((qU os b.dz.length b.steps.length)[2*i+j]?).getD 0)) hown (λi j hi hj=>uU _ (Dk _ _ _) hi hj);have HR2:=dw (hr2 _ (aJ _) (aJ _));clear hr2 hown;go_wp2
     go_ret2
     show qa _ _ _ _;unfold qa;rw [aa (by rw [wG.out];simp),aj HH.out];refine ⟨I8.out.trans (hb.mono (by omega)),_,_,rfl,?_,HP.out⟩;show jR wr _ _ (qU (mG (fA b (-1)) (dZ b (-1))) _ _);rw [HOS.out];exact HR2.out
 ·have wG:=dw hcf;clear hcf;generalize hcx:fG b=cx at wG;have RZ:=dw hcx;have hne:¬cx=0:=wG.out;clear hcx;go_enter Lo.get Tryz.func20,Tryz.ntmps20
  go_wp2_with (go_at_call 17;refine (Lo.gV iy.out HB1.out (by simp;omega) hs).mono ?_;rintro e w1 ⟨rfl,hb1⟩;rw [RZ.out];have HB2:=dw hb1;clear hb1)
  go_ret2
  show qa _ _ _ _;unfold qa;rw [RZ.out,aj hne];exact ⟨((di _ _).alloc (aJ _) _).trans (HB2.out.mono (by simp)),rfl⟩
end
section
variable [Lo.St]
theorem Lo.R3:Lo.prog.underlying 35=some (.slice 38):=(Lo.underlying 35).trans (by kernel_rfl)
theorem Lo.YI:(Lo.prog.info? 38).map (λi=>(i.zero,i.size,i.bytes))=some (some (.int .i64 0),1,8):=by
 rw [Lo.info];kernel_rfl
def nU (lo hi limit:Int):Int:=if limit<lo then 1 else if hi<=limit then 2 else 0
abbrev zS (b:dO) (h:Nat):List Int:=mG (fA b h) (dZ b h)
def oG (b:dO) (limit:Int):Nat->List Int
 |0=>[]
 |h+1=>oG b limit h++ [nU (((zS b h)[2*(b.dz.length+2*b.steps.length)+0]?).getD 0) (((zS b h)[2*(b.dz.length+2*b.steps.length)+1]?).getD 0) limit]
theorem uV (b:dO) (limit:Int):∀h,(oG b limit h).length=h
 |0=>rfl
 |h+1=>by unfold oG;rw [List.length_append,uV b limit h];rfl
abbrev zT (b:dO) (limit:Int):List Int:=oG b limit b.dJ.length
def kz (w:World) (b:dO) (limit:Int) (e:Ending) (w':World):Prop:=
 Below w.heap.size w w'∧
 if fG b≠0 then e= .returned (.tuple #[.slice none 0 0,.int .i64 (fG b)])
 else if kH limit 0 1000000=false then e= .returned (.tuple #[.slice none 0 0,.int .i64 1])
 else if qR b=true then ∃A cap,e= .returned (.tuple #[.slice A b.dJ.length cap,.int .i64 0])∧xJ w' w'.heap.size A (zT b limit)∧Par.dU w' (.slice A b.dJ.length cap)
 else e= .returned (.tuple #[.slice none 0 0,.int .i64 9])
theorem Ji (o:List Int) {i:Nat} (hi:i<o.length):(gW o)[i*1+0]?=some (.int .i64 ((o[i]?).getD 0)):=by
 rw [Nat.mul_one,aH];exact sW o hi
theorem Gt {b:dO} (h:fG b=0):b.dJ.length<=4:=tY (EP h).1
theorem Lo.O0 {w:World} {B:Nat} {b:dO} {v:gJ} {x:Value} (hx:x=dY b v) (hb:fC w B b v) (hB:B<=w.heap.size) (hs:b.small) (limit:Int) (YJ:fG b=0->qR b=true->∀h:Nat,h<b.dJ.length->gN (fA b h) (dZ b h)=true):
 Calls Lo.prog 22 #[x,.int .i64 limit] w (kz w b limit):=by
 obtain ⟨U,U2,U3,U4,U5,U6⟩:=Lo.facts;subst hx;have hbv:Value.agg #[.slice v.ah b.dJ.length v.ch,.slice v.ap b.dz.length v.cp,.slice v.iT b.steps.length v.cs,.slice v.ac b.dA.length v.cc]=dY b v:=rfl;rw [<-hbv];have hb1:fC (w.alloc (.cells #[.slice v.ah b.dJ.length v.ch,.slice v.ap b.dz.length v.cp,.slice v.iT b.steps.length v.cs,.slice v.ac b.dA.length v.cc] 26)) B b v:=hb.keep λb o h=>dh _ _ _ (by show b<w.heap.size;omega)
 have hcb:∀j:Nat,(w.alloc (.cells #[.slice v.ah b.dJ.length v.ch,.slice v.ap b.dz.length v.cp,.slice v.iT b.steps.length v.cs,.slice v.ac b.dA.length v.cc] 26)).cell? ⟨w.heap.size,j,none⟩=(#[Value.slice v.ah b.dJ.length v.ch,.slice v.ap b.dz.length v.cp,.slice v.iT b.steps.length v.cs,.slice v.ac b.dA.length v.cc]:Array Value)[j]?:= λj=>by rw [cO _ _ _ _ rfl]
 have iy:=dw hbv;have HB1:=dw hb1;have kE:=dw hcb;clear hbv hb1 hb hcb;generalize v.ah=ah at iy HB1 kE ⊢;generalize v.ch=ch at iy HB1 kE ⊢;generalize v.ap=ap at iy HB1 kE ⊢;generalize v.cp=cp at iy HB1 kE ⊢;generalize v.iT=iT at iy HB1 kE ⊢;generalize v.cs=cs at iy HB1 kE ⊢;generalize v.ac=ac at iy HB1 kE ⊢;generalize v.cc=cc at iy HB1 kE ⊢;have C:=Lo.call Tryz.func17;have C2:=Lo.call Tryz.func43;have C3:=Lo.call Tryz.func49;have C4:=Lo.call Tryz.func56;have C5:=Lo.call Tryz.func57;obtain ⟨i0,hi,hz0,hz1,hz2⟩:=info_parts Lo.YI
 by_cases hcf:fG b=0
 ·have hg:=lM hs hcf;have hnh:=Gt hcf;have ag7:=YJ hcf;clear YJ;have HH2:=dw ag7;have wG:=dw hcf;clear hcf ag7;cases hbt:kH limit 0 1000000 with
  |false=>
   have zk:=dw hbt;clear hbt;go_enter Lo.get Tryz.func22,Tryz.ntmps22
   go_wp2_with (first
    |(go_at_call 17;refine (Lo.gV iy.out HB1.out (by simp;omega) hs).mono ?_;rintro e w1 ⟨rfl,hb1⟩;rw [wG.out];have HB2:=dw hb1;clear hb1)
    |(go_at_call 49;refine (Lo.eB _ _ _ _).mono ?_;rintro e w2 ⟨rfl,rfl⟩;rw [zk.out]))
   go_ret2
   show kz _ _ _ _ _;unfold kz;rw [aa (by rw [wG.out];simp),aj zk.out];exact ⟨((di _ _).alloc (aJ _) _).trans (HB2.out.mono (by simp)),rfl⟩
  |true=>
   have zk:=dw hbt;clear hbt;have hnd:=Dh b (-1) hg;cases hho:qR b with
   |false=>
    have HH:=dw (show gN (fA b (-1)) (dZ b (-1))=false from hho);clear hho;go_enter Lo.get Tryz.func22,Tryz.ntmps22
    go_wp2_with (first
     |(go_at_call 17;refine (Lo.gV iy.out HB1.out (by simp;omega) hs).mono ?_;rintro e w1 ⟨rfl,hb1⟩;rw [wG.out];have HB2:=dw hb1;clear hb1;have c0:=(dH HB2.out w.heap.size 0 (by simp)).trans (kE.out 0);have c1:=(dH HB2.out w.heap.size 1 (by simp)).trans (kE.out 1);have c2:=(dH HB2.out w.heap.size 2 (by simp)).trans (kE.out 2);have c3:=(dH HB2.out w.heap.size 3 (by simp)).trans (kE.out 3))
     |(go_at_call 49;refine (Lo.eB _ _ _ _).mono ?_;rintro e w2 ⟨rfl,rfl⟩;rw [zk.out])
     |(go_at_call 56;refine (Lo.vH iy.out (HB1.out.keep λb o h=>dH HB2.out b o (by simp;omega)) (by have :=HB2.out.size;simp at this;omega) hg (-1) (by omega)).mono ?_;rintro e w3 ⟨bw,A,cap,rfl,hw,hb3⟩;have HW:=dw hw;have HB3:=dw hb3;clear hw hb3)
     |(go_at_call 57;refine (Lo.oK HW.out (aJ _) hnd).mono ?_;rintro e w4 ⟨rfl,hb4⟩;rw [HH.out]))
    go_ret2
    show kz _ _ _ _ _;unfold kz;rw [aa (by rw [wG.out];simp),aa (by rw [zk.out];simp),aa (by show ¬gN (fA b (-1)) (dZ b (-1))=true;rw [HH.out];simp)];have s2:=HB2.out.size;have s3:=HB3.out.size;simp at s2;exact ⟨((((di _ _).alloc (aJ _) _).trans (HB2.out.mono (by simp))).trans (HB3.out.mono (by omega))).trans (hb4.mono (by omega)),rfl⟩
   |true=>
    have HH:=dw (show gN (fA b (-1)) (dZ b (-1))=true from hho);clear hho;have hn8:=hg.n8;have ag1:=hg.p12;go_enter Lo.get Tryz.func22,Tryz.ntmps22
    go_wp2_with (first
     |(go_at_call 17;refine (Lo.gV iy.out HB1.out (by simp;omega) hs).mono ?_;rintro e w1 ⟨rfl,hb1⟩;rw [wG.out];have HB2:=dw hb1;clear hb1;have c0:=(dH HB2.out w.heap.size 0 (by simp)).trans (kE.out 0);have c1:=(dH HB2.out w.heap.size 1 (by simp)).trans (kE.out 1);have c2:=(dH HB2.out w.heap.size 2 (by simp)).trans (kE.out 2);have c3:=(dH HB2.out w.heap.size 3 (by simp)).trans (kE.out 3))
     |(go_at_call 49;refine (Lo.eB _ _ _ _).mono ?_;rintro e w2 ⟨rfl,rfl⟩;rw [zk.out])
     |(go_at_call 56;refine (Lo.vH iy.out (HB1.out.keep λb o h=>dH HB2.out b o (by simp;omega)) (by have :=HB2.out.size;simp at this;omega) hg (-1) (by omega)).mono ?_;rintro e w3 ⟨bw,A,cap,rfl,hw,hb3⟩;have HW:=dw hw;have HB3:=dw hb3;clear hw hb3)
     |(go_at_call 57;refine (Lo.oK HW.out (aJ _) hnd).mono ?_;rintro e w4 ⟨rfl,hb4⟩;rw [HH.out];have vR:=dw (HB2.out.trans ((HB3.out.mono HB2.out.size).trans (hb4.mono (aS HB2.out.size HB3.out.size))));clear hb4;have d0:=(dH vR.out w.heap.size 0 (by simp)).trans (kE.out 0)))
    have hbe:Below w.heap.size w w4:=((di _ _).alloc (aJ _) _).trans (vR.out.mono (by simp));have szw:w.heap.size+1<=w4.heap.size:=by have :=vR.out.size;simp at this;omega
    have hbk:fC w4 B b v:=HB1.out.keep λb o h=>dH vR.out b o (by simp;omega)
    have hcb:∀j:Nat,w4.cell? ⟨w.heap.size,j,none⟩=(#[Value.slice ah b.dJ.length ch,.slice ap b.dz.length cp,.slice iT b.steps.length cs,.slice ac b.dA.length cc]:Array Value)[j]?:= λj=>(dH vR.out w.heap.size j (by simp)).trans (kE.out j)
    have I8:=dw hbe;have vG:=dw hbk;have HCK:=dw hcb;clear hbe HB2 HB1 kE HB3 vR HW c0 c1 c2 c3 hbk hcb
    go_loopw [7,28] (λu i wr=>∃k:Nat,k<=b.dJ.length∧i= .int .i64 (k:Int)∧wr.ownsRow w4.heap.size 38 1 u k (gW (oG b limit k))∧Par.dU wr u∧Below w4.heap.size w4 wr) (λ_ i _=>b.dJ.length - (intOf i).toNat)
    case atStart=>exact ⟨0,bg _,rfl,by simpa [oG,gW] using World.ownsRow_nil w4 w4.heap.size 38 1,Par.dU.nil _,di _ _⟩
    case round=>
     obtain ⟨k,hk,rfl,hown,hpl,hb⟩:=hrel;have HP:=dw hpl;have HO:=dw hown;have HB:=dw hb;clear hpl hown hb
     by_cases hlt:k<b.dJ.length
     ·have hlt':(k:Int)<(b.dJ.length:Int):=by omega
      have hwl:=yR b k;rw [aj (by omega)] at hwl;have e0:=(dH HB.out w.heap.size 0 (by omega)).trans (HCK.out 0);have e1:=(dH HB.out w.heap.size 1 (by omega)).trans (HCK.out 1);have e2:=(dH HB.out w.heap.size 2 (by omega)).trans (HCK.out 2);have e3:=(dH HB.out w.heap.size 3 (by omega)).trans (HCK.out 3);have Yw:=HB.out.size;have hj:oG b limit (k+1)=oG b limit k++ [nU (((zS b k)[2*(b.dz.length+2*b.steps.length)+0]?).getD 0) (((zS b k)[2*(b.dz.length+2*b.steps.length)+1]?).getD 0) limit]:=rfl;generalize hy0:((zS b k)[2*(b.dz.length+2*b.steps.length)+0]?).getD 0=y0 at hj;generalize hy1:((zS b k)[2*(b.dz.length+2*b.steps.length)+1]?).getD 0=y1 at hj;have Y0:=dw hy0;have Y1:=dw hy1;have HJ:=dw hj;clear hj hy0 hy1
      by_cases q0:limit<y0
      ·have hq:nU y0 y1 limit=1:=by unfold nU;rw [aj q0]
       have HQ:=dw hq;clear hq
       go_wp2_with (first
        |(go_at_call 43;refine (Lo.vJ iy.out (vG.out.keep λb o h=>dH HB.out b o (by omega)) (by omega) hg k (by omega) (HH2.out HH.out k hlt)).mono ?_;rintro e w5 ⟨A5,cap5,rfl,hcap,hr,hb5⟩;rw [hwl];rw [hwl] at hr;have hr:=hr _ (aJ _);obtain ⟨bb,off,rfl,hbb,hc⟩:=hr (by omega);have g0:w5.cell? ⟨bb,off+(b.dz.length+2*b.steps.length)*2,none⟩=some (.int .i64 y0):=by rw [<-Y0.out];exact hc (b.dz.length+2*b.steps.length) 0 (by omega) (by omega)
          have g1:w5.cell? ⟨bb,off+(b.dz.length+2*b.steps.length)*2+1,none⟩=some (.int .i64 y1):=by rw [<-Y1.out];exact hc (b.dz.length+2*b.steps.length) 1 (by omega) (by omega)
          have s5:wr.heap.size<=w5.heap.size:=hb5.size;have D6:=dw hb5;clear hb5 hc hr)
        |(at_builtin;refine Par.fZ rfl _ _ 35 rfl w4.heap.size 38 i0 (.int .i64 0) 1 8 Lo.R3 hi hz0 hz1 hz2 rfl (by decide) _ _ _ rfl (((ownsRow.below HO.out D6.out).alloc _).alloc _) ⟨w5.heap.size+1,0,none⟩ 1 1 [.int .i64 1] rfl rfl (by intro j u hj;match j,hj with |0,hj=>simp at hj;subst hj;simp [Addr.add]) (by intro u hu;simp at hu;subst hu;rfl) (by unfold maxLen;omega) (by omega) (by simp;omega) (((HP.out.keep λg hg=>D6.out.block g (HO.out.lt g hg).2).alloc _).alloc _) (by intro u hu;simp at hu;subst hu;rfl) (by intro u hu;simp [Value.cells] at hu;subst hu;rfl) ?_
          intro v' w6 hown' hgrow _ hp';have Rw:=dw hp';have Vj:=dw hown';have HG:=dw hgrow;clear hp' hown' hgrow)
        |go_in)
       go_roundw
       case rel=>exact ⟨k+1,by omega,by go_num,by rw [HJ.out,HQ.out];simpa [gW] using Vj.out,Rw.out,(((HB.out.trans (D6.out.mono (by omega))).alloc (by omega) _).alloc (by simp;omega) _).grown HG.out (by simp;omega) (λj hj=>(HO.out.lt j hj).1)⟩
       case measure=>simp [intOf];omega
      ·by_cases q1:y1<=limit
       ·have hq:nU y0 y1 limit=2:=by unfold nU;rw [aa q0,aj q1]
        have HQ:=dw hq;clear hq
        go_wp2_with (first
         |(go_at_call 43;refine (Lo.vJ iy.out (vG.out.keep λb o h=>dH HB.out b o (by omega)) (by omega) hg k (by omega) (HH2.out HH.out k hlt)).mono ?_;rintro e w5 ⟨A5,cap5,rfl,hcap,hr,hb5⟩;rw [hwl];rw [hwl] at hr;have hr:=hr _ (aJ _);obtain ⟨bb,off,rfl,hbb,hc⟩:=hr (by omega);have g0:w5.cell? ⟨bb,off+(b.dz.length+2*b.steps.length)*2,none⟩=some (.int .i64 y0):=by rw [<-Y0.out];exact hc (b.dz.length+2*b.steps.length) 0 (by omega) (by omega)
           have g1:w5.cell? ⟨bb,off+(b.dz.length+2*b.steps.length)*2+1,none⟩=some (.int .i64 y1):=by rw [<-Y1.out];exact hc (b.dz.length+2*b.steps.length) 1 (by omega) (by omega)
           have s5:wr.heap.size<=w5.heap.size:=hb5.size;have D6:=dw hb5;clear hb5 hc hr)
         |(at_builtin;refine Par.fZ rfl _ _ 35 rfl w4.heap.size 38 i0 (.int .i64 0) 1 8 Lo.R3 hi hz0 hz1 hz2 rfl (by decide) _ _ _ rfl (((ownsRow.below HO.out D6.out).alloc _).alloc _) ⟨w5.heap.size+1,0,none⟩ 1 1 [.int .i64 2] rfl rfl (by intro j u hj;match j,hj with |0,hj=>simp at hj;subst hj;simp [Addr.add]) (by intro u hu;simp at hu;subst hu;rfl) (by unfold maxLen;omega) (by omega) (by simp;omega) (((HP.out.keep λg hg=>D6.out.block g (HO.out.lt g hg).2).alloc _).alloc _) (by intro u hu;simp at hu;subst hu;rfl) (by intro u hu;simp [Value.cells] at hu;subst hu;rfl) ?_
           intro v' w6 hown' hgrow _ hp';have Rw:=dw hp';have Vj:=dw hown';have HG:=dw hgrow;clear hp' hown' hgrow)
         |go_in)
        go_roundw
        case rel=>exact ⟨k+1,by omega,by go_num,by rw [HJ.out,HQ.out];simpa [gW] using Vj.out,Rw.out,(((HB.out.trans (D6.out.mono (by omega))).alloc (by omega) _).alloc (by simp;omega) _).grown HG.out (by simp;omega) (λj hj=>(HO.out.lt j hj).1)⟩
        case measure=>simp [intOf];omega
       ·have hq:nU y0 y1 limit=0:=by unfold nU;rw [aa q0,aa q1]
        have HQ:=dw hq;clear hq
        go_wp2_with (first
         |(go_at_call 43;refine (Lo.vJ iy.out (vG.out.keep λb o h=>dH HB.out b o (by omega)) (by omega) hg k (by omega) (HH2.out HH.out k hlt)).mono ?_;rintro e w5 ⟨A5,cap5,rfl,hcap,hr,hb5⟩;rw [hwl];rw [hwl] at hr;have hr:=hr _ (aJ _);obtain ⟨bb,off,rfl,hbb,hc⟩:=hr (by omega);have g0:w5.cell? ⟨bb,off+(b.dz.length+2*b.steps.length)*2,none⟩=some (.int .i64 y0):=by rw [<-Y0.out];exact hc (b.dz.length+2*b.steps.length) 0 (by omega) (by omega)
           have g1:w5.cell? ⟨bb,off+(b.dz.length+2*b.steps.length)*2+1,none⟩=some (.int .i64 y1):=by rw [<-Y1.out];exact hc (b.dz.length+2*b.steps.length) 1 (by omega) (by omega)
           have s5:wr.heap.size<=w5.heap.size:=hb5.size;have D6:=dw hb5;clear hb5 hc hr)
         |(at_builtin;refine Par.fZ rfl _ _ 35 rfl w4.heap.size 38 i0 (.int .i64 0) 1 8 Lo.R3 hi hz0 hz1 hz2 rfl (by decide) _ _ _ rfl (((ownsRow.below HO.out D6.out).alloc _).alloc _) ⟨w5.heap.size+1,0,none⟩ 1 1 [.int .i64 0] rfl rfl (by intro j u hj;match j,hj with |0,hj=>simp at hj;subst hj;simp [Addr.add]) (by intro u hu;simp at hu;subst hu;rfl) (by unfold maxLen;omega) (by omega) (by simp;omega) (((HP.out.keep λg hg=>D6.out.block g (HO.out.lt g hg).2).alloc _).alloc _) (by intro u hu;simp at hu;subst hu;rfl) (by intro u hu;simp [Value.cells] at hu;subst hu;rfl) ?_
           intro v' w6 hown' hgrow _ hp';have Rw:=dw hp';have Vj:=dw hown';have HG:=dw hgrow;clear hp' hown' hgrow)
         |go_in)
        go_roundw
        case rel=>exact ⟨k+1,by omega,by go_num,by rw [HJ.out,HQ.out];simpa [gW] using Vj.out,Rw.out,(((HB.out.trans (D6.out.mono (by omega))).alloc (by omega) _).alloc (by simp;omega) _).grown HG.out (by simp;omega) (λj hj=>(HO.out.lt j hj).1)⟩
        case measure=>simp [intOf];omega
     ·obtain rfl:k=b.dJ.length:=by omega
      obtain ⟨A2,cap2,rfl,_,hr2⟩:=ownsRow.rd (B:=wr.heap.size) (f:= λi _=>.int .i64 (((oG b limit b.dJ.length)[i]?).getD 0)) HO.out (λi j hi hj=>(show j=0 by omega) ▸ Ji _ (by rw [uV];exact hi));have HR2:=dw (hr2 _ (aJ _) (aJ _));clear hr2;go_wp2
      go_ret2
      show kz _ _ _ _ _;unfold kz;rw [aa (by rw [wG.out];simp),aa (by rw [zk.out];simp),aj HH.out];refine ⟨I8.out.trans (HB.out.mono (by omega)),_,_,rfl,?_,HP.out⟩;have :=HR2.out;unfold xJ;rw [uV];exact this
 ·have wG:=dw hcf;clear hcf;generalize hcx:fG b=cx at wG;have RZ:=dw hcx;have hne:¬cx=0:=wG.out;clear hcx YJ;go_enter Lo.get Tryz.func22,Tryz.ntmps22
  go_wp2_with (go_at_call 17;refine (Lo.gV iy.out HB1.out (by simp;omega) hs).mono ?_;rintro e w1 ⟨rfl,hb1⟩;rw [RZ.out];have HB2:=dw hb1;clear hb1)
  go_ret2
  show kz _ _ _ _ _;unfold kz;rw [RZ.out,aj hne];exact ⟨((di _ _).alloc (aJ _) _).trans (HB2.out.mono (by simp)),rfl⟩
end
section
variable [Lo.St]
def Be (b:dO) (k:Nat):dO:={ b with dA:=b.dA.take k }
def rV (b:dO):Nat->Nat->Int
 |0,_=> -1
 |f+1,k=>if qR (Be b k)=false then (k:Int) - 1 else rV b f (k+1)
def Gv (b:dO):Int:=rV b (b.dA.length+1) 0
theorem YK {w:World} {B:Nat} {b:dO} {v:gJ} (h:fC w B b v) (k:Nat) (hk:k<=b.dA.length):fC w B (Be b k) v:=by
 have e:(b.dA.take k).length=k:=by rw [List.length_take];omega
 refine ⟨h.dJ,h.dz,h.steps,h.ins,h.outs, λhn=>?_,h.lh,h.lp,h.ls,by have :=h.lc;show (b.dA.take k).length<=_;omega⟩;have hn:0<(b.dA.take k).length:=hn;obtain ⟨bb,off,e1,h1,h2⟩:=h.dA (by omega);refine ⟨bb,off,e1,h1, λi j hi hj=>?_⟩;have hi:i<(b.dA.take k).length:=hi;rw [h2 i j (by omega) hj];show _=some (vD (b.dA.take k) i j);unfold vD;rw [List.getElem?_take_of_lt (by omega)]
theorem R5 {b:dO} (h:b.good) (k:Nat):(Be b k).good:=
 ⟨⟨h.dJ,h.dz,h.steps,by have :=h.dA;show (b.dA.take k).length<=64;rw [List.length_take];omega,h.ins,h.outs⟩,h.n8,h.p12, λs hs=>h.sc s (bE hs),h.st,h.ki,h.ko⟩
theorem Vo {w:World} {b:Nat} {x y z u:Value} {t:TypeId} (h:w.heap[b]?=some (.cells #[x,y,z,u] t)):w.cell? ⟨b,0,none⟩=some x∧w.cell? ⟨b,1,none⟩=some y∧w.cell? ⟨b,2,none⟩=some z∧w.cell? ⟨b,3,none⟩=some u∧w.frozen? ⟨b,3,none⟩=false:=by
 unfold World.cell? World.frozen?;simp only [h];exact ⟨rfl,rfl,rfl,rfl,rfl⟩
theorem O1 {w:World} {b:Nat} {x y z u u':Value} {t:TypeId} (h:w.heap[b]?=some (.cells #[x,y,z,u] t)):(w.setCell ⟨b,3,none⟩ u').heap[b]?=some (.cells #[x,y,z,u'] t):=heap_setCell_same w b 3 _ _ u' h
def nC (w:World) (b:dO) (e:Ending) (w':World):Prop:=
 Below w.heap.size w w'∧if fG b≠0 then e= .returned (.tuple #[.int .i64 0,.int .i64 (fG b)]) else e= .returned (.tuple #[.int .i64 (Gv b),.int .i64 0])
theorem Lo.O3 {w:World} {B:Nat} {b:dO} {v:gJ} {x:Value} (hx:x=dY b v) (hb:fC w B b v) (hB:B<=w.heap.size) (hs:b.small):
 Calls Lo.prog 24 #[x] w (nC w b):=by
 have hb0:=hb;have hlc:b.dA.length<=v.cc:=hb.lc
 have R6:∀k,k<=b.dA.length->Value.agg #[.slice v.ah b.dJ.length v.ch,.slice v.ap b.dz.length v.cp,.slice v.iT b.steps.length v.cs,.slice v.ac k v.cc]=dY (Be b k) v:= λk hk=>by
  unfold dY Be;rw [List.length_take,Nat.min_eq_left hk]
 have vG:=dw R6;have HB0:=dw hb0;clear hb0 R6;obtain ⟨U,U2,U3,U4,U5,U6⟩:=Lo.facts;subst hx;have hbv:Value.agg #[.slice v.ah b.dJ.length v.ch,.slice v.ap b.dz.length v.cp,.slice v.iT b.steps.length v.cs,.slice v.ac b.dA.length v.cc]=dY b v:=rfl;rw [<-hbv];have hb1:fC (w.alloc (.cells #[.slice v.ah b.dJ.length v.ch,.slice v.ap b.dz.length v.cp,.slice v.iT b.steps.length v.cs,.slice v.ac b.dA.length v.cc] 26)) B b v:=hb.keep λb o h=>dh _ _ _ (by show b<w.heap.size;omega)
 have hcb:∀j:Nat,(w.alloc (.cells #[.slice v.ah b.dJ.length v.ch,.slice v.ap b.dz.length v.cp,.slice v.iT b.steps.length v.cs,.slice v.ac b.dA.length v.cc] 26)).cell? ⟨w.heap.size,j,none⟩=(#[Value.slice v.ah b.dJ.length v.ch,.slice v.ap b.dz.length v.cp,.slice v.iT b.steps.length v.cs,.slice v.ac b.dA.length v.cc]:Array Value)[j]?:= λj=>by rw [cO _ _ _ _ rfl]
 have iy:=dw hbv;have HB1:=dw hb1;have kE:=dw hcb;clear hbv hb1 hb hcb;generalize v.ah=ah at iy HB1 kE vG hlc ⊢;generalize v.ch=ch at iy HB1 kE vG hlc ⊢;generalize v.ap=ap at iy HB1 kE vG hlc ⊢;generalize v.cp=cp at iy HB1 kE vG hlc ⊢;generalize v.iT=iT at iy HB1 kE vG hlc ⊢;generalize v.cs=cs at iy HB1 kE vG hlc ⊢;generalize v.ac=ac at iy HB1 kE vG hlc ⊢;generalize v.cc=cc at iy HB1 kE vG hlc ⊢;have C:=Lo.call Tryz.func17;have C2:=Lo.call Tryz.func56;have C3:=Lo.call Tryz.func57;have hl4:=hs.dA
 by_cases hcf:fG b=0
 ·have hg:=lM hs hcf;have wG:=dw hcf;clear hcf;go_enter Lo.get Tryz.func24,Tryz.ntmps24
  go_wp2_with (go_at_call 17;refine (Lo.gV iy.out HB1.out (by simp;omega) hs).mono ?_;rintro e w1 ⟨rfl,hb1⟩;rw [wG.out];have HB2:=dw hb1;clear hb1;have c0:=(dH HB2.out w.heap.size 0 (by simp)).trans (kE.out 0);have c1:=(dH HB2.out w.heap.size 1 (by simp)).trans (kE.out 1);have c2:=(dH HB2.out w.heap.size 2 (by simp)).trans (kE.out 2);have c3:=(dH HB2.out w.heap.size 3 (by simp)).trans (kE.out 3))
  have hbx:w1.heap[w.heap.size]?=some (.cells #[.slice ah b.dJ.length ch,.slice ap b.dz.length cp,.slice iT b.steps.length cs,.slice ac b.dA.length cc] 26):=(HB2.out.block _ (by simp)).trans (heap_alloc_new w _)
  have hbe:Below w.heap.size w w1:=((di _ _).alloc (aJ _) _).trans (HB2.out.mono (by simp));have szw:w.heap.size+1<=w1.heap.size:=by have :=HB2.out.size;simp at this;omega
  have HX:=dw hbx;have I8:=dw hbe;clear hbx hbe HB2 HB1 kE iy c0 c1 c2 c3
  go_loopw [17] (λi wr=>∃k:Nat,∃x,k<=b.dA.length+1∧i= .int .i64 (k:Int)∧wr.heap[w.heap.size]?=some (.cells #[.slice ah b.dJ.length ch,.slice ap b.dz.length cp,.slice iT b.steps.length cs,x] 26)∧Below w.heap.size w wr∧w.heap.size+1<=wr.heap.size∧rV b (b.dA.length+1 - k) k=Gv b) (λi _=>b.dA.length+1 - (intOf i).toNat)
  case atStart=>exact ⟨0,_,bg _,rfl,HX.out,I8.out,szw,rfl⟩
  case round=>
   obtain ⟨k,x,hk,rfl,hbx,hb,hsz,wK⟩:=hrel
   by_cases hlt:k<b.dA.length+1
   ·have hlt':(k:Int)<(b.dA.length:Int)+1:=by omega
    have hkn:k<=b.dA.length:=by omega
    have hkc:k<=cc:=by omega
    have hd:rV b (b.dA.length+1 - k) k=if qR (Be b k)=false then (k:Int) - 1 else rV b (b.dA.length+1 - (k+1)) (k+1):=by
     rw [show b.dA.length+1 - k=(b.dA.length - k)+1 from by omega,show b.dA.length+1 - (k+1)=b.dA.length - k from by omega];rfl
    rw [wK] at hd;obtain ⟨e0,e1,e2,e3,ef⟩:=Vo hbx;have nE:=O1 (u':=.slice ac k cc) hbx;have hbk:fC (wr.setCell ⟨w.heap.size,3,none⟩ (.slice ac k cc)) B (Be b k) v:=(YK HB0.out k hkn).keep λb o h=>(dm (Below.heap_setCell _ _ _ _ (by show b≠w.heap.size;omega))).trans (dH hb b o (by omega))
    have hbs:Below w.heap.size w (wr.setCell ⟨w.heap.size,3,none⟩ (.slice ac k cc)):=hb.setCell (p:=⟨w.heap.size,3,none⟩) (aJ _) _;have hss:(wr.setCell ⟨w.heap.size,3,none⟩ (.slice ac k cc)).heap.size=wr.heap.size:=by simp [World.setCell]
    have hgk:=R5 hg k;have hnd:=Dh (Be b k) (-1) hgk;have R6:=vG.out k hkn;have HD:=dw hd;have HS:=dw nE;have ag8:=dw hbk;have HBS:=dw hbs;have iy:=dw R6;clear hd nE hbk hbs R6 wK hbx hb HX;cases hho:gN (fA (Be b k) (-1)) (dZ (Be b k) (-1)) with
    |false=>
     have HH:=dw hho;clear hho
     go_wp2_with (first
      |(go_at_call 56;refine (Lo.vH iy.out ag8.out (by omega) hgk (-1) (by omega)).mono ?_;rintro e w3 ⟨bw,A,cap,rfl,hw,hb3⟩;have HW:=dw hw;have HB3:=dw hb3;clear hw hb3)
      |(go_at_call 57;refine (Lo.oK HW.out (aJ _) hnd).mono ?_;rintro e w4 ⟨rfl,hb4⟩;rw [HH.out]))
     go_ret2
     show nC _ _ _ _;unfold nC;rw [aa (by rw [wG.out];simp)];refine ⟨(HBS.out.trans (HB3.out.mono (by omega))).trans (hb4.mono (by have :=HB3.out.size;omega)),?_⟩;have :=HD.out;rw [aj HH.out] at this;rw [this];rfl
    |true=>
     have HH:=dw hho;clear hho
     go_wp2_with (first
      |(go_at_call 56;refine (Lo.vH iy.out ag8.out (by omega) hgk (-1) (by omega)).mono ?_;rintro e w3 ⟨bw,A,cap,rfl,hw,hb3⟩;have HW:=dw hw;have HB3:=dw hb3;clear hw hb3)
      |(go_at_call 57;refine (Lo.oK HW.out (aJ _) hnd).mono ?_;rintro e w4 ⟨rfl,hb4⟩;rw [HH.out];have vR:=dw hb4;clear hb4))
     have s3:=HB3.out.size;have s4:=vR.out.size;go_roundw
     case rel=>exact ⟨k+1,_,by omega,by go_num,(vR.out.block _ (by omega)).trans ((HB3.out.block _ (by omega)).trans HS.out),(HBS.out.trans (HB3.out.mono (by omega))).trans (vR.out.mono (by omega)),by omega,by
      have :=HD.out;rw [aa (by show ¬gN (fA (Be b k) (-1)) (dZ (Be b k) (-1))=false;rw [HH.out];simp)] at this;exact this.symm⟩
     case measure=>simp [intOf];omega
   ·obtain rfl:k=b.dA.length+1:=by omega
    have hf:Gv b= -1:=by rw [<-wK,Nat.sub_self];rfl
    have HF:=dw hf;clear hf wK;go_wp2
    go_ret2
    show nC _ _ _ _;unfold nC;rw [aa (by rw [wG.out];simp),HF.out];exact ⟨hb,rfl⟩
 ·have wG:=dw hcf;clear hcf;generalize hcx:fG b=cx at wG;have RZ:=dw hcx;have hne:¬cx=0:=wG.out;clear hcx;go_enter Lo.get Tryz.func24,Tryz.ntmps24
  go_wp2_with (go_at_call 17;refine (Lo.gV iy.out HB1.out (by simp;omega) hs).mono ?_;rintro e w1 ⟨rfl,hb1⟩;rw [RZ.out];have HB2:=dw hb1;clear hb1)
  go_ret2
  show nC _ _ _ _;unfold nC;rw [RZ.out,aj hne];exact ⟨((di _ _).alloc (aJ _) _).trans (HB2.out.mono (by simp)),rfl⟩
end
end Go.Proofs
