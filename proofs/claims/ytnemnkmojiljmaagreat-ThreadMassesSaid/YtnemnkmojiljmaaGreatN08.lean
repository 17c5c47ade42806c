/- ThreadMasses answers true, whatever comes in, on every schedule; its arguments read behind the call as they did: no condition of its own beside the row. Printed by program from longer texts. -/
import Derived.BigRegion
import Derived.BigQuiet
import Derived.Deep.DeepMust
import Derived.Test.YtnemnkmojiljmaaGreatH23
import Derived.Test.YtnemnkmojiljmaaGreatH24
import Derived.Test.YtnemnkmojiljmaaGreatH28
import Derived.Test.YtnemnkmojiljmaaGreatN07
import Derived.Test.YtnemnkmojiljmaaGreatN02
import Derived.Test.YtnemnkmojiljmaaGreatH34
import Derived.Test.YtnemnkmojiljmaaGreatN06
set_option maxRecDepth 100000
set_option maxHeartbeats 0
set_option linter.all false
section
namespace Go.Proofs
open Go Go.RowKit Go.Maps
variable [Lo.St]
theorem sameTo_refl (l:List Int) (n:Nat):∀k,Dr l l n k=true
 |0=>rfl
 |k+1=>by unfold Dr;rw [if_pos rfl];exact sameTo_refl l n k
def nOf (b:dO) (m:Nat):Nat:=if fG b=0∧qR b=true then m else 0
def cOf (b:dO):Int:=if fG b≠0 then fG b else if qR b=true then 0 else 9
def SpanU (w:World) (b:dO) (m:Nat) (L:List Int) (e:Ending) (w':World):Prop:=
 Below w.heap.size w w'∧∃A c,e= .returned (.tuple #[.slice A (nOf b m) c,.int .i64 (cOf b)])∧YL w' w'.heap.size A (nOf b m) L
theorem nOf_le {b:dO} {m:Nat} (h:m<=64):nOf b m<=64:=by unfold nOf;split<;>omega
theorem rd_below {w w':World} {size n:Nat} {A:Option Addr} {f:Nat->Nat->Value} (h:Rd w w.heap.size size A n f) (hb:Below w.heap.size w w'):Rd w' w'.heap.size size A n f:= λhn=>by
 obtain ⟨b,off,e,h1,h2⟩:=h hn;exact ⟨b,off,e,Nat.lt_of_lt_of_le h1 hb.size, λi j hi hj=>(dH hb _ _ h1).trans (h2 i j hi hj)⟩
theorem nil_rd (w:World) (B:Nat) (A:Option Addr) (f:Nat->Nat->Value):Rd w B 2 A 0 f:= λh=>absurd h (Nat.lt_irrefl _)
theorem spanU_of {w w':World} {b:dO} {m:Nat} {L:List Int} {e:Ending} (h1:Below w.heap.size w w')
 (h:if fG b≠0 then e= .returned (.tuple #[.slice none 0 0,.int .i64 (fG b)]) else if qR b=true then ∃A cap,e= .returned (.tuple #[.slice A m cap,.int .i64 0])∧YL w' w'.heap.size A m L else e= .returned (.tuple #[.slice none 0 0,.int .i64 9])):SpanU w b m L e w':=by
 refine ⟨h1,?_⟩
 by_cases hc:fG b=0
 ·rw [if_neg (by rw [hc];simp)] at h
  by_cases hh:qR b=true
  ·rw [if_pos hh] at h;rw [show nOf b m=m from if_pos ⟨hc,hh⟩,show cOf b=0 from (if_neg (λq=>q hc)).trans (if_pos hh)];exact h
  ·rw [if_neg hh] at h;rw [show nOf b m=0 from if_neg (λq=>hh q.2),show cOf b=9 from (if_neg (λq=>q hc)).trans (if_neg hh)];exact ⟨none,0,h,nil_rd _ _ _ _⟩
 ·rw [if_pos hc] at h;rw [show nOf b m=0 from if_neg (λq=>hc q.1),show cOf b=fG b from if_pos hc];exact ⟨none,0,h,nil_rd _ _ _ _⟩
theorem Lo.masses_u {w:World} {B:Nat} {b:dO} {v:gJ} {x:Value} (hx:x=dY b v) (hb:fC w B b v) (hB:B<=w.heap.size) (hs:b.small):Calls Lo.prog 15 #[x] w (SpanU w b b.dz.length (p8 b)):=by
 refine (Lo.K8 hx hb hB hs).mono λe w' h=>spanU_of h.1 ?_
 obtain ⟨-,h⟩:=h;split
 ·rename_i q;rwa [if_pos q] at h
 ·rename_i q;rw [if_neg q] at h;split
  ·rename_i q2;rw [if_pos q2] at h;obtain ⟨A,cap,e1,h3, -⟩:=h;exact ⟨A,cap,e1,h3⟩
  ·rename_i q2
   rwa [if_neg q2] at h
theorem Lo.losses_u {w:World} {B:Nat} {b:dO} {v:gJ} {x:Value} (hx:x=dY b v) (hb:fC w B b v) (hB:B<=w.heap.size) (hs:b.small):Calls Lo.prog 20 #[x] w (SpanU w b b.steps.length (yY b)):=by
 refine (Lo.K9 hx hb hB hs).mono λe w' h=>spanU_of h.1 ?_
 obtain ⟨-,h⟩:=h;split
 ·rename_i q;rwa [if_pos q] at h
 ·rename_i q;rw [if_neg q] at h;split
  ·rename_i q2;rw [if_pos q2] at h;obtain ⟨A,cap,e1,h3, -⟩:=h;exact ⟨A,cap,e1,h3⟩
  ·rename_i q2
   rwa [if_neg q2] at h
theorem rdP_of {w:World} {B n:Nat} {A:Option Addr} {L S:List Int} {f:Nat->Nat} (hL:∀i,i<n->lowAt L i=lowAt S (f i)∧highAt L i=highAt S (f i)) (h:Rd w B 2 A n (λi j=>.int .i64 (if j=0 then lowAt S (f i) else highAt S (f i)))):YL w B A n L:= λhn=>by
 obtain ⟨b,off,e,h1,h2⟩:=h hn;refine ⟨b,off,e,h1, λi j hi hj=>(h2 i j hi hj).trans ?_⟩;obtain ⟨l1,l2⟩:=hL i hi;obtain rfl|rfl:j=0∨j=1:=by omega
 ·show some (Value.int .i64 (lowAt S (f i)))=some (.int .i64 (lowAt L i));rw [l1]
 ·show some (Value.int .i64 (highAt S (f i)))=some (.int .i64 (highAt L i));rw [l2]
theorem Lo.rmasses_u {w:World} {B:Nat} {b:dO} {v:gJ} {x:Value} (hx:x=dY b v) (hb:fC w B b v) (hB:B<=w.heap.size) (hs:b.small) (hbc:GG b v):Calls Lo.prog 16 #[x] w (SpanU w b b.dz.length (p8 b)):=by
 refine (Lo.rmasses_any hx hb hB hs hbc).mono λe w' h=>spanU_of h.1 ?_
 obtain ⟨-,h⟩:=h;split
 ·rename_i q;rwa [if_pos q] at h
 ·rename_i q;rw [if_neg q] at h;split
  ·rename_i q2;rw [if_pos q2] at h;obtain ⟨A,cap,e1,h3⟩:=h;exact ⟨A,cap,e1,rdP_of (λi hi=>⟨rfl,rfl⟩) h3⟩
  ·rename_i q2
   rwa [if_neg q2] at h
theorem Lo.rlosses_u {w:World} {B:Nat} {b:dO} {v:gJ} {x:Value} (hx:x=dY b v) (hb:fC w B b v) (hB:B<=w.heap.size) (hs:b.small) (hbc:GG b v):Calls Lo.prog 21 #[x] w (SpanU w b b.steps.length (yY b)):=by
 refine (Lo.rlosses_any hx hb hB hs hbc).mono λe w' h=>spanU_of h.1 ?_
 obtain ⟨-,h⟩:=h;split
 ·rename_i q;rwa [if_pos q] at h
 ·rename_i q;rw [if_neg q] at h;split
  ·rename_i q2;rw [if_pos q2] at h;obtain ⟨A,cap,e1,h3⟩:=h;exact ⟨A,cap,e1,rdP_of (λi hi=>lossTo_at (p8 b) b.dz.length hi) h3⟩
  ·rename_i q2
   rwa [if_neg q2] at h
attribute [local irreducible] wpQuiet
theorem Lo.tmass_any {w:World} {B:Nat} {b:dO} {v:gJ} (h5:ai2) (hb:fC w B b v) (hB:B<=w.heap.size) (hbc:GG b v):
 Calls Lo.prog 3 #[dY b v] w λe w'=>e= .returned (.bool true):=by
 obtain ⟨U,U2,U3,U4,U5,U6⟩:=Lo.facts;have C:=Lo.call Tryz.func13;have C2:=Lo.call Tryz.func15;have C3:=Lo.call14;have C4:=Lo.call Tryz.func16;have C5:=Lo.call Tryz.func17;have C6:=Lo.call Tryz.func18;have C7:=Lo.call Tryz.func19;have C8:=Lo.call Tryz.func20;have ψS:=Lo.call Tryz.func21;have H5:=Lib.hid h5;obtain ⟨Y,hY,sY,bW,hA,hC⟩:=book_box hb hB;have HC:=Lib.hid hC;have HA:=Lib.hid hA;have HY:=Lib.hid (And.intro hY bW);have HBC:=Lib.hid hbc;clear hY bW hA hC hb h5 hbc;show Calls Lo.prog 3 #[Value.agg (lN b v)] w _;unfold lN;go_enter Lo.get Tryz.func3,Tryz.ntmps3;go_wp2;have hy:=HY.out.1;unfold lN at hy;rw [hy];clear hy;refine (Lo.aa0 (b:=b) (v:=v) rfl (HA.out Y (Below.refl _ _)) (by omega)).mono ?_
 rintro e w1 ⟨rfl,h1⟩;obtain ⟨f0,f1,f2,f3⟩:=al8 (HC.out w1 h1);cases hg:Dz b with
 |true=>
  go_wp2;refine (H5.out _).mono ?_
  rintro e w5 ⟨rfl,rfl⟩;go_wp2;go_ret;rfl
 |false=>
  have hs:=Vz hg;clear hg;have s1:Y.heap.size<=w1.heap.size:=h1.size;have n1:nOf b b.dz.length<=64:=nOf_le hs.dz;have n2:nOf b b.steps.length<=64:=nOf_le hs.steps;have HN:=Lib.hid (And.intro n1 n2);obtain ⟨N,hN⟩:∃N,nOf b b.dz.length=N:=⟨_,rfl⟩;obtain ⟨M,hM⟩:∃M,nOf b b.steps.length=M:=⟨_,rfl⟩;obtain ⟨cx,hcx⟩:∃cx,cOf b=cx:=⟨_,rfl⟩;obtain ⟨kx,hkx⟩:∃kx,fG b=kx:=⟨_,rfl⟩
  have m1:∀W,Below Y.heap.size Y W->Calls Lo.prog 15 #[bkV b v] W λe w'=>Below W.heap.size W w'∧∃A c,e= .returned (.tuple #[.slice A N c,.int .i64 cx])∧YL w' w'.heap.size A N (p8 b):= λW hW=>by
   have h:=Lo.masses_u (x:=dY b v) rfl (HA.out W hW) (by have :=hW.size;omega) hs;unfold SpanU at h;rw [hN,hcx] at h;exact h
  have m2:∀W,Below Y.heap.size Y W->Calls Lo.prog 16 #[bkV b v] W λe w'=>Below W.heap.size W w'∧∃A c,e= .returned (.tuple #[.slice A N c,.int .i64 cx])∧YL w' w'.heap.size A N (p8 b):= λW hW=>by
   have h:=Lo.rmasses_u (x:=dY b v) rfl (HA.out W hW) (by have :=hW.size;omega) hs HBC.out;unfold SpanU at h;rw [hN,hcx] at h;exact h
  have m3:∀W,Below Y.heap.size Y W->Calls Lo.prog 20 #[bkV b v] W λe w'=>Below W.heap.size W w'∧∃A c,e= .returned (.tuple #[.slice A M c,.int .i64 cx])∧YL w' w'.heap.size A M (yY b):= λW hW=>by
   have h:=Lo.losses_u (x:=dY b v) rfl (HA.out W hW) (by have :=hW.size;omega) hs;unfold SpanU at h;rw [hM,hcx] at h;exact h
  have m4:∀W,Below Y.heap.size Y W->Calls Lo.prog 21 #[bkV b v] W λe w'=>Below W.heap.size W w'∧∃A c,e= .returned (.tuple #[.slice A M c,.int .i64 cx])∧YL w' w'.heap.size A M (yY b):= λW hW=>by
   have h:=Lo.rlosses_u (x:=dY b v) rfl (HA.out W hW) (by have :=hW.size;omega) hs HBC.out;unfold SpanU at h;rw [hM,hcx] at h;exact h
  have m5:∀W,Below Y.heap.size Y W->Calls Lo.prog 17 #[bkV b v] W λe w'=>e= .returned (.int .i64 kx)∧Below W.heap.size W w':= λW hW=>by
   have h:=Lo.gV (x:=dY b v) rfl (HA.out W hW) (by have :=hW.size;omega) hs;rw [hkx] at h;exact h
  have m6:∀W,Below Y.heap.size Y W->Calls Lo.prog 18 #[bkV b v] W λe w'=>e= .returned (.int .i64 kx)∧Below W.heap.size W w':= λW hW=>by
   have h:=Lo.YR (x:=dY b v) rfl (HA.out W hW) (by have :=hW.size;omega) hs HBC.out;rw [hkx] at h;exact h
  have HM:=Lib.hid (And.intro m1 (And.intro m2 (And.intro m3 (And.intro m4 (And.intro m5 m6)))));have H1:=Lib.hid h1;rw [hN,hM] at HN;clear m1 m2 m3 m4 m5 m6 hN hM hcx hkx h1 n1 n2;go_wp2;refine (HM.out.1 w1 H1.out).mono ?_
  rintro e w2 ⟨h2,A1,c1,rfl,r1⟩;replace h2:=H1.out.trans (h2.mono s1);obtain ⟨f0,f1,f2,f3⟩:=al8 (HC.out w2 h2);have H2:=Lib.hid (And.intro h2 r1);have s2:Y.heap.size<=w2.heap.size:=h2.size;clear h2 r1;go_wp2;refine (HM.out.2.1 w2 H2.out.1).mono ?_
  rintro e w3 ⟨h3,A2,c2,rfl,r2⟩;have r1:=rd_below H2.out.2 h3;replace h3:=H2.out.1.trans (h3.mono s2);obtain ⟨f0,f1,f2,f3⟩:=al8 (HC.out w3 h3);have H3:=Lib.hid (And.intro h3 (And.intro r1 r2));have s3:Y.heap.size<=w3.heap.size:=h3.size;clear h3 r1 r2;go_wp2;have hsm:Sc (p8 b) (p8 b) N=true:=sameTo_refl _ _ _;have hsl:Sc (yY b) (yY b) M=true:=sameTo_refl _ _ _
  have k1:∀W,Below w3.heap.size w3 W->Calls Lo.prog 19 #[.slice A1 N c1,.slice A2 N c2] W λe w'=>e= .returned (.bool true)∧Below W.heap.size W w':= λW hW=>by
   have h:=Lo.wH (c1:=c1) (c2:=c2) (rd_below H3.out.2.1 hW) (rd_below H3.out.2.2 hW) HN.out.1 (Nat.le_refl _)
   rwa [hsm] at h
  obtain ⟨Cl,hCl⟩:∃Cl:World->Prop,∀W,Cl W↔Below w3.heap.size w3 W:=⟨_, λ_=>Iff.rfl⟩;have hYW:∀W,Cl W->Below Y.heap.size Y W:= λW hW=>H3.out.1.trans (((hCl W).1 hW).mono s3)
  have jI:=Lib.hid (And.intro hCl hYW);have HK:=Lib.hid (And.intro k1 hsl);clear k1 hsm hsl hCl hYW f0 f1 f2 f3;refine iH (C:=Cl) Lo.mixed (by kernel_rfl) ((jI.out.1 _).2 (Below.refl _ _).drew) ?_
  repeat
   refine wpQuiet_step (λK hK=>?_);go_simp
   first
    |(apply Exists.intro;refine ⟨λW hW=>?_,hK _ ?_⟩
      ·obtain ⟨f0,f1,f2,f3⟩:=al8 (HC.out W (jI.out.2 W hW))
       first
        |(with_reducible refine (HM.out.2.2.2.2.1 W (jI.out.2 W hW)).mono ?_;rintro e w9 ⟨rfl,hb9⟩;exact ⟨rfl,(jI.out.1 _).2 (((jI.out.1 W).1 hW).trans (hb9.mono ((jI.out.1 W).1 hW).size))⟩)
        |(with_reducible refine (HM.out.2.2.2.2.2 W (jI.out.2 W hW)).mono ?_;rintro e w9 ⟨rfl,hb9⟩;exact ⟨rfl,(jI.out.1 _).2 (((jI.out.1 W).1 hW).trans (hb9.mono ((jI.out.1 W).1 hW).size))⟩)
        |(with_reducible refine (HK.out.1 W ((jI.out.1 W).1 hW)).mono ?_;rintro e w9 ⟨rfl,hb9⟩;exact ⟨rfl,(jI.out.1 _).2 (((jI.out.1 W).1 hW).trans (hb9.mono ((jI.out.1 W).1 hW).size))⟩)
        |rfl
        |(go_simp;rfl)
      clear hK K)
    |(refine hK _ ?_;clear hK K)
  refine wpQuiet_nil ?_
  intro z1 hb;have hbY:=jI.out.2 z1 hb;obtain ⟨f0,f1,f2,f3⟩:=al8 (HC.out z1 hbY);have HZ:=Lib.hid hbY;have sz:Y.heap.size<=z1.heap.size:=hbY.size;clear hb hbY;go_wp2;refine (HM.out.2.2.1 z1 HZ.out).mono ?_
  rintro e w4 ⟨h4,A3,c3,rfl,r3⟩;replace h4:=HZ.out.trans (h4.mono sz);obtain ⟨f0,f1,f2,f3⟩:=al8 (HC.out w4 h4);have H4:=Lib.hid (And.intro h4 r3);have s4:Y.heap.size<=w4.heap.size:=h4.size;clear h4 r3;go_wp2;refine (HM.out.2.2.2.1 w4 H4.out.1).mono ?_
  rintro e w5 ⟨h5,A4,c4,rfl,r4⟩;have r3:=rd_below H4.out.2 h5;replace h5:=H4.out.1.trans (h5.mono s4);have Hw5:=Lib.hid (And.intro h5 (And.intro r3 r4));clear h5 r3 r4 f0 f1 f2 f3;go_wp2;refine (Lo.wH (c1:=c3) (c2:=c4) Hw5.out.2.1 Hw5.out.2.2 HN.out.2 (Nat.le_refl _)).mono ?_
  rintro e w6 ⟨rfl, -⟩;rw [HK.out.2];go_wp2;refine (H5.out _).mono ?_
  rintro e w7 ⟨rfl,rfl⟩;go_wp2;go_ret;rfl
end Go.Proofs
end
section
namespace Go.Proofs.YtnemnkmojiljmaaGreat
open Go Go.RowKit Go.ChangeShapes Go.WideShapes Go.ChangeAt Go.Conc Go.ConcM Par Go.Proofs.Tryz
theorem mass_lone {w:World} {B:Nat} {b:dO} {v:gJ} (hb:fC w B b v) (hB:B<=w.heap.size) (hc:GG b v):
 Calls jY 3 #[dY b v] w λe _=>e= .returned (.bool true):=by
 rw [<-ZF];letI:=TP;exact Lo.tmass_any as8 hb hB hc
theorem params3_ok:(Tryz.f3.params.toList.all λt=>Tryz.prog.readableRec t&&decide (t<Tryz.prog.types.size))=true:=by kernel_rfl
theorem results3_one:Tryz.f3.resultTypes= #[4]:=by unfold Tryz.f3;rfl
theorem sm_3:Smore 3=true:=by kernel_rfl
theorem q3:Tryz.prog.funcs[3]?=jY.funcs[3]?:=by unfold jY;exact (zg Tryz.prog _ (by decide)).symm
theorem mass_lifted (os:Os) (started:os.Started) (H:Type) (enc:TypeId×Value->H) (F:Stop.Interp):
 ReturnsInLeavingWide Rows.threadMassesRow.assume Tryz.checked os 3 .any (Rows.threadMassesSpec.pre6 enc Tryz.prog Tryz.f3 Rows.threadMassesRow.domain false) ((OpenSpec.ofChange Rows.threadMassesSpec).postWith enc Tryz.prog Tryz.f3 F (outsideKept [.timePasses]) false true false):=by
 refine PR (C:=Tryz.checked) Tryz.knob started Tryz.func3
  (ChangeSpec.witness6c (enc:=enc) (C:=Tryz.checked) ⟨#[],#[.agg #[.slice none 0 0,.slice none 0 0,.slice none 0 0,.slice none 0 0]],[]⟩ 8 (by kernel_rfl) (by kernel_rfl) (by kernel_rfl) (by kernel_rfl)) ?_
 intro W base args ds gs before hsh hval0 hW _;have hval:∀(j:Nat) t v,Tryz.f3.params[j]?=some t->args[j]?=some v->Value.okWide Tryz.prog W .any base t v:=hval0
 have hW':=hW;obtain ⟨p,q,hA0,hV,rfl,hfz,_⟩:=hW;have hA:DataW.TrodAll enc Tryz.prog W 0 (λ_=>true) true Tryz.f3.params.toList args.toList ds p:=hA0;have hAk:=hA;rw [Tryz.params3] at hA hval;obtain ⟨rfl,rfl⟩:=trodVars_none hV;obtain ⟨l⟩:=args;obtain ⟨v0,vs1,d0,ds1,p0,q1,e0,rfl,rfl,h0,hA⟩:=trodAll_cons hA;obtain ⟨rfl,rfl,rfl⟩:=trodAll_nil hA;have e0:l= [v0]:=e0;subst e0;obtain ⟨_,h0⟩:=h0;obtain ⟨s⟩:=aa1 (hval 0 26 v0 rfl rfl) h0;obtain ⟨o,ho,hodd⟩:=ZK hsh;obtain ⟨b,bv,M,hcap,hM⟩:=am1 ho hodd s;obtain ⟨hlies,hvs,hrv,hat⟩:=hM M [] (by simp);refine run_lawM hsh (L:=M) sm_3 q3 hlies (args:= #[dY b bv]) ?_ ?_ (λτ=>?_) λW' t1 t2 t3 t4 t5=>⟨?_,t3⟩
 ·intro v hv;simp only [List.mem_toArray,List.mem_cons,List.not_mem_nil,or_false] at hv;subst hv;exact hvs _ _ _
 ·simp only [List.map_toArray,List.map_cons,List.map_nil];rw [hrv]
 ·exact mass_lone (hat τ) (Nat.le_refl _) hcap
 ·have hbel:Below W.heap.size W { W' with os:=W.os }:=⟨rfl,t1,t2,t4,t5⟩;refine ⟨_,_,_,[],_,[],hW',?_,Ei Tryz.laid hbel (λt ht=>?_) hAk (DataW.TrodAll.lt hAk),rfl,hbel.frame _, λh=>by cases h⟩
  ·show DataW.TrodAll enc Tryz.prog _ _ _ _ Tryz.f3.resultTypes.toList _ _ _;rw [results3_one];exact trodAll_mk1 (shut_bool Tryz.underlying4 true)
  ·have :=List.all_eq_true.1 params3_ok t ht;simpa using this
theorem threadMasses_holds:Rows.ThreadMassesSaid:=
 OpenClaim.holds_of_wide_leaving_time 3 Tryz.f3 rfl rfl rfl rfl rfl rfl rfl ⟨rfl,rfl,rfl,rfl,rfl⟩ rfl rfl rfl rfl rfl (by kernel_rfl) Tryz.func3 (by kernel_rfl)
  (of_decide_eq_true (by kernel_rfl)) (by unfold Func.isWrapper;first |(rw [if_pos (by decide+kernel)];kernel_rfl)|(rw [if_neg (by decide+kernel)];exact ⟨rfl,rfl⟩))
  (λos started H enc _ F=>mass_lifted os started H enc F)
end Go.Proofs.YtnemnkmojiljmaaGreat
end
