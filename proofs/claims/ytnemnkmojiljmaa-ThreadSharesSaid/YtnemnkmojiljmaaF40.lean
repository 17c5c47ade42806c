/- Part 40. -/
import Derived.Test.YtnemnkmojiljmaaF38
import Derived.Test.YtnemnkmojiljmaaF39
set_option maxRecDepth 100000
set_option maxHeartbeats 8000000
set_option linter.all false
section
namespace Go.Proofs.Try
open Go Go.Conc Go.ConcN Go.ConcM Go.RowKit Go.Conc.Lib Go.ConcR.Gen Par
attribute [local instance] noSh ig
theorem OB:Try.f40.body=some Oy:=by unfold Oy Try.f40;rfl
theorem yu:Try.f41.body=some OA:=by unfold OA Try.f41;rfl
structure Vh (X own ro:Nat->Prop) (W W':World):Prop where
 blk:∀b,¬X b->own b∨ro b->W'.heap[b]?=W.heap[b]?
 size:W.heap.size<=W'.heap.size
theorem Vh.refl {X own ro:Nat->Prop} {W:World}:Vh X own ro W W:=⟨λ_ _ _=>rfl,aj _⟩
theorem Vh.rely {X own ro:Nat->Prop} {Z:eG} {W W' W'':World} (h:Vh X own ro W W') (hz:Z.ro=ro) (hr:bZ Z own W' W''):Vh X own ro W W'':=
 ⟨λb hX hb=>(hb.elim (hr.own b) (λx=>hr.ro b (by rw [hz];exact x))).trans (h.blk b hX hb),aC h.size hr.size⟩
theorem Vh.set {X own ro:Nat->Prop} {W W':World} {ad:Addr} {v:Value} (h:Vh X own ro W W') (hX:X ad.block):Vh X own ro W (W'.setCell ad v):=
 ⟨λb hb ho=>(Go.Conc.aside_setCell W' ad v |>.block b λe=>hb (e ▸ hX)).trans (h.blk b hb ho),aC h.size (Nat.le_of_eq (Go.Conc.aside_setCell W' ad v).size.symm)⟩
theorem WK.FN {cw cm cb bs bm bf bw:Nat} {ss:List dL} {n:Nat} {m:Bool} {X own ro:Nat->Prop} {W W1:World} (h:WK cw cm cb bs bm bf bw ss n m own ro W) (ho:Vh X own ro W W1) (hX:∀b,X b->¬ro b∧b≠cm):WK cw cm cb bs bm bf bw ss n m own ro W1:=by
 have hro:∀b,ro b->W1.heap[b]?=W.heap[b]?:= λb hb=>ho.blk b (λx=>(hX b x).1 hb) (.inr hb)
 obtain ⟨a1,a2,a3,a4,a5,a6,a7,A,cap,e,fr,a8,a9,Um⟩:=h;refine ⟨a1,a2,a3,a4,(dW (hro _ a1) _).trans a5,(dW (hro _ a2) _).trans a6,(dW (ho.blk _ (λx=>(hX _ x).2 rfl) (.inl a4)) _).trans a7,A,cap,e,fr,(hro _ a3).trans a8,vJ a9 (hro _ a3) (λa e _=>hro _ (Um a e).1) ho.size, λa ha=>?_⟩;obtain ⟨h1,cur,e',fr',h2,h3⟩:=Um a ha;exact ⟨h1,cur,e',fr',(hro _ h1).trans h2,h3⟩
def C1 (W:World) (b:Nat) (v:Value):Prop:=∃e,W.heap[b]?=some (.cells #[v] e)
theorem C1.cell {W:World} {b:Nat} {v:Value} (h:C1 W b v):W.cell? ⟨b,0,none⟩=some v:=by
 obtain ⟨e,h⟩:=h;unfold World.cell?;simp only [h];rfl
theorem C1.free {W:World} {b:Nat} {v:Value} (h:C1 W b v):W.frozen? ⟨b,0,none⟩=false:=by
 obtain ⟨e,h⟩:=h;unfold World.frozen?;simp only [h];rfl
theorem C1.same {W W1:World} {b:Nat} {v:Value} (h:C1 W b v) (hk:W1.heap[b]?=W.heap[b]?):C1 W1 b v:=by
 obtain ⟨e,h⟩:=h;exact ⟨e,hk.trans h⟩
theorem C1.set {W:World} {b:Nat} {v0:Value} (h:C1 W b v0) (v:Value):C1 (W.setCell ⟨b,0,none⟩ v) b v:=by
 obtain ⟨e,h⟩:=h;exact ⟨e,by rw [heap_setCell_same W b 0 _ e v h];rfl⟩
theorem zQ {Wg:Nat} {W:World} {ad:Addr} {v:Value} (h:WgLive 87 Wg W) (hne:Wg≠ad.block):WgLive 87 Wg (W.setCell ad v):=by
 obtain ⟨a,b,h⟩:=h;refine ⟨a,b,?_⟩;show (W.setCell ad v).heap[Wg]?=_
 rw [(Go.Conc.aside_setCell W ad v).block Wg hne];exact h
theorem zR {Mu:Nat} {W:World} {ad:Addr} {v:Value} (h:zH 80 Mu W) (hne:Mu≠ad.block):zH 80 Mu (W.setCell ad v):=by
 obtain ⟨a,b,h⟩:=h;refine ⟨a,b,?_⟩;show (W.setCell ad v).heap[Mu]?=_
 rw [(Go.Conc.aside_setCell W ad v).block Mu hne];exact h
section
variable {Mu Wg cw cm cb bs bm bf bw:Nat} {ty:TypeId} {N:Nat->Nat} {J:Nat->Nat->(Nat->Prop)->World->Prop} {ro:Nat->Prop} {Anch:(Nat->Prop)->Goroutine->World->Prop}
variable {own:Nat->Prop} {W0:World} {i k c:Nat}
theorem WQ {m:Bool} {ss:List dL} {n s lim n0:Nat} {QJ:List Deferred} {w:World} (hne:Mu≠Wg) (hi:i≠0) (xR:bs≠bm∧bs≠bf∧bm≠bf) (hJ:J=JW Mu Wg bs bm bf ro ss n) (hcN:c<N k)
 (hit:∀o x,x∈(if k=0 then eH ss n (c+1) o else eH ss n o (c+1))↔x∈(if k=0 then eH ss n c o else eH ss n o c)∨x=(De (lS s),m))
 (hw:WK cw cm cb bs bm bf bw ss n m own ro W0) (he:Env Mu Wg own ro W0) (hs:s<lim) (hl:lim=2 ^ n) (hn:n<=15) (hF:KM 80 Mu ((cfg Mu Wg ty N J ro Anch).Zw k) own W0 w)
 (hp:fo ss (n+1) s m=true)
 (hnext:∀own' W' w' n',WK cw cm cb bs bm bf bw ss n m own' ro W'->Env Mu Wg own' ro W'->KM 80 Mu ((cfg Mu Wg ty N J ro Anch).Zw k) own' W' w'->yZ Wg cw cm Mu cb bs bm bf lim (s+1) QJ λg=>Gw Try.prog false ((cfg Mu Wg ty N J ro Anch).Zw k) (At Try.prog (cfg Mu Wg ty N J ro Anch).sys i (tZ N k (c+1) n')) own' g w'):
 yZ Wg cw cm Mu cb bs bm bf lim s QJ λg=>Gw Try.prog false ((cfg Mu Wg ty N J ro Anch).Zw k) (At Try.prog (cfg Mu Wg ty N J ro Anch).sys i (tZ N k c n0)) own g w:=by
 intro j8 j9 j10 j11 j12 j13 kz kC kD kE kF l6 l7 l8 kG kH kJ kK kL kM kN kP kQ kR;unfold yZ at hnext;unfold Fw at hnext ⊢;have hz:((cfg Mu Wg ty N J ro Anch).Zw k).sy Mu:=.inl (.inl rfl);have Cj:((cfg Mu Wg ty N J ro Anch).Zw k).sy Wg:=.inl (.inr rfl);have hnm:¬((cfg Mu Wg ty N J ro Anch).Zw k).mute:= λh=>h
 have d0:decide ((s:Int)<(lim:Int))=true:=by simpa using hs
 have HL:=Lib.hid hl;clear hl;simp only [LW,CU,bO,Try.f36,Option.getD_some] at hnext ⊢;refine bL (n:=60) ?_
 repeat w_go (KM.rely hz)
 refine Goes.stop λw₁ h₁=>?_
 replace hF:=KM.rely hz hF h₁;clear h₁;have hw1:=hw.rely rfl hF.1;refine Fq (o:=?_) (x:=?_) (ad:=⟨cw,0,none⟩) ?_ ?_ ?_ ?_ ?_ hnm (.inr hw1.WH) hw1.Ul ?_
 rotate_left 2
 iterate 2 rfl
 ·k_ne
 iterate 2 rfl
 intro w₂ h₂;replace hF:=KM.rely hz hF h₂;clear h₂ hw1;refine bL (n:=60) ?_
 walk_nrm
 repeat w_go (KM.rely hz)
 refine Goes.stop λw₁ h₁=>?_
 replace hF:=KM.rely hz hF h₁;clear h₁;have hw1:=hw.rely rfl hF.1;refine qG (o:=?_) (x:=?_) (ad:=⟨cm,0,none⟩) ?_ ?_ ?_ ?_ ?_ hnm (.inl hw1.WI) hw1.ZZ ?_
 rotate_left 2
 iterate 2 rfl
 ·k_ne
 iterate 2 rfl
 intro w₂ h₂;replace hF:=KM.rely hz hF h₂;clear h₂ hw1;refine bL (n:=60) ?_
 walk_nrm
 repeat w_go (KM.rely hz)
 refine Goes.stop λw₁ h₁=>?_
 replace hF:=KM.rely hz hF h₁;clear h₁;refine qK (o:=?_) (args:=?_) (ats:=?_) ?_ ?_ ?_ ?_ Try.func38 Hw Hy ?_
 rotate_left 3
 iterate 2 rfl
 ·k_ne
 ·rfl
 intro w₂ h₂;replace hF:=KM.rely hz hF h₂;clear h₂;walk_nrm;have hlm:s<2 ^ (n+1):=by have :=HL.out;rw [this] at hs;rw [Nat.pow_succ];omega
 refine Oz (he.rel Cj hF.1) (hw.rely rfl hF.1) hlm hn λown' W' hk=>?_
 rw [hp];rw [Frame.finish_at]
 have ar9:(s:Int)+1<18446744073709551616:=by
  have :=HL.out;have h2:2 ^ n<=2 ^ 15:=Nat.pow_le_pow_right (by decide) hn;omega
 have as0:s<2 ^ 16:=by
  have :=HL.out;have h2:2 ^ n<=2 ^ 15:=Nat.pow_le_pow_right (by decide) hn;omega
 have hwr:IntKind.u64.wrap ((s:Int)+1)=((s+1:Nat):Int):=by rw [IntKind.wrap_u64];omega
 replace hw:=(hw.rely rfl (hF.1.trans hk.rely)).sub hk.sub;replace he:=(he.rel Cj hF.1).kept Cj hk;replace hF:=Ja hz hF hk;clear hk;refine bL (n:=60) ?_
 walk_nrm
 repeat w_nl (KM.rely hz)
 refine Goes.stop λw₁ h₁=>?_
 replace hF:=KM.rely hz hF h₁;clear h₁;refine qK (o:=?_) (args:=?_) (ats:=?_) ?_ ?_ ?_ ?_ Try.func39 WN WO ?_
 rotate_left 3
 iterate 2 rfl
 ·k_ne
 ·rfl
 intro w₂ h₂;replace hF:=KM.rely hz hF h₂;clear h₂;walk_nrm;refine al0 (he.rel Cj hF.1) as0 λA cap zP W2 hk hsl hnw=>?_
 rw [Frame.finish_at];have hcm0:=hw.WI;replace hw:=(hw.rely rfl (hF.1.trans hk.rely)).sub hk.sub
 have hnew:∀a,A=some a->a.block≠cm:= λa ha e=>by
  have h1:=hnw a ha;have h2:=(he.own _ hcm0).1;have h3:=hF.1.size;omega
 replace he:=(he.rel Cj hF.1).kept Cj hk;replace hF:=Ja hz hF hk;clear hk;have al1:(De (lS s)).length<=16:=by unfold De lS;rw [List.length_map];exact DV _ _
 generalize hL:De (lS s)=l at hsl hit al1 ⊢;refine bL (n:=60) ?_
 walk_nrm
 repeat w_nl (KM.rely hz)
 refine Goes.stop λw₁ h₁=>?_
 replace hF:=KM.rely hz hF h₁;clear h₁;refine qK (o:=?_) (args:=?_) (ats:=?_) ?_ ?_ ?_ ?_ Try.func40 Wn OB ?_
 rotate_left 3
 iterate 2 rfl
 ·k_ne
 ·rfl
 intro w₂ h₂;replace hF:=KM.rely hz hF h₂;clear h₂;rw [enter_at _ Try.func40 OB]
 walk_nrmf Try.f40
 rw [show tZ N k c n0= .bd k ⟨lk .ld,c,n0⟩ from if_pos hcN];have QL:Beside (cfg Mu Wg ty N J ro Anch) ((cfg Mu Wg ty N J ro Anch).Zw k) zP:=⟨λb hb h=>by rcases h with h|h<;>first |exact (he.own b hb).2.1 h|exact (he.own b hb).2.2.1 h, λb hb h=>by rcases h with h|h<;>first |exact (he.rs b hb).1 h|exact (he.rs b hb).2 h, λb i h=>False.elim h⟩;refine ZX hne hi QL (λo Gu W1 w3 hr1 hGo hJk hF3=>?_) hF;have e0:(i==0)=false:=by simpa using hi
 rw [e0];subst hJ;obtain ⟨hG,A2,cap2,st,much,found,Vi,dS⟩:=WL hJk;clear hJk;have hw1:=(hw.rely rfl hr1).sub (own':= λb=>zP b∨Gu b) λb h=>.inl h
 have he1:Env Mu Wg (λb=>zP b∨Gu b) ro W1:=⟨he.rs, λb hb=>by
  rcases hb with hb|hb
  ·exact (he.rel Cj hr1).own b hb
  ·obtain ⟨⟨o',ho'⟩,q2,q3,q4⟩:=hG b hb;exact ⟨(aa.1 ho').1,q2,q3,q4⟩,(he.rel Cj hr1).ro,(he.rel Cj hr1).mu,(he.rel Cj hr1).wg,(he.rel Cj hr1).jy,(he.rel Cj hr1).wl⟩
 have hs1:=(hsl.rely hr1).sub (own':= λb=>zP b∨Gu b) λb h=>.inl h
 have hcm2:=hw.WI;have hs2:=hsl;clear hw he hr1 hF
 rename KM 80 Mu ((cfg Mu Wg ty N (JW Mu Wg bs bm bf ro ss n) ro Anch).Zw k) (λb=>zP b∨Gu b) W1 w3=>hF
 refine bL (n:=60) ?_
 walk_nrm
 repeat w_nl (KM.rely hz)
 refine Goes.stop λw₁ h₁=>?_
 replace hF:=KM.rely hz hF h₁;clear h₁;have hw2:=hw1.rely rfl hF.1;refine Ug (o:=?_) (x:=?_) (ad:=⟨cb,0,none⟩) ?_ ?_ ?_ ?_ ?_ hnm (.inr hw2.ZY) hw2.WJ ?_
 rotate_left 2
 iterate 2 rfl
 ·k_ne
 iterate 2 rfl
 intro w₂ h₂;replace hF:=KM.rely hz hF h₂;clear h₂ hw2;refine bL (n:=60) ?_
 walk_nrm
 repeat w_nl (KM.rely hz)
 refine Goes.stop λw₁ h₁=>?_
 replace hF:=KM.rely hz hF h₁;clear h₁;have hw2:=hw1.rely rfl hF.1;refine qG (o:=?_) (x:=?_) (ad:=⟨cm,0,none⟩) ?_ ?_ ?_ ?_ ?_ hnm (.inl hw2.WI) hw2.ZZ ?_
 rotate_left 2
 iterate 2 rfl
 ·k_ne
 iterate 2 rfl
 intro w₂ h₂;replace hF:=KM.rely hz hF h₂;clear h₂ hw2;walk_nrm;refine Un (o:=?_) (args:=?_) (ats:=?_) (x:=?_) (caps:=?_) ?_ ?_ ?_ ?_ ?_ Try.func31 QH QI ?_
 rotate_left 5
 iterate 2 rfl
 ·k_ne
 iterate 2 rfl
 intro w₂ h₂;replace hF:=KM.rely hz hF h₂;clear h₂;walk_nrm;have hll:l.length<=64:=by omega
 refine WM (he1.rel Cj hF.1) (λb h=>.inr h) (hs1.rely hF.1) hll (Vi.keep λb hb=>hF.1.own b (.inr hb)) λxk W4 hk4=>?_
 rw [Frame.finish_at];have hr4:=hF.1.trans hk4.rely;have hw4:=(hw1.rely rfl hr4).sub hk4.sub;have yw:=Vi.keep λb hb=>hr4.own b (.inr hb)
 have hG4:∀b,Gu b->(∃o,W4.heap[b]?=some o)∧b≠Mu∧b≠Wg∧¬ro b:= λb hb=>⟨by obtain ⟨o',ho'⟩:=(hG b hb).1;exact ⟨o',(hr4.own b (.inr hb)).trans ho'⟩,(hG b hb).2⟩
 have hs4:=(hs1.rely hr4).sub hk4.sub;have wT:∀b,Gu b->xk b:= λb hb=>hk4.sub b (.inr hb)
 have Z5:¬Gu cm:= λh=>hGo cm h hcm2
 replace he1:=(he1.rel Cj hF.1).kept Cj hk4;replace hF:=Ja hz hF hk4;have Yh:Beside (cfg Mu Wg ty N (JW Mu Wg bs bm bf ro ss n) ro Anch) ((cfg Mu Wg ty N (JW Mu Wg bs bm bf ro ss n) ro Anch).Zw k) xk:=⟨λb hb h=>by rcases h with h|h<;>first |exact (he1.own b hb).2.1 h|exact (he1.own b hb).2.2.1 h, λb hb h=>by rcases h with h|h<;>first |exact (he1.rs b hb).1 h|exact (he1.rs b hb).2 h, λb i h=>False.elim h⟩;have hadd:=dS.add (hit o)
 have Uo:∀a,A=some a->a.block≠bs∧a.block≠bm∧a.block≠bf:= λa ha=>by
  have h1:=(hs2.blk a ha).1;exact ⟨λe=>hGo _ Vi.gs (e ▸ h1), λe=>hGo _ Vi.gm (e ▸ h1), λe=>hGo _ Vi.gf (e ▸ h1)⟩
 clear hk4 hr4 Vi dS hw1 hs1 hG QL;cases hbt:lX l m st much found with
 |false=>
  rw [hbt] at hadd;have hadd:mE (if k=0 then eH ss n (c+1) o else eH ss n o (c+1)) st much found:=hadd;refine bL (n:=60) ?_
  walk_nrm
  repeat w_nl (KM.rely hz)
  refine Goes.stop λw₁ h₁=>?_
  replace hF:=KM.rely hz hF h₁;clear h₁;refine qK (o:=?_) (args:=?_) (ats:=?_) ?_ ?_ ?_ ?_ Try.func41 G5 yu ?_
  rotate_left 3
  iterate 2 rfl
  ·k_ne
  ·rfl
  intro w₂ h₂;replace hF:=KM.rely hz hF h₂;clear h₂;rw [enter_at _ Try.func41 yu]
  walk_nrmf Try.f41
  refine KT hne hi Yh wT (λw' hF'=>KR (λb hb=>⟨by obtain ⟨o',ho'⟩:=(hG4 b hb).1;exact ⟨o',(hF'.1.own b (wT b hb)).trans ho'⟩,(hG4 b hb).2⟩) (yw.keep λb hb=>hF'.1.own b (wT b hb)) hadd) (λw' hF'=>?_) hF;have Z6:¬Gu cm:=Z5;rw [e0]
  have hWK:WK cw cm cb bs bm bf bw ss n m (λb=>xk b∧¬Gu b) ro w':=by
   have hx:=WK.rely (Z:=(cfg Mu Wg ty N (JW Mu Wg bs bm bf ro ss n) ro Anch).Zw k) (own:= λb=>xk b∧¬Gu b) ⟨hw4.WH,hw4.ZY,hw4.Yf,⟨hw4.WI,Z6⟩,hw4.Ul,hw4.WJ,hw4.ZZ,hw4.Yg⟩ rfl hF'.1;exact hx
  have hE:Env Mu Wg (λb=>xk b∧¬Gu b) ro w':=by
   have hx:=he1.rel Cj hF'.1;exact ⟨hx.rs, λb hb=>hx.own b hb.1,hx.ro,hx.mu,hx.wg,hx.jy,hx.wl⟩
  have hnx:= λw'' h=>hnext (λb=>xk b∧¬Gu b) w' w'' o hWK hE h
  replace hF:KM 80 Mu ((cfg Mu Wg ty N (JW Mu Wg bs bm bf ro ss n) ro Anch).Zw k) (λb=>xk b∧¬Gu b) w' w':=⟨bZ.refl _,hF'.2⟩;clear hnext hF' hWK hE;refine bL (n:=60) ?_
  walk_nrm
  repeat w_nl (KM.rely hz)
  u_c stepG_inLoop (KM.rely hz) hF
  rw [show ((s:Int)+1)=((s+1:Nat):Int) from by simp];exact Goes.stop λw₃ h₃=>hnx w₃ (KM.rely hz hF h₃) _ _ _ _ _ _ _ _ _ _ _ _ _ _ _ _ _ _ _ _ _ _ _ _
 |true=>
  rw [hbt] at hadd;have hadd:mE (if k=0 then eH ss n (c+1) o else eH ss n o (c+1)) l m true:=hadd;obtain ⟨X,hX⟩:∃X:Nat->Prop,X= λb=>b=bs∨b=bm∨b=bf:=⟨_,rfl⟩
  obtain ⟨GU,hGU⟩:∃GU:Nat->Prop,GU= λb=>Gu b∨∃a,A=some a∧b=a.block:=⟨_,rfl⟩
  have Wp:∀b,X b->Gu b:= λb hb=>by
   rw [hX] at hb;rcases hb with rfl|rfl|rfl
   ·exact yw.gs
   ·exact yw.gm
   ·exact yw.gf
  have hXr:∀b,X b->¬ro b∧b≠cm:= λb hb=>⟨(hG4 b (Wp b hb)).2.2.2, λe=>Z5 (e ▸ Wp b hb)⟩
  have Z7:∀b,GU b->xk b:= λb hb=>by
   rw [hGU] at hb;rcases hb with hb|⟨a,ha,rfl⟩
   ·exact wT b hb
   ·exact (hs4.blk a ha).1
  have Z6:¬GU cm:= λh=>by
   rw [hGU] at h;rcases h with h|⟨a,ha,e⟩
   ·exact Z5 h
   ·exact hnew a ha e.symm
  have hsy:∀b,Gu b->¬((cfg Mu Wg ty N (JW Mu Wg bs bm bf ro ss n) ro Anch).Zw k).sy b:= λb hb h=>by
   rcases h with (h|h)|h
   ·exact (hG4 b hb).2.1 h
   ·exact (hG4 b hb).2.2.1 h
   ·exact h
  have hMu:∀b,Gu b->Mu≠b:= λb hb e=>(hG4 b hb).2.1 e.symm
  have hO:Vh X xk ro W4 W4:=.refl;have wl:=he1.wl;have hWg:∀b,Gu b->Wg≠b:= λb hb e=>(hG4 b hb).2.2.1 e.symm
  have k1:C1 W4 bs _:=yw.vs;have k2:C1 W4 bm _:=yw.vm;have k3:C1 W4 bf _:=yw.vf;refine bL (n:=60) ?_
  walk_nrm
  repeat w_nl (KM.rely hz)
  refine Goes.stop λw₁ h₁=>?_
  replace hF:=KM.rely hz hF h₁;clear h₁;have hwX:=hw4.rely rfl hF.1;refine qG (o:=?_) (x:=?_) (ad:=⟨cm,0,none⟩) ?_ ?_ ?_ ?_ ?_ hnm (.inl hwX.WI) hwX.ZZ ?_
  rotate_left 2
  iterate 2 rfl
  ·k_ne
  iterate 2 rfl
  intro w₂ h₂;replace hF:=KM.rely hz hF h₂;clear h₂ hwX;refine bL (n:=60) ?_
  walk_nrm
  repeat w_nl (KM.rely hz)
  refine Goes.stop λw₁ h₁=>?_
  replace hF:=KM.rely hz hF h₁;clear h₁;replace k1:=k1.same (hF.1.own _ (wT _ yw.gs));replace k2:=k2.same (hF.1.own _ (wT _ yw.gm));replace k3:=k3.same (hF.1.own _ (wT _ yw.gf));replace hO:=hO.rely rfl hF.1;replace wl:=jM wl (hF.1.sy _ Cj);refine Ox (o:=?_) (x:=?_) (y:=?_) (ad:=⟨bs,0,none⟩) (p:=A) (l:=l.length) (c:=cap) ?_ ?_ ?_ ?_ ?_ ?_ hnm (wT _ yw.gs) (hsy _ yw.gs) k1.cell k1.free ?_
  rotate_left 3
  iterate 2 rfl
  ·k_ne
  iterate 3 rfl
  intro w₂ h₂;have ml:=zR (ad:=⟨bs,0,none⟩) (v:=.slice A l.length cap) (KM.rely hz hF h₂).2 (hMu _ yw.gs);replace k1:=(k1.same (h₂.own _ (wT _ yw.gs))).set (.slice A l.length cap);replace k2:=(k2.same (h₂.own _ (wT _ yw.gm))).same ((Go.Conc.aside_setCell w₂ ⟨bs,0,none⟩ (.slice A l.length cap)).block bm (Ne.symm xR.1));replace k3:=(k3.same (h₂.own _ (wT _ yw.gf))).same ((Go.Conc.aside_setCell w₂ ⟨bs,0,none⟩ (.slice A l.length cap)).block bf (Ne.symm xR.2.1));replace hO:=(hO.rely rfl h₂).set (ad:=⟨bs,0,none⟩) (v:=.slice A l.length cap) (by rw [hX];exact .inl rfl);replace wl:=zQ (ad:=⟨bs,0,none⟩) (v:=.slice A l.length cap) (jM wl (h₂.sy _ Cj)) (hWg _ yw.gs);generalize w₂.setCell ⟨bs,0,none⟩ (.slice A l.length cap)=w5 at ml k1 k2 k3 hO wl ⊢;clear h₂;replace hF:KM 80 Mu ((cfg Mu Wg ty N (JW Mu Wg bs bm bf ro ss n) ro Anch).Zw k) xk w5 w5:=⟨bZ.refl _,ml⟩;clear ml;walk_nrm;refine vH (o:=?_) (x:=?_) (y:=?_) (ad:=⟨bm,0,none⟩) (n:=m) ?_ ?_ ?_ ?_ ?_ ?_ hnm (wT _ yw.gm) (hsy _ yw.gm) k2.cell k2.free ?_
  rotate_left 3
  iterate 2 rfl
  ·k_ne
  iterate 3 rfl
  intro w₂ h₂;have ml:=zR (ad:=⟨bm,0,none⟩) (v:=.bool m) (KM.rely hz hF h₂).2 (hMu _ yw.gm);replace k1:=(k1.same (h₂.own _ (wT _ yw.gs))).same ((Go.Conc.aside_setCell w₂ ⟨bm,0,none⟩ (.bool m)).block bs xR.1);replace k2:=(k2.same (h₂.own _ (wT _ yw.gm))).set (.bool m);replace k3:=(k3.same (h₂.own _ (wT _ yw.gf))).same ((Go.Conc.aside_setCell w₂ ⟨bm,0,none⟩ (.bool m)).block bf (Ne.symm xR.2.2));replace hO:=(hO.rely rfl h₂).set (ad:=⟨bm,0,none⟩) (v:=.bool m) (by rw [hX];exact .inr (.inl rfl));replace wl:=zQ (ad:=⟨bm,0,none⟩) (v:=.bool m) (jM wl (h₂.sy _ Cj)) (hWg _ yw.gm);generalize w₂.setCell ⟨bm,0,none⟩ (.bool m)=w6 at ml k1 k2 k3 hO wl ⊢;clear h₂;replace hF:KM 80 Mu ((cfg Mu Wg ty N (JW Mu Wg bs bm bf ro ss n) ro Anch).Zw k) xk w6 w6:=⟨bZ.refl _,ml⟩;clear ml;walk_nrm;refine vH (o:=?_) (x:=?_) (y:=?_) (ad:=⟨bf,0,none⟩) (n:=true) ?_ ?_ ?_ ?_ ?_ ?_ hnm (wT _ yw.gf) (hsy _ yw.gf) k3.cell k3.free ?_
  rotate_left 3
  iterate 2 rfl
  ·k_ne
  iterate 3 rfl
  intro w₂ h₂;have ml:=zR (ad:=⟨bf,0,none⟩) (v:=.bool true) (KM.rely hz hF h₂).2 (hMu _ yw.gf);replace k1:=(k1.same (h₂.own _ (wT _ yw.gs))).same ((Go.Conc.aside_setCell w₂ ⟨bf,0,none⟩ (.bool true)).block bs xR.2.1);replace k2:=(k2.same (h₂.own _ (wT _ yw.gm))).same ((Go.Conc.aside_setCell w₂ ⟨bf,0,none⟩ (.bool true)).block bm xR.2.2);replace k3:=(k3.same (h₂.own _ (wT _ yw.gf))).set (.bool true);replace hO:=(hO.rely rfl h₂).set (ad:=⟨bf,0,none⟩) (v:=.bool true) (by rw [hX];exact .inr (.inr rfl));replace wl:=zQ (ad:=⟨bf,0,none⟩) (v:=.bool true) (jM wl (h₂.sy _ Cj)) (hWg _ yw.gf);generalize w₂.setCell ⟨bf,0,none⟩ (.bool true)=w7 at ml k1 k2 k3 hO wl ⊢;clear h₂;replace hF:KM 80 Mu ((cfg Mu Wg ty N (JW Mu Wg bs bm bf ro ss n) ro Anch).Zw k) xk w7 w7:=⟨bZ.refl _,ml⟩;clear ml;replace hw4:=hw4.FN hO hXr;replace he1:Env Mu Wg xk ro w7:=⟨he1.rs, λb hb=>⟨ak (he1.own b hb).1 hO.size,(he1.own b hb).2⟩, λb hb=>ak (he1.ro b hb) hO.size,ak he1.mu hO.size,ak he1.wg hO.size,ak he1.jy hO.size,wl⟩
  have hnX:∀a,A=some a->¬X a.block:= λa ha h=>by
   rw [hX] at h;rcases h with h|h|h
   ·exact (Uo a ha).1 h
   ·exact (Uo a ha).2.1 h
   ·exact (Uo a ha).2.2 h
  have hsU:Sl GU w7 A l:=⟨λa ha=>by
   obtain ⟨q1,cur,e,fr,q2,q3⟩:=hs4.blk a ha;exact ⟨by rw [hGU];exact .inr ⟨a,ha,rfl⟩,cur,e,fr,(hO.blk _ (hnX a ha) (.inl q1)).trans q2,q3⟩, λhn'=>by
   obtain ⟨bb,off,e,q1,q2⟩:=hs4.rd hn';exact ⟨bb,off,e,ak q1 hO.size, λi j hi hj=>(dW (hO.blk _ (hnX _ e) (.inl (hs4.blk _ e).1)) _).trans (q2 i j hi hj)⟩⟩
  have hfU:Fd bs bm bf A cap l m true GU w7:=⟨by rw [hGU];exact .inl yw.gs,by rw [hGU];exact .inl yw.gm,by rw [hGU];exact .inl yw.gf,k1,k2,k3,hsU,al1⟩;refine bL (n:=60) ?_
  walk_nrm
  repeat w_nl (KM.rely hz)
  refine Goes.stop λw₁ h₁=>?_
  replace hF:=KM.rely hz hF h₁;clear h₁;refine qK (o:=?_) (args:=?_) (ats:=?_) ?_ ?_ ?_ ?_ Try.func41 G5 yu ?_
  rotate_left 3
  iterate 2 rfl
  ·k_ne
  ·rfl
  intro w₂ h₂;replace hF:=KM.rely hz hF h₂;clear h₂;rw [enter_at _ Try.func41 yu]
  walk_nrmf Try.f41
  refine KT (Gu:=GU) hne hi Yh Z7 (λw' hF'=>KR (λb hb=>by
   obtain ⟨q1,q2,q3,q4⟩:=(he1.rel Cj hF'.1).own b (Z7 b hb);exact ⟨⟨_,aH q1⟩,q2,q3,q4⟩) (hfU.keep λb hb=>hF'.1.own b (Z7 b hb)) hadd) (λw' hF'=>?_) hF
  rw [e0]
  have hWK:WK cw cm cb bs bm bf bw ss n m (λb=>xk b∧¬GU b) ro w':=by
   have hx:=WK.rely (Z:=(cfg Mu Wg ty N (JW Mu Wg bs bm bf ro ss n) ro Anch).Zw k) (own:= λb=>xk b∧¬GU b) ⟨hw4.WH,hw4.ZY,hw4.Yf,⟨hw4.WI,Z6⟩,hw4.Ul,hw4.WJ,hw4.ZZ,hw4.Yg⟩ rfl hF'.1;exact hx
  have hE:Env Mu Wg (λb=>xk b∧¬GU b) ro w':=by
   have hx:=he1.rel Cj hF'.1;exact ⟨hx.rs, λb hb=>hx.own b hb.1,hx.ro,hx.mu,hx.wg,hx.jy,hx.wl⟩
  have hnx:= λw'' h=>hnext (λb=>xk b∧¬GU b) w' w'' o hWK hE h
  replace hF:KM 80 Mu ((cfg Mu Wg ty N (JW Mu Wg bs bm bf ro ss n) ro Anch).Zw k) (λb=>xk b∧¬GU b) w' w':=⟨bZ.refl _,hF'.2⟩;clear hnext hF' hWK hE;refine bL (n:=60) ?_
  walk_nrm
  repeat w_nl (KM.rely hz)
  u_c stepG_inLoop (KM.rely hz) hF
  rw [show ((s:Int)+1)=((s+1:Nat):Int) from by simp];exact Goes.stop λw₃ h₃=>hnx w₃ (KM.rely hz hF h₃) _ _ _ _ _ _ _ _ _ _ _ _ _ _ _ _ _ _ _ _ _ _ _ _
end
end Go.Proofs.Try
end
section
namespace Go.Proofs.Try
open Go Go.Conc Go.ConcN Go.ConcM Go.RowKit Go.Conc.Lib Go.ConcR.Gen Par
attribute [local instance] noSh ig
def cnt (ss:List dL) (n:Nat) (m:Bool) (s:Nat):Nat:=((List.range s).filter λs=>fo ss (n+1) s m).length
theorem yx (ss:List dL) (n:Nat) (m:Bool) (s:Nat):((List.range (s+1)).filter λs=>fo ss (n+1) s m)=((List.range s).filter λs=>fo ss (n+1) s m)++if fo ss (n+1) s m then [s] else []:=by
 rw [List.range_succ,List.filter_append];congr 1
 by_cases h:fo ss (n+1) s m=true<;>simp [h]
theorem Jb {ss:List dL} {n:Nat} {m:Bool} {s:Nat} (h:fo ss (n+1) s m=true):cnt ss n m (s+1)=cnt ss n m s+1:=by
 unfold cnt;rw [yx,h];simp
theorem Z8 {ss:List dL} {n:Nat} {m:Bool} {s:Nat} (h:fo ss (n+1) s m=false):cnt ss n m (s+1)=cnt ss n m s:=by
 unfold cnt;rw [yx,h];simp
theorem Fx (ss:List dL) (n:Nat) (m:Bool) (s:Nat):∀d,∃r,((List.range (s+d)).filter λs=>fo ss (n+1) s m)=((List.range s).filter λs=>fo ss (n+1) s m)++r
 |0=>⟨[],by simp⟩
 |d+1=>by
  obtain ⟨r,h⟩:=Fx ss n m s d;exact ⟨_,by rw [<-Nat.add_assoc,yx,h,List.append_assoc]⟩
theorem KU {ss:List dL} {n:Nat} {m:Bool} {s:Nat} (h:s<=2 ^ n):(iP ss n m).take (cnt ss n m s)=(List.range s).filter λs=>fo ss (n+1) s m:=by
 obtain ⟨r,hr⟩:=Fx ss n m s (2 ^ n - s);rw [show s+(2 ^ n - s)=2 ^ n from by omega] at hr;unfold iP cnt;rw [hr,List.take_left]
theorem Z9 {ss:List dL} {n:Nat} {m:Bool} {s:Nat} (h:s<=2 ^ n):cnt ss n m s<=(iP ss n m).length:=by
 obtain ⟨r,hr⟩:=Fx ss n m s (2 ^ n - s);rw [show s+(2 ^ n - s)=2 ^ n from by omega] at hr;unfold iP cnt;rw [hr,List.length_append];omega
theorem QM {ss:List dL} {n k s:Nat} (hk:k<2) (hs:s<2 ^ n) (h:fo ss (n+1) s (decide (k=1))=true) (o:Nat) (x:List Int×Bool):
 x∈(if k=0 then eH ss n (cnt ss n (decide (k=1)) s+1) o else eH ss n o (cnt ss n (decide (k=1)) s+1))↔x∈(if k=0 then eH ss n (cnt ss n (decide (k=1)) s) o else eH ss n o (cnt ss n (decide (k=1)) s))∨x=(De (lS s),decide (k=1)):=by
 have e1:=KU (ss:=ss) (m:=decide (k=1)) (Nat.le_of_lt hs);have e2:=KU (ss:=ss) (m:=decide (k=1)) (s:=s+1) hs;rw [Jb h,yx,h,if_pos rfl] at e2;obtain rfl|rfl:k=0∨k=1:=by omega
 ·rw [if_pos rfl,if_pos rfl];unfold eH;simp only [Nat.zero_ne_one,decide_false] at e1 e2 ⊢;rw [e1,e2];simp only [List.map_append,List.map_cons,List.map_nil,List.mem_append,aB];exact or_right_comm
 ·rw [if_neg (by decide),if_neg (by decide)];unfold eH;simp only [decide_true] at e1 e2 ⊢;rw [e1,e2];simp only [List.map_append,List.map_cons,List.map_nil,List.mem_append,aB];exact or_assoc.symm
section
variable {Mu Wg cw cm cb bs bm bf bw:Nat} {ty:TypeId} {N:Nat->Nat} {J:Nat->Nat->(Nat->Prop)->World->Prop} {ro:Nat->Prop} {Anch:(Nat->Prop)->Goroutine->World->Prop}
variable {i k:Nat}
theorem WS {ss:List dL} {n lim:Nat} {QJ:List Deferred} (hne:Mu≠Wg) (hi:i≠0) (xR:bs≠bm∧bs≠bf∧bm≠bf) (hJ:J=JW Mu Wg bs bm bf ro ss n) (hk:k<2) (hN:∀k,k<2->N k=(iP ss n (decide (k=1))).length) (hl:lim=2 ^ n) (hn:n<=15)
 (hend:∀own W0 w n0,WK cw cm cb bs bm bf bw ss n (decide (k=1)) own ro W0->Env Mu Wg own ro W0->KM 80 Mu ((cfg Mu Wg ty N J ro Anch).Zw k) own W0 w->yZ Wg cw cm Mu cb bs bm bf lim lim QJ λg=>Gw Try.prog false ((cfg Mu Wg ty N J ro Anch).Zw k) (At Try.prog (cfg Mu Wg ty N J ro Anch).sys i (tZ N k (N k) n0)) own g w):
 ∀d s own W0 w n0,lim=s+d->WK cw cm cb bs bm bf bw ss n (decide (k=1)) own ro W0->Env Mu Wg own ro W0->KM 80 Mu ((cfg Mu Wg ty N J ro Anch).Zw k) own W0 w->
  yZ Wg cw cm Mu cb bs bm bf lim s QJ λg=>Gw Try.prog false ((cfg Mu Wg ty N J ro Anch).Zw k) (At Try.prog (cfg Mu Wg ty N J ro Anch).sys i (tZ N k (cnt ss n (decide (k=1)) s) n0)) own g w:=by
 intro d
 induction d with
 |zero=>
  intro s own W0 w n0 hs hw he hF;obtain rfl:s=lim:=by omega
  have :cnt ss n (decide (k=1)) s=N k:=by
   rw [hN k hk,hl];rfl
  rw [this];exact hend own W0 w n0 hw he hF
 |succ d ih=>
  intro s own W0 w n0 hs hw he hF;have hslt:s<lim:=by omega
  cases hp:fo ss (n+1) s (decide (k=1)) with
  |false=>
   refine Z4 hw he hslt hl hn hF hp λown' W' hkp w' hF'=>?_
   have :=ih (s+1) own' W' w' n0 (by omega) ((hw.rely rfl hkp.rely).sub hkp.sub) (he.kept (show ((cfg Mu Wg ty N J ro Anch).Zw k).sy Wg from .inl (.inr rfl)) hkp) hF';rw [Z8 hp] at this;exact this
  |true=>
   refine WQ hne hi xR hJ ?_ (QM hk (by omega) hp) hw he hslt hl hn hF hp λown' W' w' n' hw' he' hF'=>?_
   ·rw [hN k hk];have h1:=Z9 (ss:=ss) (m:=decide (k=1)) (s:=s+1) (n:=n) (by omega);rw [Jb hp] at h1;omega
   ·have :=ih (s+1) own' W' w' n' (by omega) hw' he' hF';rw [Jb hp] at this;exact this
end
end Go.Proofs.Try
end
section
namespace Go.Proofs.Try
open Go Go.Conc Go.ConcN Go.ConcM Go.RowKit Go.Conc.Lib Go.ConcR.Gen Par
attribute [local instance] noSh ig
theorem nm_done:(Try.f37.name== "runtime.NumGoroutine")=false:=by kernel_rfl
theorem WT:Try.f37.body=some (Try.f37.body.getD .skip):=by unfold Try.f37;rfl
theorem aa0 (T:Array Value):QuitsD Try.prog 2 0 (G { (baseD 36).at ⟨T,[]⟩ [] with mode:=.returning } [KS]):=by
 refine QuitsD.ctl (g':=G KS []) rfl (λw=>?_) ?_
 ·simp [G,stepG,unwind,doReturn,results,Frame.at,baseD,KS,Try.func36,Try.f36,seen,GStep.after,goexitEntry]
 refine QuitsD.ctl (g':={ G KS [] with status:=.finished }) rfl (λw=>?_) ⟨rfl,rfl⟩;simp [G,stepG,unwind,KS,goexitEntry,Frame.catches];rfl
theorem al2 {P:Program} {Z:eG} {X:(Nat->Prop)->Goroutine->World->Prop} {own:Nat->Prop} {g:Goroutine} {W:World} {i:Nat} (e:(i==0)=false) (h:Gw P (i==0) Z X own g W):Gw P false Z X own g W:=by rw [e] at h;exact h
section
variable {Mu Wg cw cm cb bs bm bf bw:Nat} {N:Nat->Nat} {J:Nat->Nat->(Nat->Prop)->World->Prop} {ro:Nat->Prop} {Anch:(Nat->Prop)->Goroutine->World->Prop}
variable {i k:Nat}
theorem WU {m:Bool} {ss:List dL} {n lim n0:Nat} {own:Nat->Prop} {W0 w:World} (hne:Mu≠Wg) (hi:i≠0) (hw:WK cw cm cb bs bm bf bw ss n m own ro W0) (he:Env Mu Wg own ro W0) (hF:KM 80 Mu ((cfg Mu Wg 87 N J ro Anch).Zw k) own W0 w):
 yZ Wg cw cm Mu cb bs bm bf lim lim [dcall 37 #[.pointer (some ⟨Wg,0,none⟩)]] λg=>Gw Try.prog false ((cfg Mu Wg 87 N J ro Anch).Zw k) (At Try.prog (cfg Mu Wg 87 N J ro Anch).sys i (tZ N k (N k) n0)) own g w:=by
 intro j8 j9 j10 j11 j12 j13 kz kC kD kE kF l6 l7 l8 kG kH kJ kK kL kM kN kP kQ kR;unfold Fw;have hz:((cfg Mu Wg 87 N J ro Anch).Zw k).sy Mu:=.inl (.inl rfl);have Cj:((cfg Mu Wg 87 N J ro Anch).Zw k).sy Wg:=.inl (.inr rfl);rw [show tZ N k (N k) n0= .wg k .wr from if_neg (Nat.lt_irrefl _)];have e0:(i==0)=false:=by simpa using hi
 simp only [LW,CU,bO,Try.f36,Option.getD_some];refine bL (n:=60) ?_
 repeat w_nl (KM.rely hz)
 u_in (KM.rely hz) hF
 rw [stepG_unwind_enter rfl Try.func37 nm_done WT];simp only [goes_go];refine ⟨by u_nil,?_⟩
 walk_nrmf Try.f37
 refine Goes.stop λw₁ h₁=>?_
 replace hF:=KM.rely hz hF h₁;exact al2 e0 (ai3 (P:=Try.prog) (L:=Try.link) (C:=cfg Mu Wg 87 N J ro Anch) (k:=k) (own:=own) (W0:=W0) Try.iB rfl (I7 hne) hi rfl (aa0 _) (λ_ _ _ _ _ _=>trivial) w₁ ⟨hF.1,jM he.wl (hF.1.sy _ Cj)⟩)
def Fy (Wg cw cm Mu cb bs bm bf:Nat):Deferred:={ target:=.fn (.func 36) #[.pointer (some ⟨Wg,0,none⟩),.pointer (some ⟨cw,0,none⟩),.pointer (some ⟨cm,0,none⟩),.pointer (some ⟨Mu,0,none⟩),.pointer (some ⟨cb,0,none⟩),.pointer (some ⟨bs,0,none⟩),.pointer (some ⟨bm,0,none⟩),.pointer (some ⟨bf,0,none⟩)],args:= #[] }
theorem Ng (w:World):stepG Try.prog false (born Try.prog (Fy Wg cw cm Mu cb bs bm bf)) w=
 .go (G ((baseD 36).at ⟨#[.pointer (some ⟨Wg,0,none⟩),.pointer (some ⟨cw,0,none⟩),.pointer (some ⟨cm,0,none⟩),.pointer (some ⟨Mu,0,none⟩),.pointer (some ⟨cb,0,none⟩),.pointer (some ⟨bs,0,none⟩),.pointer (some ⟨bm,0,none⟩),.pointer (some ⟨bf,0,none⟩),undef,undef,undef,undef,undef,undef,undef,undef,undef,undef,undef,undef,undef,undef,undef,undef,undef,undef,undef,undef,undef,undef,undef,undef,undef,undef],[]⟩ [.code CU]) [KS]) w #[]:=by
 simp [born,Fy,stepG,unwind,callDeferred,invoke,callFunc,Try.func36,Try.f36,seen,GStep.after,G,Frame.enter,Frame.at,baseD,KS,CU]
theorem WV {ss:List dL} {n:Nat} {own:Nat->Prop} {w:World} (hne:Mu≠Wg) (hi:i≠0) (xR:bs≠bm∧bs≠bf∧bm≠bf) (hJ:J=JW Mu Wg bs bm bf ro ss n) (hk:k<2) (hN:∀k,k<2->N k=(iP ss n (decide (k=1))).length) (hn:n<=15)
 (hw:WK cw cm cb bs bm bf bw ss n (decide (k=1)) own ro w) (he:Env Mu Wg own ro w) (hm:zH 80 Mu w):
 Gw Try.prog false ((cfg Mu Wg 87 N J ro Anch).Zw k) (At Try.prog (cfg Mu Wg 87 N J ro Anch).sys i (tZ N k 0 0)) own (born Try.prog (Fy Wg cw cm Mu cb bs bm bf)) w:=by
 have hall:=WS (Mu:=Mu) (Wg:=Wg) (cw:=cw) (cm:=cm) (cb:=cb) (bs:=bs) (bm:=bm) (bf:=bf) (bw:=bw) (ty:=87) (N:=N) (J:=J) (ro:=ro) (Anch:=Anch) (i:=i) (k:=k) (ss:=ss) (n:=n) (lim:=2 ^ n) (QJ:=[dcall 37 #[.pointer (some ⟨Wg,0,none⟩)]]) hne hi xR hJ hk hN rfl hn (λown W0 w n0 h1 h2 h3=>WU hne hi h1 h2 h3) (2 ^ n) 0 own w;have hz:((cfg Mu Wg 87 N J ro Anch).Zw k).sy Mu:=.inl (.inl rfl);have Cj:((cfg Mu Wg 87 N J ro Anch).Zw k).sy Wg:=.inl (.inr rfl);have hnm:¬((cfg Mu Wg 87 N J ro Anch).Zw k).mute:= λh=>h
 have hF:KM 80 Mu ((cfg Mu Wg 87 N J ro Anch).Zw k) own w w:=⟨bZ.refl _,hm⟩;have KV:= λw' h=>hall w' 0 (by omega) hw he h
 have h0:cnt ss n (decide (k=1)) 0=0:=rfl;rw [h0] at KV;clear hall h0;have hsh:IntKind.u64.wrap ((2:Int) ^ n)=((2 ^ n:Nat):Int):=xY n (by omega);have hlim:∃lim,lim=2 ^ n:=⟨_,rfl⟩;unfold yZ Fw at KV;simp only [LW,CU,bO,Try.f36,Option.getD_some] at KV;refine bL (n:=60) ?_
 u_in (KM.rely hz) hF
 rw [Ng];simp only [goes_go];refine ⟨by u_nil,?_⟩;simp only [CU,Try.f36,Option.getD_some]
 repeat w_nl (KM.rely hz)
 u_defer (KM.rely hz) hF
 repeat w_nl (KM.rely hz)
 refine Goes.stop λw₁ h₁=>?_
 replace hF:=KM.rely hz hF h₁;clear h₁;have hw1:=hw.rely rfl hF.1;refine Fq (o:=?_) (x:=?_) (ad:=⟨cw,0,none⟩) ?_ ?_ ?_ ?_ ?_ hnm (.inr hw1.WH) hw1.Ul ?_
 rotate_left 2
 iterate 2 rfl
 ·k_ne
 iterate 2 rfl
 intro w₂ h₂;replace hF:=KM.rely hz hF h₂;clear h₂ hw1;refine bL (n:=60) ?_
 walk_nrm
 repeat w_nl (KM.rely hz)
 refine Goes.stop λw₁ h₁=>?_
 replace hF:=KM.rely hz hF h₁;clear h₁;have hw1:=hw.rely rfl hF.1;obtain ⟨A,cap,e,fr,x1,x2,x3⟩:=hw1.Yg;refine Uh (o:=?_) (x:=?_) (ad:=⟨bw,1,none⟩) ?_ ?_ ?_ ?_ ?_ hnm (.inr hw1.Yf) x2.c1 ?_
 rotate_left 2
 iterate 2 rfl
 ·k_ne
 iterate 2 rfl
 intro w₂ h₂;replace hF:=KM.rely hz hF h₂;clear h₂ hw1 x1 x2 x3;refine bL (n:=60) ?_
 walk_nrm
 repeat w_but "code.loop" (KM.rely hz)
 u_c stepG_loop (KM.rely hz) hF
 first
  |exact Goes.stop λw₃ h₃=>KV w₃ (KM.rely hz hF h₃) _ _ _ _ _ _ _ _ _ _ _ _ _ _ _ _ _ _ _ _ _ _ _ _
  |(rw [show ((2:Int) ^ n)=((2 ^ n:Nat):Int) from by simp];exact Goes.stop λw₃ h₃=>KV w₃ (KM.rely hz hF h₃) _ _ _ _ _ _ _ _ _ _ _ _ _ _ _ _ _ _ _ _ _ _ _ _)
end
end Go.Proofs.Try
end
