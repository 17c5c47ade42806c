/- Part 37. -/
import Derived.Test.YtnemnkmojiljmaaGreatB35
import Derived.Test.YtnemnkmojiljmaaGreatB36
set_option maxRecDepth 100000
set_option maxHeartbeats 0
set_option linter.all false
namespace Go.Proofs.Tryz
open Go Go.Conc Go.ConcN Go.ConcM Go.RowKit Go.Conc.Lib Go.ConcR.Gen Par
section
attribute [local instance] noSh jm
theorem PE:Tryz.f67.body=some Py:=by unfold Py Tryz.f67;rfl
theorem zJ:Tryz.f68.body=some PD:=by unfold PD Tryz.f68;rfl
structure Wq (X own ro:Nat->Prop) (W W':World):Prop where
 blk:∀b,¬X b->own b∨ro b->W'.heap[b]?=W.heap[b]?
 size:W.heap.size<=W'.heap.size
theorem Wq.refl {X own ro:Nat->Prop} {W:World}:Wq X own ro W W:=⟨λ_ _ _=>rfl,aJ _⟩
theorem Wq.rely {X own ro:Nat->Prop} {Z:gB} {W W' W'':World} (h:Wq X own ro W W') (hz:Z.ro=ro) (hr:dZ Z own W' W''):Wq X own ro W W'':=
 ⟨λb hX hb=>(hb.elim (hr.own b) (λx=>hr.ro b (by rw [hz];exact x))).trans (h.blk b hX hb),aT h.size hr.size⟩
theorem Wq.set {X own ro:Nat->Prop} {W W':World} {ad:Addr} {v:Value} (h:Wq X own ro W W') (hX:X ad.block):Wq X own ro W (W'.setCell ad v):=
 ⟨λb hb ho=>(Go.Conc.aside_setCell W' ad v |>.block b λe=>hb (e ▸ hX)).trans (h.blk b hb ho),aT h.size (Nat.le_of_eq (Go.Conc.aside_setCell W' ad v).size.symm)⟩
theorem WK.Hr {cw cm cb bs bm bf bw:Nat} {ss:List fI} {n:Nat} {m:Bool} {X own ro:Nat->Prop} {W W1:World} (h:WK cw cm cb bs bm bf bw ss n m own ro W) (ho:Wq X own ro W W1) (hX:∀b,X b->¬ro b∧b≠cm):WK cw cm cb bs bm bf bw ss n m own ro W1:=by
 have hro:∀b,ro b->W1.heap[b]?=W.heap[b]?:= λb hb=>ho.blk b (λx=>(hX b x).1 hb) (.inr hb)
 obtain ⟨a1,a2,a3,a4,a5,a6,a7,A,cap,e,fr,a8,a9,Vb⟩:=h;refine ⟨a1,a2,a3,a4,(fV (hro _ a1) _).trans a5,(fV (hro _ a2) _).trans a6,(fV (ho.blk _ (λx=>(hX _ x).2 rfl) (.inl a4)) _).trans a7,A,cap,e,fr,(hro _ a3).trans a8,xu a9 (hro _ a3) (λa e _=>hro _ (Vb a e).1) ho.size, λa ha=>?_⟩;obtain ⟨h1,cur,e',fr',h2,h3⟩:=Vb a ha;exact ⟨h1,cur,e',fr',(hro _ h1).trans h2,h3⟩
def C1 (W:World) (b:Nat) (v:Value):Prop:=∃e,W.heap[b]?=some (.cells #[v] e)
theorem C1.cell {W:World} {b:Nat} {v:Value} (h:C1 W b v):W.cell? ⟨b,0,none⟩=some v:=by
 obtain ⟨e,h⟩:=h;unfold World.cell?;simp only [h];rfl
theorem C1.free {W:World} {b:Nat} {v:Value} (h:C1 W b v):W.frozen? ⟨b,0,none⟩=false:=by
 obtain ⟨e,h⟩:=h;unfold World.frozen?;simp only [h];rfl
theorem C1.same {W W1:World} {b:Nat} {v:Value} (h:C1 W b v) (hk:W1.heap[b]?=W.heap[b]?):C1 W1 b v:=by
 obtain ⟨e,h⟩:=h;exact ⟨e,hk.trans h⟩
theorem C1.set {W:World} {b:Nat} {v0:Value} (h:C1 W b v0) (v:Value):C1 (W.setCell ⟨b,0,none⟩ v) b v:=by
 obtain ⟨e,h⟩:=h;exact ⟨e,by rw [heap_setCell_same W b 0 _ e v h];rfl⟩
theorem Br {Wg:Nat} {W:World} {ad:Addr} {v:Value} (h:WgLive 104 Wg W) (hne:Wg≠ad.block):WgLive 104 Wg (W.setCell ad v):=by
 obtain ⟨a,b,h⟩:=h;refine ⟨a,b,?_⟩;show (W.setCell ad v).heap[Wg]?=_
 rw [(Go.Conc.aside_setCell W ad v).block Wg hne];exact h
theorem Bt {Mu:Nat} {W:World} {ad:Addr} {v:Value} (h:Bg 97 Mu W) (hne:Mu≠ad.block):Bg 97 Mu (W.setCell ad v):=by
 obtain ⟨a,b,h⟩:=h;refine ⟨a,b,?_⟩;show (W.setCell ad v).heap[Mu]?=_
 rw [(Go.Conc.aside_setCell W ad v).block Mu hne];exact h
section
variable {Mu Wg cw cm cb bs bm bf bw:Nat} {ty:TypeId} {N:Nat->Nat} {J:Nat->Nat->(Nat->Prop)->World->Prop} {ro:Nat->Prop} {Anch:(Nat->Prop)->Goroutine->World->Prop}
variable {own:Nat->Prop} {W0:World} {i k c:Nat}
theorem XV {m:Bool} {ss:List fI} {n s lim n0:Nat} {Rz:List Deferred} {w:World} (hne:Mu≠Wg) (hi:i≠0) (zi:bs≠bm∧bs≠bf∧bm≠bf) (hJ:J=JW Mu Wg bs bm bf ro ss n) (hcN:c<N k)
 (hit:∀o x,x∈(if k=0 then gD ss n (c+1) o else gD ss n o (c+1))↔x∈(if k=0 then gD ss n c o else gD ss n o c)∨x=(Ez (nH s),m))
 (hw:WK cw cm cb bs bm bf bw ss n m own ro W0) (he:Env Mu Wg own ro W0) (hs:s<lim) (hl:lim=2 ^ n) (hn:n<=15) (hF:KM 97 Mu ((cfg Mu Wg ty N J ro Anch).Zw k) own W0 w)
 (hp:gT ss (n+1) s m=true)
 (hnext:∀dL W' w' n',WK cw cm cb bs bm bf bw ss n m dL ro W'->Env Mu Wg dL ro W'->KM 97 Mu ((cfg Mu Wg ty N J ro Anch).Zw k) dL W' w'->Am Wg cw cm Mu cb bs bm bf lim (s+1) Rz λg=>Gw Tryz.prog false ((cfg Mu Wg ty N J ro Anch).Zw k) (At Tryz.prog (cfg Mu Wg ty N J ro Anch).sys i (vG N k (c+1) n')) dL g w'):
 Am Wg cw cm Mu cb bs bm bf lim s Rz λg=>Gw Tryz.prog false ((cfg Mu Wg ty N J ro Anch).Zw k) (At Tryz.prog (cfg Mu Wg ty N J ro Anch).sys i (vG N k c n0)) own g w:=by
 intro j8 j9 j10 j11 j12 j13 l6 l7 l8 l9 mg nO nP nQ mh mo mq mD mE mF mG mH mJ mK;unfold Am at hnext;unfold GM at hnext ⊢;have hz:((cfg Mu Wg ty N J ro Anch).Zw k).sy Mu:=.inl (.inl rfl);have DL:((cfg Mu Wg ty N J ro Anch).Zw k).sy Wg:=.inl (.inr rfl);have hnm:¬((cfg Mu Wg ty N J ro Anch).Zw k).mute:= λh=>h
 have d0:decide ((s:Int)<(lim:Int))=true:=by simpa using hs
 have HL:=dw hl;clear hl;simp only [LW,Eo,dM,Tryz.f63,ak] at hnext ⊢;refine dH (n:=60) ?_
 repeat w_go (dF hz)
 refine cz λw₁ h₁=>?_
 replace hF:=dF hz hF h₁;clear h₁;have hw1:=hw.rely rfl hF.1;refine GH (o:=?_) (x:=?_) (ad:=⟨cw,0,none⟩) ?_ ?_ ?_ ?_ ?_ hnm (.inr hw1.XN) hw1.Va ?_
 rotate_left 2
 iterate 2 rfl
 ·k_ne
 iterate 2 rfl
 intro w₂ h₂;replace hF:=dF hz hF h₂;clear h₂ hw1;refine dH (n:=60) ?_
 walk_nrm
 repeat w_go (dF hz)
 refine cz λw₁ h₁=>?_
 replace hF:=dF hz hF h₁;clear h₁;have hw1:=hw.rely rfl hF.1;refine sF (o:=?_) (x:=?_) (ad:=⟨cm,0,none⟩) ?_ ?_ ?_ ?_ ?_ hnm (.inl hw1.XO) hw1.vcm ?_
 rotate_left 2
 iterate 2 rfl
 ·k_ne
 iterate 2 rfl
 intro w₂ h₂;replace hF:=dF hz hF h₂;clear h₂ hw1;refine dH (n:=60) ?_
 walk_nrm
 repeat w_go (dF hz)
 refine cz λw₁ h₁=>?_
 replace hF:=dF hz hF h₁;clear h₁;refine sJ (o:=?_) (args:=?_) (ats:=?_) ?_ ?_ ?_ ?_ Tryz.func65 Jo Jp ?_
 rotate_left 3
 iterate 2 rfl
 ·k_ne
 ·rfl
 intro w₂ h₂;replace hF:=dF hz hF h₂;clear h₂;walk_nrm;have hlm:s<2 ^ (n+1):=by have :=HL.out;rw [this] at hs;rw [Nat.pow_succ];omega
 refine Pz (he.rel DL hF.1) (hw.rely rfl hF.1) hlm hn λdL W' hk=>?_
 rw [hp];rw [Frame.finish_at]
 have aw4:(s:Int)+1<18446744073709551616:=by
  have :=HL.out;have h2:2 ^ n<=2 ^ 15:=Nat.pow_le_pow_right (by decide) hn;omega
 have aw5:s<2 ^ 16:=by
  have :=HL.out;have h2:2 ^ n<=2 ^ 15:=Nat.pow_le_pow_right (by decide) hn;omega
 have hwr:IntKind.u64.wrap ((s:Int)+1)=((s+1:Nat):Int):=by rw [IntKind.wrap_u64];omega
 replace hw:=(hw.rely rfl (hF.1.trans hk.rely)).sub hk.sub;replace he:=(he.rel DL hF.1).kept DL hk;replace hF:=Kc hz hF hk;clear hk;refine dH (n:=60) ?_
 walk_nrm
 repeat w_nl (dF hz)
 refine cz λw₁ h₁=>?_
 replace hF:=dF hz hF h₁;clear h₁;refine sJ (o:=?_) (args:=?_) (ats:=?_) ?_ ?_ ?_ ?_ Tryz.func66 XT XU ?_
 rotate_left 3
 iterate 2 rfl
 ·k_ne
 ·rfl
 intro w₂ h₂;replace hF:=dF hz hF h₂;clear h₂;walk_nrm;refine ap2 (he.rel DL hF.1) aw5 λA cap Bq W2 hk hsl hnw=>?_
 rw [Frame.finish_at];have hcm0:=hw.XO;replace hw:=(hw.rely rfl (hF.1.trans hk.rely)).sub hk.sub
 have hnew:∀a,A=some a->a.block≠cm:= λa ha e=>by
  have h1:=hnw a ha;have h2:=(he.own _ hcm0).1;have h3:=hF.1.size;omega
 replace he:=(he.rel DL hF.1).kept DL hk;replace hF:=Kc hz hF hk;clear hk;have ap3:(Ez (nH s)).length<=16:=by unfold Ez nH;rw [List.length_map];exact E8 _ _
 generalize hL:Ez (nH s)=l at hsl hit ap3 ⊢;refine dH (n:=60) ?_
 walk_nrm
 repeat w_nl (dF hz)
 refine cz λw₁ h₁=>?_
 replace hF:=dF hz hF h₁;clear h₁;refine sJ (o:=?_) (args:=?_) (ats:=?_) ?_ ?_ ?_ ?_ Tryz.func67 XC PE ?_
 rotate_left 3
 iterate 2 rfl
 ·k_ne
 ·rfl
 intro w₂ h₂;replace hF:=dF hz hF h₂;clear h₂;rw [enter_at _ Tryz.func67 PE]
 walk_nrmf Tryz.f67
 rw [show vG N k c n0= .bd k ⟨lk .ld,c,n0⟩ from aj hcN];have RB:Beside (cfg Mu Wg ty N J ro Anch) ((cfg Mu Wg ty N J ro Anch).Zw k) Bq:=⟨λb hb h=>by rcases h with h|h<;>first |exact (he.own b hb).2.1 h|exact (he.own b hb).2.2.1 h, λb hb h=>by rcases h with h|h<;>first |exact (he.rs b hb).1 h|exact (he.rs b hb).2 h, λb i h=>az h⟩;refine ae1 hne hi RB (λo Gu W1 w3 hr1 hGo hJk hF3=>?_) hF;have e0:(i==0)=false:=by simpa using hi
 rw [e0];subst hJ;obtain ⟨hG,A2,cap2,st,fu,found,Ws,ji⟩:=XQ hJk;clear hJk;have hw1:=(hw.rely rfl hr1).sub (dL:= λb=>Bq b∨Gu b) λb h=>.inl h
 have he1:Env Mu Wg (λb=>Bq b∨Gu b) ro W1:=⟨he.rs, λb hb=>by
  rcases hb with hb|hb
  ·exact (he.rel DL hr1).own b hb
  ·obtain ⟨⟨o',ho'⟩,q2,q3,q4⟩:=hG b hb;exact ⟨(aI.1 ho').1,q2,q3,q4⟩,(he.rel DL hr1).ro,(he.rel DL hr1).mu,(he.rel DL hr1).wg,(he.rel DL hr1).kU,(he.rel DL hr1).wl⟩
 have hs1:=(hsl.rely hr1).sub (dL:= λb=>Bq b∨Gu b) λb h=>.inl h
 have hcm2:=hw.XO;have hs2:=hsl;clear hw he hr1 hF
 rename KM 97 Mu ((cfg Mu Wg ty N (JW Mu Wg bs bm bf ro ss n) ro Anch).Zw k) (λb=>Bq b∨Gu b) W1 w3=>hF
 refine dH (n:=60) ?_
 walk_nrm
 repeat w_nl (dF hz)
 refine cz λw₁ h₁=>?_
 replace hF:=dF hz hF h₁;clear h₁;have hw2:=hw1.rely rfl hF.1;refine U0 (o:=?_) (x:=?_) (ad:=⟨cb,0,none⟩) ?_ ?_ ?_ ?_ ?_ hnm (.inr hw2.rcb) hw2.XP ?_
 rotate_left 2
 iterate 2 rfl
 ·k_ne
 iterate 2 rfl
 intro w₂ h₂;replace hF:=dF hz hF h₂;clear h₂ hw2;refine dH (n:=60) ?_
 walk_nrm
 repeat w_nl (dF hz)
 refine cz λw₁ h₁=>?_
 replace hF:=dF hz hF h₁;clear h₁;have hw2:=hw1.rely rfl hF.1;refine sF (o:=?_) (x:=?_) (ad:=⟨cm,0,none⟩) ?_ ?_ ?_ ?_ ?_ hnm (.inl hw2.XO) hw2.vcm ?_
 rotate_left 2
 iterate 2 rfl
 ·k_ne
 iterate 2 rfl
 intro w₂ h₂;replace hF:=dF hz hF h₂;clear h₂ hw2;walk_nrm;refine Vd (o:=?_) (args:=?_) (ats:=?_) (x:=?_) (caps:=?_) ?_ ?_ ?_ ?_ ?_ Tryz.func58 Rx Ry ?_
 rotate_left 5
 iterate 2 rfl
 ·k_ne
 iterate 2 rfl
 intro w₂ h₂;replace hF:=dF hz hF h₂;clear h₂;walk_nrm;have hll:l.length<=64:=by omega
 refine XR (he1.rel DL hF.1) (λb h=>.inr h) (hs1.rely hF.1) hll (Ws.keep λb hb=>hF.1.own b (.inr hb)) λyI W4 hk4=>?_
 rw [Frame.finish_at];have hr4:=hF.1.trans hk4.rely;have hw4:=(hw1.rely rfl hr4).sub hk4.sub;have zK:=Ws.keep λb hb=>hr4.own b (.inr hb)
 have hG4:∀b,Gu b->(∃o,W4.heap[b]?=some o)∧b≠Mu∧b≠Wg∧¬ro b:= λb hb=>⟨by obtain ⟨o',ho'⟩:=(hG b hb).1;exact ⟨o',(hr4.own b (.inr hb)).trans ho'⟩,(hG b hb).2⟩
 have hs4:=(hs1.rely hr4).sub hk4.sub;have yj:∀b,Gu b->yI b:= λb hb=>hk4.sub b (.inr hb)
 have ae3:¬Gu cm:= λh=>hGo cm h hcm2
 replace he1:=(he1.rel DL hF.1).kept DL hk4;replace hF:=Kc hz hF hk4;have Zi:Beside (cfg Mu Wg ty N (JW Mu Wg bs bm bf ro ss n) ro Anch) ((cfg Mu Wg ty N (JW Mu Wg bs bm bf ro ss n) ro Anch).Zw k) yI:=⟨λb hb h=>by rcases h with h|h<;>first |exact (he1.own b hb).2.1 h|exact (he1.own b hb).2.2.1 h, λb hb h=>by rcases h with h|h<;>first |exact (he1.rs b hb).1 h|exact (he1.rs b hb).2 h, λb i h=>az h⟩;have hadd:=ji.add (hit o)
 have Ve:∀a,A=some a->a.block≠bs∧a.block≠bm∧a.block≠bf:= λa ha=>by
  have h1:=(hs2.blk a ha).1;exact ⟨λe=>hGo _ Ws.gs (e ▸ h1), λe=>hGo _ Ws.gm (e ▸ h1), λe=>hGo _ Ws.gf (e ▸ h1)⟩
 clear hk4 hr4 Ws ji hw1 hs1 hG RB;cases hbt:nL l m st fu found with
 |false=>
  rw [hbt] at hadd;have hadd:nZ (if k=0 then gD ss n (c+1) o else gD ss n o (c+1)) st fu found:=hadd;refine dH (n:=60) ?_
  walk_nrm
  repeat w_nl (dF hz)
  refine cz λw₁ h₁=>?_
  replace hF:=dF hz hF h₁;clear h₁;refine sJ (o:=?_) (args:=?_) (ats:=?_) ?_ ?_ ?_ ?_ Tryz.func68 Jd zJ ?_
  rotate_left 3
  iterate 2 rfl
  ·k_ne
  ·rfl
  intro w₂ h₂;replace hF:=dF hz hF h₂;clear h₂;rw [enter_at _ Tryz.func68 zJ]
  walk_nrmf Tryz.f68
  refine Ml hne hi Zi yj (λw' hF'=>Mj (λb hb=>⟨by obtain ⟨o',ho'⟩:=(hG4 b hb).1;exact ⟨o',(hF'.1.own b (yj b hb)).trans ho'⟩,(hG4 b hb).2⟩) (zK.keep λb hb=>hF'.1.own b (yj b hb)) hadd) (λw' hF'=>?_) hF;have ae4:¬Gu cm:=ae3;rw [e0]
  have hWK:WK cw cm cb bs bm bf bw ss n m (λb=>yI b∧¬Gu b) ro w':=by
   have hx:=WK.rely (Z:=(cfg Mu Wg ty N (JW Mu Wg bs bm bf ro ss n) ro Anch).Zw k) (own:= λb=>yI b∧¬Gu b) ⟨hw4.XN,hw4.rcb,hw4.Zg,⟨hw4.XO,ae4⟩,hw4.Va,hw4.XP,hw4.vcm,hw4.Zh⟩ rfl hF'.1;exact hx
  have hE:Env Mu Wg (λb=>yI b∧¬Gu b) ro w':=by
   have hx:=he1.rel DL hF'.1;exact ⟨hx.rs, λb hb=>hx.own b hb.1,hx.ro,hx.mu,hx.wg,hx.kU,hx.wl⟩
  have hnx:= λw'' h=>hnext (λb=>yI b∧¬Gu b) w' w'' o hWK hE h
  replace hF:KM 97 Mu ((cfg Mu Wg ty N (JW Mu Wg bs bm bf ro ss n) ro Anch).Zw k) (λb=>yI b∧¬Gu b) w' w':=⟨dZ.refl _,hF'.2⟩;clear hnext hF' hWK hE;refine dH (n:=60) ?_
  walk_nrm
  repeat w_nl (dF hz)
  u_c stepG_inLoop (dF hz) hF
  rw [show ((s:Int)+1)=((s+1:Nat):Int) from by simp];exact cz λw₃ h₃=>hnx w₃ (dF hz hF h₃) _ _ _ _ _ _ _ _ _ _ _ _ _ _ _ _ _ _ _ _ _ _ _ _
 |true=>
  rw [hbt] at hadd;have hadd:nZ (if k=0 then gD ss n (c+1) o else gD ss n o (c+1)) l m true:=hadd;obtain ⟨X,hX⟩:∃X:Nat->Prop,X= λb=>b=bs∨b=bm∨b=bf:=⟨_,rfl⟩
  obtain ⟨GU,hGU⟩:∃GU:Nat->Prop,GU= λb=>Gu b∨∃a,A=some a∧b=a.block:=⟨_,rfl⟩
  have Og:∀b,X b->Gu b:= λb hb=>by
   rw [hX] at hb;rcases hb with rfl|rfl|rfl
   ·exact zK.gs
   ·exact zK.gm
   ·exact zK.gf
  have hXr:∀b,X b->¬ro b∧b≠cm:= λb hb=>⟨(hG4 b (Og b hb)).2.2.2, λe=>ae3 (e ▸ Og b hb)⟩
  have ae5:∀b,GU b->yI b:= λb hb=>by
   rw [hGU] at hb;rcases hb with hb|⟨a,ha,rfl⟩
   ·exact yj b hb
   ·exact (hs4.blk a ha).1
  have ae4:¬GU cm:= λh=>by
   rw [hGU] at h;rcases h with h|⟨a,ha,e⟩
   ·exact ae3 h
   ·exact hnew a ha e.symm
  have hsy:∀b,Gu b->¬((cfg Mu Wg ty N (JW Mu Wg bs bm bf ro ss n) ro Anch).Zw k).sy b:= λb hb h=>by
   rcases h with (h|h)|h
   ·exact (hG4 b hb).2.1 h
   ·exact (hG4 b hb).2.2.1 h
   ·exact h
  have hMu:∀b,Gu b->Mu≠b:= λb hb e=>(hG4 b hb).2.1 e.symm
  have hO:Wq X yI ro W4 W4:=.refl;have wl:=he1.wl;have hWg:∀b,Gu b->Wg≠b:= λb hb e=>(hG4 b hb).2.2.1 e.symm
  have k1:C1 W4 bs _:=zK.vs;have k2:C1 W4 bm _:=zK.vm;have k3:C1 W4 bf _:=zK.vf;refine dH (n:=60) ?_
  walk_nrm
  repeat w_nl (dF hz)
  refine cz λw₁ h₁=>?_
  replace hF:=dF hz hF h₁;clear h₁;have hwX:=hw4.rely rfl hF.1;refine sF (o:=?_) (x:=?_) (ad:=⟨cm,0,none⟩) ?_ ?_ ?_ ?_ ?_ hnm (.inl hwX.XO) hwX.vcm ?_
  rotate_left 2
  iterate 2 rfl
  ·k_ne
  iterate 2 rfl
  intro w₂ h₂;replace hF:=dF hz hF h₂;clear h₂ hwX;refine dH (n:=60) ?_
  walk_nrm
  repeat w_nl (dF hz)
  refine cz λw₁ h₁=>?_
  replace hF:=dF hz hF h₁;clear h₁;replace k1:=k1.same (hF.1.own _ (yj _ zK.gs));replace k2:=k2.same (hF.1.own _ (yj _ zK.gm));replace k3:=k3.same (hF.1.own _ (yj _ zK.gf));replace hO:=hO.rely rfl hF.1;replace wl:=lI wl (hF.1.sy _ DL);refine Px (o:=?_) (x:=?_) (y:=?_) (ad:=⟨bs,0,none⟩) (p:=A) (l:=l.length) (c:=cap) ?_ ?_ ?_ ?_ ?_ ?_ hnm (yj _ zK.gs) (hsy _ zK.gs) k1.cell k1.free ?_
  rotate_left 3
  iterate 2 rfl
  ·k_ne
  iterate 3 rfl
  intro w₂ h₂;have ml:=Bt (ad:=⟨bs,0,none⟩) (v:=.slice A l.length cap) (dF hz hF h₂).2 (hMu _ zK.gs);replace k1:=(k1.same (h₂.own _ (yj _ zK.gs))).set (.slice A l.length cap);replace k2:=(k2.same (h₂.own _ (yj _ zK.gm))).same ((Go.Conc.aside_setCell w₂ ⟨bs,0,none⟩ (.slice A l.length cap)).block bm (Ne.symm zi.1));replace k3:=(k3.same (h₂.own _ (yj _ zK.gf))).same ((Go.Conc.aside_setCell w₂ ⟨bs,0,none⟩ (.slice A l.length cap)).block bf (Ne.symm zi.2.1));replace hO:=(hO.rely rfl h₂).set (ad:=⟨bs,0,none⟩) (v:=.slice A l.length cap) (by rw [hX];exact .inl rfl);replace wl:=Br (ad:=⟨bs,0,none⟩) (v:=.slice A l.length cap) (lI wl (h₂.sy _ DL)) (hWg _ zK.gs);generalize w₂.setCell ⟨bs,0,none⟩ (.slice A l.length cap)=w5 at ml k1 k2 k3 hO wl ⊢;clear h₂;replace hF:KM 97 Mu ((cfg Mu Wg ty N (JW Mu Wg bs bm bf ro ss n) ro Anch).Zw k) yI w5 w5:=⟨dZ.refl _,ml⟩;clear ml;walk_nrm;refine xq (o:=?_) (x:=?_) (y:=?_) (ad:=⟨bm,0,none⟩) (n:=m) ?_ ?_ ?_ ?_ ?_ ?_ hnm (yj _ zK.gm) (hsy _ zK.gm) k2.cell k2.free ?_
  rotate_left 3
  iterate 2 rfl
  ·k_ne
  iterate 3 rfl
  intro w₂ h₂;have ml:=Bt (ad:=⟨bm,0,none⟩) (v:=.bool m) (dF hz hF h₂).2 (hMu _ zK.gm);replace k1:=(k1.same (h₂.own _ (yj _ zK.gs))).same ((Go.Conc.aside_setCell w₂ ⟨bm,0,none⟩ (.bool m)).block bs zi.1);replace k2:=(k2.same (h₂.own _ (yj _ zK.gm))).set (.bool m);replace k3:=(k3.same (h₂.own _ (yj _ zK.gf))).same ((Go.Conc.aside_setCell w₂ ⟨bm,0,none⟩ (.bool m)).block bf (Ne.symm zi.2.2));replace hO:=(hO.rely rfl h₂).set (ad:=⟨bm,0,none⟩) (v:=.bool m) (by rw [hX];exact .inr (.inl rfl));replace wl:=Br (ad:=⟨bm,0,none⟩) (v:=.bool m) (lI wl (h₂.sy _ DL)) (hWg _ zK.gm);generalize w₂.setCell ⟨bm,0,none⟩ (.bool m)=w6 at ml k1 k2 k3 hO wl ⊢;clear h₂;replace hF:KM 97 Mu ((cfg Mu Wg ty N (JW Mu Wg bs bm bf ro ss n) ro Anch).Zw k) yI w6 w6:=⟨dZ.refl _,ml⟩;clear ml;walk_nrm;refine xq (o:=?_) (x:=?_) (y:=?_) (ad:=⟨bf,0,none⟩) (n:=true) ?_ ?_ ?_ ?_ ?_ ?_ hnm (yj _ zK.gf) (hsy _ zK.gf) k3.cell k3.free ?_
  rotate_left 3
  iterate 2 rfl
  ·k_ne
  iterate 3 rfl
  intro w₂ h₂;have ml:=Bt (ad:=⟨bf,0,none⟩) (v:=.bool true) (dF hz hF h₂).2 (hMu _ zK.gf);replace k1:=(k1.same (h₂.own _ (yj _ zK.gs))).same ((Go.Conc.aside_setCell w₂ ⟨bf,0,none⟩ (.bool true)).block bs zi.2.1);replace k2:=(k2.same (h₂.own _ (yj _ zK.gm))).same ((Go.Conc.aside_setCell w₂ ⟨bf,0,none⟩ (.bool true)).block bm zi.2.2);replace k3:=(k3.same (h₂.own _ (yj _ zK.gf))).set (.bool true);replace hO:=(hO.rely rfl h₂).set (ad:=⟨bf,0,none⟩) (v:=.bool true) (by rw [hX];exact .inr (.inr rfl));replace wl:=Br (ad:=⟨bf,0,none⟩) (v:=.bool true) (lI wl (h₂.sy _ DL)) (hWg _ zK.gf);generalize w₂.setCell ⟨bf,0,none⟩ (.bool true)=w7 at ml k1 k2 k3 hO wl ⊢;clear h₂;replace hF:KM 97 Mu ((cfg Mu Wg ty N (JW Mu Wg bs bm bf ro ss n) ro Anch).Zw k) yI w7 w7:=⟨dZ.refl _,ml⟩;clear ml;replace hw4:=hw4.Hr hO hXr;replace he1:Env Mu Wg yI ro w7:=⟨he1.rs, λb hb=>⟨aK (he1.own b hb).1 hO.size,(he1.own b hb).2⟩, λb hb=>aK (he1.ro b hb) hO.size,aK he1.mu hO.size,aK he1.wg hO.size,aK he1.kU hO.size,wl⟩
  have hnX:∀a,A=some a->¬X a.block:= λa ha h=>by
   rw [hX] at h;rcases h with h|h|h
   ·exact (Ve a ha).1 h
   ·exact (Ve a ha).2.1 h
   ·exact (Ve a ha).2.2 h
  have hsU:Sl GU w7 A l:=⟨λa ha=>by
   obtain ⟨q1,cur,e,fr,q2,q3⟩:=hs4.blk a ha;exact ⟨by rw [hGU];exact .inr ⟨a,ha,rfl⟩,cur,e,fr,(hO.blk _ (hnX a ha) (.inl q1)).trans q2,q3⟩, λhn'=>by
   obtain ⟨bb,off,e,q1,q2⟩:=hs4.rd hn';exact ⟨bb,off,e,aK q1 hO.size, λi j hi hj=>(fV (hO.blk _ (hnX _ e) (.inl (hs4.blk _ e).1)) _).trans (q2 i j hi hj)⟩⟩
  have hfU:Fd bs bm bf A cap l m true GU w7:=⟨by rw [hGU];exact .inl zK.gs,by rw [hGU];exact .inl zK.gm,by rw [hGU];exact .inl zK.gf,k1,k2,k3,hsU,ap3⟩;refine dH (n:=60) ?_
  walk_nrm
  repeat w_nl (dF hz)
  refine cz λw₁ h₁=>?_
  replace hF:=dF hz hF h₁;clear h₁;refine sJ (o:=?_) (args:=?_) (ats:=?_) ?_ ?_ ?_ ?_ Tryz.func68 Jd zJ ?_
  rotate_left 3
  iterate 2 rfl
  ·k_ne
  ·rfl
  intro w₂ h₂;replace hF:=dF hz hF h₂;clear h₂;rw [enter_at _ Tryz.func68 zJ]
  walk_nrmf Tryz.f68
  refine Ml (Gu:=GU) hne hi Zi ae5 (λw' hF'=>Mj (λb hb=>by
   obtain ⟨q1,q2,q3,q4⟩:=(he1.rel DL hF'.1).own b (ae5 b hb);exact ⟨⟨_,aX q1⟩,q2,q3,q4⟩) (hfU.keep λb hb=>hF'.1.own b (ae5 b hb)) hadd) (λw' hF'=>?_) hF
  rw [e0]
  have hWK:WK cw cm cb bs bm bf bw ss n m (λb=>yI b∧¬GU b) ro w':=by
   have hx:=WK.rely (Z:=(cfg Mu Wg ty N (JW Mu Wg bs bm bf ro ss n) ro Anch).Zw k) (own:= λb=>yI b∧¬GU b) ⟨hw4.XN,hw4.rcb,hw4.Zg,⟨hw4.XO,ae4⟩,hw4.Va,hw4.XP,hw4.vcm,hw4.Zh⟩ rfl hF'.1;exact hx
  have hE:Env Mu Wg (λb=>yI b∧¬GU b) ro w':=by
   have hx:=he1.rel DL hF'.1;exact ⟨hx.rs, λb hb=>hx.own b hb.1,hx.ro,hx.mu,hx.wg,hx.kU,hx.wl⟩
  have hnx:= λw'' h=>hnext (λb=>yI b∧¬GU b) w' w'' o hWK hE h
  replace hF:KM 97 Mu ((cfg Mu Wg ty N (JW Mu Wg bs bm bf ro ss n) ro Anch).Zw k) (λb=>yI b∧¬GU b) w' w':=⟨dZ.refl _,hF'.2⟩;clear hnext hF' hWK hE;refine dH (n:=60) ?_
  walk_nrm
  repeat w_nl (dF hz)
  u_c stepG_inLoop (dF hz) hF
  rw [show ((s:Int)+1)=((s+1:Nat):Int) from by simp];exact cz λw₃ h₃=>hnx w₃ (dF hz hF h₃) _ _ _ _ _ _ _ _ _ _ _ _ _ _ _ _ _ _ _ _ _ _ _ _
end
end
section
attribute [local instance] noSh jm
def cnt (ss:List fI) (n:Nat) (m:Bool) (s:Nat):Nat:=((List.range s).filter λs=>gT ss (n+1) s m).length
theorem zL (ss:List fI) (n:Nat) (m:Bool) (s:Nat):((List.range (s+1)).filter λs=>gT ss (n+1) s m)=((List.range s).filter λs=>gT ss (n+1) s m)++if gT ss (n+1) s m then [s] else []:=by
 rw [List.range_succ,List.filter_append];congr 1
 by_cases h:gT ss (n+1) s m=true<;>simp [h]
theorem Ke {ss:List fI} {n:Nat} {m:Bool} {s:Nat} (h:gT ss (n+1) s m=true):cnt ss n m (s+1)=cnt ss n m s+1:=by
 unfold cnt;rw [zL,h];simp
theorem ae6 {ss:List fI} {n:Nat} {m:Bool} {s:Nat} (h:gT ss (n+1) s m=false):cnt ss n m (s+1)=cnt ss n m s:=by
 unfold cnt;rw [zL,h];simp
theorem GN (ss:List fI) (n:Nat) (m:Bool) (s:Nat):∀d,∃r,((List.range (s+d)).filter λs=>gT ss (n+1) s m)=((List.range s).filter λs=>gT ss (n+1) s m)++r
 |0=>⟨[],by simp⟩
 |d+1=>by
  obtain ⟨r,h⟩:=GN ss n m s d;exact ⟨_,by rw [<-Nat.add_assoc,zL,h,List.append_assoc]⟩
theorem Mm {ss:List fI} {n:Nat} {m:Bool} {s:Nat} (h:s<=2 ^ n):(jP ss n m).take (cnt ss n m s)=(List.range s).filter λs=>gT ss (n+1) s m:=by
 obtain ⟨r,hr⟩:=GN ss n m s (2 ^ n - s);rw [show s+(2 ^ n - s)=2 ^ n from by omega] at hr;unfold jP cnt;rw [hr,List.take_left]
theorem ae7 {ss:List fI} {n:Nat} {m:Bool} {s:Nat} (h:s<=2 ^ n):cnt ss n m s<=(jP ss n m).length:=by
 obtain ⟨r,hr⟩:=GN ss n m s (2 ^ n - s);rw [show s+(2 ^ n - s)=2 ^ n from by omega] at hr;unfold jP cnt;rw [hr,List.length_append];omega
theorem RD {ss:List fI} {n k s:Nat} (hk:k<2) (hs:s<2 ^ n) (h:gT ss (n+1) s (decide (k=1))=true) (o:Nat) (x:List Int×Bool):
 x∈(if k=0 then gD ss n (cnt ss n (decide (k=1)) s+1) o else gD ss n o (cnt ss n (decide (k=1)) s+1))↔x∈(if k=0 then gD ss n (cnt ss n (decide (k=1)) s) o else gD ss n o (cnt ss n (decide (k=1)) s))∨x=(Ez (nH s),decide (k=1)):=by
 have e1:=Mm (ss:=ss) (m:=decide (k=1)) (Nat.le_of_lt hs);have e2:=Mm (ss:=ss) (m:=decide (k=1)) (s:=s+1) hs;rw [Ke h,zL,h,aj rfl] at e2;obtain rfl|rfl:k=0∨k=1:=by omega
 ·rw [aj rfl,aj rfl];unfold gD;simp only [Nat.zero_ne_one,decide_false] at e1 e2 ⊢;rw [e1,e2];simp only [List.map_append,aC,List.map_nil,List.mem_append,aS];exact or_right_comm
 ·rw [aa (by decide),aa (by decide)];unfold gD;simp only [decide_true] at e1 e2 ⊢;rw [e1,e2];simp only [List.map_append,aC,List.map_nil,List.mem_append,aS];exact or_assoc.symm
section
variable {Mu Wg cw cm cb bs bm bf bw:Nat} {ty:TypeId} {N:Nat->Nat} {J:Nat->Nat->(Nat->Prop)->World->Prop} {ro:Nat->Prop} {Anch:(Nat->Prop)->Goroutine->World->Prop}
variable {i k:Nat}
theorem XW {ss:List fI} {n lim:Nat} {Rz:List Deferred} (hne:Mu≠Wg) (hi:i≠0) (zi:bs≠bm∧bs≠bf∧bm≠bf) (hJ:J=JW Mu Wg bs bm bf ro ss n) (hk:k<2) (hN:∀k,k<2->N k=(jP ss n (decide (k=1))).length) (hl:lim=2 ^ n) (hn:n<=15)
 (hend:∀own W0 w n0,WK cw cm cb bs bm bf bw ss n (decide (k=1)) own ro W0->Env Mu Wg own ro W0->KM 97 Mu ((cfg Mu Wg ty N J ro Anch).Zw k) own W0 w->Am Wg cw cm Mu cb bs bm bf lim lim Rz λg=>Gw Tryz.prog false ((cfg Mu Wg ty N J ro Anch).Zw k) (At Tryz.prog (cfg Mu Wg ty N J ro Anch).sys i (vG N k (N k) n0)) own g w):
 ∀d s own W0 w n0,lim=s+d->WK cw cm cb bs bm bf bw ss n (decide (k=1)) own ro W0->Env Mu Wg own ro W0->KM 97 Mu ((cfg Mu Wg ty N J ro Anch).Zw k) own W0 w->
  Am Wg cw cm Mu cb bs bm bf lim s Rz λg=>Gw Tryz.prog false ((cfg Mu Wg ty N J ro Anch).Zw k) (At Tryz.prog (cfg Mu Wg ty N J ro Anch).sys i (vG N k (cnt ss n (decide (k=1)) s) n0)) own g w:=by
 intro d
 induction d with
 |zero=>
  intro s own W0 w n0 hs hw he hF;obtain rfl:s=lim:=by omega
  have :cnt ss n (decide (k=1)) s=N k:=by
   rw [hN k hk,hl];rfl
  rw [this];exact hend own W0 w n0 hw he hF
 |succ d ih=>
  intro s own W0 w n0 hs hw he hF;have hslt:s<lim:=by omega
  cases hp:gT ss (n+1) s (decide (k=1)) with
  |false=>
   refine ae2 hw he hslt hl hn hF hp λdL W' hkp w' hF'=>?_
   have :=ih (s+1) dL W' w' n0 (by omega) ((hw.rely rfl hkp.rely).sub hkp.sub) (he.kept (show ((cfg Mu Wg ty N J ro Anch).Zw k).sy Wg from .inl (.inr rfl)) hkp) hF';rw [ae6 hp] at this;exact this
  |true=>
   refine XV hne hi zi hJ ?_ (RD hk (by omega) hp) hw he hslt hl hn hF hp λdL W' w' n' hw' he' hF'=>?_
   ·rw [hN k hk];have h1:=ae7 (ss:=ss) (m:=decide (k=1)) (s:=s+1) (n:=n) (by omega);rw [Ke hp] at h1;omega
   ·have :=ih (s+1) dL W' w' n' (by omega) hw' he' hF';rw [Ke hp] at this;exact this
end
end
section
attribute [local instance] noSh jm
theorem nm_done:(Tryz.f64.name== "runtime.NumGoroutine")=false:=by kernel_rfl
theorem XX:Tryz.f64.body=some (Tryz.f64.body.getD .skip):=by unfold Tryz.f64;rfl
theorem ae8 (T:Array Value):QuitsD Tryz.prog 2 0 (G { (baseD 63).at ⟨T,[]⟩ [] with mode:=.returning } [Mk]):=by
 refine QuitsD.ctl (g':=G Mk []) rfl (λw=>?_) ?_
 ·simp [G,stepG,unwind,doReturn,results,Frame.at,baseD,Mk,Tryz.func63,Tryz.f63,seen,GStep.after,goexitEntry]
 refine QuitsD.ctl (g':={ G Mk [] with status:=.finished }) rfl (λw=>?_) ⟨rfl,rfl⟩;simp [G,stepG,unwind,Mk,goexitEntry,Frame.catches];rfl
theorem ap4 {P:Program} {Z:gB} {X:(Nat->Prop)->Goroutine->World->Prop} {own:Nat->Prop} {g:Goroutine} {W:World} {i:Nat} (e:(i==0)=false) (h:Gw P (i==0) Z X own g W):Gw P false Z X own g W:=by rw [e] at h;exact h
section
variable {Mu Wg cw cm cb bs bm bf bw:Nat} {N:Nat->Nat} {J:Nat->Nat->(Nat->Prop)->World->Prop} {ro:Nat->Prop} {Anch:(Nat->Prop)->Goroutine->World->Prop}
variable {i k:Nat}
theorem XY {m:Bool} {ss:List fI} {n lim n0:Nat} {own:Nat->Prop} {W0 w:World} (hne:Mu≠Wg) (hi:i≠0) (hw:WK cw cm cb bs bm bf bw ss n m own ro W0) (he:Env Mu Wg own ro W0) (hF:KM 97 Mu ((cfg Mu Wg 104 N J ro Anch).Zw k) own W0 w):
 Am Wg cw cm Mu cb bs bm bf lim lim [dcall 64 #[.pointer (some ⟨Wg,0,none⟩)]] λg=>Gw Tryz.prog false ((cfg Mu Wg 104 N J ro Anch).Zw k) (At Tryz.prog (cfg Mu Wg 104 N J ro Anch).sys i (vG N k (N k) n0)) own g w:=by
 intro j8 j9 j10 j11 j12 j13 l6 l7 l8 l9 mg nO nP nQ mh mo mq mD mE mF mG mH mJ mK;unfold GM;have hz:((cfg Mu Wg 104 N J ro Anch).Zw k).sy Mu:=.inl (.inl rfl);have DL:((cfg Mu Wg 104 N J ro Anch).Zw k).sy Wg:=.inl (.inr rfl);rw [show vG N k (N k) n0= .wg k .wr from aa (Nat.lt_irrefl _)];have e0:(i==0)=false:=by simpa using hi
 simp only [LW,Eo,dM,Tryz.f63,ak];refine dH (n:=60) ?_
 repeat w_nl (dF hz)
 u_in (dF hz) hF
 rw [stepG_unwind_enter rfl Tryz.func64 nm_done XX];simp only [goes_go];refine ⟨by u_nil,?_⟩
 walk_nrmf Tryz.f64
 refine cz λw₁ h₁=>?_
 replace hF:=dF hz hF h₁;exact ap4 e0 (an2 (P:=Tryz.prog) (L:=Tryz.link) (C:=cfg Mu Wg 104 N J ro Anch) (k:=k) (own:=own) (W0:=W0) Tryz.jy rfl (Ka hne) hi rfl (ae8 _) (λ_ _ _ _ _ _=>trivial) w₁ ⟨hF.1,lI he.wl (hF.1.sy _ DL)⟩)
def GQ (Wg cw cm Mu cb bs bm bf:Nat):Deferred:={ target:=.fn (.func 63) #[.pointer (some ⟨Wg,0,none⟩),.pointer (some ⟨cw,0,none⟩),.pointer (some ⟨cm,0,none⟩),.pointer (some ⟨Mu,0,none⟩),.pointer (some ⟨cb,0,none⟩),.pointer (some ⟨bs,0,none⟩),.pointer (some ⟨bm,0,none⟩),.pointer (some ⟨bf,0,none⟩)],args:= #[] }
theorem Oh (w:World):stepG Tryz.prog false (born Tryz.prog (GQ Wg cw cm Mu cb bs bm bf)) w=
 .go (G ((baseD 63).at ⟨#[.pointer (some ⟨Wg,0,none⟩),.pointer (some ⟨cw,0,none⟩),.pointer (some ⟨cm,0,none⟩),.pointer (some ⟨Mu,0,none⟩),.pointer (some ⟨cb,0,none⟩),.pointer (some ⟨bs,0,none⟩),.pointer (some ⟨bm,0,none⟩),.pointer (some ⟨bf,0,none⟩),undef,undef,undef,undef,undef,undef,undef,undef,undef,undef,undef,undef,undef,undef,undef,undef,undef,undef,undef,undef,undef,undef,undef,undef,undef,undef],[]⟩ [.code Eo]) [Mk]) w #[]:=by
 simp [born,GQ,stepG,unwind,callDeferred,invoke,callFunc,Tryz.func63,Tryz.f63,seen,GStep.after,G,Frame.enter,Frame.at,baseD,Mk,Eo]
theorem XZ {ss:List fI} {n:Nat} {own:Nat->Prop} {w:World} (hne:Mu≠Wg) (hi:i≠0) (zi:bs≠bm∧bs≠bf∧bm≠bf) (hJ:J=JW Mu Wg bs bm bf ro ss n) (hk:k<2) (hN:∀k,k<2->N k=(jP ss n (decide (k=1))).length) (hn:n<=15)
 (hw:WK cw cm cb bs bm bf bw ss n (decide (k=1)) own ro w) (he:Env Mu Wg own ro w) (hm:Bg 97 Mu w):
 Gw Tryz.prog false ((cfg Mu Wg 104 N J ro Anch).Zw k) (At Tryz.prog (cfg Mu Wg 104 N J ro Anch).sys i (vG N k 0 0)) own (born Tryz.prog (GQ Wg cw cm Mu cb bs bm bf)) w:=by
 have hall:=XW (Mu:=Mu) (Wg:=Wg) (cw:=cw) (cm:=cm) (cb:=cb) (bs:=bs) (bm:=bm) (bf:=bf) (bw:=bw) (ty:=104) (N:=N) (J:=J) (ro:=ro) (Anch:=Anch) (i:=i) (k:=k) (ss:=ss) (n:=n) (lim:=2 ^ n) (Rz:=[dcall 64 #[.pointer (some ⟨Wg,0,none⟩)]]) hne hi zi hJ hk hN rfl hn (λown W0 w n0 h1 h2 h3=>XY hne hi h1 h2 h3) (2 ^ n) 0 own w;have hz:((cfg Mu Wg 104 N J ro Anch).Zw k).sy Mu:=.inl (.inl rfl);have DL:((cfg Mu Wg 104 N J ro Anch).Zw k).sy Wg:=.inl (.inr rfl);have hnm:¬((cfg Mu Wg 104 N J ro Anch).Zw k).mute:= λh=>h
 have hF:KM 97 Mu ((cfg Mu Wg 104 N J ro Anch).Zw k) own w w:=⟨dZ.refl _,hm⟩;have Mo:= λw' h=>hall w' 0 (by omega) hw he h
 have h0:cnt ss n (decide (k=1)) 0=0:=rfl;rw [h0] at Mo;clear hall h0;have hsh:IntKind.u64.wrap ((2:Int) ^ n)=((2 ^ n:Nat):Int):=zu n (by omega);have hlim:∃lim,lim=2 ^ n:=⟨_,rfl⟩;unfold Am GM at Mo;simp only [LW,Eo,dM,Tryz.f63,ak] at Mo;refine dH (n:=60) ?_
 u_in (dF hz) hF
 rw [Oh];simp only [goes_go];refine ⟨by u_nil,?_⟩;simp only [Eo,Tryz.f63,ak]
 repeat w_nl (dF hz)
 u_defer (dF hz) hF
 repeat w_nl (dF hz)
 refine cz λw₁ h₁=>?_
 replace hF:=dF hz hF h₁;clear h₁;have hw1:=hw.rely rfl hF.1;refine GH (o:=?_) (x:=?_) (ad:=⟨cw,0,none⟩) ?_ ?_ ?_ ?_ ?_ hnm (.inr hw1.XN) hw1.Va ?_
 rotate_left 2
 iterate 2 rfl
 ·k_ne
 iterate 2 rfl
 intro w₂ h₂;replace hF:=dF hz hF h₂;clear h₂ hw1;refine dH (n:=60) ?_
 walk_nrm
 repeat w_nl (dF hz)
 refine cz λw₁ h₁=>?_
 replace hF:=dF hz hF h₁;clear h₁;have hw1:=hw.rely rfl hF.1;obtain ⟨A,cap,e,fr,x1,x2,x3⟩:=hw1.Zh;refine U1 (o:=?_) (x:=?_) (ad:=⟨bw,1,none⟩) ?_ ?_ ?_ ?_ ?_ hnm (.inr hw1.Zg) x2.c1 ?_
 rotate_left 2
 iterate 2 rfl
 ·k_ne
 iterate 2 rfl
 intro w₂ h₂;replace hF:=dF hz hF h₂;clear h₂ hw1 x1 x2 x3;refine dH (n:=60) ?_
 walk_nrm
 repeat w_but "code.loop" (dF hz)
 u_c stepG_loop (dF hz) hF
 first
  |exact cz λw₃ h₃=>Mo w₃ (dF hz hF h₃) _ _ _ _ _ _ _ _ _ _ _ _ _ _ _ _ _ _ _ _ _ _ _ _
  |(rw [show ((2:Int) ^ n)=((2 ^ n:Nat):Int) from by simp];exact cz λw₃ h₃=>Mo w₃ (dF hz hF h₃) _ _ _ _ _ _ _ _ _ _ _ _ _ _ _ _ _ _ _ _ _ _ _ _)
end
end
end Go.Proofs.Tryz
