/- Part 32. -/
import Derived.Test.YtnemnkmojiljmaaGreatB31
set_option maxRecDepth 100000
set_option maxHeartbeats 0
set_option linter.all false
namespace Go.Proofs.Tryz
open Go Go.Conc Go.ConcN Go.ConcM Go.RowKit Go.Conc.Lib Go.ConcR.Gen Par
open Go.ConcR (KK wgBlock WgAt stA smA rd wr mk AtMkS)
section
variable {Mu Wg:Nat} {ty:TypeId} {N:Nat->Nat} {J:Nat->Nat->(Nat->Prop)->World->Prop} {ro:Nat->Prop} {Anch:(Nat->Prop)->Goroutine->World->Prop}
variable {own:Nat->Prop} {W0:World} {i k c:Nat} {b₁:Frame} {a₁:Act} {dQ:Array Oper} {i₁:Nat} {dS:List Nat} {k₁:List Item} {cs₁:List Frame}
variable {b₀:Frame} {a₀:Act} {ops₀:Array Oper} {i₀:Nat} {rest₀:List Nat} {k₀:List Item} {cs:List Frame}
theorem XM {X:lW (FT LT)} {old it n:Nat} {aw sv ws:Bool} {g:Goroutine} {w:World} (hne:Mu≠Wg) (hr:g.status= .running) (ho:g.offers=none) (h:Uz old aw sv=false):
 tL Tryz.prog (cfg Mu Wg ty N J ro Anch).sys X i (.bd k ⟨⟨.hd,old,0,aw,sv,it,ws⟩,c,n⟩) own g w:=by
 refine fE hne (by simp) hr ho λs hs hm1 hm2 hnb=>?_
 have :=hnb _ (aS.2 rfl);simp [uX,h] at this;cases this
theorem U9 {old:Nat} {aw sv:Bool} (h:Uz old aw sv≠false):(old=0∧aw=false∧sv=false)∨(old=1∧aw=false∧sv=false)∨(old=2∧aw=false∧sv=false)∨(old=2∧aw=true∧sv=false)∨(old=2∧aw=true∧sv=true)∨(old=3∧aw=true∧sv=false)∨(old=3∧aw=true∧sv=true)∨(old=12∧aw=false∧sv=false):=by
 unfold Uz wW at h;split at h<;>simp_all
theorem ad9 (hne:Mu≠Wg) (hi:i≠0) (hb:Beside (cfg Mu Wg ty N J ro Anch) ((cfg Mu Wg ty N J ro Anch).Zw k) own) (hT:kC Mu Wg ty N J ro Anch own W0 i k c (G (b₁.at (a₁.put ((dQ[i₁]?).bind (·.dst)) (.tuple #[])) (.inRegion dQ dS::k₁)) cs₁)) {Tt:FT LT} {dL:Nat->Prop} {g:Goroutine} {w:World} (h:HdX Mu Wg ty N J ro Anch own W0 i k c b₁ a₁ dQ i₁ dS k₁ cs₁ i Tt dL g w):At Tryz.prog (cfg Mu Wg ty N J ro Anch).sys i Tt dL g w:=by
 refine At.upto (X:=HdX Mu Wg ty N J ro Anch own W0 i k c b₁ a₁ dQ i₁ dS k₁ cs₁) (λi' T' dL g' w' hx=>?_) h;cases hx with
 | @mk old it n aw sv ws kz j1 j7 j8 j9 j10 j11 j12 j13 nJ nK l6 l7 l8 l9 mg nO nP nQ mh mo mq mD mE mF mG mH mJ mK pQ pR pU pV pW pX pY p8 p9 qa qb qc qd qf qg qh qi qj ql qm qx qy qz qA qB qC qD qE qF qG qH qI qJ qK qL qM qN qO qP qQ qR qU qV vM vN vO vg qW qX qY qZ rq ru ry rz rA rC sK rD rE rF rT rG rH rJ rM gW gX gY jA gZ ic ig iq iy iA iB iC iD iE iF iG iH iI iJ iK iL iM iN iO iP iQ iR iT iU iV iW iX iY iZ ja jc jd je jf w hF hws=>
   by_cases hk:Uz old aw sv=false
   ·exact XM hne rfl rfl hk
   rcases U9 hk with ⟨rfl,rfl,rfl⟩|⟨rfl,rfl,rfl⟩|⟨rfl,rfl,rfl⟩|⟨rfl,rfl,rfl⟩|⟨rfl,rfl,rfl⟩|⟨rfl,rfl,rfl⟩|⟨rfl,rfl,rfl⟩|⟨rfl,rfl,rfl⟩
   ·exact Rm hne hi hb hT hF hws
   ·exact Rt hne hi hb hT hF hws
   ·exact Rp hne hi hb hT hF hws
   ·exact Rq hne hi hb hT hF hws
   ·exact Rs hne hi hb hT hF hws
   ·exact Ru hne hi hb hT hF hws
   ·exact Rv hne hi hb hT hF hws
   ·exact Od hne hi hb hT hF hws
theorem ae0 (hne:Mu≠Wg) (hi:i≠0) (hb:Beside (cfg Mu Wg ty N J ro Anch) ((cfg Mu Wg ty N J ro Anch).Zw k) own) (hT:kC Mu Wg ty N J ro Anch own W0 i k c (G (b₁.at (a₁.put ((dQ[i₁]?).bind (·.dst)) (.tuple #[])) (.inRegion dQ dS::k₁)) cs₁)) {n:Nat} {w:World} (hF:KM 97 Mu ((cfg Mu Wg ty N J ro Anch).Zw k) own W0 w):
 Gw Tryz.prog false ((cfg Mu Wg ty N J ro Anch).Zw k) (At Tryz.prog (cfg Mu Wg ty N J ro Anch).sys i (.bd k ⟨lk .r0,c,n⟩)) own (G ((base 128).at ⟨#[.pointer (some ⟨Mu,0,none⟩),undef,undef,undef,undef,undef,undef,undef,undef,undef,undef,undef,undef,undef,undef,undef,undef,undef,undef,undef,undef,undef,undef,undef,undef,undef,undef,undef,undef,undef,undef,undef,undef,undef,undef,undef,undef,undef,undef,undef,undef,undef,undef,undef,undef,undef,undef,undef,undef,undef,undef,undef,undef,undef,undef,undef,undef,undef,undef,undef,undef,undef,undef,undef,undef,undef,undef,undef,undef,undef,undef,undef,undef,undef,undef,undef,undef,undef,undef,undef,undef,undef,undef,undef,undef,undef,undef,undef,undef,undef,undef,undef,undef,undef,undef,undef,undef,undef,undef,undef,undef,undef,undef,undef,undef,undef,undef,undef,undef,undef,undef,undef,undef,undef,undef,undef,undef,undef,undef,undef,undef,undef,undef,undef,undef,undef,undef,undef,undef,undef,undef,undef,undef,undef,undef,undef,undef,undef,undef],[]⟩ [.code dX]) (b₁.at a₁ (.inRegion dQ (i₁::dS)::k₁)::cs₁)) w:=by
 have e0:(i==0)=false:=by simpa using hi
 have hz:((cfg Mu Wg ty N J ro Anch).Zw k).sy Mu:=.inl (.inl rfl);simp only [dX,Tryz.f128,ak];refine dH (n:=60) ?_
 repeat w_go (dF hz)
 refine cz (λw₁ h₁=>?_);replace hF:=dF hz hF h₁;clear h₁;refine Gw.stop λw₁ h₁=>At.of_law (fE hne (by simp) rfl rfl λs hs hm1 hm2 hnb=>.inr ⟨by simp,_,_,_,_,w₁,#[],aS.2 rfl,by rw [e0];exact jk rfl rfl (by k_ne) rfl rfl hs.cellSt jV,by simp,hs,Eff.refl _,(λe he=>by simp at he),?_⟩)
 replace hF:=dF hz hF h₁;clear h₁;rw [e0];refine dH (n:=60) ?_
 walk_nrm
 repeat w_but "code.loop" (dF hz)
 u_c stepG_loop (dF hz) hF
 exact cz λw₃ h₃=>.stop λw₄ h₄=>ad9 hne hi hb hT (.mk (kz:=0) (dF hz (dF hz hF h₃) h₄) rfl)
noncomputable def Py:Code:=Tryz.f67.body.getD .skip
theorem ae1 (hne:Mu≠Wg) (hi:i≠0) (hb:Beside (cfg Mu Wg ty N J ro Anch) ((cfg Mu Wg ty N J ro Anch).Zw k) own) (hT:kC Mu Wg ty N J ro Anch own W0 i k c (G (b₀.at (a₀.put ((ops₀[i₀]?).bind (·.dst)) (.tuple #[])) (.inRegion ops₀ rest₀::k₀)) cs)) {n:Nat} {w:World} (hF:KM 97 Mu ((cfg Mu Wg ty N J ro Anch).Zw k) own W0 w):
 Gw Tryz.prog false ((cfg Mu Wg ty N J ro Anch).Zw k) (At Tryz.prog (cfg Mu Wg ty N J ro Anch).sys i (.bd k ⟨lk .ld,c,n⟩)) own (G ((base 67).at ⟨#[.pointer (some ⟨Mu,0,none⟩),undef,undef,undef,undef,undef],[]⟩ [.code Py]) (b₀.at a₀ (.inRegion ops₀ (i₀::rest₀)::k₀)::cs)) w:=by
 have e0:(i==0)=false:=by simpa using hi
 have hz:((cfg Mu Wg ty N J ro Anch).Zw k).sy Mu:=.inl (.inl rfl);simp only [Py,Tryz.f67,ak];refine dH (n:=40) ?_
 repeat w_go (dF hz)
 u_call Tryz.func105 UG Tryz.f105 (dF hz) hF
 repeat w_go (dF hz)
 refine cz (λw₁ h₁=>?_);replace hF:=dF hz hF h₁;clear h₁;refine Gw.stop λw₁ h₁=>At.of_law (fE hne (by simp) rfl rfl λs hs hm1 hm2 hnb=>.inr ⟨by simp,_,_,_,_,w₁,_,aS.2 rfl,by rw [e0];exact stepG_mark0 .disable (by simp) rfl rfl (by k_ne) rfl Tryz.jy.f_disable (x_disable_n Tryz.link) (x_disable_b Tryz.link) (x_disable_x Tryz.link) (x_disable_f Tryz.link),by simp,hs,Eff.refl _,rfl,?_⟩)
 replace hF:=dF hz hF h₁;clear h₁;clear hs hm1 hm2 hnb s;rw [e0];refine dH (n:=30) ?_
 walk_nrm
 repeat w_go (dF hz)
 refine cz (λw₁ h₁=>?_);replace hF:=dF hz hF h₁;clear h₁;refine Gw.stop λw₁ h₁=>At.of_law (fE hne (by simp) rfl rfl λs hs hm1 hm2 hnb=>?_)
 replace hF:=dF hz hF h₁;clear h₁;obtain ⟨v,wt,sm,jn,dn,⟨mu,ms,c0,c1,ow⟩⟩:=s;simp only at hs hm1 hm2 hnb ⊢
 by_cases hq:mu=0
 ·subst hq;have hs:MuAt 97 Mu w₁ 0 ms:=hs;refine .inr ⟨by simp,lk .le,1,ms,_,w₁.setCell (muA Mu) (.int .i32 1),_,by simp [lJ],by rw [e0];exact stepG_cas_hit rfl rfl (by k_ne) rfl Tryz.func127 kG kH kJ .i32 kK rfl rfl rfl hs.cellSt (hs.thaw 0),by simp,hs.setSt 1,Eff.set _ _ (.inl rfl),lX (C:=cfg Mu Wg ty N J ro Anch) (a:=muA Mu) (.inl rfl),?_⟩;replace hF:=hF.turn hb hs (hs.setSt 1) (Eff.set (muA Mu) _ (.inl rfl));generalize w₁.setCell (muA Mu) (.int .i32 1)=w₂ at hF ⊢;clear hs hm1 hm2 hnb;rw [e0];refine dH (n:=30) ?_
  walk_nrm
  repeat w_go (dF hz)
  refine cz (λw₁ h₁=>?_);replace hF:=dF hz hF h₁;clear h₁;refine Gw.stop λw₁ h₁=>At.of_law (fE hne (by simp) rfl rfl λs hs hm1 hm2 hnb=>.inr ⟨by simp,_,_,_,_,w₁,_,aS.2 rfl,by rw [e0];exact stepG_mark0 .enable (by simp) rfl rfl (by k_ne) rfl Tryz.jy.f_enable (x_enable_n Tryz.link) (x_enable_b Tryz.link) (x_enable_x Tryz.link) (x_enable_f Tryz.link),by simp,hs,Eff.refl _,rfl,?_⟩)
  replace hF:=dF hz hF h₁;clear h₁;clear hs hm1 hm2 hnb s;rw [e0];refine dH (n:=30) ?_
  walk_nrm
  repeat w_go (dF hz)
  m_convG Tryz.prog Tryz.jy.underlying_tUP zm Em hF.mu.choose_spec (dF hz) hF
  refine cz (λw₁ h₁=>?_);replace hF:=dF hz hF h₁;clear h₁;refine Gw.stop λw₁ h₁=>At.of_law (N7 hne rfl rfl rfl λs hs hc=>⟨_,by rw [e0];exact stepG_markAt .acquire (by simp) rfl rfl (by k_ne) rfl Tryz.jy.f_acquire (x_acquire_n Tryz.link) (x_acquire_b Tryz.link) (x_acquire_x Tryz.link) (x_acquire_f Tryz.link) (by simp [Act.eval,muA]), λGu Jh hJ=>?_⟩)
  replace hF:=dF hz hF h₁;clear h₁;have Rj:=hF.1;replace hF:KM 97 Mu ((cfg Mu Wg ty N J ro Anch).Zw k) (λb=>own b∨Gu b) w₁ w₁:=⟨dZ.refl _,hF.2⟩;rw [e0];refine dH (n:=30) ?_
  walk_nrm
  repeat w_go (dF hz)
  u_leave0 Tryz.func105 (dF hz) hF
  repeat w_go (dF hz)
  u_leave0 Tryz.func67 (dF hz) hF
  exact cz λw₃ h₃=>(e0 ▸ hT _ _ _ _ Rj Jh hJ (dF hz hF h₃))
 ·have hqi:((mu:Nat):Int)≠0:=by omega
  refine .inr ⟨by simp,lk .r0,mu,ms,_,w₁,_,by simp [lJ,hq],by rw [e0];exact stepG_cas_miss rfl rfl (by k_ne) rfl Tryz.func127 kG kH kJ .i32 kK rfl rfl rfl hs.cellSt (hs.thaw 0) hqi,by simp,hs,Eff.refl _,wV (C:=cfg Mu Wg ty N J ro Anch) (a:=muA Mu) (.inl rfl),?_⟩;clear hs hm1 hm2 hnb;rw [e0];refine dH (n:=80) ?_
  walk_nrm
  repeat w_go (dF hz)
  u_call Tryz.func128 Mf Tryz.f128 (dF hz) hF
  refine cz λw₃ h₃=>ae0 hne hi hb ?_ (dF hz hF h₃)
  intro o Gu W1 w h1 h2 h3 hF;rw [e0];refine dH (n:=40) ?_
  walk_nrm
  repeat w_go (dF hz)
  u_leave0 Tryz.func105 (dF hz) hF
  repeat w_go (dF hz)
  u_leave0 Tryz.func67 (dF hz) hF
  exact cz λw₄ h₄=>(e0 ▸ hT _ _ _ _ h1 h2 h3 (dF hz hF h₄))
end
end Go.Proofs.Tryz
