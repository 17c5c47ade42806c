/- Part 15. -/
import Derived.Test.YtnemnkmojiljmaaGreatG14
set_option maxRecDepth 100000
set_option maxHeartbeats 0
set_option linter.all false
namespace Go.Proofs.Tryz
open Go Go.Conc Go.ConcN Go.ConcM Go.RowKit Go.Conc.Lib Go.ConcR.Gen Par
open Go.ConcR (KK wgBlock WgAt stA smA rd wr mk AtMkS)
section
variable {Mu Wg:Nat} {ty:TypeId} {N:Nat->Nat} {J:Nat->Nat->(Nat->Prop)->World->Prop} {ro:Nat->Prop} {Anch:(Nat->Prop)->Goroutine->World->Prop}
variable {own:Nat->Prop} {W0:World} {i k c:Nat} {b₁:Frame} {a₁:Act} {dO:Array Oper} {i₁:Nat} {dQ:List Nat} {k₁:List Item} {cs₁:List Frame}
variable {b₀:Frame} {a₀:Act} {ops₀:Array Oper} {i₀:Nat} {rest₀:List Nat} {k₀:List Item} {cs:List Frame}
theorem YD {X:mh (FT LT)} {old it n:Nat} {aw sv ws:Bool} {g:Goroutine} {w:World} (hne:Mu≠Wg) (hr:g.status= .running) (ho:g.offers=none) (h:UY old aw sv=false):
 uq Tryz.prog (cfg Mu Wg ty N J ro Anch).sys X i (.bd k ⟨⟨.hd,old,0,aw,sv,it,ws⟩,c,n⟩) own g w:=by
 refine fI hne (by simp) hr ho λs hs hm1 hm2 hnb=>?_
 have :=hnb _ (aS.2 rfl);simp [vv,h] at this;cases this
theorem Vn {old:Nat} {aw sv:Bool} (h:UY old aw sv≠false):(old=0∧aw=false∧sv=false)∨(old=1∧aw=false∧sv=false)∨(old=2∧aw=false∧sv=false)∨(old=2∧aw=true∧sv=false)∨(old=2∧aw=true∧sv=true)∨(old=3∧aw=true∧sv=false)∨(old=3∧aw=true∧sv=true)∨(old=12∧aw=false∧sv=false):=by
 unfold UY xA at h;split at h<;>simp_all
theorem af4 (hne:Mu≠Wg) (hi:i≠0) (hb:Beside (cfg Mu Wg ty N J ro Anch) ((cfg Mu Wg ty N J ro Anch).Zw k) own) (hT:kH Mu Wg ty N J ro Anch own W0 i k c (G (b₁.at (a₁.put ((dO[i₁]?).bind (·.dst)) (.tuple #[])) (.inRegion dO dQ::k₁)) cs₁)) {Tt:FT LT} {dK:Nat->Prop} {g:Goroutine} {w:World} (h:HdX Mu Wg ty N J ro Anch own W0 i k c b₁ a₁ dO i₁ dQ k₁ cs₁ i Tt dK g w):At Tryz.prog (cfg Mu Wg ty N J ro Anch).sys i Tt dK g w:=by
 refine At.upto (X:=HdX Mu Wg ty N J ro Anch own W0 i k c b₁ a₁ dO i₁ dQ k₁ cs₁) (λi' T' dK g' w' hx=>?_) h;cases hx with
 | @mk old it n aw sv ws kG j1 j7 j8 j9 j10 j11 j12 j13 nV nW mE mF mG mH mJ nZ oh oo mK mM mO mP mQ mR mU mV mW mX qh qi qj ql qm qo qx qy qz qA qB qC qD qE qF qG qH qI qJ qK qL qM qN qO qP qQ qR qU qV qW qX qY qZ rq ru ry rz rA rC rD rE rF rG wo wu wz vN rH rJ rM rO rP rQ rR rT rU rV tJ rW rX rY sD rZ r9 si sj iB iC iD jH iE iF iG iH iI iJ iK iL iM iN iO iP iQ iR iT iU iV iW iX iY iZ ja jc jd je jf jg jh ji jk jl jm jo jq jr w hF hws=>
   by_cases hk:UY old aw sv=false
   ·exact YD hne rfl rfl hk
   rcases Vn hk with ⟨rfl,rfl,rfl⟩|⟨rfl,rfl,rfl⟩|⟨rfl,rfl,rfl⟩|⟨rfl,rfl,rfl⟩|⟨rfl,rfl,rfl⟩|⟨rfl,rfl,rfl⟩|⟨rfl,rfl,rfl⟩|⟨rfl,rfl,rfl⟩
   ·exact R9 hne hi hb hT hF hws
   ·exact Sg hne hi hb hT hF hws
   ·exact Sa hne hi hb hT hF hws
   ·exact Sc hne hi hb hT hF hws
   ·exact Sd hne hi hb hT hF hws
   ·exact Si hne hi hb hT hF hws
   ·exact Sj hne hi hb hT hF hws
   ·exact OE hne hi hb hT hF hws
theorem af5 (hne:Mu≠Wg) (hi:i≠0) (hb:Beside (cfg Mu Wg ty N J ro Anch) ((cfg Mu Wg ty N J ro Anch).Zw k) own) (hT:kH Mu Wg ty N J ro Anch own W0 i k c (G (b₁.at (a₁.put ((dO[i₁]?).bind (·.dst)) (.tuple #[])) (.inRegion dO dQ::k₁)) cs₁)) {n:Nat} {w:World} (hF:KM 97 Mu ((cfg Mu Wg ty N J ro Anch).Zw k) own W0 w):
 Gw Tryz.prog false ((cfg Mu Wg ty N J ro Anch).Zw k) (At Tryz.prog (cfg Mu Wg ty N J ro Anch).sys i (.bd k ⟨lk .r0,c,n⟩)) own (G ((base 128).at ⟨#[.pointer (some ⟨Mu,0,none⟩),undef,undef,undef,undef,undef,undef,undef,undef,undef,undef,undef,undef,undef,undef,undef,undef,undef,undef,undef,undef,undef,undef,undef,undef,undef,undef,undef,undef,undef,undef,undef,undef,undef,undef,undef,undef,undef,undef,undef,undef,undef,undef,undef,undef,undef,undef,undef,undef,undef,undef,undef,undef,undef,undef,undef,undef,undef,undef,undef,undef,undef,undef,undef,undef,undef,undef,undef,undef,undef,undef,undef,undef,undef,undef,undef,undef,undef,undef,undef,undef,undef,undef,undef,undef,undef,undef,undef,undef,undef,undef,undef,undef,undef,undef,undef,undef,undef,undef,undef,undef,undef,undef,undef,undef,undef,undef,undef,undef,undef,undef,undef,undef,undef,undef,undef,undef,undef,undef,undef,undef,undef,undef,undef,undef,undef,undef,undef,undef,undef,undef,undef,undef,undef,undef,undef,undef,undef,undef],[]⟩ [.code dW]) (b₁.at a₁ (.inRegion dO (i₁::dQ)::k₁)::cs₁)) w:=by
 have e0:(i==0)=false:=by simpa using hi
 have hz:((cfg Mu Wg ty N J ro Anch).Zw k).sy Mu:=.inl (.inl rfl);simp only [dW,Tryz.f128,ak];refine dG (n:=60) ?_
 repeat w_go (dD hz)
 refine cZ (λw₁ h₁=>?_);replace hF:=dD hz hF h₁;clear h₁;refine Gw.stop λw₁ h₁=>At.of_law (fI hne (by simp) rfl rfl λs hs hm1 hm2 hnb=>.inr ⟨by simp,_,_,_,_,w₁,#[],aS.2 rfl,by rw [e0];exact jv rfl rfl (by k_ne) rfl rfl hs.cellSt kC,by simp,hs,Eff.refl _,(λe he=>by simp at he),?_⟩)
 replace hF:=dD hz hF h₁;clear h₁;rw [e0];refine dG (n:=60) ?_
 walk_nrm
 repeat w_but "code.loop" (dD hz)
 u_c stepG_loop (dD hz) hF
 exact cZ λw₃ h₃=>.stop λw₄ h₄=>af4 hne hi hb hT (.mk (kG:=0) (dD hz (dD hz hF h₃) h₄) rfl)
noncomputable def Qm:Code:=Tryz.f67.body.getD .skip
theorem af6 (hne:Mu≠Wg) (hi:i≠0) (hb:Beside (cfg Mu Wg ty N J ro Anch) ((cfg Mu Wg ty N J ro Anch).Zw k) own) (hT:kH Mu Wg ty N J ro Anch own W0 i k c (G (b₀.at (a₀.put ((ops₀[i₀]?).bind (·.dst)) (.tuple #[])) (.inRegion ops₀ rest₀::k₀)) cs)) {n:Nat} {w:World} (hF:KM 97 Mu ((cfg Mu Wg ty N J ro Anch).Zw k) own W0 w):
 Gw Tryz.prog false ((cfg Mu Wg ty N J ro Anch).Zw k) (At Tryz.prog (cfg Mu Wg ty N J ro Anch).sys i (.bd k ⟨lk .ld,c,n⟩)) own (G ((base 67).at ⟨#[.pointer (some ⟨Mu,0,none⟩),undef,undef,undef,undef,undef],[]⟩ [.code Qm]) (b₀.at a₀ (.inRegion ops₀ (i₀::rest₀)::k₀)::cs)) w:=by
 have e0:(i==0)=false:=by simpa using hi
 have hz:((cfg Mu Wg ty N J ro Anch).Zw k).sy Mu:=.inl (.inl rfl);simp only [Qm,Tryz.f67,ak];refine dG (n:=40) ?_
 repeat w_go (dD hz)
 u_call Tryz.func105 Vk Tryz.f105 (dD hz) hF
 repeat w_go (dD hz)
 refine cZ (λw₁ h₁=>?_);replace hF:=dD hz hF h₁;clear h₁;refine Gw.stop λw₁ h₁=>At.of_law (fI hne (by simp) rfl rfl λs hs hm1 hm2 hnb=>.inr ⟨by simp,_,_,_,_,w₁,_,aS.2 rfl,by rw [e0];exact stepG_mark0 .disable (by simp) rfl rfl (by k_ne) rfl Tryz.jG.f_disable (x_disable_n Tryz.link) (x_disable_b Tryz.link) (x_disable_x Tryz.link) (x_disable_f Tryz.link),by simp,hs,Eff.refl _,rfl,?_⟩)
 replace hF:=dD hz hF h₁;clear h₁;clear hs hm1 hm2 hnb s;rw [e0];refine dG (n:=30) ?_
 walk_nrm
 repeat w_go (dD hz)
 refine cZ (λw₁ h₁=>?_);replace hF:=dD hz hF h₁;clear h₁;refine Gw.stop λw₁ h₁=>At.of_law (fI hne (by simp) rfl rfl λs hs hm1 hm2 hnb=>?_)
 replace hF:=dD hz hF h₁;clear h₁;obtain ⟨v,wt,sm,jn,dn,⟨mu,ms,c0,c1,ow⟩⟩:=s;simp only at hs hm1 hm2 hnb ⊢
 by_cases hq:mu=0
 ·subst hq;have hs:MuAt 97 Mu w₁ 0 ms:=hs;refine .inr ⟨by simp,lk .le,1,ms,_,w₁.setCell (muA Mu) (.int .i32 1),_,by simp [lT],by rw [e0];exact stepG_cas_hit rfl rfl (by k_ne) rfl Tryz.func127 kM kN kP .i32 kQ rfl rfl rfl hs.cellSt (hs.thaw 0),by simp,hs.setSt 1,Eff.set _ _ (.inl rfl),mo (C:=cfg Mu Wg ty N J ro Anch) (a:=muA Mu) (.inl rfl),?_⟩;replace hF:=hF.turn hb hs (hs.setSt 1) (Eff.set (muA Mu) _ (.inl rfl));generalize w₁.setCell (muA Mu) (.int .i32 1)=w₂ at hF ⊢;clear hs hm1 hm2 hnb;rw [e0];refine dG (n:=30) ?_
  walk_nrm
  repeat w_go (dD hz)
  refine cZ (λw₁ h₁=>?_);replace hF:=dD hz hF h₁;clear h₁;refine Gw.stop λw₁ h₁=>At.of_law (fI hne (by simp) rfl rfl λs hs hm1 hm2 hnb=>.inr ⟨by simp,_,_,_,_,w₁,_,aS.2 rfl,by rw [e0];exact stepG_mark0 .enable (by simp) rfl rfl (by k_ne) rfl Tryz.jG.f_enable (x_enable_n Tryz.link) (x_enable_b Tryz.link) (x_enable_x Tryz.link) (x_enable_f Tryz.link),by simp,hs,Eff.refl _,rfl,?_⟩)
  replace hF:=dD hz hF h₁;clear h₁;clear hs hm1 hm2 hnb s;rw [e0];refine dG (n:=30) ?_
  walk_nrm
  repeat w_go (dD hz)
  m_convG Tryz.prog Tryz.jG.underlying_tUP zI ER hF.mu.choose_spec (dD hz) hF
  refine cZ (λw₁ h₁=>?_);replace hF:=dD hz hF h₁;clear h₁;refine Gw.stop λw₁ h₁=>At.of_law (Oz hne rfl rfl rfl λs hs hc=>⟨_,by rw [e0];exact stepG_markAt .acquire (by simp) rfl rfl (by k_ne) rfl Tryz.jG.f_acquire (x_acquire_n Tryz.link) (x_acquire_b Tryz.link) (x_acquire_x Tryz.link) (x_acquire_f Tryz.link) (by simp [Act.eval,muA]), λGu JH hJ=>?_⟩)
  replace hF:=dD hz hF h₁;clear h₁;have JI:=hF.1;replace hF:KM 97 Mu ((cfg Mu Wg ty N J ro Anch).Zw k) (λb=>own b∨Gu b) w₁ w₁:=⟨dZ.refl _,hF.2⟩;rw [e0];refine dG (n:=30) ?_
  walk_nrm
  repeat w_go (dD hz)
  u_leave0 Tryz.func105 (dD hz) hF
  repeat w_go (dD hz)
  u_leave0 Tryz.func67 (dD hz) hF
  exact cZ λw₃ h₃=>(e0 ▸ hT _ _ _ _ JI JH hJ (dD hz hF h₃))
 ·have hqi:((mu:Nat):Int)≠0:=by omega
  refine .inr ⟨by simp,lk .r0,mu,ms,_,w₁,_,by simp [lT,hq],by rw [e0];exact stepG_cas_miss rfl rfl (by k_ne) rfl Tryz.func127 kM kN kP .i32 kQ rfl rfl rfl hs.cellSt (hs.thaw 0) hqi,by simp,hs,Eff.refl _,xz (C:=cfg Mu Wg ty N J ro Anch) (a:=muA Mu) (.inl rfl),?_⟩;clear hs hm1 hm2 hnb;rw [e0];refine dG (n:=80) ?_
  walk_nrm
  repeat w_go (dD hz)
  u_call Tryz.func128 ML Tryz.f128 (dD hz) hF
  refine cZ λw₃ h₃=>af5 hne hi hb ?_ (dD hz hF h₃)
  intro o Gu W1 w h1 h2 h3 hF;rw [e0];refine dG (n:=40) ?_
  walk_nrm
  repeat w_go (dD hz)
  u_leave0 Tryz.func105 (dD hz) hF
  repeat w_go (dD hz)
  u_leave0 Tryz.func67 (dD hz) hF
  exact cZ λw₄ h₄=>(e0 ▸ hT _ _ _ _ h1 h2 h3 (dD hz hF h₄))
end
end Go.Proofs.Tryz
