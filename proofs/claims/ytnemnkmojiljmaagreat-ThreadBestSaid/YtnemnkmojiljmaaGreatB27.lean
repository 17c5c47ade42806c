/- Part 27. -/
import Derived.Test.YtnemnkmojiljmaaGreatB26
set_option maxRecDepth 100000
set_option maxHeartbeats 0
set_option linter.all false
namespace Go.Proofs.Tryz
open Go Go.Conc Go.ConcN Go.ConcM Go.RowKit Go.Conc.Lib Go.ConcR.Gen Par
open Go.ConcR (KK wgBlock WgAt stA smA rd wr mk AtMkS)
section
variable {j1 j6 j7 j8 j9 j10 j11 j12 j13 nJ nK l6 l7 l8 l9 mg nO nP nQ mh mo mq mD mE mF mG mH mJ mK pQ pR pU pV pW pX pY p8 p9 qa qb qc qd qf qg qh qi qj ql qm qx qy qz qA qB qC qD qE qF qG qH qI qJ qK qL qM qN qO qP qQ qR qU qV vM vN vO vg qW qX qY qZ rq ru ry rz rA rC sK rD rE rF rT rG rH rJ rM gW gX gY gZ ic ig iq iy iA iB iC iD iE iF iG iH iI iJ iK iL iM iN iO iP iQ iR iT iU iV iW iX iY iZ ja jc jd je jf:Value}
variable {Mu Wg:Nat} {ty:TypeId} {N:Nat->Nat} {J:Nat->Nat->(Nat->Prop)->World->Prop} {ro:Nat->Prop} {Anch:(Nat->Prop)->Goroutine->World->Prop}
variable {own:Nat->Prop} {W0:World} {i k c:Nat} {b₁:Frame} {a₁:Act} {dQ:Array Oper} {i₁:Nat} {dS:List Nat} {k₁:List Item} {cs₁:List Frame}
theorem EJ {m:Nat} (h:L9 m=true):m<=20:=by
 simp [L9] at h;omega
theorem ad7 (hne:Mu≠Wg) (hi:i≠0) (hb:Beside (cfg Mu Wg ty N J ro Anch) ((cfg Mu Wg ty N J ro Anch).Zw k) own) (hT:kC Mu Wg ty N J ro Anch own W0 i k c (G (b₁.at (a₁.put ((dQ[i₁]?).bind (·.dst)) (.tuple #[])) (.inRegion dQ dS::k₁)) cs₁))
 {n:Nat} {it:Nat} {aw ws:Bool} {kz:Int} {oN:Array Oper} {aN lN rN:Code} {w:World} (hF:KM 97 Mu ((cfg Mu Wg ty N J ro Anch).Zw k) own W0 w) (hws:ws=decide (kz≠0)) (yc:oN=jI 29) (yf:aN=jL 29) (yg:lN=LL) (yh:rN=REST):
 tL Tryz.prog (cfg Mu Wg ty N J ro Anch).sys (HX Mu Wg ty N J ro Anch own W0 i k c b₁ a₁ dQ i₁ dS k₁ cs₁) i (.bd k ⟨⟨.r2,0,0,aw,false,0,ws⟩,c,n⟩) own (G ((base 128).at ⟨#[.pointer (some ⟨Mu,0,none⟩),j1,.int .i64 kz,.bool false,.bool aw,.int .i64 (it:Nat),j6,j7,j8,j9,j10,j11,j12,j13,nJ,nK,l6,l7,l8,l9,mg,nO,nP,nQ,mh,mo,mq,mD,mE,mF,mG,mH,mJ,mK,pQ,pR,pU,pV,pW,pX,pY,p8,p9,qa,qb,qc,qd,qf,qg,qh,qi,qj,ql,qm,qx,qy,qz,qA,qB,qC,qD,qE,qF,qG,qH,qI,qJ,qK,qL,qM,qN,qO,qP,qQ,qR,qU,qV,vM,vN,vO,vg,qW,qX,qY,qZ,rq,ru,ry,rz,rA,rC,sK,rD,rE,rF,rT,rG,rH,rJ,rM,gW,gX,gY,.pointer (some (muA Mu)),gZ,ic,ig,iq,iy,iA,iB,iC,iD,iE,iF,iG,iH,iI,iJ,iK,iL,iM,iN,iO,iP,iQ,iR,iT,iU,iV,iW,iX,iY,iZ,ja,jc,jd,je,jf],[]⟩ [.inRegion oN [3,4],.code aN,.inBlock 1,.inLoop lN,.inBlock 0,.code rN]) (b₁.at a₁ (.inRegion dQ (i₁::dS)::k₁)::cs₁)) w:=by
 have e0:(i==0)=false:=by simpa using hi
 have hz:((cfg Mu Wg ty N J ro Anch).Zw k).sy Mu:=.inl (.inl rfl);subst yc yf yg yh;simp only [LL,REST,jI,jL,kS,dX,dM,dV,dP,eF,dJ,Tryz.f128,ak,reduceIte,Nat.reduceEqDiff,reduceCtorEq];refine fE hne (by simp) rfl rfl λs hs hm1 hm2 hnb=>?_
 obtain ⟨v,wt,sm,jn,dn,⟨mu,ms,c0,c1,ow⟩⟩:=s;simp only at hs hm1 hm2 hnb ⊢
 by_cases hq:mu=12
 ·subst hq;refine .inr ⟨by simp,⟨.a1,0,11,false,false,0,false⟩,12,ms,_,w,#[],by simp [lJ],by rw [e0];exact jk (v:=12) rfl rfl (by k_ne) rfl rfl hs.cellSt jV,by simp,hs,Eff.refl _,(λe he=>by simp at he),?_⟩;clear hs hm1 hm2 hnb;rw [e0];refine dH (n:=120) ?_
  walk_nrm
  repeat w_go (dF hz)
  refine cz (λw₁ h₁=>?_);replace hF:=dF hz hF h₁;clear h₁;refine Gw.stop λw₁ h₁=>.step (fE hne (by simp) rfl rfl λs hs hm1 hm2 hnb=>?_)
  replace hF:=dF hz hF h₁;clear h₁
  have hle:11<=s.b.mu:=by
   rcases bu s.b.mu 11 with h|h
   ·have :=hnb (lk .bad,s.b.mu,s.b.ms) (by simp [lJ,Nat.not_le.2 h]);cases this
   ·exact h
  have hmx:=EJ hm1;have ew:IntKind.i32.wrap (((s.b.mu:Nat):Int)+(-11))=((s.b.mu - 11:Nat):Int):=by rw [IntKind.wrap_i32];omega
  refine .inr ⟨by simp,lk .le,s.b.mu - 11,s.b.ms,_,w₁.setCell (muA Mu) (.int .i32 ((s.b.mu - 11:Nat):Int)),_,by simp [lJ,hle],by rw [e0];exact (stepG_add_atomic rfl rfl (by k_ne) rfl Tryz.func129 vH vJ vK .i32 vL rfl rfl hs.cellSt (hs.thaw 0)).trans (by rw [ew];first |done|rfl),by simp,hs.setSt _,Eff.set _ _ (.inl rfl),lX (C:=cfg Mu Wg ty N J ro Anch) (a:=muA Mu) (.inl rfl),?_⟩;replace hF:=hF.turn hb hs (hs.setSt ((s.b.mu - 11:Nat):Int)) (Eff.set (muA Mu) _ (.inl rfl));generalize hwn:w₁.setCell (muA Mu) (.int .i32 ((s.b.mu - 11:Nat):Int))=w₂ at hF ⊢;generalize hmn:((s.b.mu - 11:Nat):Int)=mn;clear hwn hmn ew hle hmx hs hm1 hm2 hnb s;rw [e0];refine dH (n:=80) ?_
  walk_nrm
  repeat w_go (dF hz)
  refine cz (λw₁ h₁=>?_);replace hF:=dF hz hF h₁;clear h₁;refine Gw.stop λw₁ h₁=>.step (fE hne (by simp) rfl rfl λs hs hm1 hm2 hnb=>.inr ⟨by simp,_,_,_,_,w₁,_,aS.2 rfl,by rw [e0];exact stepG_mark0 .enable (by simp) rfl rfl (by k_ne) rfl Tryz.jy.f_enable (x_enable_n Tryz.link) (x_enable_b Tryz.link) (x_enable_x Tryz.link) (x_enable_f Tryz.link),by simp,hs,Eff.refl _,rfl,?_⟩)
  replace hF:=dF hz hF h₁;clear h₁;clear hs hm1 hm2 hnb s;rw [e0];refine dH (n:=30) ?_
  walk_nrm
  repeat w_go (dF hz)
  m_convG Tryz.prog Tryz.jy.underlying_tUP zm Em hF.mu.choose_spec (dF hz) hF
  refine cz (λw₁ h₁=>?_);replace hF:=dF hz hF h₁;clear h₁;refine Gw.stop λw₁ h₁=>.step (N7 hne rfl rfl rfl λs hs hc=>⟨_,by rw [e0];exact stepG_markAt .acquire (by simp) rfl rfl (by k_ne) rfl Tryz.jy.f_acquire (x_acquire_n Tryz.link) (x_acquire_b Tryz.link) (x_acquire_x Tryz.link) (x_acquire_f Tryz.link) (by simp [Act.eval,muA]), λGu Jh hJ=>?_⟩)
  replace hF:=dF hz hF h₁;clear h₁;have Rj:=hF.1;replace hF:KM 97 Mu ((cfg Mu Wg ty N J ro Anch).Zw k) (λb=>own b∨Gu b) w₁ w₁:=⟨dZ.refl _,hF.2⟩;rw [e0];refine dH (n:=30) ?_
  walk_nrm
  repeat w_go (dF hz)
  u_leave0 Tryz.func128 (dF hz) hF
  exact cz λw₃ h₃=>Gw.mono (λ_ _ _ h=>.base (.inr h)) (e0 ▸ hT _ _ _ _ Rj Jh hJ (dF hz hF h₃))
 by_cases hq:mu=20
 ·subst hq;refine .inr ⟨by simp,⟨.a1,0,11,false,false,0,false⟩,20,ms,_,w,#[],by simp [lJ],by rw [e0];exact jk (v:=20) rfl rfl (by k_ne) rfl rfl hs.cellSt jV,by simp,hs,Eff.refl _,(λe he=>by simp at he),?_⟩;clear hs hm1 hm2 hnb;rw [e0];refine dH (n:=120) ?_
  walk_nrm
  repeat w_go (dF hz)
  refine cz (λw₁ h₁=>?_);replace hF:=dF hz hF h₁;clear h₁;refine Gw.stop λw₁ h₁=>.step (fE hne (by simp) rfl rfl λs hs hm1 hm2 hnb=>?_)
  replace hF:=dF hz hF h₁;clear h₁
  have hle:11<=s.b.mu:=by
   rcases bu s.b.mu 11 with h|h
   ·have :=hnb (lk .bad,s.b.mu,s.b.ms) (by simp [lJ,Nat.not_le.2 h]);cases this
   ·exact h
  have hmx:=EJ hm1;have ew:IntKind.i32.wrap (((s.b.mu:Nat):Int)+(-11))=((s.b.mu - 11:Nat):Int):=by rw [IntKind.wrap_i32];omega
  refine .inr ⟨by simp,lk .le,s.b.mu - 11,s.b.ms,_,w₁.setCell (muA Mu) (.int .i32 ((s.b.mu - 11:Nat):Int)),_,by simp [lJ,hle],by rw [e0];exact (stepG_add_atomic rfl rfl (by k_ne) rfl Tryz.func129 vH vJ vK .i32 vL rfl rfl hs.cellSt (hs.thaw 0)).trans (by rw [ew];first |done|rfl),by simp,hs.setSt _,Eff.set _ _ (.inl rfl),lX (C:=cfg Mu Wg ty N J ro Anch) (a:=muA Mu) (.inl rfl),?_⟩;replace hF:=hF.turn hb hs (hs.setSt ((s.b.mu - 11:Nat):Int)) (Eff.set (muA Mu) _ (.inl rfl));generalize hwn:w₁.setCell (muA Mu) (.int .i32 ((s.b.mu - 11:Nat):Int))=w₂ at hF ⊢;generalize hmn:((s.b.mu - 11:Nat):Int)=mn;clear hwn hmn ew hle hmx hs hm1 hm2 hnb s;rw [e0];refine dH (n:=80) ?_
  walk_nrm
  repeat w_go (dF hz)
  refine cz (λw₁ h₁=>?_);replace hF:=dF hz hF h₁;clear h₁;refine Gw.stop λw₁ h₁=>.step (fE hne (by simp) rfl rfl λs hs hm1 hm2 hnb=>.inr ⟨by simp,_,_,_,_,w₁,_,aS.2 rfl,by rw [e0];exact stepG_mark0 .enable (by simp) rfl rfl (by k_ne) rfl Tryz.jy.f_enable (x_enable_n Tryz.link) (x_enable_b Tryz.link) (x_enable_x Tryz.link) (x_enable_f Tryz.link),by simp,hs,Eff.refl _,rfl,?_⟩)
  replace hF:=dF hz hF h₁;clear h₁;clear hs hm1 hm2 hnb s;rw [e0];refine dH (n:=30) ?_
  walk_nrm
  repeat w_go (dF hz)
  m_convG Tryz.prog Tryz.jy.underlying_tUP zm Em hF.mu.choose_spec (dF hz) hF
  refine cz (λw₁ h₁=>?_);replace hF:=dF hz hF h₁;clear h₁;refine Gw.stop λw₁ h₁=>.step (N7 hne rfl rfl rfl λs hs hc=>⟨_,by rw [e0];exact stepG_markAt .acquire (by simp) rfl rfl (by k_ne) rfl Tryz.jy.f_acquire (x_acquire_n Tryz.link) (x_acquire_b Tryz.link) (x_acquire_x Tryz.link) (x_acquire_f Tryz.link) (by simp [Act.eval,muA]), λGu Jh hJ=>?_⟩)
  replace hF:=dF hz hF h₁;clear h₁;have Rj:=hF.1;replace hF:KM 97 Mu ((cfg Mu Wg ty N J ro Anch).Zw k) (λb=>own b∨Gu b) w₁ w₁:=⟨dZ.refl _,hF.2⟩;rw [e0];refine dH (n:=30) ?_
  walk_nrm
  repeat w_go (dF hz)
  u_leave0 Tryz.func128 (dF hz) hF
  exact cz λw₃ h₃=>Gw.mono (λ_ _ _ h=>.base (.inr h)) (e0 ▸ hT _ _ _ _ Rj Jh hJ (dF hz hF h₃))
 have h13:mu≠13:= λe=>by
  subst e;have :=hnb (lk .bad,13,ms) (by simp [lJ]);cases this
 have hq4:bits .and .i32 ((mu:Nat):Int) 4=0:=by
  have :mu=0∨mu=1∨mu=2∨mu=3∨mu=8∨mu=9:=by simp [L9] at hm1;omega
  rcases this with rfl|rfl|rfl|rfl|rfl|rfl<;>decide
 refine .inr ⟨by simp,⟨.hd,mu,0,true,false,0,ws⟩,mu,ms,_,w,#[],by simp [lJ, *],by rw [e0];exact jk rfl rfl (by k_ne) rfl rfl hs.cellSt jV,by simp,hs,Eff.refl _,(λe he=>by simp at he),?_⟩;clear hs hm1 hm2 hnb;rw [e0];refine dH (n:=120) ?_
 walk_nrm
 repeat w_nl (dF hz)
 u_c stepG_inLoop (dF hz) hF
 exact cz λw₃ h₃=>.stop λw₄ h₄=>.base (.inl (.mk (dF hz (dF hz hF h₃) h₄) hws))
theorem U7 (hne:Mu≠Wg) (hi:i≠0) (hb:Beside (cfg Mu Wg ty N J ro Anch) ((cfg Mu Wg ty N J ro Anch).Zw k) own) (hT:kC Mu Wg ty N J ro Anch own W0 i k c (G (b₁.at (a₁.put ((dQ[i₁]?).bind (·.dst)) (.tuple #[])) (.inRegion dQ dS::k₁)) cs₁))
 {n:Nat} {it:Nat} {aw ws:Bool} {kz:Int} {oN:Array Oper} {aN lN rN:Code} {w:World} (hF:KM 97 Mu ((cfg Mu Wg ty N J ro Anch).Zw k) own W0 w) (hws:ws=decide (kz≠0)) (yc:oN=jI 29) (yf:aN=jL 29) (yg:lN=LL) (yh:rN=REST):
 tL Tryz.prog (cfg Mu Wg ty N J ro Anch).sys (HX Mu Wg ty N J ro Anch own W0 i k c b₁ a₁ dQ i₁ dS k₁ cs₁) i (.bd k ⟨⟨.r2,0,0,aw,true,0,ws⟩,c,n⟩) own (G ((base 128).at ⟨#[.pointer (some ⟨Mu,0,none⟩),j1,.int .i64 kz,.bool true,.bool aw,.int .i64 (it:Nat),j6,j7,j8,j9,j10,j11,j12,j13,nJ,nK,l6,l7,l8,l9,mg,nO,nP,nQ,mh,mo,mq,mD,mE,mF,mG,mH,mJ,mK,pQ,pR,pU,pV,pW,pX,pY,p8,p9,qa,qb,qc,qd,qf,qg,qh,qi,qj,ql,qm,qx,qy,qz,qA,qB,qC,qD,qE,qF,qG,qH,qI,qJ,qK,qL,qM,qN,qO,qP,qQ,qR,qU,qV,vM,vN,vO,vg,qW,qX,qY,qZ,rq,ru,ry,rz,rA,rC,sK,rD,rE,rF,rT,rG,rH,rJ,rM,gW,gX,gY,.pointer (some (muA Mu)),gZ,ic,ig,iq,iy,iA,iB,iC,iD,iE,iF,iG,iH,iI,iJ,iK,iL,iM,iN,iO,iP,iQ,iR,iT,iU,iV,iW,iX,iY,iZ,ja,jc,jd,je,jf],[]⟩ [.inRegion oN [3,4],.code aN,.inBlock 1,.inLoop lN,.inBlock 0,.code rN]) (b₁.at a₁ (.inRegion dQ (i₁::dS)::k₁)::cs₁)) w:=by
 have e0:(i==0)=false:=by simpa using hi
 have hz:((cfg Mu Wg ty N J ro Anch).Zw k).sy Mu:=.inl (.inl rfl);subst yc yf yg yh;simp only [LL,REST,jI,jL,kS,dX,dM,dV,dP,eF,dJ,Tryz.f128,ak,reduceIte,Nat.reduceEqDiff,reduceCtorEq];refine fE hne (by simp) rfl rfl λs hs hm1 hm2 hnb=>?_
 obtain ⟨v,wt,sm,jn,dn,⟨mu,ms,c0,c1,ow⟩⟩:=s;simp only at hs hm1 hm2 hnb ⊢
 by_cases hq:mu=12
 ·subst hq;refine .inr ⟨by simp,⟨.a1,0,11,false,false,0,false⟩,12,ms,_,w,#[],by simp [lJ],by rw [e0];exact jk (v:=12) rfl rfl (by k_ne) rfl rfl hs.cellSt jV,by simp,hs,Eff.refl _,(λe he=>by simp at he),?_⟩;clear hs hm1 hm2 hnb;rw [e0];refine dH (n:=120) ?_
  walk_nrm
  repeat w_go (dF hz)
  refine cz (λw₁ h₁=>?_);replace hF:=dF hz hF h₁;clear h₁;refine Gw.stop λw₁ h₁=>.step (fE hne (by simp) rfl rfl λs hs hm1 hm2 hnb=>?_)
  replace hF:=dF hz hF h₁;clear h₁
  have hle:11<=s.b.mu:=by
   rcases bu s.b.mu 11 with h|h
   ·have :=hnb (lk .bad,s.b.mu,s.b.ms) (by simp [lJ,Nat.not_le.2 h]);cases this
   ·exact h
  have hmx:=EJ hm1;have ew:IntKind.i32.wrap (((s.b.mu:Nat):Int)+(-11))=((s.b.mu - 11:Nat):Int):=by rw [IntKind.wrap_i32];omega
  refine .inr ⟨by simp,lk .le,s.b.mu - 11,s.b.ms,_,w₁.setCell (muA Mu) (.int .i32 ((s.b.mu - 11:Nat):Int)),_,by simp [lJ,hle],by rw [e0];exact (stepG_add_atomic rfl rfl (by k_ne) rfl Tryz.func129 vH vJ vK .i32 vL rfl rfl hs.cellSt (hs.thaw 0)).trans (by rw [ew];first |done|rfl),by simp,hs.setSt _,Eff.set _ _ (.inl rfl),lX (C:=cfg Mu Wg ty N J ro Anch) (a:=muA Mu) (.inl rfl),?_⟩;replace hF:=hF.turn hb hs (hs.setSt ((s.b.mu - 11:Nat):Int)) (Eff.set (muA Mu) _ (.inl rfl));generalize hwn:w₁.setCell (muA Mu) (.int .i32 ((s.b.mu - 11:Nat):Int))=w₂ at hF ⊢;generalize hmn:((s.b.mu - 11:Nat):Int)=mn;clear hwn hmn ew hle hmx hs hm1 hm2 hnb s;rw [e0];refine dH (n:=80) ?_
  walk_nrm
  repeat w_go (dF hz)
  refine cz (λw₁ h₁=>?_);replace hF:=dF hz hF h₁;clear h₁;refine Gw.stop λw₁ h₁=>.step (fE hne (by simp) rfl rfl λs hs hm1 hm2 hnb=>.inr ⟨by simp,_,_,_,_,w₁,_,aS.2 rfl,by rw [e0];exact stepG_mark0 .enable (by simp) rfl rfl (by k_ne) rfl Tryz.jy.f_enable (x_enable_n Tryz.link) (x_enable_b Tryz.link) (x_enable_x Tryz.link) (x_enable_f Tryz.link),by simp,hs,Eff.refl _,rfl,?_⟩)
  replace hF:=dF hz hF h₁;clear h₁;clear hs hm1 hm2 hnb s;rw [e0];refine dH (n:=30) ?_
  walk_nrm
  repeat w_go (dF hz)
  m_convG Tryz.prog Tryz.jy.underlying_tUP zm Em hF.mu.choose_spec (dF hz) hF
  refine cz (λw₁ h₁=>?_);replace hF:=dF hz hF h₁;clear h₁;refine Gw.stop λw₁ h₁=>.step (N7 hne rfl rfl rfl λs hs hc=>⟨_,by rw [e0];exact stepG_markAt .acquire (by simp) rfl rfl (by k_ne) rfl Tryz.jy.f_acquire (x_acquire_n Tryz.link) (x_acquire_b Tryz.link) (x_acquire_x Tryz.link) (x_acquire_f Tryz.link) (by simp [Act.eval,muA]), λGu Jh hJ=>?_⟩)
  replace hF:=dF hz hF h₁;clear h₁;have Rj:=hF.1;replace hF:KM 97 Mu ((cfg Mu Wg ty N J ro Anch).Zw k) (λb=>own b∨Gu b) w₁ w₁:=⟨dZ.refl _,hF.2⟩;rw [e0];refine dH (n:=30) ?_
  walk_nrm
  repeat w_go (dF hz)
  u_leave0 Tryz.func128 (dF hz) hF
  exact cz λw₃ h₃=>Gw.mono (λ_ _ _ h=>.base (.inr h)) (e0 ▸ hT _ _ _ _ Rj Jh hJ (dF hz hF h₃))
 by_cases hq:mu=20
 ·subst hq;refine .inr ⟨by simp,⟨.a1,0,7,false,false,0,false⟩,20,ms,_,w,#[],by simp [lJ],by rw [e0];exact jk (v:=20) rfl rfl (by k_ne) rfl rfl hs.cellSt jV,by simp,hs,Eff.refl _,(λe he=>by simp at he),?_⟩;clear hs hm1 hm2 hnb;rw [e0];refine dH (n:=120) ?_
  walk_nrm
  repeat w_go (dF hz)
  refine cz (λw₁ h₁=>?_);replace hF:=dF hz hF h₁;clear h₁;refine Gw.stop λw₁ h₁=>.step (fE hne (by simp) rfl rfl λs hs hm1 hm2 hnb=>?_)
  replace hF:=dF hz hF h₁;clear h₁
  have hle:7<=s.b.mu:=by
   rcases bu s.b.mu 7 with h|h
   ·have :=hnb (lk .bad,s.b.mu,s.b.ms) (by simp [lJ,Nat.not_le.2 h]);cases this
   ·exact h
  have hmx:=EJ hm1;have ew:IntKind.i32.wrap (((s.b.mu:Nat):Int)+(-7))=((s.b.mu - 7:Nat):Int):=by rw [IntKind.wrap_i32];omega
  refine .inr ⟨by simp,lk .le,s.b.mu - 7,s.b.ms,_,w₁.setCell (muA Mu) (.int .i32 ((s.b.mu - 7:Nat):Int)),_,by simp [lJ,hle],by rw [e0];exact (stepG_add_atomic rfl rfl (by k_ne) rfl Tryz.func129 vH vJ vK .i32 vL rfl rfl hs.cellSt (hs.thaw 0)).trans (by rw [ew];first |done|rfl),by simp,hs.setSt _,Eff.set _ _ (.inl rfl),lX (C:=cfg Mu Wg ty N J ro Anch) (a:=muA Mu) (.inl rfl),?_⟩;replace hF:=hF.turn hb hs (hs.setSt ((s.b.mu - 7:Nat):Int)) (Eff.set (muA Mu) _ (.inl rfl));generalize hwn:w₁.setCell (muA Mu) (.int .i32 ((s.b.mu - 7:Nat):Int))=w₂ at hF ⊢;generalize hmn:((s.b.mu - 7:Nat):Int)=mn;clear hwn hmn ew hle hmx hs hm1 hm2 hnb s;rw [e0];refine dH (n:=80) ?_
  walk_nrm
  repeat w_go (dF hz)
  refine cz (λw₁ h₁=>?_);replace hF:=dF hz hF h₁;clear h₁;refine Gw.stop λw₁ h₁=>.step (fE hne (by simp) rfl rfl λs hs hm1 hm2 hnb=>.inr ⟨by simp,_,_,_,_,w₁,_,aS.2 rfl,by rw [e0];exact stepG_mark0 .enable (by simp) rfl rfl (by k_ne) rfl Tryz.jy.f_enable (x_enable_n Tryz.link) (x_enable_b Tryz.link) (x_enable_x Tryz.link) (x_enable_f Tryz.link),by simp,hs,Eff.refl _,rfl,?_⟩)
  replace hF:=dF hz hF h₁;clear h₁;clear hs hm1 hm2 hnb s;rw [e0];refine dH (n:=30) ?_
  walk_nrm
  repeat w_go (dF hz)
  m_convG Tryz.prog Tryz.jy.underlying_tUP zm Em hF.mu.choose_spec (dF hz) hF
  refine cz (λw₁ h₁=>?_);replace hF:=dF hz hF h₁;clear h₁;refine Gw.stop λw₁ h₁=>.step (N7 hne rfl rfl rfl λs hs hc=>⟨_,by rw [e0];exact stepG_markAt .acquire (by simp) rfl rfl (by k_ne) rfl Tryz.jy.f_acquire (x_acquire_n Tryz.link) (x_acquire_b Tryz.link) (x_acquire_x Tryz.link) (x_acquire_f Tryz.link) (by simp [Act.eval,muA]), λGu Jh hJ=>?_⟩)
  replace hF:=dF hz hF h₁;clear h₁;have Rj:=hF.1;replace hF:KM 97 Mu ((cfg Mu Wg ty N J ro Anch).Zw k) (λb=>own b∨Gu b) w₁ w₁:=⟨dZ.refl _,hF.2⟩;rw [e0];refine dH (n:=30) ?_
  walk_nrm
  repeat w_go (dF hz)
  u_leave0 Tryz.func128 (dF hz) hF
  exact cz λw₃ h₃=>Gw.mono (λ_ _ _ h=>.base (.inr h)) (e0 ▸ hT _ _ _ _ Rj Jh hJ (dF hz hF h₃))
 have h13:mu≠13:= λe=>by
  subst e;have :=hnb (lk .bad,13,ms) (by simp [lJ]);cases this
 have hq4:bits .and .i32 ((mu:Nat):Int) 4=0:=by
  have :mu=0∨mu=1∨mu=2∨mu=3∨mu=8∨mu=9:=by simp [L9] at hm1;omega
  rcases this with rfl|rfl|rfl|rfl|rfl|rfl<;>decide
 refine .inr ⟨by simp,⟨.hd,mu,0,true,true,0,ws⟩,mu,ms,_,w,#[],by simp [lJ, *],by rw [e0];exact jk rfl rfl (by k_ne) rfl rfl hs.cellSt jV,by simp,hs,Eff.refl _,(λe he=>by simp at he),?_⟩;clear hs hm1 hm2 hnb;rw [e0];refine dH (n:=120) ?_
 walk_nrm
 repeat w_nl (dF hz)
 u_c stepG_inLoop (dF hz) hF
 exact cz λw₃ h₃=>.stop λw₄ h₄=>.base (.inl (.mk (dF hz (dF hz hF h₃) h₄) hws))
end
end Go.Proofs.Tryz
