/- Part 26. -/
import Derived.Test.YtnemnkmojiljmaaGreatB25
set_option maxRecDepth 100000
set_option maxHeartbeats 0
set_option linter.all false
namespace Go.Proofs.Tryz
open Go Go.Conc Go.ConcN Go.ConcM Go.RowKit Go.Conc.Lib Go.ConcR.Gen Par
open Go.ConcR (KK wgBlock WgAt stA smA rd wr mk AtMkS)
section
variable {j1 j6 j7 j8 j9 j10 j11 j12 j13 nJ nK l6 l7 l8 l9 mg nO nP nQ mh mo mq mD mE mF mG mH mJ mK pQ pR pU pV pW pX pY p8 p9 qa qb qc qd qf qg qh qi qj ql qm qx qy qz qA qB qC qD qE qF qG qH qI qJ qK qL qM qN qO qP qQ qR qU qV vM vN vO qW qX qY qZ rq ru ry rz rA rC sK rD rE rF rT rG rH rJ rM gW gX gY jA gZ ic ig iq iy iA iB iC iD iE iF iG iH iI iJ iK iL iM iN iO iP iQ iR iT iU iV iW iX iY iZ ja jc jd je jf:Value}
variable {Mu Wg:Nat} {ty:TypeId} {N:Nat->Nat} {J:Nat->Nat->(Nat->Prop)->World->Prop} {ro:Nat->Prop} {Anch:(Nat->Prop)->Goroutine->World->Prop}
variable {own:Nat->Prop} {W0:World} {i k c:Nat} {b₁:Frame} {a₁:Act} {dQ:Array Oper} {i₁:Nat} {dS:List Nat} {k₁:List Item} {cs₁:List Frame}
theorem Bp (hne:Mu≠Wg) (hi:i≠0) (hb:Beside (cfg Mu Wg ty N J ro Anch) ((cfg Mu Wg ty N J ro Anch).Zw k) own)
 {it n:Nat} {aw sv ws:Bool} {kz:Int} {oN:Array Oper} {aN lN rN:Code} {w:World} (hF:KM 97 Mu ((cfg Mu Wg ty N J ro Anch).Zw k) own W0 w) (hws:ws=decide (kz≠0)) (yc:oN=jI 22) (yf:aN=jL 22) (yg:lN=LL) (yh:rN=REST):
 Gw Tryz.prog false ((cfg Mu Wg ty N J ro Anch).Zw k) ((HX Mu Wg ty N J ro Anch own W0 i k c b₁ a₁ dQ i₁ dS k₁ cs₁) i (.bd k ⟨⟨.r3,0,0,aw,sv,it,ws⟩,c,n⟩)) own (G ((base 128).at ⟨#[.pointer (some ⟨Mu,0,none⟩),j1,.int .i64 kz,.bool sv,.bool aw,.int .i64 (it:Nat),j6,j7,j8,j9,j10,j11,j12,j13,nJ,nK,l6,l7,l8,l9,mg,nO,nP,nQ,mh,mo,mq,mD,mE,mF,mG,mH,mJ,mK,pQ,pR,pU,pV,pW,pX,pY,p8,p9,qa,qb,qc,qd,qf,qg,qh,qi,qj,ql,qm,qx,qy,qz,qA,qB,qC,qD,qE,qF,qG,qH,qI,qJ,qK,qL,qM,qN,qO,qP,qQ,qR,qU,qV,vM,vN,vO,.bool false,qW,qX,qY,qZ,rq,ru,ry,rz,rA,rC,sK,rD,rE,rF,rT,rG,rH,rJ,rM,gW,gX,gY,jA,gZ,ic,ig,iq,iy,iA,iB,iC,iD,iE,iF,iG,iH,iI,iJ,iK,iL,iM,iN,iO,iP,iQ,iR,iT,iU,iV,iW,iX,iY,iZ,ja,jc,jd,je,jf],[]⟩ [.inRegion oN [],.code aN,.inBlock 1,.inLoop lN,.inBlock 0,.code rN]) (b₁.at a₁ (.inRegion dQ (i₁::dS)::k₁)::cs₁)) w:=by
 have e0:(i==0)=false:=by simpa using hi
 have hz:((cfg Mu Wg ty N J ro Anch).Zw k).sy Mu:=.inl (.inl rfl);subst yc yf yg yh;simp only [LL,REST,jI,jL,kS,dX,dM,dV,dP,eF,dJ,Tryz.f128,ak,reduceIte,Nat.reduceEqDiff,reduceCtorEq];refine dH (n:=60) ?_
 repeat w_go (dF hz)
 refine cz (λw₁ h₁=>?_);replace hF:=dF hz hF h₁;clear h₁;refine Gw.stop λw₁ h₁=>.step (fE hne (by simp) rfl rfl λs hs hm1 hm2 hnb=>.inr ⟨by simp,_,_,_,_,w₁,#[],aS.2 rfl,by rw [e0];exact jk rfl rfl (by k_ne) rfl rfl hs.cellSt jV,by simp,hs,Eff.refl _,(λe he=>by simp at he),?_⟩)
 replace hF:=dF hz hF h₁;clear h₁;rw [e0];refine dH (n:=40) ?_
 walk_nrm
 repeat w_nl (dF hz)
 u_c stepG_inLoop (dF hz) hF
 exact cz λw₃ h₃=>.stop λw₄ h₄=>.base (.inl (.mk (dF hz (dF hz hF h₃) h₄) hws))
theorem ao9 (hne:Mu≠Wg) (hi:i≠0) (hb:Beside (cfg Mu Wg ty N J ro Anch) ((cfg Mu Wg ty N J ro Anch).Zw k) own) (hT:kC Mu Wg ty N J ro Anch own W0 i k c (G (b₁.at (a₁.put ((dQ[i₁]?).bind (·.dst)) (.tuple #[])) (.inRegion dQ dS::k₁)) cs₁))
 {it n:Nat} {aw sv ws:Bool} {kz:Int} {oN:Array Oper} {aN lN rN:Code} {w:World} (hF:KM 97 Mu ((cfg Mu Wg ty N J ro Anch).Zw k) own W0 w) (yc:oN=jI 22) (yf:aN=jL 22) (yg:lN=LL) (yh:rN=REST):
 Gw Tryz.prog false ((cfg Mu Wg ty N J ro Anch).Zw k) ((HX Mu Wg ty N J ro Anch own W0 i k c b₁ a₁ dQ i₁ dS k₁ cs₁) i (.bd k ⟨lk .le,c,n⟩)) own (G ((base 128).at ⟨#[.pointer (some ⟨Mu,0,none⟩),j1,.int .i64 kz,.bool sv,.bool aw,.int .i64 (it:Nat),.int .i32 0,j7,j8,j9,j10,j11,j12,j13,nJ,nK,l6,l7,l8,l9,mg,nO,nP,nQ,mh,mo,mq,mD,mE,mF,mG,mH,mJ,mK,pQ,pR,pU,pV,pW,pX,pY,p8,p9,qa,qb,qc,qd,qf,qg,qh,qi,qj,ql,qm,qx,qy,qz,qA,qB,qC,qD,qE,qF,qG,qH,qI,qJ,qK,qL,qM,qN,qO,qP,qQ,qR,qU,qV,vM,vN,vO,.bool true,qW,qX,qY,qZ,rq,ru,ry,rz,rA,rC,sK,rD,rE,rF,rT,rG,rH,rJ,rM,gW,gX,gY,jA,gZ,ic,ig,iq,iy,iA,iB,iC,iD,iE,iF,iG,iH,iI,iJ,iK,iL,iM,iN,iO,iP,iQ,iR,iT,iU,iV,iW,iX,iY,iZ,ja,jc,jd,je,jf],[]⟩ [.inRegion oN [],.code aN,.inBlock 1,.inLoop lN,.inBlock 0,.code rN]) (b₁.at a₁ (.inRegion dQ (i₁::dS)::k₁)::cs₁)) w:=by
 have e0:(i==0)=false:=by simpa using hi
 have hz:((cfg Mu Wg ty N J ro Anch).Zw k).sy Mu:=.inl (.inl rfl);subst yc yf yg yh;simp only [LL,REST,jI,jL,kS,dX,dM,dV,dP,eF,dJ,Tryz.f128,ak,reduceIte,Nat.reduceEqDiff,reduceCtorEq];refine dH (n:=80) ?_
 repeat w_go (dF hz)
 try m_num
 repeat w_go (dF hz)
 refine cz (λw₁ h₁=>?_);replace hF:=dF hz hF h₁;clear h₁;refine Gw.stop λw₁ h₁=>.step (fE hne (by simp) rfl rfl λs hs hm1 hm2 hnb=>.inr ⟨by simp,_,_,_,_,w₁,_,aS.2 rfl,by rw [e0];exact stepG_mark0 .enable (by simp) rfl rfl (by k_ne) rfl Tryz.jy.f_enable (x_enable_n Tryz.link) (x_enable_b Tryz.link) (x_enable_x Tryz.link) (x_enable_f Tryz.link),by simp,hs,Eff.refl _,rfl,?_⟩)
 replace hF:=dF hz hF h₁;clear h₁;clear hs hm1 hm2 hnb s;rw [e0];refine dH (n:=30) ?_
 walk_nrm
 repeat w_go (dF hz)
 m_convG Tryz.prog Tryz.jy.underlying_tUP zm Em hF.mu.choose_spec (dF hz) hF
 refine cz (λw₁ h₁=>?_);replace hF:=dF hz hF h₁;clear h₁;refine Gw.stop λw₁ h₁=>.step (N7 hne rfl rfl rfl λs hs hc=>⟨_,by rw [e0];exact stepG_markAt .acquire (by simp) rfl rfl (by k_ne) rfl Tryz.jy.f_acquire (x_acquire_n Tryz.link) (x_acquire_b Tryz.link) (x_acquire_x Tryz.link) (x_acquire_f Tryz.link) (by simp [Act.eval,muA]), λGu Jh hJ=>?_⟩)
 replace hF:=dF hz hF h₁;clear h₁;have Rj:=hF.1;replace hF:KM 97 Mu ((cfg Mu Wg ty N J ro Anch).Zw k) (λb=>own b∨Gu b) w₁ w₁:=⟨dZ.refl _,hF.2⟩;rw [e0];refine dH (n:=30) ?_
 walk_nrm
 repeat w_go (dF hz)
 u_leave0 Tryz.func128 (dF hz) hF
 exact cz λw₃ h₃=>Gw.mono (λ_ _ _ h=>.base (.inr h)) (e0 ▸ hT _ _ _ _ Rj Jh hJ (dF hz hF h₃))
theorem take2 (hne:Mu≠Wg) (hi:i≠0) (hb:Beside (cfg Mu Wg ty N J ro Anch) ((cfg Mu Wg ty N J ro Anch).Zw k) own) (hT:kC Mu Wg ty N J ro Anch own W0 i k c (G (b₁.at (a₁.put ((dQ[i₁]?).bind (·.dst)) (.tuple #[])) (.inRegion dQ dS::k₁)) cs₁))
 {it n:Nat} {aw sv ws:Bool} {kz:Int} {oN:Array Oper} {aN lN rN:Code} {w:World} (hF:KM 97 Mu ((cfg Mu Wg ty N J ro Anch).Zw k) own W0 w) (yc:oN=jI 22) (yf:aN=jL 22) (yg:lN=LL) (yh:rN=REST):
 Gw Tryz.prog false ((cfg Mu Wg ty N J ro Anch).Zw k) ((HX Mu Wg ty N J ro Anch own W0 i k c b₁ a₁ dQ i₁ dS k₁ cs₁) i (.bd k ⟨lk .le,c,n⟩)) own (G ((base 128).at ⟨#[.pointer (some ⟨Mu,0,none⟩),j1,.int .i64 kz,.bool sv,.bool aw,.int .i64 (it:Nat),.int .i32 2,j7,j8,j9,j10,j11,j12,j13,nJ,nK,l6,l7,l8,l9,mg,nO,nP,nQ,mh,mo,mq,mD,mE,mF,mG,mH,mJ,mK,pQ,pR,pU,pV,pW,pX,pY,p8,p9,qa,qb,qc,qd,qf,qg,qh,qi,qj,ql,qm,qx,qy,qz,qA,qB,qC,qD,qE,qF,qG,qH,qI,qJ,qK,qL,qM,qN,qO,qP,qQ,qR,qU,qV,vM,vN,vO,.bool true,qW,qX,qY,qZ,rq,ru,ry,rz,rA,rC,sK,rD,rE,rF,rT,rG,rH,rJ,rM,gW,gX,gY,jA,gZ,ic,ig,iq,iy,iA,iB,iC,iD,iE,iF,iG,iH,iI,iJ,iK,iL,iM,iN,iO,iP,iQ,iR,iT,iU,iV,iW,iX,iY,iZ,ja,jc,jd,je,jf],[]⟩ [.inRegion oN [],.code aN,.inBlock 1,.inLoop lN,.inBlock 0,.code rN]) (b₁.at a₁ (.inRegion dQ (i₁::dS)::k₁)::cs₁)) w:=by
 have e0:(i==0)=false:=by simpa using hi
 have hz:((cfg Mu Wg ty N J ro Anch).Zw k).sy Mu:=.inl (.inl rfl);subst yc yf yg yh;simp only [LL,REST,jI,jL,kS,dX,dM,dV,dP,eF,dJ,Tryz.f128,ak,reduceIte,Nat.reduceEqDiff,reduceCtorEq];refine dH (n:=80) ?_
 repeat w_go (dF hz)
 try m_num
 repeat w_go (dF hz)
 refine cz (λw₁ h₁=>?_);replace hF:=dF hz hF h₁;clear h₁;refine Gw.stop λw₁ h₁=>.step (fE hne (by simp) rfl rfl λs hs hm1 hm2 hnb=>.inr ⟨by simp,_,_,_,_,w₁,_,aS.2 rfl,by rw [e0];exact stepG_mark0 .enable (by simp) rfl rfl (by k_ne) rfl Tryz.jy.f_enable (x_enable_n Tryz.link) (x_enable_b Tryz.link) (x_enable_x Tryz.link) (x_enable_f Tryz.link),by simp,hs,Eff.refl _,rfl,?_⟩)
 replace hF:=dF hz hF h₁;clear h₁;clear hs hm1 hm2 hnb s;rw [e0];refine dH (n:=30) ?_
 walk_nrm
 repeat w_go (dF hz)
 m_convG Tryz.prog Tryz.jy.underlying_tUP zm Em hF.mu.choose_spec (dF hz) hF
 refine cz (λw₁ h₁=>?_);replace hF:=dF hz hF h₁;clear h₁;refine Gw.stop λw₁ h₁=>.step (N7 hne rfl rfl rfl λs hs hc=>⟨_,by rw [e0];exact stepG_markAt .acquire (by simp) rfl rfl (by k_ne) rfl Tryz.jy.f_acquire (x_acquire_n Tryz.link) (x_acquire_b Tryz.link) (x_acquire_x Tryz.link) (x_acquire_f Tryz.link) (by simp [Act.eval,muA]), λGu Jh hJ=>?_⟩)
 replace hF:=dF hz hF h₁;clear h₁;have Rj:=hF.1;replace hF:KM 97 Mu ((cfg Mu Wg ty N J ro Anch).Zw k) (λb=>own b∨Gu b) w₁ w₁:=⟨dZ.refl _,hF.2⟩;rw [e0];refine dH (n:=30) ?_
 walk_nrm
 repeat w_go (dF hz)
 u_leave0 Tryz.func128 (dF hz) hF
 exact cz λw₃ h₃=>Gw.mono (λ_ _ _ h=>.base (.inr h)) (e0 ▸ hT _ _ _ _ Rj Jh hJ (dF hz hF h₃))
end
end Go.Proofs.Tryz
