/- Part 31. -/
import Derived.Test.YtnemnkmojiljmaaGreatB30
set_option maxRecDepth 100000
set_option maxHeartbeats 0
set_option linter.all false
namespace Go.Proofs.Tryz
open Go Go.Conc Go.ConcN Go.ConcM Go.RowKit Go.Conc.Lib Go.ConcR.Gen Par
open Go.ConcR (KK wgBlock WgAt stA smA rd wr mk AtMkS)
section
variable {j1 j7 j8 j9 j10 j11 j12 j13 nJ nK l6 l7 l8 l9 mg nO nP nQ mh mo mq mD mE mF mG mH mJ mK pQ pR pU pV pW pX pY p8 p9 qa qb qc qd qf qg qh qi qj ql qm qx qy qz qA qB qC qD qE qF qG qH qI qJ qK qL qM qN qO qP qQ qR qU qV vM vN vO vg qW qX qY qZ rq ru ry rz rA rC sK rD rE rF rT rG rH rJ rM gW gX gY jA gZ ic ig iq iy iA iB iC iD iE iF iG iH iI iJ iK iL iM iN iO iP iQ iR iT iU iV iW iX iY iZ ja jc jd je jf:Value}
variable {Mu Wg:Nat} {ty:TypeId} {N:Nat->Nat} {J:Nat->Nat->(Nat->Prop)->World->Prop} {ro:Nat->Prop} {Anch:(Nat->Prop)->Goroutine->World->Prop}
variable {own:Nat->Prop} {W0:World} {i k c:Nat} {b₁:Frame} {a₁:Act} {dQ:Array Oper} {i₁:Nat} {dS:List Nat} {k₁:List Item} {cs₁:List Frame}
theorem Rt (hne:Mu≠Wg) (hi:i≠0) (hb:Beside (cfg Mu Wg ty N J ro Anch) ((cfg Mu Wg ty N J ro Anch).Zw k) own) (hT:kC Mu Wg ty N J ro Anch own W0 i k c (G (b₁.at (a₁.put ((dQ[i₁]?).bind (·.dst)) (.tuple #[])) (.inRegion dQ dS::k₁)) cs₁))
 {n:Nat} {it:Nat} {ws:Bool} {kz:Int} {w:World} (hF:KM 97 Mu ((cfg Mu Wg ty N J ro Anch).Zw k) own W0 w) (hws:ws=decide (kz≠0)):
 tL Tryz.prog (cfg Mu Wg ty N J ro Anch).sys (HX Mu Wg ty N J ro Anch own W0 i k c b₁ a₁ dQ i₁ dS k₁ cs₁) i (.bd k ⟨⟨.hd,1,0,false,false,it,ws⟩,c,n⟩) own (G ((base 128).at ⟨#[.pointer (some ⟨Mu,0,none⟩),j1,.int .i64 kz,.bool false,.bool false,.int .i64 (it:Nat),.int .i32 1,j7,j8,j9,j10,j11,j12,j13,nJ,nK,l6,l7,l8,l9,mg,nO,nP,nQ,mh,mo,mq,mD,mE,mF,mG,mH,mJ,mK,pQ,pR,pU,pV,pW,pX,pY,p8,p9,qa,qb,qc,qd,qf,qg,qh,qi,qj,ql,qm,qx,qy,qz,qA,qB,qC,qD,qE,qF,qG,qH,qI,qJ,qK,qL,qM,qN,qO,qP,qQ,qR,qU,qV,vM,vN,vO,vg,qW,qX,qY,qZ,rq,ru,ry,rz,rA,rC,sK,rD,rE,rF,rT,rG,rH,rJ,rM,gW,gX,gY,jA,gZ,ic,ig,iq,iy,iA,iB,iC,iD,iE,iF,iG,iH,iI,iJ,iK,iL,iM,iN,iO,iP,iQ,iR,iT,iU,iV,iW,iX,iY,iZ,ja,jc,jd,je,jf],[]⟩ [.code LL,.inLoop LL,.inBlock 0,.code REST]) (b₁.at a₁ (.inRegion dQ (i₁::dS)::k₁)::cs₁)) w:=by
 have e0:(i==0)=false:=by simpa using hi
 have hz:((cfg Mu Wg ty N J ro Anch).Zw k).sy Mu:=.inl (.inl rfl);simp only [LL,REST,jI,jL,kS,dX,dM,dV,dP,eF,dJ,Tryz.f128,ak,reduceIte,Nat.reduceEqDiff,reduceCtorEq];refine fE hne (by simp) rfl rfl λs hs hm1 hm2 hnb=>.inr ⟨by simp,_,_,_,_,w,#[],aS.2 rfl,by rw [e0];exact stepG_block,by simp,hs,Eff.refl _,(λe he=>by simp at he),?_⟩
 have e:uX 1 false false it ws=⟨.sq,1,0,false,false,it,ws⟩:=rfl;rw [e,e0];clear hs hm1 hm2 hnb e s;refine dH (n:=140) ?_
 repeat w_go (dF hz)
 refine cz (λw₁ h₁=>?_);replace hF:=dF hz hF h₁;clear h₁;refine Gw.stop λw₁ h₁=>.step (?_)
 replace hF:=dF hz hF h₁;clear h₁;refine fE hne (by simp) rfl rfl λs hs hm1 hm2 hnb=>?_
 by_cases h4:it<4
 ·rcases hsp:w₁.spins with _|_
  ·refine .inr ⟨by simp,⟨.c2,1,9,false,false,it,ws⟩,s.b.mu,s.b.ms,_,w₁.asked,#[],by simp [lJ,wW,h4],by rw [e0];exact stepG_canSpin_ask rfl rfl (by k_ne) rfl Tryz.func136 kL kM kN kP (k:=.i64) (n:=((it:Nat):Int)) (by simp [Act.eval]) (by omega),by simp,hs,Eff.asked _,(λe he=>by simp at he),?_⟩;replace hF:=hF.turn (W':=w₁.asked) hb hs hs (Eff.asked w₁);rw [hsp];generalize hwl:w₁.asked=wl at hF ⊢;clear hs hm1 hm2 hnb hwl hsp;rw [e0];refine dH (n:=140) ?_
   walk_nrm
   repeat w_go (dF hz)
   try m_num
   repeat w_go (dF hz)
   refine cz λw₃ h₃=>.stop λw₄ h₄=>.step (Jj hne hi hb hT (dF hz (dF hz hF h₃) h₄) hws ?_ ?_ ?_ ?_)
   all_goals simp only [LL,REST,jI,jL,kS,dX,dM,dV,dP,eF,dJ,Tryz.f128,ak,reduceIte,Nat.reduceEqDiff,reduceCtorEq]
  ·refine .inr ⟨by simp,⟨.r1,0,0,false,false,it,ws⟩,s.b.mu,s.b.ms,_,w₁.asked,#[],by simp [lJ,wW,h4],by rw [e0];exact stepG_canSpin_ask rfl rfl (by k_ne) rfl Tryz.func136 kL kM kN kP (k:=.i64) (n:=((it:Nat):Int)) (by simp [Act.eval]) (by omega),by simp,hs,Eff.asked _,(λe he=>by simp at he),?_⟩;replace hF:=hF.turn (W':=w₁.asked) hb hs hs (Eff.asked w₁);rw [hsp];generalize hwl:w₁.asked=wl at hF ⊢;clear hs hm1 hm2 hnb hwl hsp;rw [e0];refine dH (n:=140) ?_
   walk_nrm
   repeat w_go (dF hz)
   u_in (dF hz) hF
   rw [stepG_entry_pure (.tuple #[]) rfl rfl (by k_ne) rfl Tryz.func137 Bi Bj Bl Bn];simp only [goes_go];refine ⟨⟨rfl,rfl⟩,?_⟩;walk_nrm
   repeat w_go (dF hz)
   have ew:IntKind.i64.wrap (((it:Nat):Int)+1)=((it+1:Nat):Int):=by rw [IntKind.wrap_i64];omega
   try simp only [ew]
   refine cz (λw₁ h₁=>?_);replace hF:=dF hz hF h₁;clear h₁;refine Gw.stop λw₁ h₁=>.step (fE hne (by simp) rfl rfl λs hs hm1 hm2 hnb=>.inr ⟨by simp,_,_,_,_,w₁,#[],aS.2 rfl,by rw [e0];exact jk rfl rfl (by k_ne) rfl rfl hs.cellSt jV,by simp,hs,Eff.refl _,(λe he=>by simp at he),?_⟩)
   replace hF:=dF hz hF h₁;clear h₁;rw [e0];refine dH (n:=40) ?_
   walk_nrm
   repeat w_nl (dF hz)
   u_c stepG_inLoop (dF hz) hF
   exact cz λw₃ h₃=>.stop λw₄ h₄=>.base (.inl (.mk (dF hz (dF hz hF h₃) h₄) hws))
 ·refine .inr ⟨by simp,⟨.c2,1,9,false,false,it,ws⟩,s.b.mu,s.b.ms,_,w₁,#[],by simp [lJ,wW,h4],by rw [e0];exact stepG_canSpin_no rfl rfl (by k_ne) rfl Tryz.func136 kL kM kN kP (k:=.i64) (n:=((it:Nat):Int)) (by simp [Act.eval]) (by omega),by simp,hs,Eff.refl _,(λe he=>by simp at he),?_⟩;clear hs hm1 hm2 hnb;rw [e0];refine dH (n:=140) ?_
  walk_nrm
  repeat w_go (dF hz)
  try m_num
  repeat w_go (dF hz)
  refine cz λw₃ h₃=>.stop λw₄ h₄=>.step (Jj hne hi hb hT (dF hz (dF hz hF h₃) h₄) hws ?_ ?_ ?_ ?_)
  all_goals simp only [LL,REST,jI,jL,kS,dX,dM,dV,dP,eF,dJ,Tryz.f128,ak,reduceIte,Nat.reduceEqDiff,reduceCtorEq]
theorem Ru (hne:Mu≠Wg) (hi:i≠0) (hb:Beside (cfg Mu Wg ty N J ro Anch) ((cfg Mu Wg ty N J ro Anch).Zw k) own) (hT:kC Mu Wg ty N J ro Anch own W0 i k c (G (b₁.at (a₁.put ((dQ[i₁]?).bind (·.dst)) (.tuple #[])) (.inRegion dQ dS::k₁)) cs₁))
 {n:Nat} {it:Nat} {ws:Bool} {kz:Int} {w:World} (hF:KM 97 Mu ((cfg Mu Wg ty N J ro Anch).Zw k) own W0 w) (hws:ws=decide (kz≠0)):
 tL Tryz.prog (cfg Mu Wg ty N J ro Anch).sys (HX Mu Wg ty N J ro Anch own W0 i k c b₁ a₁ dQ i₁ dS k₁ cs₁) i (.bd k ⟨⟨.hd,3,0,true,false,it,ws⟩,c,n⟩) own (G ((base 128).at ⟨#[.pointer (some ⟨Mu,0,none⟩),j1,.int .i64 kz,.bool false,.bool true,.int .i64 (it:Nat),.int .i32 3,j7,j8,j9,j10,j11,j12,j13,nJ,nK,l6,l7,l8,l9,mg,nO,nP,nQ,mh,mo,mq,mD,mE,mF,mG,mH,mJ,mK,pQ,pR,pU,pV,pW,pX,pY,p8,p9,qa,qb,qc,qd,qf,qg,qh,qi,qj,ql,qm,qx,qy,qz,qA,qB,qC,qD,qE,qF,qG,qH,qI,qJ,qK,qL,qM,qN,qO,qP,qQ,qR,qU,qV,vM,vN,vO,vg,qW,qX,qY,qZ,rq,ru,ry,rz,rA,rC,sK,rD,rE,rF,rT,rG,rH,rJ,rM,gW,gX,gY,jA,gZ,ic,ig,iq,iy,iA,iB,iC,iD,iE,iF,iG,iH,iI,iJ,iK,iL,iM,iN,iO,iP,iQ,iR,iT,iU,iV,iW,iX,iY,iZ,ja,jc,jd,je,jf],[]⟩ [.code LL,.inLoop LL,.inBlock 0,.code REST]) (b₁.at a₁ (.inRegion dQ (i₁::dS)::k₁)::cs₁)) w:=by
 have e0:(i==0)=false:=by simpa using hi
 have hz:((cfg Mu Wg ty N J ro Anch).Zw k).sy Mu:=.inl (.inl rfl);simp only [LL,REST,jI,jL,kS,dX,dM,dV,dP,eF,dJ,Tryz.f128,ak,reduceIte,Nat.reduceEqDiff,reduceCtorEq];refine fE hne (by simp) rfl rfl λs hs hm1 hm2 hnb=>.inr ⟨by simp,_,_,_,_,w,#[],aS.2 rfl,by rw [e0];exact stepG_block,by simp,hs,Eff.refl _,(λe he=>by simp at he),?_⟩
 have e:uX 3 true false it ws=⟨.sq,3,0,true,false,it,ws⟩:=rfl;rw [e,e0];clear hs hm1 hm2 hnb e s;refine dH (n:=140) ?_
 repeat w_go (dF hz)
 refine cz (λw₁ h₁=>?_);replace hF:=dF hz hF h₁;clear h₁;refine Gw.stop λw₁ h₁=>.step (?_)
 replace hF:=dF hz hF h₁;clear h₁;refine fE hne (by simp) rfl rfl λs hs hm1 hm2 hnb=>?_
 by_cases h4:it<4
 ·rcases hsp:w₁.spins with _|_
  ·refine .inr ⟨by simp,⟨.c2,3,9,true,false,it,ws⟩,s.b.mu,s.b.ms,_,w₁.asked,#[],by simp [lJ,wW,h4],by rw [e0];exact stepG_canSpin_ask rfl rfl (by k_ne) rfl Tryz.func136 kL kM kN kP (k:=.i64) (n:=((it:Nat):Int)) (by simp [Act.eval]) (by omega),by simp,hs,Eff.asked _,(λe he=>by simp at he),?_⟩;replace hF:=hF.turn (W':=w₁.asked) hb hs hs (Eff.asked w₁);rw [hsp];generalize hwl:w₁.asked=wl at hF ⊢;clear hs hm1 hm2 hnb hwl hsp;rw [e0];refine dH (n:=140) ?_
   walk_nrm
   repeat w_go (dF hz)
   try m_num
   repeat w_go (dF hz)
   refine cz λw₃ h₃=>.stop λw₄ h₄=>.step (Jl hne hi hb hT (dF hz (dF hz hF h₃) h₄) hws ?_ ?_ ?_ ?_)
   all_goals simp only [LL,REST,jI,jL,kS,dX,dM,dV,dP,eF,dJ,Tryz.f128,ak,reduceIte,Nat.reduceEqDiff,reduceCtorEq]
  ·refine .inr ⟨by simp,⟨.r1,0,0,true,false,it,ws⟩,s.b.mu,s.b.ms,_,w₁.asked,#[],by simp [lJ,wW,h4],by rw [e0];exact stepG_canSpin_ask rfl rfl (by k_ne) rfl Tryz.func136 kL kM kN kP (k:=.i64) (n:=((it:Nat):Int)) (by simp [Act.eval]) (by omega),by simp,hs,Eff.asked _,(λe he=>by simp at he),?_⟩;replace hF:=hF.turn (W':=w₁.asked) hb hs hs (Eff.asked w₁);rw [hsp];generalize hwl:w₁.asked=wl at hF ⊢;clear hs hm1 hm2 hnb hwl hsp;rw [e0];refine dH (n:=140) ?_
   walk_nrm
   repeat w_go (dF hz)
   u_in (dF hz) hF
   rw [stepG_entry_pure (.tuple #[]) rfl rfl (by k_ne) rfl Tryz.func137 Bi Bj Bl Bn];simp only [goes_go];refine ⟨⟨rfl,rfl⟩,?_⟩;walk_nrm
   repeat w_go (dF hz)
   have ew:IntKind.i64.wrap (((it:Nat):Int)+1)=((it+1:Nat):Int):=by rw [IntKind.wrap_i64];omega
   try simp only [ew]
   refine cz (λw₁ h₁=>?_);replace hF:=dF hz hF h₁;clear h₁;refine Gw.stop λw₁ h₁=>.step (fE hne (by simp) rfl rfl λs hs hm1 hm2 hnb=>.inr ⟨by simp,_,_,_,_,w₁,#[],aS.2 rfl,by rw [e0];exact jk rfl rfl (by k_ne) rfl rfl hs.cellSt jV,by simp,hs,Eff.refl _,(λe he=>by simp at he),?_⟩)
   replace hF:=dF hz hF h₁;clear h₁;rw [e0];refine dH (n:=40) ?_
   walk_nrm
   repeat w_nl (dF hz)
   u_c stepG_inLoop (dF hz) hF
   exact cz λw₃ h₃=>.stop λw₄ h₄=>.base (.inl (.mk (dF hz (dF hz hF h₃) h₄) hws))
 ·refine .inr ⟨by simp,⟨.c2,3,9,true,false,it,ws⟩,s.b.mu,s.b.ms,_,w₁,#[],by simp [lJ,wW,h4],by rw [e0];exact stepG_canSpin_no rfl rfl (by k_ne) rfl Tryz.func136 kL kM kN kP (k:=.i64) (n:=((it:Nat):Int)) (by simp [Act.eval]) (by omega),by simp,hs,Eff.refl _,(λe he=>by simp at he),?_⟩;clear hs hm1 hm2 hnb;rw [e0];refine dH (n:=140) ?_
  walk_nrm
  repeat w_go (dF hz)
  try m_num
  repeat w_go (dF hz)
  refine cz λw₃ h₃=>.stop λw₄ h₄=>.step (Jl hne hi hb hT (dF hz (dF hz hF h₃) h₄) hws ?_ ?_ ?_ ?_)
  all_goals simp only [LL,REST,jI,jL,kS,dX,dM,dV,dP,eF,dJ,Tryz.f128,ak,reduceIte,Nat.reduceEqDiff,reduceCtorEq]
theorem Rv (hne:Mu≠Wg) (hi:i≠0) (hb:Beside (cfg Mu Wg ty N J ro Anch) ((cfg Mu Wg ty N J ro Anch).Zw k) own) (hT:kC Mu Wg ty N J ro Anch own W0 i k c (G (b₁.at (a₁.put ((dQ[i₁]?).bind (·.dst)) (.tuple #[])) (.inRegion dQ dS::k₁)) cs₁))
 {n:Nat} {it:Nat} {ws:Bool} {kz:Int} {w:World} (hF:KM 97 Mu ((cfg Mu Wg ty N J ro Anch).Zw k) own W0 w) (hws:ws=decide (kz≠0)):
 tL Tryz.prog (cfg Mu Wg ty N J ro Anch).sys (HX Mu Wg ty N J ro Anch own W0 i k c b₁ a₁ dQ i₁ dS k₁ cs₁) i (.bd k ⟨⟨.hd,3,0,true,true,it,ws⟩,c,n⟩) own (G ((base 128).at ⟨#[.pointer (some ⟨Mu,0,none⟩),j1,.int .i64 kz,.bool true,.bool true,.int .i64 (it:Nat),.int .i32 3,j7,j8,j9,j10,j11,j12,j13,nJ,nK,l6,l7,l8,l9,mg,nO,nP,nQ,mh,mo,mq,mD,mE,mF,mG,mH,mJ,mK,pQ,pR,pU,pV,pW,pX,pY,p8,p9,qa,qb,qc,qd,qf,qg,qh,qi,qj,ql,qm,qx,qy,qz,qA,qB,qC,qD,qE,qF,qG,qH,qI,qJ,qK,qL,qM,qN,qO,qP,qQ,qR,qU,qV,vM,vN,vO,vg,qW,qX,qY,qZ,rq,ru,ry,rz,rA,rC,sK,rD,rE,rF,rT,rG,rH,rJ,rM,gW,gX,gY,jA,gZ,ic,ig,iq,iy,iA,iB,iC,iD,iE,iF,iG,iH,iI,iJ,iK,iL,iM,iN,iO,iP,iQ,iR,iT,iU,iV,iW,iX,iY,iZ,ja,jc,jd,je,jf],[]⟩ [.code LL,.inLoop LL,.inBlock 0,.code REST]) (b₁.at a₁ (.inRegion dQ (i₁::dS)::k₁)::cs₁)) w:=by
 have e0:(i==0)=false:=by simpa using hi
 have hz:((cfg Mu Wg ty N J ro Anch).Zw k).sy Mu:=.inl (.inl rfl);simp only [LL,REST,jI,jL,kS,dX,dM,dV,dP,eF,dJ,Tryz.f128,ak,reduceIte,Nat.reduceEqDiff,reduceCtorEq];refine fE hne (by simp) rfl rfl λs hs hm1 hm2 hnb=>.inr ⟨by simp,_,_,_,_,w,#[],aS.2 rfl,by rw [e0];exact stepG_block,by simp,hs,Eff.refl _,(λe he=>by simp at he),?_⟩
 have e:uX 3 true true it ws=⟨.sq,3,0,true,true,it,ws⟩:=rfl;rw [e,e0];clear hs hm1 hm2 hnb e s;refine dH (n:=140) ?_
 repeat w_go (dF hz)
 refine cz (λw₁ h₁=>?_);replace hF:=dF hz hF h₁;clear h₁;refine Gw.stop λw₁ h₁=>.step (?_)
 replace hF:=dF hz hF h₁;clear h₁;refine fE hne (by simp) rfl rfl λs hs hm1 hm2 hnb=>?_
 by_cases h4:it<4
 ·rcases hsp:w₁.spins with _|_
  ·refine .inr ⟨by simp,⟨.c2,3,13,true,true,it,ws⟩,s.b.mu,s.b.ms,_,w₁.asked,#[],by simp [lJ,wW,h4],by rw [e0];exact stepG_canSpin_ask rfl rfl (by k_ne) rfl Tryz.func136 kL kM kN kP (k:=.i64) (n:=((it:Nat):Int)) (by simp [Act.eval]) (by omega),by simp,hs,Eff.asked _,(λe he=>by simp at he),?_⟩;replace hF:=hF.turn (W':=w₁.asked) hb hs hs (Eff.asked w₁);rw [hsp];generalize hwl:w₁.asked=wl at hF ⊢;clear hs hm1 hm2 hnb hwl hsp;rw [e0];refine dH (n:=140) ?_
   walk_nrm
   repeat w_go (dF hz)
   try m_num
   repeat w_go (dF hz)
   refine cz λw₃ h₃=>.stop λw₄ h₄=>.step (GK hne hi hb hT (dF hz (dF hz hF h₃) h₄) hws ?_ ?_ ?_ ?_)
   all_goals simp only [LL,REST,jI,jL,kS,dX,dM,dV,dP,eF,dJ,Tryz.f128,ak,reduceIte,Nat.reduceEqDiff,reduceCtorEq]
  ·refine .inr ⟨by simp,⟨.r1,0,0,true,true,it,ws⟩,s.b.mu,s.b.ms,_,w₁.asked,#[],by simp [lJ,wW,h4],by rw [e0];exact stepG_canSpin_ask rfl rfl (by k_ne) rfl Tryz.func136 kL kM kN kP (k:=.i64) (n:=((it:Nat):Int)) (by simp [Act.eval]) (by omega),by simp,hs,Eff.asked _,(λe he=>by simp at he),?_⟩;replace hF:=hF.turn (W':=w₁.asked) hb hs hs (Eff.asked w₁);rw [hsp];generalize hwl:w₁.asked=wl at hF ⊢;clear hs hm1 hm2 hnb hwl hsp;rw [e0];refine dH (n:=140) ?_
   walk_nrm
   repeat w_go (dF hz)
   u_in (dF hz) hF
   rw [stepG_entry_pure (.tuple #[]) rfl rfl (by k_ne) rfl Tryz.func137 Bi Bj Bl Bn];simp only [goes_go];refine ⟨⟨rfl,rfl⟩,?_⟩;walk_nrm
   repeat w_go (dF hz)
   have ew:IntKind.i64.wrap (((it:Nat):Int)+1)=((it+1:Nat):Int):=by rw [IntKind.wrap_i64];omega
   try simp only [ew]
   refine cz (λw₁ h₁=>?_);replace hF:=dF hz hF h₁;clear h₁;refine Gw.stop λw₁ h₁=>.step (fE hne (by simp) rfl rfl λs hs hm1 hm2 hnb=>.inr ⟨by simp,_,_,_,_,w₁,#[],aS.2 rfl,by rw [e0];exact jk rfl rfl (by k_ne) rfl rfl hs.cellSt jV,by simp,hs,Eff.refl _,(λe he=>by simp at he),?_⟩)
   replace hF:=dF hz hF h₁;clear h₁;rw [e0];refine dH (n:=40) ?_
   walk_nrm
   repeat w_nl (dF hz)
   u_c stepG_inLoop (dF hz) hF
   exact cz λw₃ h₃=>.stop λw₄ h₄=>.base (.inl (.mk (dF hz (dF hz hF h₃) h₄) hws))
 ·refine .inr ⟨by simp,⟨.c2,3,13,true,true,it,ws⟩,s.b.mu,s.b.ms,_,w₁,#[],by simp [lJ,wW,h4],by rw [e0];exact stepG_canSpin_no rfl rfl (by k_ne) rfl Tryz.func136 kL kM kN kP (k:=.i64) (n:=((it:Nat):Int)) (by simp [Act.eval]) (by omega),by simp,hs,Eff.refl _,(λe he=>by simp at he),?_⟩;clear hs hm1 hm2 hnb;rw [e0];refine dH (n:=140) ?_
  walk_nrm
  repeat w_go (dF hz)
  try m_num
  repeat w_go (dF hz)
  refine cz λw₃ h₃=>.stop λw₄ h₄=>.step (GK hne hi hb hT (dF hz (dF hz hF h₃) h₄) hws ?_ ?_ ?_ ?_)
  all_goals simp only [LL,REST,jI,jL,kS,dX,dM,dV,dP,eF,dJ,Tryz.f128,ak,reduceIte,Nat.reduceEqDiff,reduceCtorEq]
end
end Go.Proofs.Tryz
