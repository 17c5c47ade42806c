/- Part 28. -/
import Derived.Test.YtnemnkmojiljmaaGreatB27
set_option maxRecDepth 100000
set_option maxHeartbeats 0
set_option linter.all false
namespace Go.Proofs.Tryz
open Go Go.Conc Go.ConcN Go.ConcM Go.RowKit Go.Conc.Lib Go.ConcR.Gen Par
open Go.ConcR (KK wgBlock WgAt stA smA rd wr mk AtMkS)
section
variable {j1 j6 j7 j8 j9 j10 j11 j12 j13 nJ nK l6 l7 l8 l9 mg nO nP nQ mh mo mq mD mE mF mG mH mJ mK pQ pR pU pV pW pX pY p8 p9 qa qb qc qd qf qg qh qi qj ql qm qx qy qz qA qB qC qD qE qF qG qH qI qJ qK qL qM qN qO qP qQ qR qU qV vM vN vO vg qW qX qY qZ rq ru ry rz rA rC sK rD rE rF rT rG rH rJ rM gW gX gY jA gZ ic ig iq iy iA iB iC iD iE iF iG iH iI iJ iK iL iM iN iO iP iQ iR iT iU iV iW iX iY iZ ja jc jd je jf:Value}
variable {Mu Wg:Nat} {ty:TypeId} {N:Nat->Nat} {J:Nat->Nat->(Nat->Prop)->World->Prop} {ro:Nat->Prop} {Anch:(Nat->Prop)->Goroutine->World->Prop}
variable {own:Nat->Prop} {W0:World} {i k c:Nat} {b₁:Frame} {a₁:Act} {dQ:Array Oper} {i₁:Nat} {dS:List Nat} {k₁:List Item} {cs₁:List Frame}
theorem ap0 (hne:Mu≠Wg) (hi:i≠0) (hb:Beside (cfg Mu Wg ty N J ro Anch) ((cfg Mu Wg ty N J ro Anch).Zw k) own) (hT:kC Mu Wg ty N J ro Anch own W0 i k c (G (b₁.at (a₁.put ((dQ[i₁]?).bind (·.dst)) (.tuple #[])) (.inRegion dQ dS::k₁)) cs₁))
 {n:Nat} {it:Nat} {aw ws:Bool} {kz:Int} {oN:Array Oper} {aN lN rN:Code} {w:World} (hF:KM 97 Mu ((cfg Mu Wg ty N J ro Anch).Zw k) own W0 w) (hws:ws=decide (kz≠0)) (yc:oN=jI 28) (yf:aN=jL 28) (yg:lN=LL) (yh:rN=REST):
 tL Tryz.prog (cfg Mu Wg ty N J ro Anch).sys (HX Mu Wg ty N J ro Anch own W0 i k c b₁ a₁ dQ i₁ dS k₁ cs₁) i (.bd k ⟨⟨.t2,0,0,aw,false,0,ws⟩,c,n⟩) own (G ((base 128).at ⟨#[.pointer (some ⟨Mu,0,none⟩),j1,.int .i64 kz,.bool false,.bool aw,.int .i64 (it:Nat),j6,j7,j8,j9,j10,j11,j12,j13,nJ,nK,l6,l7,l8,l9,mg,nO,nP,nQ,mh,mo,mq,mD,mE,mF,mG,mH,mJ,mK,pQ,pR,pU,pV,pW,pX,pY,p8,p9,qa,qb,qc,qd,qf,qg,qh,qi,qj,ql,qm,qx,qy,qz,qA,qB,qC,qD,qE,qF,qG,qH,qI,qJ,qK,qL,qM,qN,qO,qP,qQ,qR,qU,qV,vM,vN,vO,vg,qW,qX,qY,qZ,rq,ru,ry,rz,rA,rC,sK,rD,rE,rF,.bool false,rG,rH,rJ,rM,gW,gX,gY,jA,gZ,ic,ig,iq,iy,iA,iB,iC,iD,iE,iF,iG,iH,iI,iJ,iK,iL,iM,iN,iO,iP,iQ,iR,iT,iU,iV,iW,iX,iY,iZ,ja,jc,jd,je,jf],[]⟩ [.inRegion oN [2,3,4,5,6,7],.code aN,.inBlock 1,.inLoop lN,.inBlock 0,.code rN]) (b₁.at a₁ (.inRegion dQ (i₁::dS)::k₁)::cs₁)) w:=by
 have e0:(i==0)=false:=by simpa using hi
 have hz:((cfg Mu Wg ty N J ro Anch).Zw k).sy Mu:=.inl (.inl rfl);subst yc yf yg yh;simp only [LL,REST,jI,jL,kS,dX,dM,dV,dP,eF,dJ,Tryz.f128,ak,reduceIte,Nat.reduceEqDiff,reduceCtorEq];refine fE hne (by simp) rfl rfl λs hs hm1 hm2 hnb=>?_
 rcases hB:decide (1000000<IntKind.i64.wrap (((w.os.mono+w.tick:Nat):Int) - kz)) with _|_
 ·refine .inr ⟨by simp,⟨.r2,0,0,aw,false,0,ws⟩,s.b.mu,s.b.ms,_,w.later,#[],by simp [lJ],by rw [e0];exact stepG_nanotime rfl rfl (by k_ne) rfl Tryz.func139 wY wZ xe xg xh,by simp,hs,Eff.later _,(λe he=>by simp at he),?_⟩;replace hF:KM 97 Mu ((cfg Mu Wg ty N J ro Anch).Zw k) own W0 w.later:=hF.turn hb hs hs (Eff.later w);clear hs hm1 hm2 hnb;rw [e0];generalize hwl:w.later=wl at hF ⊢;generalize ((w.os.mono+w.tick:Nat):Int)=tv at hB ⊢;clear hwl;refine dH (n:=60) ?_
  walk_nrm
  repeat w_go (dF hz)
  try simp only [hB]
  repeat w_go (dF hz)
  refine cz λw₃ h₃=>.stop λw₄ h₄=>.step (ad7 hne hi hb hT (dF hz (dF hz hF h₃) h₄) hws ?_ ?_ ?_ ?_)
  all_goals simp only [LL,REST,jI,jL,kS,dX,dM,dV,dP,eF,dJ,Tryz.f128,ak,reduceIte,Nat.reduceEqDiff,reduceCtorEq]
 ·refine .inr ⟨by simp,⟨.r2,0,0,aw,true,0,ws⟩,s.b.mu,s.b.ms,_,w.later,#[],by simp [lJ],by rw [e0];exact stepG_nanotime rfl rfl (by k_ne) rfl Tryz.func139 wY wZ xe xg xh,by simp,hs,Eff.later _,(λe he=>by simp at he),?_⟩;replace hF:KM 97 Mu ((cfg Mu Wg ty N J ro Anch).Zw k) own W0 w.later:=hF.turn hb hs hs (Eff.later w);clear hs hm1 hm2 hnb;rw [e0];generalize hwl:w.later=wl at hF ⊢;generalize ((w.os.mono+w.tick:Nat):Int)=tv at hB ⊢;clear hwl;refine dH (n:=60) ?_
  walk_nrm
  repeat w_go (dF hz)
  try simp only [hB]
  repeat w_go (dF hz)
  refine cz λw₃ h₃=>.stop λw₄ h₄=>.step (U7 hne hi hb hT (dF hz (dF hz hF h₃) h₄) hws ?_ ?_ ?_ ?_)
  all_goals simp only [LL,REST,jI,jL,kS,dX,dM,dV,dP,eF,dJ,Tryz.f128,ak,reduceIte,Nat.reduceEqDiff,reduceCtorEq]
theorem GI (hne:Mu≠Wg) (hi:i≠0) (hb:Beside (cfg Mu Wg ty N J ro Anch) ((cfg Mu Wg ty N J ro Anch).Zw k) own) (hT:kC Mu Wg ty N J ro Anch own W0 i k c (G (b₁.at (a₁.put ((dQ[i₁]?).bind (·.dst)) (.tuple #[])) (.inRegion dQ dS::k₁)) cs₁))
 {n:Nat} {it:Nat} {aw ws:Bool} {kz:Int} {oN:Array Oper} {aN lN rN:Code} {w:World} (hF:KM 97 Mu ((cfg Mu Wg ty N J ro Anch).Zw k) own W0 w) (hws:ws=decide (kz≠0)) (yc:oN=jI 27) (yf:aN=jL 27) (yg:lN=LL) (yh:rN=REST):
 tL Tryz.prog (cfg Mu Wg ty N J ro Anch).sys (HX Mu Wg ty N J ro Anch own W0 i k c b₁ a₁ dQ i₁ dS k₁ cs₁) i (.bd k ⟨⟨.s1,0,0,aw,false,0,ws⟩,c,n⟩) own (G ((base 128).at ⟨#[.pointer (some ⟨Mu,0,none⟩),j1,.int .i64 kz,.bool false,.bool aw,.int .i64 (it:Nat),j6,j7,j8,j9,j10,j11,j12,j13,nJ,nK,l6,l7,l8,l9,mg,nO,nP,nQ,mh,mo,mq,mD,mE,mF,mG,mH,mJ,mK,pQ,pR,pU,pV,pW,pX,pY,p8,p9,qa,qb,qc,qd,qf,qg,qh,qi,qj,ql,qm,qx,qy,qz,qA,qB,qC,qD,qE,qF,qG,qH,qI,qJ,qK,qL,qM,qN,qO,qP,qQ,qR,qU,qV,vM,vN,vO,vg,qW,qX,qY,qZ,rq,ru,ry,rz,rA,rC,.pointer (some (msA Mu)),rD,rE,rF,rT,rG,rH,rJ,rM,gW,gX,gY,jA,gZ,ic,ig,iq,iy,iA,iB,iC,iD,iE,iF,iG,iH,iI,iJ,iK,iL,iM,iN,iO,iP,iQ,iR,iT,iU,iV,iW,iX,iY,iZ,ja,jc,jd,je,jf],[]⟩ [.inRegion oN [4],.code aN,.inBlock 1,.inLoop lN,.inBlock 0,.code rN]) (b₁.at a₁ (.inRegion dQ (i₁::dS)::k₁)::cs₁)) w:=by
 have e0:(i==0)=false:=by simpa using hi
 have hz:((cfg Mu Wg ty N J ro Anch).Zw k).sy Mu:=.inl (.inl rfl);subst yc yf yg yh;simp only [LL,REST,jI,jL,kS,dX,dM,dV,dP,eF,dJ,Tryz.f128,ak,reduceIte,Nat.reduceEqDiff,reduceCtorEq];refine fE hne (by simp) rfl rfl λs hs hm1 hm2 hnb=>?_
 obtain ⟨v,wt,sm,jn,dn,⟨mu,ms,c0,c1,ow⟩⟩:=s;simp only at hs hm1 hm2 hnb ⊢;rcases ms with _|_|ms
 ·exact .inl ⟨⟨by simp,by simp⟩,by rw [e0];exact stepG_semacquire_wait rfl rfl rfl Tryz.func140 xX xY xZ x8 (by simp [Act.eval,msA]) hs.cellSm⟩
 ·have hs:MuAt 97 Mu w mu 1:=hs;refine .inr ⟨by simp,⟨.t2,0,0,aw,false,0,ws⟩,mu,0,_,w.setCell (msA Mu) (.int .u32 (1 - 1)),_,by simp [lJ],by rw [e0];exact stepG_semacquire rfl rfl (by k_ne) rfl Tryz.func140 xX xY xZ x8 (by simp [Act.eval,msA]) hs.cellSm (by decide) (hs.thaw 1),by simp,hs.setSm (1 - 1),Eff.set _ _ (.inl rfl),⟨msA Mu,.inl rfl,rfl⟩,?_⟩;replace hF:=hF.turn hb hs (hs.setSm (1 - 1)) (Eff.set (msA Mu) _ (.inl rfl));generalize w.setCell (msA Mu) (.int .u32 (1 - 1))=w₂ at hF ⊢;clear hs hm1 hm2 hnb;rw [e0];refine dH (n:=60) ?_
  walk_nrm
  repeat w_go (dF hz)
  refine cz λw₃ h₃=>.stop λw₄ h₄=>.step (ap0 hne hi hb hT (dF hz (dF hz hF h₃) h₄) hws ?_ ?_ ?_ ?_)
  all_goals simp only [LL,REST,jI,jL,kS,dX,dM,dV,dP,eF,dJ,Tryz.f128,ak,reduceIte,Nat.reduceEqDiff,reduceCtorEq]
 ·omega
theorem GJ (hne:Mu≠Wg) (hi:i≠0) (hb:Beside (cfg Mu Wg ty N J ro Anch) ((cfg Mu Wg ty N J ro Anch).Zw k) own) (hT:kC Mu Wg ty N J ro Anch own W0 i k c (G (b₁.at (a₁.put ((dQ[i₁]?).bind (·.dst)) (.tuple #[])) (.inRegion dQ dS::k₁)) cs₁))
 {n:Nat} {it:Nat} {aw ws:Bool} {kz:Int} {oN:Array Oper} {aN lN rN:Code} {w:World} (hF:KM 97 Mu ((cfg Mu Wg ty N J ro Anch).Zw k) own W0 w) (hws:ws=decide (kz≠0)) (yc:oN=jI 27) (yf:aN=jL 27) (yg:lN=LL) (yh:rN=REST):
 tL Tryz.prog (cfg Mu Wg ty N J ro Anch).sys (HX Mu Wg ty N J ro Anch own W0 i k c b₁ a₁ dQ i₁ dS k₁ cs₁) i (.bd k ⟨⟨.s1,0,0,aw,true,0,ws⟩,c,n⟩) own (G ((base 128).at ⟨#[.pointer (some ⟨Mu,0,none⟩),j1,.int .i64 kz,.bool true,.bool aw,.int .i64 (it:Nat),j6,j7,j8,j9,j10,j11,j12,j13,nJ,nK,l6,l7,l8,l9,mg,nO,nP,nQ,mh,mo,mq,mD,mE,mF,mG,mH,mJ,mK,pQ,pR,pU,pV,pW,pX,pY,p8,p9,qa,qb,qc,qd,qf,qg,qh,qi,qj,ql,qm,qx,qy,qz,qA,qB,qC,qD,qE,qF,qG,qH,qI,qJ,qK,qL,qM,qN,qO,qP,qQ,qR,qU,qV,vM,vN,vO,vg,qW,qX,qY,qZ,rq,ru,ry,rz,rA,rC,.pointer (some (msA Mu)),rD,rE,rF,rT,rG,rH,rJ,rM,gW,gX,gY,jA,gZ,ic,ig,iq,iy,iA,iB,iC,iD,iE,iF,iG,iH,iI,iJ,iK,iL,iM,iN,iO,iP,iQ,iR,iT,iU,iV,iW,iX,iY,iZ,ja,jc,jd,je,jf],[]⟩ [.inRegion oN [4],.code aN,.inBlock 1,.inLoop lN,.inBlock 0,.code rN]) (b₁.at a₁ (.inRegion dQ (i₁::dS)::k₁)::cs₁)) w:=by
 have e0:(i==0)=false:=by simpa using hi
 have hz:((cfg Mu Wg ty N J ro Anch).Zw k).sy Mu:=.inl (.inl rfl);subst yc yf yg yh;simp only [LL,REST,jI,jL,kS,dX,dM,dV,dP,eF,dJ,Tryz.f128,ak,reduceIte,Nat.reduceEqDiff,reduceCtorEq];refine fE hne (by simp) rfl rfl λs hs hm1 hm2 hnb=>?_
 obtain ⟨v,wt,sm,jn,dn,⟨mu,ms,c0,c1,ow⟩⟩:=s;simp only at hs hm1 hm2 hnb ⊢;rcases ms with _|_|ms
 ·exact .inl ⟨⟨by simp,by simp⟩,by rw [e0];exact stepG_semacquire_wait rfl rfl rfl Tryz.func140 xX xY xZ x8 (by simp [Act.eval,msA]) hs.cellSm⟩
 ·have hs:MuAt 97 Mu w mu 1:=hs;refine .inr ⟨by simp,⟨.r2,0,0,aw,true,0,ws⟩,mu,0,_,w.setCell (msA Mu) (.int .u32 (1 - 1)),_,by simp [lJ],by rw [e0];exact stepG_semacquire rfl rfl (by k_ne) rfl Tryz.func140 xX xY xZ x8 (by simp [Act.eval,msA]) hs.cellSm (by decide) (hs.thaw 1),by simp,hs.setSm (1 - 1),Eff.set _ _ (.inl rfl),⟨msA Mu,.inl rfl,rfl⟩,?_⟩;replace hF:=hF.turn hb hs (hs.setSm (1 - 1)) (Eff.set (msA Mu) _ (.inl rfl));generalize w.setCell (msA Mu) (.int .u32 (1 - 1))=w₂ at hF ⊢;clear hs hm1 hm2 hnb;rw [e0];refine dH (n:=60) ?_
  walk_nrm
  repeat w_go (dF hz)
  refine cz λw₃ h₃=>.stop λw₄ h₄=>.step (U7 hne hi hb hT (dF hz (dF hz hF h₃) h₄) hws ?_ ?_ ?_ ?_)
  all_goals simp only [LL,REST,jI,jL,kS,dX,dM,dV,dP,eF,dJ,Tryz.f128,ak,reduceIte,Nat.reduceEqDiff,reduceCtorEq]
 ·omega
theorem Ob (hne:Mu≠Wg) (hi:i≠0) (hb:Beside (cfg Mu Wg ty N J ro Anch) ((cfg Mu Wg ty N J ro Anch).Zw k) own) (hT:kC Mu Wg ty N J ro Anch own W0 i k c (G (b₁.at (a₁.put ((dQ[i₁]?).bind (·.dst)) (.tuple #[])) (.inRegion dQ dS::k₁)) cs₁))
 {n:Nat} {it:Nat} {aw:Bool} {oN:Array Oper} {aN lN rN:Code} {w:World} (hF:KM 97 Mu ((cfg Mu Wg ty N J ro Anch).Zw k) own W0 w) (yc:oN=jI 26) (yf:aN=kS 27) (yg:lN=LL) (yh:rN=REST):
 tL Tryz.prog (cfg Mu Wg ty N J ro Anch).sys (HX Mu Wg ty N J ro Anch own W0 i k c b₁ a₁ dQ i₁ dS k₁ cs₁) i (.bd k ⟨⟨.t1,0,0,aw,false,0,false⟩,c,n⟩) own (G ((base 128).at ⟨#[.pointer (some ⟨Mu,0,none⟩),j1,.int .i64 0,.bool false,.bool aw,.int .i64 (it:Nat),j6,j7,j8,j9,j10,j11,j12,j13,nJ,nK,l6,l7,l8,l9,mg,nO,nP,nQ,mh,mo,mq,mD,mE,mF,mG,mH,mJ,mK,pQ,pR,pU,pV,pW,pX,pY,p8,p9,qa,qb,qc,qd,qf,qg,qh,qi,qj,ql,qm,qx,qy,qz,qA,qB,qC,qD,qE,qF,qG,qH,qI,qJ,qK,qL,qM,qN,qO,qP,qQ,qR,qU,qV,vM,vN,vO,vg,qW,qX,qY,qZ,rq,ru,ry,rz,rA,rC,sK,rD,rE,rF,rT,rG,rH,rJ,rM,gW,gX,gY,jA,gZ,ic,ig,iq,iy,iA,iB,iC,iD,iE,iF,iG,iH,iI,iJ,iK,iL,iM,iN,iO,iP,iQ,iR,iT,iU,iV,iW,iX,iY,iZ,ja,jc,jd,je,jf],[]⟩ [.inRegion oN [0,1],.code aN,.inBlock 1,.inLoop lN,.inBlock 0,.code rN]) (b₁.at a₁ (.inRegion dQ (i₁::dS)::k₁)::cs₁)) w:=by
 have e0:(i==0)=false:=by simpa using hi
 have hz:((cfg Mu Wg ty N J ro Anch).Zw k).sy Mu:=.inl (.inl rfl);subst yc yf yg yh;simp only [LL,REST,jI,jL,kS,dX,dM,dV,dP,eF,dJ,Tryz.f128,ak,reduceIte,Nat.reduceEqDiff,reduceCtorEq];refine fE hne (by simp) rfl rfl λs hs hm1 hm2 hnb=>?_
 rcases hB:decide (((w.os.mono+w.tick:Nat):Int)≠0) with _|_
 ·refine .inr ⟨by simp,⟨.s1,0,0,aw,false,0,false⟩,s.b.mu,s.b.ms,_,w.later,#[],by simp [lJ],by rw [e0];exact stepG_nanotime rfl rfl (by k_ne) rfl Tryz.func139 wY wZ xe xg xh,by simp,hs,Eff.later _,(λe he=>by simp at he),?_⟩;replace hF:KM 97 Mu ((cfg Mu Wg ty N J ro Anch).Zw k) own W0 w.later:=hF.turn hb hs hs (Eff.later w);clear hs hm1 hm2 hnb;rw [e0];generalize hwl:w.later=wl at hF ⊢;generalize ((w.os.mono+w.tick:Nat):Int)=tv at hB ⊢;clear hwl;refine dH (n:=60) ?_
  walk_nrm
  repeat w_go (dF hz)
  have hws:=hB.symm;refine cz λw₃ h₃=>.stop λw₄ h₄=>.step (GI hne hi hb hT (dF hz (dF hz hF h₃) h₄) hws ?_ ?_ ?_ ?_)
  all_goals simp only [LL,REST,jI,jL,kS,dX,dM,dV,dP,eF,dJ,Tryz.f128,ak,reduceIte,Nat.reduceEqDiff,reduceCtorEq]
 ·refine .inr ⟨by simp,⟨.s1,0,0,aw,false,0,true⟩,s.b.mu,s.b.ms,_,w.later,#[],by simp [lJ],by rw [e0];exact stepG_nanotime rfl rfl (by k_ne) rfl Tryz.func139 wY wZ xe xg xh,by simp,hs,Eff.later _,(λe he=>by simp at he),?_⟩;replace hF:KM 97 Mu ((cfg Mu Wg ty N J ro Anch).Zw k) own W0 w.later:=hF.turn hb hs hs (Eff.later w);clear hs hm1 hm2 hnb;rw [e0];generalize hwl:w.later=wl at hF ⊢;generalize ((w.os.mono+w.tick:Nat):Int)=tv at hB ⊢;clear hwl;refine dH (n:=60) ?_
  walk_nrm
  repeat w_go (dF hz)
  have hws:=hB.symm;refine cz λw₃ h₃=>.stop λw₄ h₄=>.step (GI hne hi hb hT (dF hz (dF hz hF h₃) h₄) hws ?_ ?_ ?_ ?_)
  all_goals simp only [LL,REST,jI,jL,kS,dX,dM,dV,dP,eF,dJ,Tryz.f128,ak,reduceIte,Nat.reduceEqDiff,reduceCtorEq]
theorem Oc (hne:Mu≠Wg) (hi:i≠0) (hb:Beside (cfg Mu Wg ty N J ro Anch) ((cfg Mu Wg ty N J ro Anch).Zw k) own) (hT:kC Mu Wg ty N J ro Anch own W0 i k c (G (b₁.at (a₁.put ((dQ[i₁]?).bind (·.dst)) (.tuple #[])) (.inRegion dQ dS::k₁)) cs₁))
 {n:Nat} {it:Nat} {aw:Bool} {oN:Array Oper} {aN lN rN:Code} {w:World} (hF:KM 97 Mu ((cfg Mu Wg ty N J ro Anch).Zw k) own W0 w) (yc:oN=jI 26) (yf:aN=kS 27) (yg:lN=LL) (yh:rN=REST):
 tL Tryz.prog (cfg Mu Wg ty N J ro Anch).sys (HX Mu Wg ty N J ro Anch own W0 i k c b₁ a₁ dQ i₁ dS k₁ cs₁) i (.bd k ⟨⟨.t1,0,0,aw,true,0,false⟩,c,n⟩) own (G ((base 128).at ⟨#[.pointer (some ⟨Mu,0,none⟩),j1,.int .i64 0,.bool true,.bool aw,.int .i64 (it:Nat),j6,j7,j8,j9,j10,j11,j12,j13,nJ,nK,l6,l7,l8,l9,mg,nO,nP,nQ,mh,mo,mq,mD,mE,mF,mG,mH,mJ,mK,pQ,pR,pU,pV,pW,pX,pY,p8,p9,qa,qb,qc,qd,qf,qg,qh,qi,qj,ql,qm,qx,qy,qz,qA,qB,qC,qD,qE,qF,qG,qH,qI,qJ,qK,qL,qM,qN,qO,qP,qQ,qR,qU,qV,vM,vN,vO,vg,qW,qX,qY,qZ,rq,ru,ry,rz,rA,rC,sK,rD,rE,rF,rT,rG,rH,rJ,rM,gW,gX,gY,jA,gZ,ic,ig,iq,iy,iA,iB,iC,iD,iE,iF,iG,iH,iI,iJ,iK,iL,iM,iN,iO,iP,iQ,iR,iT,iU,iV,iW,iX,iY,iZ,ja,jc,jd,je,jf],[]⟩ [.inRegion oN [0,1],.code aN,.inBlock 1,.inLoop lN,.inBlock 0,.code rN]) (b₁.at a₁ (.inRegion dQ (i₁::dS)::k₁)::cs₁)) w:=by
 have e0:(i==0)=false:=by simpa using hi
 have hz:((cfg Mu Wg ty N J ro Anch).Zw k).sy Mu:=.inl (.inl rfl);subst yc yf yg yh;simp only [LL,REST,jI,jL,kS,dX,dM,dV,dP,eF,dJ,Tryz.f128,ak,reduceIte,Nat.reduceEqDiff,reduceCtorEq];refine fE hne (by simp) rfl rfl λs hs hm1 hm2 hnb=>?_
 rcases hB:decide (((w.os.mono+w.tick:Nat):Int)≠0) with _|_
 ·refine .inr ⟨by simp,⟨.s1,0,0,aw,true,0,false⟩,s.b.mu,s.b.ms,_,w.later,#[],by simp [lJ],by rw [e0];exact stepG_nanotime rfl rfl (by k_ne) rfl Tryz.func139 wY wZ xe xg xh,by simp,hs,Eff.later _,(λe he=>by simp at he),?_⟩;replace hF:KM 97 Mu ((cfg Mu Wg ty N J ro Anch).Zw k) own W0 w.later:=hF.turn hb hs hs (Eff.later w);clear hs hm1 hm2 hnb;rw [e0];generalize hwl:w.later=wl at hF ⊢;generalize ((w.os.mono+w.tick:Nat):Int)=tv at hB ⊢;clear hwl;refine dH (n:=60) ?_
  walk_nrm
  repeat w_go (dF hz)
  have hws:=hB.symm;refine cz λw₃ h₃=>.stop λw₄ h₄=>.step (GJ hne hi hb hT (dF hz (dF hz hF h₃) h₄) hws ?_ ?_ ?_ ?_)
  all_goals simp only [LL,REST,jI,jL,kS,dX,dM,dV,dP,eF,dJ,Tryz.f128,ak,reduceIte,Nat.reduceEqDiff,reduceCtorEq]
 ·refine .inr ⟨by simp,⟨.s1,0,0,aw,true,0,true⟩,s.b.mu,s.b.ms,_,w.later,#[],by simp [lJ],by rw [e0];exact stepG_nanotime rfl rfl (by k_ne) rfl Tryz.func139 wY wZ xe xg xh,by simp,hs,Eff.later _,(λe he=>by simp at he),?_⟩;replace hF:KM 97 Mu ((cfg Mu Wg ty N J ro Anch).Zw k) own W0 w.later:=hF.turn hb hs hs (Eff.later w);clear hs hm1 hm2 hnb;rw [e0];generalize hwl:w.later=wl at hF ⊢;generalize ((w.os.mono+w.tick:Nat):Int)=tv at hB ⊢;clear hwl;refine dH (n:=60) ?_
  walk_nrm
  repeat w_go (dF hz)
  have hws:=hB.symm;refine cz λw₃ h₃=>.stop λw₄ h₄=>.step (GJ hne hi hb hT (dF hz (dF hz hF h₃) h₄) hws ?_ ?_ ?_ ?_)
  all_goals simp only [LL,REST,jI,jL,kS,dX,dM,dV,dP,eF,dJ,Tryz.f128,ak,reduceIte,Nat.reduceEqDiff,reduceCtorEq]
end
end Go.Proofs.Tryz
