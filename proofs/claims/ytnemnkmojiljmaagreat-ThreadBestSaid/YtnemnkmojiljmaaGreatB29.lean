/- Part 29. -/
import Derived.Test.YtnemnkmojiljmaaGreatB28
set_option maxRecDepth 100000
set_option maxHeartbeats 0
set_option linter.all false
namespace Go.Proofs.Tryz
open Go Go.Conc Go.ConcN Go.ConcM Go.RowKit Go.Conc.Lib Go.ConcR.Gen Par
open Go.ConcR (KK wgBlock WgAt stA smA rd wr mk AtMkS)
section
variable {j1 j7 j8 j9 j10 j11 j12 j13 nJ nK l6 l7 l8 l9 mg nO nP nQ mh mo mq mD mE mF mG mH mJ mK pQ pR pU pV pW pX pY p8 p9 qa qb qc qd qf qg qh qi qj ql qm qx qy qz qA qB qC qD qE qF qG qH qI qJ qK qL qM qN qO qP qQ qR qU qV vM vN vO vg qW qX qY qZ rq ru ry rz rA rC sK rD rE rF rT rG rH rJ rM gW gX gY jA gZ ic ig iq iy iA iB iC iD iE iF iG iH iI iJ iK iL iM iN iO iP iQ iR iT iU iV iW iX iY iZ ja jc jd je jf:Value}
variable {Mu Wg:Nat} {ty:TypeId} {N:Nat->Nat} {J:Nat->Nat->(Nat->Prop)->World->Prop} {ro:Nat->Prop} {Anch:(Nat->Prop)->Goroutine->World->Prop}
variable {own:Nat->Prop} {W0:World} {i k c:Nat} {b₁:Frame} {a₁:Act} {dQ:Array Oper} {i₁:Nat} {dS:List Nat} {k₁:List Item} {cs₁:List Frame}
theorem ad8 (hne:Mu≠Wg) (hi:i≠0) (hb:Beside (cfg Mu Wg ty N J ro Anch) ((cfg Mu Wg ty N J ro Anch).Zw k) own) (hT:kC Mu Wg ty N J ro Anch own W0 i k c (G (b₁.at (a₁.put ((dQ[i₁]?).bind (·.dst)) (.tuple #[])) (.inRegion dQ dS::k₁)) cs₁))
 {n:Nat} {it:Nat} {aw sv ws:Bool} {kz:Int} {oN:Array Oper} {aN lN rN:Code} {w:World} (hF:KM 97 Mu ((cfg Mu Wg ty N J ro Anch).Zw k) own W0 w) (hws:ws=decide (kz≠0)) (yc:oN=jI 22) (yf:aN=jL 22) (yg:lN=LL) (yh:rN=REST):
 Gw Tryz.prog false ((cfg Mu Wg ty N J ro Anch).Zw k) ((HX Mu Wg ty N J ro Anch own W0 i k c b₁ a₁ dQ i₁ dS k₁ cs₁) i (.bd k ⟨⟨if ws then .s1 else .t1,0,0,aw,sv,0,ws⟩,c,n⟩)) own (G ((base 128).at ⟨#[.pointer (some ⟨Mu,0,none⟩),j1,.int .i64 kz,.bool sv,.bool aw,.int .i64 (it:Nat),.int .i32 1,j7,j8,j9,j10,j11,j12,j13,nJ,nK,l6,l7,l8,l9,mg,nO,nP,nQ,mh,mo,mq,mD,mE,mF,mG,mH,mJ,mK,pQ,pR,pU,pV,pW,pX,pY,p8,p9,qa,qb,qc,qd,qf,qg,qh,qi,qj,ql,qm,qx,qy,qz,qA,qB,qC,qD,qE,qF,qG,qH,qI,qJ,qK,qL,qM,qN,qO,qP,qQ,qR,qU,qV,vM,vN,vO,.bool true,qW,qX,qY,qZ,rq,ru,ry,rz,rA,rC,sK,rD,rE,rF,rT,rG,rH,rJ,rM,gW,gX,gY,jA,gZ,ic,ig,iq,iy,iA,iB,iC,iD,iE,iF,iG,iH,iI,iJ,iK,iL,iM,iN,iO,iP,iQ,iR,iT,iU,iV,iW,iX,iY,iZ,ja,jc,jd,je,jf],[]⟩ [.inRegion oN [],.code aN,.inBlock 1,.inLoop lN,.inBlock 0,.code rN]) (b₁.at a₁ (.inRegion dQ (i₁::dS)::k₁)::cs₁)) w:=by
 have e0:(i==0)=false:=by simpa using hi
 have hz:((cfg Mu Wg ty N J ro Anch).Zw k).sy Mu:=.inl (.inl rfl);subst yc yf yg yh;cases ws
 ·have hw0:kz=0:=by simpa using hws
  clear hws;subst hw0;cases sv
  ·simp only [LL,REST,jI,jL,kS,dX,dM,dV,dP,eF,dJ,Tryz.f128,ak,reduceIte,Nat.reduceEqDiff,reduceCtorEq];refine dH (n:=80) ?_
   repeat w_go (dF hz)
   refine cz λw₃ h₃=>.stop λw₄ h₄=>.step (Ob hne hi hb hT (dF hz (dF hz hF h₃) h₄) ?_ ?_ ?_ ?_)
   all_goals simp only [LL,REST,jI,jL,kS,dX,dM,dV,dP,eF,dJ,Tryz.f128,ak,reduceIte,Nat.reduceEqDiff,reduceCtorEq]
  ·simp only [LL,REST,jI,jL,kS,dX,dM,dV,dP,eF,dJ,Tryz.f128,ak,reduceIte,Nat.reduceEqDiff,reduceCtorEq];refine dH (n:=80) ?_
   repeat w_go (dF hz)
   refine cz λw₃ h₃=>.stop λw₄ h₄=>.step (Oc hne hi hb hT (dF hz (dF hz hF h₃) h₄) ?_ ?_ ?_ ?_)
   all_goals simp only [LL,REST,jI,jL,kS,dX,dM,dV,dP,eF,dJ,Tryz.f128,ak,reduceIte,Nat.reduceEqDiff,reduceCtorEq]
 ·have hw0:kz≠0:=by simpa using hws.symm
  have hwt:=hws.symm;clear hws;have q1:(kz==0)=false:=by simpa using hw0
  have q2:(kz !=0)=true:=by simpa using hw0
  cases sv
  ·simp only [LL,REST,jI,jL,kS,dX,dM,dV,dP,eF,dJ,Tryz.f128,ak,reduceIte,Nat.reduceEqDiff,reduceCtorEq];refine dH (n:=80) ?_
   repeat w_go (dF hz)
   try simp only [q1,q2]
   repeat w_go (dF hz)
   have hws:=hwt.symm;refine cz λw₃ h₃=>.stop λw₄ h₄=>.step (GI hne hi hb hT (dF hz (dF hz hF h₃) h₄) hws ?_ ?_ ?_ ?_)
   all_goals simp only [LL,REST,jI,jL,kS,dX,dM,dV,dP,eF,dJ,Tryz.f128,ak,reduceIte,Nat.reduceEqDiff,reduceCtorEq]
  ·simp only [LL,REST,jI,jL,kS,dX,dM,dV,dP,eF,dJ,Tryz.f128,ak,reduceIte,Nat.reduceEqDiff,reduceCtorEq];refine dH (n:=80) ?_
   repeat w_go (dF hz)
   try simp only [q1,q2]
   repeat w_go (dF hz)
   have hws:=hwt.symm;refine cz λw₃ h₃=>.stop λw₄ h₄=>.step (GJ hne hi hb hT (dF hz (dF hz hF h₃) h₄) hws ?_ ?_ ?_ ?_)
   all_goals simp only [LL,REST,jI,jL,kS,dX,dM,dV,dP,eF,dJ,Tryz.f128,ak,reduceIte,Nat.reduceEqDiff,reduceCtorEq]
theorem U8 (hne:Mu≠Wg) (hi:i≠0) (hb:Beside (cfg Mu Wg ty N J ro Anch) ((cfg Mu Wg ty N J ro Anch).Zw k) own) (hT:kC Mu Wg ty N J ro Anch own W0 i k c (G (b₁.at (a₁.put ((dQ[i₁]?).bind (·.dst)) (.tuple #[])) (.inRegion dQ dS::k₁)) cs₁))
 {n:Nat} {it:Nat} {aw sv ws:Bool} {kz:Int} {oN:Array Oper} {aN lN rN:Code} {w:World} (hF:KM 97 Mu ((cfg Mu Wg ty N J ro Anch).Zw k) own W0 w) (hws:ws=decide (kz≠0)) (yc:oN=jI 22) (yf:aN=jL 22) (yg:lN=LL) (yh:rN=REST):
 Gw Tryz.prog false ((cfg Mu Wg ty N J ro Anch).Zw k) ((HX Mu Wg ty N J ro Anch own W0 i k c b₁ a₁ dQ i₁ dS k₁ cs₁) i (.bd k ⟨⟨if ws then .s1 else .t1,0,0,aw,sv,0,ws⟩,c,n⟩)) own (G ((base 128).at ⟨#[.pointer (some ⟨Mu,0,none⟩),j1,.int .i64 kz,.bool sv,.bool aw,.int .i64 (it:Nat),.int .i32 3,j7,j8,j9,j10,j11,j12,j13,nJ,nK,l6,l7,l8,l9,mg,nO,nP,nQ,mh,mo,mq,mD,mE,mF,mG,mH,mJ,mK,pQ,pR,pU,pV,pW,pX,pY,p8,p9,qa,qb,qc,qd,qf,qg,qh,qi,qj,ql,qm,qx,qy,qz,qA,qB,qC,qD,qE,qF,qG,qH,qI,qJ,qK,qL,qM,qN,qO,qP,qQ,qR,qU,qV,vM,vN,vO,.bool true,qW,qX,qY,qZ,rq,ru,ry,rz,rA,rC,sK,rD,rE,rF,rT,rG,rH,rJ,rM,gW,gX,gY,jA,gZ,ic,ig,iq,iy,iA,iB,iC,iD,iE,iF,iG,iH,iI,iJ,iK,iL,iM,iN,iO,iP,iQ,iR,iT,iU,iV,iW,iX,iY,iZ,ja,jc,jd,je,jf],[]⟩ [.inRegion oN [],.code aN,.inBlock 1,.inLoop lN,.inBlock 0,.code rN]) (b₁.at a₁ (.inRegion dQ (i₁::dS)::k₁)::cs₁)) w:=by
 have e0:(i==0)=false:=by simpa using hi
 have hz:((cfg Mu Wg ty N J ro Anch).Zw k).sy Mu:=.inl (.inl rfl);subst yc yf yg yh;cases ws
 ·have hw0:kz=0:=by simpa using hws
  clear hws;subst hw0;cases sv
  ·simp only [LL,REST,jI,jL,kS,dX,dM,dV,dP,eF,dJ,Tryz.f128,ak,reduceIte,Nat.reduceEqDiff,reduceCtorEq];refine dH (n:=80) ?_
   repeat w_go (dF hz)
   refine cz λw₃ h₃=>.stop λw₄ h₄=>.step (Ob hne hi hb hT (dF hz (dF hz hF h₃) h₄) ?_ ?_ ?_ ?_)
   all_goals simp only [LL,REST,jI,jL,kS,dX,dM,dV,dP,eF,dJ,Tryz.f128,ak,reduceIte,Nat.reduceEqDiff,reduceCtorEq]
  ·simp only [LL,REST,jI,jL,kS,dX,dM,dV,dP,eF,dJ,Tryz.f128,ak,reduceIte,Nat.reduceEqDiff,reduceCtorEq];refine dH (n:=80) ?_
   repeat w_go (dF hz)
   refine cz λw₃ h₃=>.stop λw₄ h₄=>.step (Oc hne hi hb hT (dF hz (dF hz hF h₃) h₄) ?_ ?_ ?_ ?_)
   all_goals simp only [LL,REST,jI,jL,kS,dX,dM,dV,dP,eF,dJ,Tryz.f128,ak,reduceIte,Nat.reduceEqDiff,reduceCtorEq]
 ·have hw0:kz≠0:=by simpa using hws.symm
  have hwt:=hws.symm;clear hws;have q1:(kz==0)=false:=by simpa using hw0
  have q2:(kz !=0)=true:=by simpa using hw0
  cases sv
  ·simp only [LL,REST,jI,jL,kS,dX,dM,dV,dP,eF,dJ,Tryz.f128,ak,reduceIte,Nat.reduceEqDiff,reduceCtorEq];refine dH (n:=80) ?_
   repeat w_go (dF hz)
   try simp only [q1,q2]
   repeat w_go (dF hz)
   have hws:=hwt.symm;refine cz λw₃ h₃=>.stop λw₄ h₄=>.step (GI hne hi hb hT (dF hz (dF hz hF h₃) h₄) hws ?_ ?_ ?_ ?_)
   all_goals simp only [LL,REST,jI,jL,kS,dX,dM,dV,dP,eF,dJ,Tryz.f128,ak,reduceIte,Nat.reduceEqDiff,reduceCtorEq]
  ·simp only [LL,REST,jI,jL,kS,dX,dM,dV,dP,eF,dJ,Tryz.f128,ak,reduceIte,Nat.reduceEqDiff,reduceCtorEq];refine dH (n:=80) ?_
   repeat w_go (dF hz)
   try simp only [q1,q2]
   repeat w_go (dF hz)
   have hws:=hwt.symm;refine cz λw₃ h₃=>.stop λw₄ h₄=>.step (GJ hne hi hb hT (dF hz (dF hz hF h₃) h₄) hws ?_ ?_ ?_ ?_)
   all_goals simp only [LL,REST,jI,jL,kS,dX,dM,dV,dP,eF,dJ,Tryz.f128,ak,reduceIte,Nat.reduceEqDiff,reduceCtorEq]
theorem XL (hne:Mu≠Wg) (hi:i≠0) (hb:Beside (cfg Mu Wg ty N J ro Anch) ((cfg Mu Wg ty N J ro Anch).Zw k) own) (hT:kC Mu Wg ty N J ro Anch own W0 i k c (G (b₁.at (a₁.put ((dQ[i₁]?).bind (·.dst)) (.tuple #[])) (.inRegion dQ dS::k₁)) cs₁))
 {n:Nat} {it:Nat} {aw sv ws:Bool} {kz:Int} {oN:Array Oper} {aN lN rN:Code} {w:World} (hF:KM 97 Mu ((cfg Mu Wg ty N J ro Anch).Zw k) own W0 w) (hws:ws=decide (kz≠0)) (yc:oN=jI 22) (yf:aN=jL 22) (yg:lN=LL) (yh:rN=REST):
 Gw Tryz.prog false ((cfg Mu Wg ty N J ro Anch).Zw k) ((HX Mu Wg ty N J ro Anch own W0 i k c b₁ a₁ dQ i₁ dS k₁ cs₁) i (.bd k ⟨⟨if ws then .s1 else .t1,0,0,aw,sv,0,ws⟩,c,n⟩)) own (G ((base 128).at ⟨#[.pointer (some ⟨Mu,0,none⟩),j1,.int .i64 kz,.bool sv,.bool aw,.int .i64 (it:Nat),.int .i32 12,j7,j8,j9,j10,j11,j12,j13,nJ,nK,l6,l7,l8,l9,mg,nO,nP,nQ,mh,mo,mq,mD,mE,mF,mG,mH,mJ,mK,pQ,pR,pU,pV,pW,pX,pY,p8,p9,qa,qb,qc,qd,qf,qg,qh,qi,qj,ql,qm,qx,qy,qz,qA,qB,qC,qD,qE,qF,qG,qH,qI,qJ,qK,qL,qM,qN,qO,qP,qQ,qR,qU,qV,vM,vN,vO,.bool true,qW,qX,qY,qZ,rq,ru,ry,rz,rA,rC,sK,rD,rE,rF,rT,rG,rH,rJ,rM,gW,gX,gY,jA,gZ,ic,ig,iq,iy,iA,iB,iC,iD,iE,iF,iG,iH,iI,iJ,iK,iL,iM,iN,iO,iP,iQ,iR,iT,iU,iV,iW,iX,iY,iZ,ja,jc,jd,je,jf],[]⟩ [.inRegion oN [],.code aN,.inBlock 1,.inLoop lN,.inBlock 0,.code rN]) (b₁.at a₁ (.inRegion dQ (i₁::dS)::k₁)::cs₁)) w:=by
 have e0:(i==0)=false:=by simpa using hi
 have hz:((cfg Mu Wg ty N J ro Anch).Zw k).sy Mu:=.inl (.inl rfl);subst yc yf yg yh;cases ws
 ·have hw0:kz=0:=by simpa using hws
  clear hws;subst hw0;cases sv
  ·simp only [LL,REST,jI,jL,kS,dX,dM,dV,dP,eF,dJ,Tryz.f128,ak,reduceIte,Nat.reduceEqDiff,reduceCtorEq];refine dH (n:=80) ?_
   repeat w_go (dF hz)
   refine cz λw₃ h₃=>.stop λw₄ h₄=>.step (Ob hne hi hb hT (dF hz (dF hz hF h₃) h₄) ?_ ?_ ?_ ?_)
   all_goals simp only [LL,REST,jI,jL,kS,dX,dM,dV,dP,eF,dJ,Tryz.f128,ak,reduceIte,Nat.reduceEqDiff,reduceCtorEq]
  ·simp only [LL,REST,jI,jL,kS,dX,dM,dV,dP,eF,dJ,Tryz.f128,ak,reduceIte,Nat.reduceEqDiff,reduceCtorEq];refine dH (n:=80) ?_
   repeat w_go (dF hz)
   refine cz λw₃ h₃=>.stop λw₄ h₄=>.step (Oc hne hi hb hT (dF hz (dF hz hF h₃) h₄) ?_ ?_ ?_ ?_)
   all_goals simp only [LL,REST,jI,jL,kS,dX,dM,dV,dP,eF,dJ,Tryz.f128,ak,reduceIte,Nat.reduceEqDiff,reduceCtorEq]
 ·have hw0:kz≠0:=by simpa using hws.symm
  have hwt:=hws.symm;clear hws;have q1:(kz==0)=false:=by simpa using hw0
  have q2:(kz !=0)=true:=by simpa using hw0
  cases sv
  ·simp only [LL,REST,jI,jL,kS,dX,dM,dV,dP,eF,dJ,Tryz.f128,ak,reduceIte,Nat.reduceEqDiff,reduceCtorEq];refine dH (n:=80) ?_
   repeat w_go (dF hz)
   try simp only [q1,q2]
   repeat w_go (dF hz)
   have hws:=hwt.symm;refine cz λw₃ h₃=>.stop λw₄ h₄=>.step (GI hne hi hb hT (dF hz (dF hz hF h₃) h₄) hws ?_ ?_ ?_ ?_)
   all_goals simp only [LL,REST,jI,jL,kS,dX,dM,dV,dP,eF,dJ,Tryz.f128,ak,reduceIte,Nat.reduceEqDiff,reduceCtorEq]
  ·simp only [LL,REST,jI,jL,kS,dX,dM,dV,dP,eF,dJ,Tryz.f128,ak,reduceIte,Nat.reduceEqDiff,reduceCtorEq];refine dH (n:=80) ?_
   repeat w_go (dF hz)
   try simp only [q1,q2]
   repeat w_go (dF hz)
   have hws:=hwt.symm;refine cz λw₃ h₃=>.stop λw₄ h₄=>.step (GJ hne hi hb hT (dF hz (dF hz hF h₃) h₄) hws ?_ ?_ ?_ ?_)
   all_goals simp only [LL,REST,jI,jL,kS,dX,dM,dV,dP,eF,dJ,Tryz.f128,ak,reduceIte,Nat.reduceEqDiff,reduceCtorEq]
theorem Rk (hne:Mu≠Wg) (hi:i≠0) (hb:Beside (cfg Mu Wg ty N J ro Anch) ((cfg Mu Wg ty N J ro Anch).Zw k) own) (hT:kC Mu Wg ty N J ro Anch own W0 i k c (G (b₁.at (a₁.put ((dQ[i₁]?).bind (·.dst)) (.tuple #[])) (.inRegion dQ dS::k₁)) cs₁))
 {n:Nat} {it:Nat} {aw sv ws:Bool} {kz:Int} {oN:Array Oper} {aN lN rN:Code} {w:World} (hF:KM 97 Mu ((cfg Mu Wg ty N J ro Anch).Zw k) own W0 w) (hws:ws=decide (kz≠0)) (yc:oN=jI 22) (yf:aN=jL 22) (yg:lN=LL) (yh:rN=REST):
 tL Tryz.prog (cfg Mu Wg ty N J ro Anch).sys (HX Mu Wg ty N J ro Anch own W0 i k c b₁ a₁ dQ i₁ dS k₁ cs₁) i (.bd k ⟨⟨.c2,0,1,aw,sv,it,ws⟩,c,n⟩) own (G ((base 128).at ⟨#[.pointer (some ⟨Mu,0,none⟩),j1,.int .i64 kz,.bool sv,.bool aw,.int .i64 (it:Nat),.int .i32 0,j7,j8,j9,j10,j11,j12,j13,nJ,nK,l6,l7,l8,l9,mg,nO,nP,nQ,mh,mo,mq,mD,mE,mF,mG,mH,mJ,mK,pQ,pR,pU,pV,pW,pX,pY,p8,p9,qa,qb,qc,qd,qf,qg,qh,qi,qj,ql,qm,qx,qy,qz,qA,qB,qC,qD,qE,qF,qG,qH,qI,qJ,qK,qL,qM,qN,qO,qP,qQ,qR,qU,qV,.pointer (some (muA Mu)),.int .i32 0,.int .i32 1,vg,qW,qX,qY,qZ,rq,ru,ry,rz,rA,rC,sK,rD,rE,rF,rT,rG,rH,rJ,rM,gW,gX,gY,jA,gZ,ic,ig,iq,iy,iA,iB,iC,iD,iE,iF,iG,iH,iI,iJ,iK,iL,iM,iN,iO,iP,iQ,iR,iT,iU,iV,iW,iX,iY,iZ,ja,jc,jd,je,jf],[]⟩ [.inRegion oN [5],.code aN,.inBlock 1,.inLoop lN,.inBlock 0,.code rN]) (b₁.at a₁ (.inRegion dQ (i₁::dS)::k₁)::cs₁)) w:=by
 have e0:(i==0)=false:=by simpa using hi
 have hz:((cfg Mu Wg ty N J ro Anch).Zw k).sy Mu:=.inl (.inl rfl);subst yc yf yg yh;simp only [LL,REST,jI,jL,kS,dX,dM,dV,dP,eF,dJ,Tryz.f128,ak,reduceIte,Nat.reduceEqDiff,reduceCtorEq];refine fE hne (by simp) rfl rfl λs hs hm1 hm2 hnb=>?_
 obtain ⟨v,wt,sm,jn,dn,⟨mu,ms,c0,c1,ow⟩⟩:=s;simp only at hs hm1 hm2 hnb ⊢
 by_cases hq:mu=0
 ·subst hq;have hs:MuAt 97 Mu w 0 ms:=hs;refine .inr ⟨by simp,lk .le,1,ms,_,w.setCell (muA Mu) (.int .i32 1),_,by simp [lJ],by rw [e0];exact stepG_cas_hit rfl rfl (by k_ne) rfl Tryz.func127 kG kH kJ .i32 kK rfl rfl rfl hs.cellSt (hs.thaw 0),by simp,hs.setSt 1,Eff.set _ _ (.inl rfl),lX (C:=cfg Mu Wg ty N J ro Anch) (a:=muA Mu) (.inl rfl),?_⟩;replace hF:=hF.turn hb hs (hs.setSt 1) (Eff.set (muA Mu) _ (.inl rfl));generalize w.setCell (muA Mu) (.int .i32 1)=w₂ at hF ⊢;clear hs hm1 hm2 hnb;rw [e0];refine dH (n:=4) ?_
  walk_nrm;refine cz λw₃ h₃=>ao9 (ws:=false) hne hi hb hT (dF hz hF h₃) ?_ ?_ ?_ ?_
  all_goals simp only [LL,REST,jI,jL,kS,dX,dM,dV,dP,eF,dJ,Tryz.f128,ak,reduceIte,Nat.reduceEqDiff,reduceCtorEq]
 ·have hqi:((mu:Nat):Int)≠0:=by omega
  refine .inr ⟨by simp,⟨.r3,0,0,aw,sv,it,ws⟩,mu,ms,_,w,_,by simp [lJ,hq],by rw [e0];exact stepG_cas_miss rfl rfl (by k_ne) rfl Tryz.func127 kG kH kJ .i32 kK rfl rfl rfl hs.cellSt (hs.thaw 0) hqi,by simp,hs,Eff.refl _,wV (C:=cfg Mu Wg ty N J ro Anch) (a:=muA Mu) (.inl rfl),?_⟩;clear hs hm1 hm2 hnb;rw [e0];refine dH (n:=4) ?_
  walk_nrm;refine cz λw₃ h₃=>Bp hne hi hb (dF hz hF h₃) hws ?_ ?_ ?_ ?_
  all_goals simp only [LL,REST,jI,jL,kS,dX,dM,dV,dP,eF,dJ,Tryz.f128,ak,reduceIte,Nat.reduceEqDiff,reduceCtorEq]
theorem Rl (hne:Mu≠Wg) (hi:i≠0) (hb:Beside (cfg Mu Wg ty N J ro Anch) ((cfg Mu Wg ty N J ro Anch).Zw k) own) (hT:kC Mu Wg ty N J ro Anch own W0 i k c (G (b₁.at (a₁.put ((dQ[i₁]?).bind (·.dst)) (.tuple #[])) (.inRegion dQ dS::k₁)) cs₁))
 {n:Nat} {it:Nat} {aw sv ws:Bool} {kz:Int} {oN:Array Oper} {aN lN rN:Code} {w:World} (hF:KM 97 Mu ((cfg Mu Wg ty N J ro Anch).Zw k) own W0 w) (hws:ws=decide (kz≠0)) (yc:oN=jI 22) (yf:aN=jL 22) (yg:lN=LL) (yh:rN=REST):
 tL Tryz.prog (cfg Mu Wg ty N J ro Anch).sys (HX Mu Wg ty N J ro Anch own W0 i k c b₁ a₁ dQ i₁ dS k₁ cs₁) i (.bd k ⟨⟨.c2,2,3,aw,sv,it,ws⟩,c,n⟩) own (G ((base 128).at ⟨#[.pointer (some ⟨Mu,0,none⟩),j1,.int .i64 kz,.bool sv,.bool aw,.int .i64 (it:Nat),.int .i32 2,j7,j8,j9,j10,j11,j12,j13,nJ,nK,l6,l7,l8,l9,mg,nO,nP,nQ,mh,mo,mq,mD,mE,mF,mG,mH,mJ,mK,pQ,pR,pU,pV,pW,pX,pY,p8,p9,qa,qb,qc,qd,qf,qg,qh,qi,qj,ql,qm,qx,qy,qz,qA,qB,qC,qD,qE,qF,qG,qH,qI,qJ,qK,qL,qM,qN,qO,qP,qQ,qR,qU,qV,.pointer (some (muA Mu)),.int .i32 2,.int .i32 3,vg,qW,qX,qY,qZ,rq,ru,ry,rz,rA,rC,sK,rD,rE,rF,rT,rG,rH,rJ,rM,gW,gX,gY,jA,gZ,ic,ig,iq,iy,iA,iB,iC,iD,iE,iF,iG,iH,iI,iJ,iK,iL,iM,iN,iO,iP,iQ,iR,iT,iU,iV,iW,iX,iY,iZ,ja,jc,jd,je,jf],[]⟩ [.inRegion oN [5],.code aN,.inBlock 1,.inLoop lN,.inBlock 0,.code rN]) (b₁.at a₁ (.inRegion dQ (i₁::dS)::k₁)::cs₁)) w:=by
 have e0:(i==0)=false:=by simpa using hi
 have hz:((cfg Mu Wg ty N J ro Anch).Zw k).sy Mu:=.inl (.inl rfl);subst yc yf yg yh;simp only [LL,REST,jI,jL,kS,dX,dM,dV,dP,eF,dJ,Tryz.f128,ak,reduceIte,Nat.reduceEqDiff,reduceCtorEq];refine fE hne (by simp) rfl rfl λs hs hm1 hm2 hnb=>?_
 obtain ⟨v,wt,sm,jn,dn,⟨mu,ms,c0,c1,ow⟩⟩:=s;simp only at hs hm1 hm2 hnb ⊢
 by_cases hq:mu=2
 ·subst hq;have hs:MuAt 97 Mu w 2 ms:=hs;refine .inr ⟨by simp,lk .le,3,ms,_,w.setCell (muA Mu) (.int .i32 3),_,by simp [lJ],by rw [e0];exact stepG_cas_hit rfl rfl (by k_ne) rfl Tryz.func127 kG kH kJ .i32 kK rfl rfl rfl hs.cellSt (hs.thaw 0),by simp,hs.setSt 3,Eff.set _ _ (.inl rfl),lX (C:=cfg Mu Wg ty N J ro Anch) (a:=muA Mu) (.inl rfl),?_⟩;replace hF:=hF.turn hb hs (hs.setSt 3) (Eff.set (muA Mu) _ (.inl rfl));generalize w.setCell (muA Mu) (.int .i32 3)=w₂ at hF ⊢;clear hs hm1 hm2 hnb;rw [e0];refine dH (n:=4) ?_
  walk_nrm;refine cz λw₃ h₃=>take2 (ws:=false) hne hi hb hT (dF hz hF h₃) ?_ ?_ ?_ ?_
  all_goals simp only [LL,REST,jI,jL,kS,dX,dM,dV,dP,eF,dJ,Tryz.f128,ak,reduceIte,Nat.reduceEqDiff,reduceCtorEq]
 ·have hqi:((mu:Nat):Int)≠2:=by omega
  refine .inr ⟨by simp,⟨.r3,0,0,aw,sv,it,ws⟩,mu,ms,_,w,_,by simp [lJ,hq],by rw [e0];exact stepG_cas_miss rfl rfl (by k_ne) rfl Tryz.func127 kG kH kJ .i32 kK rfl rfl rfl hs.cellSt (hs.thaw 0) hqi,by simp,hs,Eff.refl _,wV (C:=cfg Mu Wg ty N J ro Anch) (a:=muA Mu) (.inl rfl),?_⟩;clear hs hm1 hm2 hnb;rw [e0];refine dH (n:=4) ?_
  walk_nrm;refine cz λw₃ h₃=>Bp hne hi hb (dF hz hF h₃) hws ?_ ?_ ?_ ?_
  all_goals simp only [LL,REST,jI,jL,kS,dX,dM,dV,dP,eF,dJ,Tryz.f128,ak,reduceIte,Nat.reduceEqDiff,reduceCtorEq]
theorem Ji (hne:Mu≠Wg) (hi:i≠0) (hb:Beside (cfg Mu Wg ty N J ro Anch) ((cfg Mu Wg ty N J ro Anch).Zw k) own) (hT:kC Mu Wg ty N J ro Anch own W0 i k c (G (b₁.at (a₁.put ((dQ[i₁]?).bind (·.dst)) (.tuple #[])) (.inRegion dQ dS::k₁)) cs₁))
 {n:Nat} {it:Nat} {aw sv ws:Bool} {kz:Int} {oN:Array Oper} {aN lN rN:Code} {w:World} (hF:KM 97 Mu ((cfg Mu Wg ty N J ro Anch).Zw k) own W0 w) (hws:ws=decide (kz≠0)) (yc:oN=jI 22) (yf:aN=jL 22) (yg:lN=LL) (yh:rN=REST):
 tL Tryz.prog (cfg Mu Wg ty N J ro Anch).sys (HX Mu Wg ty N J ro Anch own W0 i k c b₁ a₁ dQ i₁ dS k₁ cs₁) i (.bd k ⟨⟨.c2,2,1,aw,sv,it,ws⟩,c,n⟩) own (G ((base 128).at ⟨#[.pointer (some ⟨Mu,0,none⟩),j1,.int .i64 kz,.bool sv,.bool aw,.int .i64 (it:Nat),.int .i32 2,j7,j8,j9,j10,j11,j12,j13,nJ,nK,l6,l7,l8,l9,mg,nO,nP,nQ,mh,mo,mq,mD,mE,mF,mG,mH,mJ,mK,pQ,pR,pU,pV,pW,pX,pY,p8,p9,qa,qb,qc,qd,qf,qg,qh,qi,qj,ql,qm,qx,qy,qz,qA,qB,qC,qD,qE,qF,qG,qH,qI,qJ,qK,qL,qM,qN,qO,qP,qQ,qR,qU,qV,.pointer (some (muA Mu)),.int .i32 2,.int .i32 1,vg,qW,qX,qY,qZ,rq,ru,ry,rz,rA,rC,sK,rD,rE,rF,rT,rG,rH,rJ,rM,gW,gX,gY,jA,gZ,ic,ig,iq,iy,iA,iB,iC,iD,iE,iF,iG,iH,iI,iJ,iK,iL,iM,iN,iO,iP,iQ,iR,iT,iU,iV,iW,iX,iY,iZ,ja,jc,jd,je,jf],[]⟩ [.inRegion oN [5],.code aN,.inBlock 1,.inLoop lN,.inBlock 0,.code rN]) (b₁.at a₁ (.inRegion dQ (i₁::dS)::k₁)::cs₁)) w:=by
 have e0:(i==0)=false:=by simpa using hi
 have hz:((cfg Mu Wg ty N J ro Anch).Zw k).sy Mu:=.inl (.inl rfl);subst yc yf yg yh;simp only [LL,REST,jI,jL,kS,dX,dM,dV,dP,eF,dJ,Tryz.f128,ak,reduceIte,Nat.reduceEqDiff,reduceCtorEq];refine fE hne (by simp) rfl rfl λs hs hm1 hm2 hnb=>?_
 obtain ⟨v,wt,sm,jn,dn,⟨mu,ms,c0,c1,ow⟩⟩:=s;simp only at hs hm1 hm2 hnb ⊢
 by_cases hq:mu=2
 ·subst hq;have hs:MuAt 97 Mu w 2 ms:=hs;refine .inr ⟨by simp,lk .le,1,ms,_,w.setCell (muA Mu) (.int .i32 1),_,by simp [lJ],by rw [e0];exact stepG_cas_hit rfl rfl (by k_ne) rfl Tryz.func127 kG kH kJ .i32 kK rfl rfl rfl hs.cellSt (hs.thaw 0),by simp,hs.setSt 1,Eff.set _ _ (.inl rfl),lX (C:=cfg Mu Wg ty N J ro Anch) (a:=muA Mu) (.inl rfl),?_⟩;replace hF:=hF.turn hb hs (hs.setSt 1) (Eff.set (muA Mu) _ (.inl rfl));generalize w.setCell (muA Mu) (.int .i32 1)=w₂ at hF ⊢;clear hs hm1 hm2 hnb;rw [e0];refine dH (n:=4) ?_
  walk_nrm;refine cz λw₃ h₃=>take2 (ws:=false) hne hi hb hT (dF hz hF h₃) ?_ ?_ ?_ ?_
  all_goals simp only [LL,REST,jI,jL,kS,dX,dM,dV,dP,eF,dJ,Tryz.f128,ak,reduceIte,Nat.reduceEqDiff,reduceCtorEq]
 ·have hqi:((mu:Nat):Int)≠2:=by omega
  refine .inr ⟨by simp,⟨.r3,0,0,aw,sv,it,ws⟩,mu,ms,_,w,_,by simp [lJ,hq],by rw [e0];exact stepG_cas_miss rfl rfl (by k_ne) rfl Tryz.func127 kG kH kJ .i32 kK rfl rfl rfl hs.cellSt (hs.thaw 0) hqi,by simp,hs,Eff.refl _,wV (C:=cfg Mu Wg ty N J ro Anch) (a:=muA Mu) (.inl rfl),?_⟩;clear hs hm1 hm2 hnb;rw [e0];refine dH (n:=4) ?_
  walk_nrm;refine cz λw₃ h₃=>Bp hne hi hb (dF hz hF h₃) hws ?_ ?_ ?_ ?_
  all_goals simp only [LL,REST,jI,jL,kS,dX,dM,dV,dP,eF,dJ,Tryz.f128,ak,reduceIte,Nat.reduceEqDiff,reduceCtorEq]
theorem Jj (hne:Mu≠Wg) (hi:i≠0) (hb:Beside (cfg Mu Wg ty N J ro Anch) ((cfg Mu Wg ty N J ro Anch).Zw k) own) (hT:kC Mu Wg ty N J ro Anch own W0 i k c (G (b₁.at (a₁.put ((dQ[i₁]?).bind (·.dst)) (.tuple #[])) (.inRegion dQ dS::k₁)) cs₁))
 {n:Nat} {it:Nat} {aw sv ws:Bool} {kz:Int} {oN:Array Oper} {aN lN rN:Code} {w:World} (hF:KM 97 Mu ((cfg Mu Wg ty N J ro Anch).Zw k) own W0 w) (hws:ws=decide (kz≠0)) (yc:oN=jI 22) (yf:aN=jL 22) (yg:lN=LL) (yh:rN=REST):
 tL Tryz.prog (cfg Mu Wg ty N J ro Anch).sys (HX Mu Wg ty N J ro Anch own W0 i k c b₁ a₁ dQ i₁ dS k₁ cs₁) i (.bd k ⟨⟨.c2,1,9,aw,sv,it,ws⟩,c,n⟩) own (G ((base 128).at ⟨#[.pointer (some ⟨Mu,0,none⟩),j1,.int .i64 kz,.bool sv,.bool aw,.int .i64 (it:Nat),.int .i32 1,j7,j8,j9,j10,j11,j12,j13,nJ,nK,l6,l7,l8,l9,mg,nO,nP,nQ,mh,mo,mq,mD,mE,mF,mG,mH,mJ,mK,pQ,pR,pU,pV,pW,pX,pY,p8,p9,qa,qb,qc,qd,qf,qg,qh,qi,qj,ql,qm,qx,qy,qz,qA,qB,qC,qD,qE,qF,qG,qH,qI,qJ,qK,qL,qM,qN,qO,qP,qQ,qR,qU,qV,.pointer (some (muA Mu)),.int .i32 1,.int .i32 9,vg,qW,qX,qY,qZ,rq,ru,ry,rz,rA,rC,sK,rD,rE,rF,rT,rG,rH,rJ,rM,gW,gX,gY,jA,gZ,ic,ig,iq,iy,iA,iB,iC,iD,iE,iF,iG,iH,iI,iJ,iK,iL,iM,iN,iO,iP,iQ,iR,iT,iU,iV,iW,iX,iY,iZ,ja,jc,jd,je,jf],[]⟩ [.inRegion oN [5],.code aN,.inBlock 1,.inLoop lN,.inBlock 0,.code rN]) (b₁.at a₁ (.inRegion dQ (i₁::dS)::k₁)::cs₁)) w:=by
 have e0:(i==0)=false:=by simpa using hi
 have hz:((cfg Mu Wg ty N J ro Anch).Zw k).sy Mu:=.inl (.inl rfl);subst yc yf yg yh;simp only [LL,REST,jI,jL,kS,dX,dM,dV,dP,eF,dJ,Tryz.f128,ak,reduceIte,Nat.reduceEqDiff,reduceCtorEq];refine fE hne (by simp) rfl rfl λs hs hm1 hm2 hnb=>?_
 obtain ⟨v,wt,sm,jn,dn,⟨mu,ms,c0,c1,ow⟩⟩:=s;simp only at hs hm1 hm2 hnb ⊢
 by_cases hq:mu=1
 ·subst hq;have hs:MuAt 97 Mu w 1 ms:=hs;refine .inr ⟨by simp,⟨if ws then .s1 else .t1,0,0,aw,sv,0,ws⟩,9,ms,_,w.setCell (muA Mu) (.int .i32 9),_,by simp [lJ],by rw [e0];exact stepG_cas_hit rfl rfl (by k_ne) rfl Tryz.func127 kG kH kJ .i32 kK rfl rfl rfl hs.cellSt (hs.thaw 0),by simp,hs.setSt 9,Eff.set _ _ (.inl rfl),lX (C:=cfg Mu Wg ty N J ro Anch) (a:=muA Mu) (.inl rfl),?_⟩;replace hF:=hF.turn hb hs (hs.setSt 9) (Eff.set (muA Mu) _ (.inl rfl));generalize w.setCell (muA Mu) (.int .i32 9)=w₂ at hF ⊢;clear hs hm1 hm2 hnb;rw [e0];refine dH (n:=4) ?_
  walk_nrm;refine cz λw₃ h₃=>ad8 hne hi hb hT (dF hz hF h₃) hws ?_ ?_ ?_ ?_
  all_goals simp only [LL,REST,jI,jL,kS,dX,dM,dV,dP,eF,dJ,Tryz.f128,ak,reduceIte,Nat.reduceEqDiff,reduceCtorEq]
 ·have hqi:((mu:Nat):Int)≠1:=by omega
  refine .inr ⟨by simp,⟨.r3,0,0,aw,sv,it,ws⟩,mu,ms,_,w,_,by simp [lJ,hq],by rw [e0];exact stepG_cas_miss rfl rfl (by k_ne) rfl Tryz.func127 kG kH kJ .i32 kK rfl rfl rfl hs.cellSt (hs.thaw 0) hqi,by simp,hs,Eff.refl _,wV (C:=cfg Mu Wg ty N J ro Anch) (a:=muA Mu) (.inl rfl),?_⟩;clear hs hm1 hm2 hnb;rw [e0];refine dH (n:=4) ?_
  walk_nrm;refine cz λw₃ h₃=>Bp hne hi hb (dF hz hF h₃) hws ?_ ?_ ?_ ?_
  all_goals simp only [LL,REST,jI,jL,kS,dX,dM,dV,dP,eF,dJ,Tryz.f128,ak,reduceIte,Nat.reduceEqDiff,reduceCtorEq]
theorem Jl (hne:Mu≠Wg) (hi:i≠0) (hb:Beside (cfg Mu Wg ty N J ro Anch) ((cfg Mu Wg ty N J ro Anch).Zw k) own) (hT:kC Mu Wg ty N J ro Anch own W0 i k c (G (b₁.at (a₁.put ((dQ[i₁]?).bind (·.dst)) (.tuple #[])) (.inRegion dQ dS::k₁)) cs₁))
 {n:Nat} {it:Nat} {aw sv ws:Bool} {kz:Int} {oN:Array Oper} {aN lN rN:Code} {w:World} (hF:KM 97 Mu ((cfg Mu Wg ty N J ro Anch).Zw k) own W0 w) (hws:ws=decide (kz≠0)) (yc:oN=jI 22) (yf:aN=jL 22) (yg:lN=LL) (yh:rN=REST):
 tL Tryz.prog (cfg Mu Wg ty N J ro Anch).sys (HX Mu Wg ty N J ro Anch own W0 i k c b₁ a₁ dQ i₁ dS k₁ cs₁) i (.bd k ⟨⟨.c2,3,9,aw,sv,it,ws⟩,c,n⟩) own (G ((base 128).at ⟨#[.pointer (some ⟨Mu,0,none⟩),j1,.int .i64 kz,.bool sv,.bool aw,.int .i64 (it:Nat),.int .i32 3,j7,j8,j9,j10,j11,j12,j13,nJ,nK,l6,l7,l8,l9,mg,nO,nP,nQ,mh,mo,mq,mD,mE,mF,mG,mH,mJ,mK,pQ,pR,pU,pV,pW,pX,pY,p8,p9,qa,qb,qc,qd,qf,qg,qh,qi,qj,ql,qm,qx,qy,qz,qA,qB,qC,qD,qE,qF,qG,qH,qI,qJ,qK,qL,qM,qN,qO,qP,qQ,qR,qU,qV,.pointer (some (muA Mu)),.int .i32 3,.int .i32 9,vg,qW,qX,qY,qZ,rq,ru,ry,rz,rA,rC,sK,rD,rE,rF,rT,rG,rH,rJ,rM,gW,gX,gY,jA,gZ,ic,ig,iq,iy,iA,iB,iC,iD,iE,iF,iG,iH,iI,iJ,iK,iL,iM,iN,iO,iP,iQ,iR,iT,iU,iV,iW,iX,iY,iZ,ja,jc,jd,je,jf],[]⟩ [.inRegion oN [5],.code aN,.inBlock 1,.inLoop lN,.inBlock 0,.code rN]) (b₁.at a₁ (.inRegion dQ (i₁::dS)::k₁)::cs₁)) w:=by
 have e0:(i==0)=false:=by simpa using hi
 have hz:((cfg Mu Wg ty N J ro Anch).Zw k).sy Mu:=.inl (.inl rfl);subst yc yf yg yh;simp only [LL,REST,jI,jL,kS,dX,dM,dV,dP,eF,dJ,Tryz.f128,ak,reduceIte,Nat.reduceEqDiff,reduceCtorEq];refine fE hne (by simp) rfl rfl λs hs hm1 hm2 hnb=>?_
 obtain ⟨v,wt,sm,jn,dn,⟨mu,ms,c0,c1,ow⟩⟩:=s;simp only at hs hm1 hm2 hnb ⊢
 by_cases hq:mu=3
 ·subst hq;have hs:MuAt 97 Mu w 3 ms:=hs;refine .inr ⟨by simp,⟨if ws then .s1 else .t1,0,0,aw,sv,0,ws⟩,9,ms,_,w.setCell (muA Mu) (.int .i32 9),_,by simp [lJ],by rw [e0];exact stepG_cas_hit rfl rfl (by k_ne) rfl Tryz.func127 kG kH kJ .i32 kK rfl rfl rfl hs.cellSt (hs.thaw 0),by simp,hs.setSt 9,Eff.set _ _ (.inl rfl),lX (C:=cfg Mu Wg ty N J ro Anch) (a:=muA Mu) (.inl rfl),?_⟩;replace hF:=hF.turn hb hs (hs.setSt 9) (Eff.set (muA Mu) _ (.inl rfl));generalize w.setCell (muA Mu) (.int .i32 9)=w₂ at hF ⊢;clear hs hm1 hm2 hnb;rw [e0];refine dH (n:=4) ?_
  walk_nrm;refine cz λw₃ h₃=>U8 hne hi hb hT (dF hz hF h₃) hws ?_ ?_ ?_ ?_
  all_goals simp only [LL,REST,jI,jL,kS,dX,dM,dV,dP,eF,dJ,Tryz.f128,ak,reduceIte,Nat.reduceEqDiff,reduceCtorEq]
 ·have hqi:((mu:Nat):Int)≠3:=by omega
  refine .inr ⟨by simp,⟨.r3,0,0,aw,sv,it,ws⟩,mu,ms,_,w,_,by simp [lJ,hq],by rw [e0];exact stepG_cas_miss rfl rfl (by k_ne) rfl Tryz.func127 kG kH kJ .i32 kK rfl rfl rfl hs.cellSt (hs.thaw 0) hqi,by simp,hs,Eff.refl _,wV (C:=cfg Mu Wg ty N J ro Anch) (a:=muA Mu) (.inl rfl),?_⟩;clear hs hm1 hm2 hnb;rw [e0];refine dH (n:=4) ?_
  walk_nrm;refine cz λw₃ h₃=>Bp hne hi hb (dF hz hF h₃) hws ?_ ?_ ?_ ?_
  all_goals simp only [LL,REST,jI,jL,kS,dX,dM,dV,dP,eF,dJ,Tryz.f128,ak,reduceIte,Nat.reduceEqDiff,reduceCtorEq]
theorem GK (hne:Mu≠Wg) (hi:i≠0) (hb:Beside (cfg Mu Wg ty N J ro Anch) ((cfg Mu Wg ty N J ro Anch).Zw k) own) (hT:kC Mu Wg ty N J ro Anch own W0 i k c (G (b₁.at (a₁.put ((dQ[i₁]?).bind (·.dst)) (.tuple #[])) (.inRegion dQ dS::k₁)) cs₁))
 {n:Nat} {it:Nat} {aw sv ws:Bool} {kz:Int} {oN:Array Oper} {aN lN rN:Code} {w:World} (hF:KM 97 Mu ((cfg Mu Wg ty N J ro Anch).Zw k) own W0 w) (hws:ws=decide (kz≠0)) (yc:oN=jI 22) (yf:aN=jL 22) (yg:lN=LL) (yh:rN=REST):
 tL Tryz.prog (cfg Mu Wg ty N J ro Anch).sys (HX Mu Wg ty N J ro Anch own W0 i k c b₁ a₁ dQ i₁ dS k₁ cs₁) i (.bd k ⟨⟨.c2,3,13,aw,sv,it,ws⟩,c,n⟩) own (G ((base 128).at ⟨#[.pointer (some ⟨Mu,0,none⟩),j1,.int .i64 kz,.bool sv,.bool aw,.int .i64 (it:Nat),.int .i32 3,j7,j8,j9,j10,j11,j12,j13,nJ,nK,l6,l7,l8,l9,mg,nO,nP,nQ,mh,mo,mq,mD,mE,mF,mG,mH,mJ,mK,pQ,pR,pU,pV,pW,pX,pY,p8,p9,qa,qb,qc,qd,qf,qg,qh,qi,qj,ql,qm,qx,qy,qz,qA,qB,qC,qD,qE,qF,qG,qH,qI,qJ,qK,qL,qM,qN,qO,qP,qQ,qR,qU,qV,.pointer (some (muA Mu)),.int .i32 3,.int .i32 13,vg,qW,qX,qY,qZ,rq,ru,ry,rz,rA,rC,sK,rD,rE,rF,rT,rG,rH,rJ,rM,gW,gX,gY,jA,gZ,ic,ig,iq,iy,iA,iB,iC,iD,iE,iF,iG,iH,iI,iJ,iK,iL,iM,iN,iO,iP,iQ,iR,iT,iU,iV,iW,iX,iY,iZ,ja,jc,jd,je,jf],[]⟩ [.inRegion oN [5],.code aN,.inBlock 1,.inLoop lN,.inBlock 0,.code rN]) (b₁.at a₁ (.inRegion dQ (i₁::dS)::k₁)::cs₁)) w:=by
 have e0:(i==0)=false:=by simpa using hi
 have hz:((cfg Mu Wg ty N J ro Anch).Zw k).sy Mu:=.inl (.inl rfl);subst yc yf yg yh;simp only [LL,REST,jI,jL,kS,dX,dM,dV,dP,eF,dJ,Tryz.f128,ak,reduceIte,Nat.reduceEqDiff,reduceCtorEq];refine fE hne (by simp) rfl rfl λs hs hm1 hm2 hnb=>?_
 obtain ⟨v,wt,sm,jn,dn,⟨mu,ms,c0,c1,ow⟩⟩:=s;simp only at hs hm1 hm2 hnb ⊢
 by_cases hq:mu=3
 ·subst hq;have hs:MuAt 97 Mu w 3 ms:=hs;refine .inr ⟨by simp,⟨if ws then .s1 else .t1,0,0,aw,sv,0,ws⟩,13,ms,_,w.setCell (muA Mu) (.int .i32 13),_,by simp [lJ],by rw [e0];exact stepG_cas_hit rfl rfl (by k_ne) rfl Tryz.func127 kG kH kJ .i32 kK rfl rfl rfl hs.cellSt (hs.thaw 0),by simp,hs.setSt 13,Eff.set _ _ (.inl rfl),lX (C:=cfg Mu Wg ty N J ro Anch) (a:=muA Mu) (.inl rfl),?_⟩;replace hF:=hF.turn hb hs (hs.setSt 13) (Eff.set (muA Mu) _ (.inl rfl));generalize w.setCell (muA Mu) (.int .i32 13)=w₂ at hF ⊢;clear hs hm1 hm2 hnb;rw [e0];refine dH (n:=4) ?_
  walk_nrm;refine cz λw₃ h₃=>U8 hne hi hb hT (dF hz hF h₃) hws ?_ ?_ ?_ ?_
  all_goals simp only [LL,REST,jI,jL,kS,dX,dM,dV,dP,eF,dJ,Tryz.f128,ak,reduceIte,Nat.reduceEqDiff,reduceCtorEq]
 ·have hqi:((mu:Nat):Int)≠3:=by omega
  refine .inr ⟨by simp,⟨.r3,0,0,aw,sv,it,ws⟩,mu,ms,_,w,_,by simp [lJ,hq],by rw [e0];exact stepG_cas_miss rfl rfl (by k_ne) rfl Tryz.func127 kG kH kJ .i32 kK rfl rfl rfl hs.cellSt (hs.thaw 0) hqi,by simp,hs,Eff.refl _,wV (C:=cfg Mu Wg ty N J ro Anch) (a:=muA Mu) (.inl rfl),?_⟩;clear hs hm1 hm2 hnb;rw [e0];refine dH (n:=4) ?_
  walk_nrm;refine cz λw₃ h₃=>Bp hne hi hb (dF hz hF h₃) hws ?_ ?_ ?_ ?_
  all_goals simp only [LL,REST,jI,jL,kS,dX,dM,dV,dP,eF,dJ,Tryz.f128,ak,reduceIte,Nat.reduceEqDiff,reduceCtorEq]
theorem Mi (hne:Mu≠Wg) (hi:i≠0) (hb:Beside (cfg Mu Wg ty N J ro Anch) ((cfg Mu Wg ty N J ro Anch).Zw k) own) (hT:kC Mu Wg ty N J ro Anch own W0 i k c (G (b₁.at (a₁.put ((dQ[i₁]?).bind (·.dst)) (.tuple #[])) (.inRegion dQ dS::k₁)) cs₁))
 {n:Nat} {it:Nat} {aw sv ws:Bool} {kz:Int} {oN:Array Oper} {aN lN rN:Code} {w:World} (hF:KM 97 Mu ((cfg Mu Wg ty N J ro Anch).Zw k) own W0 w) (hws:ws=decide (kz≠0)) (yc:oN=jI 22) (yf:aN=jL 22) (yg:lN=LL) (yh:rN=REST):
 tL Tryz.prog (cfg Mu Wg ty N J ro Anch).sys (HX Mu Wg ty N J ro Anch own W0 i k c b₁ a₁ dQ i₁ dS k₁ cs₁) i (.bd k ⟨⟨.c2,12,20,aw,sv,it,ws⟩,c,n⟩) own (G ((base 128).at ⟨#[.pointer (some ⟨Mu,0,none⟩),j1,.int .i64 kz,.bool sv,.bool aw,.int .i64 (it:Nat),.int .i32 12,j7,j8,j9,j10,j11,j12,j13,nJ,nK,l6,l7,l8,l9,mg,nO,nP,nQ,mh,mo,mq,mD,mE,mF,mG,mH,mJ,mK,pQ,pR,pU,pV,pW,pX,pY,p8,p9,qa,qb,qc,qd,qf,qg,qh,qi,qj,ql,qm,qx,qy,qz,qA,qB,qC,qD,qE,qF,qG,qH,qI,qJ,qK,qL,qM,qN,qO,qP,qQ,qR,qU,qV,.pointer (some (muA Mu)),.int .i32 12,.int .i32 20,vg,qW,qX,qY,qZ,rq,ru,ry,rz,rA,rC,sK,rD,rE,rF,rT,rG,rH,rJ,rM,gW,gX,gY,jA,gZ,ic,ig,iq,iy,iA,iB,iC,iD,iE,iF,iG,iH,iI,iJ,iK,iL,iM,iN,iO,iP,iQ,iR,iT,iU,iV,iW,iX,iY,iZ,ja,jc,jd,je,jf],[]⟩ [.inRegion oN [5],.code aN,.inBlock 1,.inLoop lN,.inBlock 0,.code rN]) (b₁.at a₁ (.inRegion dQ (i₁::dS)::k₁)::cs₁)) w:=by
 have e0:(i==0)=false:=by simpa using hi
 have hz:((cfg Mu Wg ty N J ro Anch).Zw k).sy Mu:=.inl (.inl rfl);subst yc yf yg yh;simp only [LL,REST,jI,jL,kS,dX,dM,dV,dP,eF,dJ,Tryz.f128,ak,reduceIte,Nat.reduceEqDiff,reduceCtorEq];refine fE hne (by simp) rfl rfl λs hs hm1 hm2 hnb=>?_
 obtain ⟨v,wt,sm,jn,dn,⟨mu,ms,c0,c1,ow⟩⟩:=s;simp only at hs hm1 hm2 hnb ⊢
 by_cases hq:mu=12
 ·subst hq;have hs:MuAt 97 Mu w 12 ms:=hs;refine .inr ⟨by simp,⟨if ws then .s1 else .t1,0,0,aw,sv,0,ws⟩,20,ms,_,w.setCell (muA Mu) (.int .i32 20),_,by simp [lJ],by rw [e0];exact stepG_cas_hit rfl rfl (by k_ne) rfl Tryz.func127 kG kH kJ .i32 kK rfl rfl rfl hs.cellSt (hs.thaw 0),by simp,hs.setSt 20,Eff.set _ _ (.inl rfl),lX (C:=cfg Mu Wg ty N J ro Anch) (a:=muA Mu) (.inl rfl),?_⟩;replace hF:=hF.turn hb hs (hs.setSt 20) (Eff.set (muA Mu) _ (.inl rfl));generalize w.setCell (muA Mu) (.int .i32 20)=w₂ at hF ⊢;clear hs hm1 hm2 hnb;rw [e0];refine dH (n:=4) ?_
  walk_nrm;refine cz λw₃ h₃=>XL hne hi hb hT (dF hz hF h₃) hws ?_ ?_ ?_ ?_
  all_goals simp only [LL,REST,jI,jL,kS,dX,dM,dV,dP,eF,dJ,Tryz.f128,ak,reduceIte,Nat.reduceEqDiff,reduceCtorEq]
 ·have hqi:((mu:Nat):Int)≠12:=by omega
  refine .inr ⟨by simp,⟨.r3,0,0,aw,sv,it,ws⟩,mu,ms,_,w,_,by simp [lJ,hq],by rw [e0];exact stepG_cas_miss rfl rfl (by k_ne) rfl Tryz.func127 kG kH kJ .i32 kK rfl rfl rfl hs.cellSt (hs.thaw 0) hqi,by simp,hs,Eff.refl _,wV (C:=cfg Mu Wg ty N J ro Anch) (a:=muA Mu) (.inl rfl),?_⟩;clear hs hm1 hm2 hnb;rw [e0];refine dH (n:=4) ?_
  walk_nrm;refine cz λw₃ h₃=>Bp hne hi hb (dF hz hF h₃) hws ?_ ?_ ?_ ?_
  all_goals simp only [LL,REST,jI,jL,kS,dX,dM,dV,dP,eF,dJ,Tryz.f128,ak,reduceIte,Nat.reduceEqDiff,reduceCtorEq]
end
end Go.Proofs.Tryz
