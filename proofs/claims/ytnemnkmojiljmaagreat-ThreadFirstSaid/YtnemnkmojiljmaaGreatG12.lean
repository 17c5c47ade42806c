/- Part 12. -/
import Derived.Test.YtnemnkmojiljmaaGreatG11
set_option maxRecDepth 100000
set_option maxHeartbeats 0
set_option linter.all false
namespace Go.Proofs.Tryz
open Go Go.Conc Go.ConcN Go.ConcM Go.RowKit Go.Conc.Lib Go.ConcR.Gen Par
open Go.ConcR (KK wgBlock WgAt stA smA rd wr mk AtMkS)
section
variable {j1 j7 j8 j9 j10 j11 j12 j13 nV nW mE mF mG mH mJ nZ oh oo mK mM mO mP mQ mR mU mV mW mX qh qi qj ql qm qo qx qy qz qA qB qC qD qE qF qG qH qI qJ qK qL qM qN qO qP qQ qR qU qV qW qX qY qZ rq ru ry rz rA rC rD rE rF rG wo wu wz vN rH rJ rM rO rP rQ rR rT rU rV tJ rW rX rY sD rZ r9 si sj iB iC iD jH iE iF iG iH iI iJ iK iL iM iN iO iP iQ iR iT iU iV iW iX iY iZ ja jc jd je jf jg jh ji jk jl jm jo jq jr:Value}
variable {Mu Wg:Nat} {ty:TypeId} {N:Nat->Nat} {J:Nat->Nat->(Nat->Prop)->World->Prop} {ro:Nat->Prop} {Anch:(Nat->Prop)->Goroutine->World->Prop}
variable {own:Nat->Prop} {W0:World} {i k c:Nat} {b₁:Frame} {a₁:Act} {dO:Array Oper} {i₁:Nat} {dQ:List Nat} {k₁:List Item} {cs₁:List Frame}
theorem af3 (hne:Mu≠Wg) (hi:i≠0) (hb:Beside (cfg Mu Wg ty N J ro Anch) ((cfg Mu Wg ty N J ro Anch).Zw k) own) (hT:kH Mu Wg ty N J ro Anch own W0 i k c (G (b₁.at (a₁.put ((dO[i₁]?).bind (·.dst)) (.tuple #[])) (.inRegion dO dQ::k₁)) cs₁))
 {n:Nat} {it:Nat} {aw sv ws:Bool} {kG:Int} {oN:Array Oper} {aN lN rN:Code} {w:World} (hF:KM 97 Mu ((cfg Mu Wg ty N J ro Anch).Zw k) own W0 w) (hws:ws=decide (kG≠0)) (yE:oN=jQ 22) (yF:aN=jU 22) (yG:lN=LL) (yH:rN=REST):
 Gw Tryz.prog false ((cfg Mu Wg ty N J ro Anch).Zw k) ((HX Mu Wg ty N J ro Anch own W0 i k c b₁ a₁ dO i₁ dQ k₁ cs₁) i (.bd k ⟨⟨if ws then .s1 else .t1,0,0,aw,sv,0,ws⟩,c,n⟩)) own (G ((base 128).at ⟨#[.pointer (some ⟨Mu,0,none⟩),j1,.int .i64 kG,.bool sv,.bool aw,.int .i64 (it:Nat),.int .i32 1,j7,j8,j9,j10,j11,j12,j13,nV,nW,mE,mF,mG,mH,mJ,nZ,oh,oo,mK,mM,mO,mP,mQ,mR,mU,mV,mW,mX,qh,qi,qj,ql,qm,qo,qx,qy,qz,qA,qB,qC,qD,qE,qF,qG,qH,qI,qJ,qK,qL,qM,qN,qO,qP,qQ,qR,qU,qV,qW,qX,qY,qZ,rq,ru,ry,rz,rA,rC,rD,rE,rF,rG,wo,wu,wz,.bool true,rH,rJ,rM,rO,rP,rQ,rR,rT,rU,rV,tJ,rW,rX,rY,sD,rZ,r9,si,sj,iB,iC,iD,jH,iE,iF,iG,iH,iI,iJ,iK,iL,iM,iN,iO,iP,iQ,iR,iT,iU,iV,iW,iX,iY,iZ,ja,jc,jd,je,jf,jg,jh,ji,jk,jl,jm,jo,jq,jr],[]⟩ [.inRegion oN [],.code aN,.inBlock 1,.inLoop lN,.inBlock 0,.code rN]) (b₁.at a₁ (.inRegion dO (i₁::dQ)::k₁)::cs₁)) w:=by
 have e0:(i==0)=false:=by simpa using hi
 have hz:((cfg Mu Wg ty N J ro Anch).Zw k).sy Mu:=.inl (.inl rfl);subst yE yF yG yH;cases ws
 ·have hw0:kG=0:=by simpa using hws
  clear hws;subst hw0;cases sv
  ·simp only [LL,REST,jQ,jU,kY,dW,dL,dS,dN,eO,dI,Tryz.f128,ak,reduceIte,Nat.reduceEqDiff,reduceCtorEq];refine dG (n:=80) ?_
   repeat w_go (dD hz)
   refine cZ λw₃ h₃=>.stop λw₄ h₄=>.step (OC hne hi hb hT (dD hz (dD hz hF h₃) h₄) ?_ ?_ ?_ ?_)
   all_goals simp only [LL,REST,jQ,jU,kY,dW,dL,dS,dN,eO,dI,Tryz.f128,ak,reduceIte,Nat.reduceEqDiff,reduceCtorEq]
  ·simp only [LL,REST,jQ,jU,kY,dW,dL,dS,dN,eO,dI,Tryz.f128,ak,reduceIte,Nat.reduceEqDiff,reduceCtorEq];refine dG (n:=80) ?_
   repeat w_go (dD hz)
   refine cZ λw₃ h₃=>.stop λw₄ h₄=>.step (OD hne hi hb hT (dD hz (dD hz hF h₃) h₄) ?_ ?_ ?_ ?_)
   all_goals simp only [LL,REST,jQ,jU,kY,dW,dL,dS,dN,eO,dI,Tryz.f128,ak,reduceIte,Nat.reduceEqDiff,reduceCtorEq]
 ·have hw0:kG≠0:=by simpa using hws.symm
  have hwt:=hws.symm;clear hws;have q1:(kG==0)=false:=by simpa using hw0
  have q2:(kG !=0)=true:=by simpa using hw0
  cases sv
  ·simp only [LL,REST,jQ,jU,kY,dW,dL,dS,dN,eO,dI,Tryz.f128,ak,reduceIte,Nat.reduceEqDiff,reduceCtorEq];refine dG (n:=80) ?_
   repeat w_go (dD hz)
   try simp only [q1,q2]
   repeat w_go (dD hz)
   have hws:=hwt.symm;refine cZ λw₃ h₃=>.stop λw₄ h₄=>.step (G7 hne hi hb hT (dD hz (dD hz hF h₃) h₄) hws ?_ ?_ ?_ ?_)
   all_goals simp only [LL,REST,jQ,jU,kY,dW,dL,dS,dN,eO,dI,Tryz.f128,ak,reduceIte,Nat.reduceEqDiff,reduceCtorEq]
  ·simp only [LL,REST,jQ,jU,kY,dW,dL,dS,dN,eO,dI,Tryz.f128,ak,reduceIte,Nat.reduceEqDiff,reduceCtorEq];refine dG (n:=80) ?_
   repeat w_go (dD hz)
   try simp only [q1,q2]
   repeat w_go (dD hz)
   have hws:=hwt.symm;refine cZ λw₃ h₃=>.stop λw₄ h₄=>.step (G8 hne hi hb hT (dD hz (dD hz hF h₃) h₄) hws ?_ ?_ ?_ ?_)
   all_goals simp only [LL,REST,jQ,jU,kY,dW,dL,dS,dN,eO,dI,Tryz.f128,ak,reduceIte,Nat.reduceEqDiff,reduceCtorEq]
theorem Vm (hne:Mu≠Wg) (hi:i≠0) (hb:Beside (cfg Mu Wg ty N J ro Anch) ((cfg Mu Wg ty N J ro Anch).Zw k) own) (hT:kH Mu Wg ty N J ro Anch own W0 i k c (G (b₁.at (a₁.put ((dO[i₁]?).bind (·.dst)) (.tuple #[])) (.inRegion dO dQ::k₁)) cs₁))
 {n:Nat} {it:Nat} {aw sv ws:Bool} {kG:Int} {oN:Array Oper} {aN lN rN:Code} {w:World} (hF:KM 97 Mu ((cfg Mu Wg ty N J ro Anch).Zw k) own W0 w) (hws:ws=decide (kG≠0)) (yE:oN=jQ 22) (yF:aN=jU 22) (yG:lN=LL) (yH:rN=REST):
 Gw Tryz.prog false ((cfg Mu Wg ty N J ro Anch).Zw k) ((HX Mu Wg ty N J ro Anch own W0 i k c b₁ a₁ dO i₁ dQ k₁ cs₁) i (.bd k ⟨⟨if ws then .s1 else .t1,0,0,aw,sv,0,ws⟩,c,n⟩)) own (G ((base 128).at ⟨#[.pointer (some ⟨Mu,0,none⟩),j1,.int .i64 kG,.bool sv,.bool aw,.int .i64 (it:Nat),.int .i32 3,j7,j8,j9,j10,j11,j12,j13,nV,nW,mE,mF,mG,mH,mJ,nZ,oh,oo,mK,mM,mO,mP,mQ,mR,mU,mV,mW,mX,qh,qi,qj,ql,qm,qo,qx,qy,qz,qA,qB,qC,qD,qE,qF,qG,qH,qI,qJ,qK,qL,qM,qN,qO,qP,qQ,qR,qU,qV,qW,qX,qY,qZ,rq,ru,ry,rz,rA,rC,rD,rE,rF,rG,wo,wu,wz,.bool true,rH,rJ,rM,rO,rP,rQ,rR,rT,rU,rV,tJ,rW,rX,rY,sD,rZ,r9,si,sj,iB,iC,iD,jH,iE,iF,iG,iH,iI,iJ,iK,iL,iM,iN,iO,iP,iQ,iR,iT,iU,iV,iW,iX,iY,iZ,ja,jc,jd,je,jf,jg,jh,ji,jk,jl,jm,jo,jq,jr],[]⟩ [.inRegion oN [],.code aN,.inBlock 1,.inLoop lN,.inBlock 0,.code rN]) (b₁.at a₁ (.inRegion dO (i₁::dQ)::k₁)::cs₁)) w:=by
 have e0:(i==0)=false:=by simpa using hi
 have hz:((cfg Mu Wg ty N J ro Anch).Zw k).sy Mu:=.inl (.inl rfl);subst yE yF yG yH;cases ws
 ·have hw0:kG=0:=by simpa using hws
  clear hws;subst hw0;cases sv
  ·simp only [LL,REST,jQ,jU,kY,dW,dL,dS,dN,eO,dI,Tryz.f128,ak,reduceIte,Nat.reduceEqDiff,reduceCtorEq];refine dG (n:=80) ?_
   repeat w_go (dD hz)
   refine cZ λw₃ h₃=>.stop λw₄ h₄=>.step (OC hne hi hb hT (dD hz (dD hz hF h₃) h₄) ?_ ?_ ?_ ?_)
   all_goals simp only [LL,REST,jQ,jU,kY,dW,dL,dS,dN,eO,dI,Tryz.f128,ak,reduceIte,Nat.reduceEqDiff,reduceCtorEq]
  ·simp only [LL,REST,jQ,jU,kY,dW,dL,dS,dN,eO,dI,Tryz.f128,ak,reduceIte,Nat.reduceEqDiff,reduceCtorEq];refine dG (n:=80) ?_
   repeat w_go (dD hz)
   refine cZ λw₃ h₃=>.stop λw₄ h₄=>.step (OD hne hi hb hT (dD hz (dD hz hF h₃) h₄) ?_ ?_ ?_ ?_)
   all_goals simp only [LL,REST,jQ,jU,kY,dW,dL,dS,dN,eO,dI,Tryz.f128,ak,reduceIte,Nat.reduceEqDiff,reduceCtorEq]
 ·have hw0:kG≠0:=by simpa using hws.symm
  have hwt:=hws.symm;clear hws;have q1:(kG==0)=false:=by simpa using hw0
  have q2:(kG !=0)=true:=by simpa using hw0
  cases sv
  ·simp only [LL,REST,jQ,jU,kY,dW,dL,dS,dN,eO,dI,Tryz.f128,ak,reduceIte,Nat.reduceEqDiff,reduceCtorEq];refine dG (n:=80) ?_
   repeat w_go (dD hz)
   try simp only [q1,q2]
   repeat w_go (dD hz)
   have hws:=hwt.symm;refine cZ λw₃ h₃=>.stop λw₄ h₄=>.step (G7 hne hi hb hT (dD hz (dD hz hF h₃) h₄) hws ?_ ?_ ?_ ?_)
   all_goals simp only [LL,REST,jQ,jU,kY,dW,dL,dS,dN,eO,dI,Tryz.f128,ak,reduceIte,Nat.reduceEqDiff,reduceCtorEq]
  ·simp only [LL,REST,jQ,jU,kY,dW,dL,dS,dN,eO,dI,Tryz.f128,ak,reduceIte,Nat.reduceEqDiff,reduceCtorEq];refine dG (n:=80) ?_
   repeat w_go (dD hz)
   try simp only [q1,q2]
   repeat w_go (dD hz)
   have hws:=hwt.symm;refine cZ λw₃ h₃=>.stop λw₄ h₄=>.step (G8 hne hi hb hT (dD hz (dD hz hF h₃) h₄) hws ?_ ?_ ?_ ?_)
   all_goals simp only [LL,REST,jQ,jU,kY,dW,dL,dS,dN,eO,dI,Tryz.f128,ak,reduceIte,Nat.reduceEqDiff,reduceCtorEq]
theorem YC (hne:Mu≠Wg) (hi:i≠0) (hb:Beside (cfg Mu Wg ty N J ro Anch) ((cfg Mu Wg ty N J ro Anch).Zw k) own) (hT:kH Mu Wg ty N J ro Anch own W0 i k c (G (b₁.at (a₁.put ((dO[i₁]?).bind (·.dst)) (.tuple #[])) (.inRegion dO dQ::k₁)) cs₁))
 {n:Nat} {it:Nat} {aw sv ws:Bool} {kG:Int} {oN:Array Oper} {aN lN rN:Code} {w:World} (hF:KM 97 Mu ((cfg Mu Wg ty N J ro Anch).Zw k) own W0 w) (hws:ws=decide (kG≠0)) (yE:oN=jQ 22) (yF:aN=jU 22) (yG:lN=LL) (yH:rN=REST):
 Gw Tryz.prog false ((cfg Mu Wg ty N J ro Anch).Zw k) ((HX Mu Wg ty N J ro Anch own W0 i k c b₁ a₁ dO i₁ dQ k₁ cs₁) i (.bd k ⟨⟨if ws then .s1 else .t1,0,0,aw,sv,0,ws⟩,c,n⟩)) own (G ((base 128).at ⟨#[.pointer (some ⟨Mu,0,none⟩),j1,.int .i64 kG,.bool sv,.bool aw,.int .i64 (it:Nat),.int .i32 12,j7,j8,j9,j10,j11,j12,j13,nV,nW,mE,mF,mG,mH,mJ,nZ,oh,oo,mK,mM,mO,mP,mQ,mR,mU,mV,mW,mX,qh,qi,qj,ql,qm,qo,qx,qy,qz,qA,qB,qC,qD,qE,qF,qG,qH,qI,qJ,qK,qL,qM,qN,qO,qP,qQ,qR,qU,qV,qW,qX,qY,qZ,rq,ru,ry,rz,rA,rC,rD,rE,rF,rG,wo,wu,wz,.bool true,rH,rJ,rM,rO,rP,rQ,rR,rT,rU,rV,tJ,rW,rX,rY,sD,rZ,r9,si,sj,iB,iC,iD,jH,iE,iF,iG,iH,iI,iJ,iK,iL,iM,iN,iO,iP,iQ,iR,iT,iU,iV,iW,iX,iY,iZ,ja,jc,jd,je,jf,jg,jh,ji,jk,jl,jm,jo,jq,jr],[]⟩ [.inRegion oN [],.code aN,.inBlock 1,.inLoop lN,.inBlock 0,.code rN]) (b₁.at a₁ (.inRegion dO (i₁::dQ)::k₁)::cs₁)) w:=by
 have e0:(i==0)=false:=by simpa using hi
 have hz:((cfg Mu Wg ty N J ro Anch).Zw k).sy Mu:=.inl (.inl rfl);subst yE yF yG yH;cases ws
 ·have hw0:kG=0:=by simpa using hws
  clear hws;subst hw0;cases sv
  ·simp only [LL,REST,jQ,jU,kY,dW,dL,dS,dN,eO,dI,Tryz.f128,ak,reduceIte,Nat.reduceEqDiff,reduceCtorEq];refine dG (n:=80) ?_
   repeat w_go (dD hz)
   refine cZ λw₃ h₃=>.stop λw₄ h₄=>.step (OC hne hi hb hT (dD hz (dD hz hF h₃) h₄) ?_ ?_ ?_ ?_)
   all_goals simp only [LL,REST,jQ,jU,kY,dW,dL,dS,dN,eO,dI,Tryz.f128,ak,reduceIte,Nat.reduceEqDiff,reduceCtorEq]
  ·simp only [LL,REST,jQ,jU,kY,dW,dL,dS,dN,eO,dI,Tryz.f128,ak,reduceIte,Nat.reduceEqDiff,reduceCtorEq];refine dG (n:=80) ?_
   repeat w_go (dD hz)
   refine cZ λw₃ h₃=>.stop λw₄ h₄=>.step (OD hne hi hb hT (dD hz (dD hz hF h₃) h₄) ?_ ?_ ?_ ?_)
   all_goals simp only [LL,REST,jQ,jU,kY,dW,dL,dS,dN,eO,dI,Tryz.f128,ak,reduceIte,Nat.reduceEqDiff,reduceCtorEq]
 ·have hw0:kG≠0:=by simpa using hws.symm
  have hwt:=hws.symm;clear hws;have q1:(kG==0)=false:=by simpa using hw0
  have q2:(kG !=0)=true:=by simpa using hw0
  cases sv
  ·simp only [LL,REST,jQ,jU,kY,dW,dL,dS,dN,eO,dI,Tryz.f128,ak,reduceIte,Nat.reduceEqDiff,reduceCtorEq];refine dG (n:=80) ?_
   repeat w_go (dD hz)
   try simp only [q1,q2]
   repeat w_go (dD hz)
   have hws:=hwt.symm;refine cZ λw₃ h₃=>.stop λw₄ h₄=>.step (G7 hne hi hb hT (dD hz (dD hz hF h₃) h₄) hws ?_ ?_ ?_ ?_)
   all_goals simp only [LL,REST,jQ,jU,kY,dW,dL,dS,dN,eO,dI,Tryz.f128,ak,reduceIte,Nat.reduceEqDiff,reduceCtorEq]
  ·simp only [LL,REST,jQ,jU,kY,dW,dL,dS,dN,eO,dI,Tryz.f128,ak,reduceIte,Nat.reduceEqDiff,reduceCtorEq];refine dG (n:=80) ?_
   repeat w_go (dD hz)
   try simp only [q1,q2]
   repeat w_go (dD hz)
   have hws:=hwt.symm;refine cZ λw₃ h₃=>.stop λw₄ h₄=>.step (G8 hne hi hb hT (dD hz (dD hz hF h₃) h₄) hws ?_ ?_ ?_ ?_)
   all_goals simp only [LL,REST,jQ,jU,kY,dW,dL,dS,dN,eO,dI,Tryz.f128,ak,reduceIte,Nat.reduceEqDiff,reduceCtorEq]
theorem R6 (hne:Mu≠Wg) (hi:i≠0) (hb:Beside (cfg Mu Wg ty N J ro Anch) ((cfg Mu Wg ty N J ro Anch).Zw k) own) (hT:kH Mu Wg ty N J ro Anch own W0 i k c (G (b₁.at (a₁.put ((dO[i₁]?).bind (·.dst)) (.tuple #[])) (.inRegion dO dQ::k₁)) cs₁))
 {n:Nat} {it:Nat} {aw sv ws:Bool} {kG:Int} {oN:Array Oper} {aN lN rN:Code} {w:World} (hF:KM 97 Mu ((cfg Mu Wg ty N J ro Anch).Zw k) own W0 w) (hws:ws=decide (kG≠0)) (yE:oN=jQ 22) (yF:aN=jU 22) (yG:lN=LL) (yH:rN=REST):
 uq Tryz.prog (cfg Mu Wg ty N J ro Anch).sys (HX Mu Wg ty N J ro Anch own W0 i k c b₁ a₁ dO i₁ dQ k₁ cs₁) i (.bd k ⟨⟨.c2,0,1,aw,sv,it,ws⟩,c,n⟩) own (G ((base 128).at ⟨#[.pointer (some ⟨Mu,0,none⟩),j1,.int .i64 kG,.bool sv,.bool aw,.int .i64 (it:Nat),.int .i32 0,j7,j8,j9,j10,j11,j12,j13,nV,nW,mE,mF,mG,mH,mJ,nZ,oh,oo,mK,mM,mO,mP,mQ,mR,mU,mV,mW,mX,qh,qi,qj,ql,qm,qo,qx,qy,qz,qA,qB,qC,qD,qE,qF,qG,qH,qI,qJ,qK,qL,qM,qN,qO,qP,qQ,qR,qU,qV,qW,qX,qY,qZ,rq,ru,ry,rz,rA,rC,rD,rE,rF,rG,.pointer (some (muA Mu)),.int .i32 0,.int .i32 1,vN,rH,rJ,rM,rO,rP,rQ,rR,rT,rU,rV,tJ,rW,rX,rY,sD,rZ,r9,si,sj,iB,iC,iD,jH,iE,iF,iG,iH,iI,iJ,iK,iL,iM,iN,iO,iP,iQ,iR,iT,iU,iV,iW,iX,iY,iZ,ja,jc,jd,je,jf,jg,jh,ji,jk,jl,jm,jo,jq,jr],[]⟩ [.inRegion oN [5],.code aN,.inBlock 1,.inLoop lN,.inBlock 0,.code rN]) (b₁.at a₁ (.inRegion dO (i₁::dQ)::k₁)::cs₁)) w:=by
 have e0:(i==0)=false:=by simpa using hi
 have hz:((cfg Mu Wg ty N J ro Anch).Zw k).sy Mu:=.inl (.inl rfl);subst yE yF yG yH;simp only [LL,REST,jQ,jU,kY,dW,dL,dS,dN,eO,dI,Tryz.f128,ak,reduceIte,Nat.reduceEqDiff,reduceCtorEq];refine fI hne (by simp) rfl rfl λs hs hm1 hm2 hnb=>?_
 obtain ⟨v,wt,sm,jn,dn,⟨mu,ms,c0,c1,ow⟩⟩:=s;simp only at hs hm1 hm2 hnb ⊢
 by_cases hq:mu=0
 ·subst hq;have hs:MuAt 97 Mu w 0 ms:=hs;refine .inr ⟨by simp,lk .le,1,ms,_,w.setCell (muA Mu) (.int .i32 1),_,by simp [lT],by rw [e0];exact stepG_cas_hit rfl rfl (by k_ne) rfl Tryz.func127 kM kN kP .i32 kQ rfl rfl rfl hs.cellSt (hs.thaw 0),by simp,hs.setSt 1,Eff.set _ _ (.inl rfl),mo (C:=cfg Mu Wg ty N J ro Anch) (a:=muA Mu) (.inl rfl),?_⟩;replace hF:=hF.turn hb hs (hs.setSt 1) (Eff.set (muA Mu) _ (.inl rfl));generalize w.setCell (muA Mu) (.int .i32 1)=w₂ at hF ⊢;clear hs hm1 hm2 hnb;rw [e0];refine dG (n:=4) ?_
  walk_nrm;refine cZ λw₃ h₃=>ap5 (ws:=false) hne hi hb hT (dD hz hF h₃) ?_ ?_ ?_ ?_
  all_goals simp only [LL,REST,jQ,jU,kY,dW,dL,dS,dN,eO,dI,Tryz.f128,ak,reduceIte,Nat.reduceEqDiff,reduceCtorEq]
 ·have hqi:((mu:Nat):Int)≠0:=by omega
  refine .inr ⟨by simp,⟨.r3,0,0,aw,sv,it,ws⟩,mu,ms,_,w,_,by simp [lT,hq],by rw [e0];exact stepG_cas_miss rfl rfl (by k_ne) rfl Tryz.func127 kM kN kP .i32 kQ rfl rfl rfl hs.cellSt (hs.thaw 0) hqi,by simp,hs,Eff.refl _,xz (C:=cfg Mu Wg ty N J ro Anch) (a:=muA Mu) (.inl rfl),?_⟩;clear hs hm1 hm2 hnb;rw [e0];refine dG (n:=4) ?_
  walk_nrm;refine cZ λw₃ h₃=>BP hne hi hb (dD hz hF h₃) hws ?_ ?_ ?_ ?_
  all_goals simp only [LL,REST,jQ,jU,kY,dW,dL,dS,dN,eO,dI,Tryz.f128,ak,reduceIte,Nat.reduceEqDiff,reduceCtorEq]
theorem R8 (hne:Mu≠Wg) (hi:i≠0) (hb:Beside (cfg Mu Wg ty N J ro Anch) ((cfg Mu Wg ty N J ro Anch).Zw k) own) (hT:kH Mu Wg ty N J ro Anch own W0 i k c (G (b₁.at (a₁.put ((dO[i₁]?).bind (·.dst)) (.tuple #[])) (.inRegion dO dQ::k₁)) cs₁))
 {n:Nat} {it:Nat} {aw sv ws:Bool} {kG:Int} {oN:Array Oper} {aN lN rN:Code} {w:World} (hF:KM 97 Mu ((cfg Mu Wg ty N J ro Anch).Zw k) own W0 w) (hws:ws=decide (kG≠0)) (yE:oN=jQ 22) (yF:aN=jU 22) (yG:lN=LL) (yH:rN=REST):
 uq Tryz.prog (cfg Mu Wg ty N J ro Anch).sys (HX Mu Wg ty N J ro Anch own W0 i k c b₁ a₁ dO i₁ dQ k₁ cs₁) i (.bd k ⟨⟨.c2,2,3,aw,sv,it,ws⟩,c,n⟩) own (G ((base 128).at ⟨#[.pointer (some ⟨Mu,0,none⟩),j1,.int .i64 kG,.bool sv,.bool aw,.int .i64 (it:Nat),.int .i32 2,j7,j8,j9,j10,j11,j12,j13,nV,nW,mE,mF,mG,mH,mJ,nZ,oh,oo,mK,mM,mO,mP,mQ,mR,mU,mV,mW,mX,qh,qi,qj,ql,qm,qo,qx,qy,qz,qA,qB,qC,qD,qE,qF,qG,qH,qI,qJ,qK,qL,qM,qN,qO,qP,qQ,qR,qU,qV,qW,qX,qY,qZ,rq,ru,ry,rz,rA,rC,rD,rE,rF,rG,.pointer (some (muA Mu)),.int .i32 2,.int .i32 3,vN,rH,rJ,rM,rO,rP,rQ,rR,rT,rU,rV,tJ,rW,rX,rY,sD,rZ,r9,si,sj,iB,iC,iD,jH,iE,iF,iG,iH,iI,iJ,iK,iL,iM,iN,iO,iP,iQ,iR,iT,iU,iV,iW,iX,iY,iZ,ja,jc,jd,je,jf,jg,jh,ji,jk,jl,jm,jo,jq,jr],[]⟩ [.inRegion oN [5],.code aN,.inBlock 1,.inLoop lN,.inBlock 0,.code rN]) (b₁.at a₁ (.inRegion dO (i₁::dQ)::k₁)::cs₁)) w:=by
 have e0:(i==0)=false:=by simpa using hi
 have hz:((cfg Mu Wg ty N J ro Anch).Zw k).sy Mu:=.inl (.inl rfl);subst yE yF yG yH;simp only [LL,REST,jQ,jU,kY,dW,dL,dS,dN,eO,dI,Tryz.f128,ak,reduceIte,Nat.reduceEqDiff,reduceCtorEq];refine fI hne (by simp) rfl rfl λs hs hm1 hm2 hnb=>?_
 obtain ⟨v,wt,sm,jn,dn,⟨mu,ms,c0,c1,ow⟩⟩:=s;simp only at hs hm1 hm2 hnb ⊢
 by_cases hq:mu=2
 ·subst hq;have hs:MuAt 97 Mu w 2 ms:=hs;refine .inr ⟨by simp,lk .le,3,ms,_,w.setCell (muA Mu) (.int .i32 3),_,by simp [lT],by rw [e0];exact stepG_cas_hit rfl rfl (by k_ne) rfl Tryz.func127 kM kN kP .i32 kQ rfl rfl rfl hs.cellSt (hs.thaw 0),by simp,hs.setSt 3,Eff.set _ _ (.inl rfl),mo (C:=cfg Mu Wg ty N J ro Anch) (a:=muA Mu) (.inl rfl),?_⟩;replace hF:=hF.turn hb hs (hs.setSt 3) (Eff.set (muA Mu) _ (.inl rfl));generalize w.setCell (muA Mu) (.int .i32 3)=w₂ at hF ⊢;clear hs hm1 hm2 hnb;rw [e0];refine dG (n:=4) ?_
  walk_nrm;refine cZ λw₃ h₃=>take2 (ws:=false) hne hi hb hT (dD hz hF h₃) ?_ ?_ ?_ ?_
  all_goals simp only [LL,REST,jQ,jU,kY,dW,dL,dS,dN,eO,dI,Tryz.f128,ak,reduceIte,Nat.reduceEqDiff,reduceCtorEq]
 ·have hqi:((mu:Nat):Int)≠2:=by omega
  refine .inr ⟨by simp,⟨.r3,0,0,aw,sv,it,ws⟩,mu,ms,_,w,_,by simp [lT,hq],by rw [e0];exact stepG_cas_miss rfl rfl (by k_ne) rfl Tryz.func127 kM kN kP .i32 kQ rfl rfl rfl hs.cellSt (hs.thaw 0) hqi,by simp,hs,Eff.refl _,xz (C:=cfg Mu Wg ty N J ro Anch) (a:=muA Mu) (.inl rfl),?_⟩;clear hs hm1 hm2 hnb;rw [e0];refine dG (n:=4) ?_
  walk_nrm;refine cZ λw₃ h₃=>BP hne hi hb (dD hz hF h₃) hws ?_ ?_ ?_ ?_
  all_goals simp only [LL,REST,jQ,jU,kY,dW,dL,dS,dN,eO,dI,Tryz.f128,ak,reduceIte,Nat.reduceEqDiff,reduceCtorEq]
theorem JJ (hne:Mu≠Wg) (hi:i≠0) (hb:Beside (cfg Mu Wg ty N J ro Anch) ((cfg Mu Wg ty N J ro Anch).Zw k) own) (hT:kH Mu Wg ty N J ro Anch own W0 i k c (G (b₁.at (a₁.put ((dO[i₁]?).bind (·.dst)) (.tuple #[])) (.inRegion dO dQ::k₁)) cs₁))
 {n:Nat} {it:Nat} {aw sv ws:Bool} {kG:Int} {oN:Array Oper} {aN lN rN:Code} {w:World} (hF:KM 97 Mu ((cfg Mu Wg ty N J ro Anch).Zw k) own W0 w) (hws:ws=decide (kG≠0)) (yE:oN=jQ 22) (yF:aN=jU 22) (yG:lN=LL) (yH:rN=REST):
 uq Tryz.prog (cfg Mu Wg ty N J ro Anch).sys (HX Mu Wg ty N J ro Anch own W0 i k c b₁ a₁ dO i₁ dQ k₁ cs₁) i (.bd k ⟨⟨.c2,2,1,aw,sv,it,ws⟩,c,n⟩) own (G ((base 128).at ⟨#[.pointer (some ⟨Mu,0,none⟩),j1,.int .i64 kG,.bool sv,.bool aw,.int .i64 (it:Nat),.int .i32 2,j7,j8,j9,j10,j11,j12,j13,nV,nW,mE,mF,mG,mH,mJ,nZ,oh,oo,mK,mM,mO,mP,mQ,mR,mU,mV,mW,mX,qh,qi,qj,ql,qm,qo,qx,qy,qz,qA,qB,qC,qD,qE,qF,qG,qH,qI,qJ,qK,qL,qM,qN,qO,qP,qQ,qR,qU,qV,qW,qX,qY,qZ,rq,ru,ry,rz,rA,rC,rD,rE,rF,rG,.pointer (some (muA Mu)),.int .i32 2,.int .i32 1,vN,rH,rJ,rM,rO,rP,rQ,rR,rT,rU,rV,tJ,rW,rX,rY,sD,rZ,r9,si,sj,iB,iC,iD,jH,iE,iF,iG,iH,iI,iJ,iK,iL,iM,iN,iO,iP,iQ,iR,iT,iU,iV,iW,iX,iY,iZ,ja,jc,jd,je,jf,jg,jh,ji,jk,jl,jm,jo,jq,jr],[]⟩ [.inRegion oN [5],.code aN,.inBlock 1,.inLoop lN,.inBlock 0,.code rN]) (b₁.at a₁ (.inRegion dO (i₁::dQ)::k₁)::cs₁)) w:=by
 have e0:(i==0)=false:=by simpa using hi
 have hz:((cfg Mu Wg ty N J ro Anch).Zw k).sy Mu:=.inl (.inl rfl);subst yE yF yG yH;simp only [LL,REST,jQ,jU,kY,dW,dL,dS,dN,eO,dI,Tryz.f128,ak,reduceIte,Nat.reduceEqDiff,reduceCtorEq];refine fI hne (by simp) rfl rfl λs hs hm1 hm2 hnb=>?_
 obtain ⟨v,wt,sm,jn,dn,⟨mu,ms,c0,c1,ow⟩⟩:=s;simp only at hs hm1 hm2 hnb ⊢
 by_cases hq:mu=2
 ·subst hq;have hs:MuAt 97 Mu w 2 ms:=hs;refine .inr ⟨by simp,lk .le,1,ms,_,w.setCell (muA Mu) (.int .i32 1),_,by simp [lT],by rw [e0];exact stepG_cas_hit rfl rfl (by k_ne) rfl Tryz.func127 kM kN kP .i32 kQ rfl rfl rfl hs.cellSt (hs.thaw 0),by simp,hs.setSt 1,Eff.set _ _ (.inl rfl),mo (C:=cfg Mu Wg ty N J ro Anch) (a:=muA Mu) (.inl rfl),?_⟩;replace hF:=hF.turn hb hs (hs.setSt 1) (Eff.set (muA Mu) _ (.inl rfl));generalize w.setCell (muA Mu) (.int .i32 1)=w₂ at hF ⊢;clear hs hm1 hm2 hnb;rw [e0];refine dG (n:=4) ?_
  walk_nrm;refine cZ λw₃ h₃=>take2 (ws:=false) hne hi hb hT (dD hz hF h₃) ?_ ?_ ?_ ?_
  all_goals simp only [LL,REST,jQ,jU,kY,dW,dL,dS,dN,eO,dI,Tryz.f128,ak,reduceIte,Nat.reduceEqDiff,reduceCtorEq]
 ·have hqi:((mu:Nat):Int)≠2:=by omega
  refine .inr ⟨by simp,⟨.r3,0,0,aw,sv,it,ws⟩,mu,ms,_,w,_,by simp [lT,hq],by rw [e0];exact stepG_cas_miss rfl rfl (by k_ne) rfl Tryz.func127 kM kN kP .i32 kQ rfl rfl rfl hs.cellSt (hs.thaw 0) hqi,by simp,hs,Eff.refl _,xz (C:=cfg Mu Wg ty N J ro Anch) (a:=muA Mu) (.inl rfl),?_⟩;clear hs hm1 hm2 hnb;rw [e0];refine dG (n:=4) ?_
  walk_nrm;refine cZ λw₃ h₃=>BP hne hi hb (dD hz hF h₃) hws ?_ ?_ ?_ ?_
  all_goals simp only [LL,REST,jQ,jU,kY,dW,dL,dS,dN,eO,dI,Tryz.f128,ak,reduceIte,Nat.reduceEqDiff,reduceCtorEq]
theorem JK (hne:Mu≠Wg) (hi:i≠0) (hb:Beside (cfg Mu Wg ty N J ro Anch) ((cfg Mu Wg ty N J ro Anch).Zw k) own) (hT:kH Mu Wg ty N J ro Anch own W0 i k c (G (b₁.at (a₁.put ((dO[i₁]?).bind (·.dst)) (.tuple #[])) (.inRegion dO dQ::k₁)) cs₁))
 {n:Nat} {it:Nat} {aw sv ws:Bool} {kG:Int} {oN:Array Oper} {aN lN rN:Code} {w:World} (hF:KM 97 Mu ((cfg Mu Wg ty N J ro Anch).Zw k) own W0 w) (hws:ws=decide (kG≠0)) (yE:oN=jQ 22) (yF:aN=jU 22) (yG:lN=LL) (yH:rN=REST):
 uq Tryz.prog (cfg Mu Wg ty N J ro Anch).sys (HX Mu Wg ty N J ro Anch own W0 i k c b₁ a₁ dO i₁ dQ k₁ cs₁) i (.bd k ⟨⟨.c2,1,9,aw,sv,it,ws⟩,c,n⟩) own (G ((base 128).at ⟨#[.pointer (some ⟨Mu,0,none⟩),j1,.int .i64 kG,.bool sv,.bool aw,.int .i64 (it:Nat),.int .i32 1,j7,j8,j9,j10,j11,j12,j13,nV,nW,mE,mF,mG,mH,mJ,nZ,oh,oo,mK,mM,mO,mP,mQ,mR,mU,mV,mW,mX,qh,qi,qj,ql,qm,qo,qx,qy,qz,qA,qB,qC,qD,qE,qF,qG,qH,qI,qJ,qK,qL,qM,qN,qO,qP,qQ,qR,qU,qV,qW,qX,qY,qZ,rq,ru,ry,rz,rA,rC,rD,rE,rF,rG,.pointer (some (muA Mu)),.int .i32 1,.int .i32 9,vN,rH,rJ,rM,rO,rP,rQ,rR,rT,rU,rV,tJ,rW,rX,rY,sD,rZ,r9,si,sj,iB,iC,iD,jH,iE,iF,iG,iH,iI,iJ,iK,iL,iM,iN,iO,iP,iQ,iR,iT,iU,iV,iW,iX,iY,iZ,ja,jc,jd,je,jf,jg,jh,ji,jk,jl,jm,jo,jq,jr],[]⟩ [.inRegion oN [5],.code aN,.inBlock 1,.inLoop lN,.inBlock 0,.code rN]) (b₁.at a₁ (.inRegion dO (i₁::dQ)::k₁)::cs₁)) w:=by
 have e0:(i==0)=false:=by simpa using hi
 have hz:((cfg Mu Wg ty N J ro Anch).Zw k).sy Mu:=.inl (.inl rfl);subst yE yF yG yH;simp only [LL,REST,jQ,jU,kY,dW,dL,dS,dN,eO,dI,Tryz.f128,ak,reduceIte,Nat.reduceEqDiff,reduceCtorEq];refine fI hne (by simp) rfl rfl λs hs hm1 hm2 hnb=>?_
 obtain ⟨v,wt,sm,jn,dn,⟨mu,ms,c0,c1,ow⟩⟩:=s;simp only at hs hm1 hm2 hnb ⊢
 by_cases hq:mu=1
 ·subst hq;have hs:MuAt 97 Mu w 1 ms:=hs;refine .inr ⟨by simp,⟨if ws then .s1 else .t1,0,0,aw,sv,0,ws⟩,9,ms,_,w.setCell (muA Mu) (.int .i32 9),_,by simp [lT],by rw [e0];exact stepG_cas_hit rfl rfl (by k_ne) rfl Tryz.func127 kM kN kP .i32 kQ rfl rfl rfl hs.cellSt (hs.thaw 0),by simp,hs.setSt 9,Eff.set _ _ (.inl rfl),mo (C:=cfg Mu Wg ty N J ro Anch) (a:=muA Mu) (.inl rfl),?_⟩;replace hF:=hF.turn hb hs (hs.setSt 9) (Eff.set (muA Mu) _ (.inl rfl));generalize w.setCell (muA Mu) (.int .i32 9)=w₂ at hF ⊢;clear hs hm1 hm2 hnb;rw [e0];refine dG (n:=4) ?_
  walk_nrm;refine cZ λw₃ h₃=>af3 hne hi hb hT (dD hz hF h₃) hws ?_ ?_ ?_ ?_
  all_goals simp only [LL,REST,jQ,jU,kY,dW,dL,dS,dN,eO,dI,Tryz.f128,ak,reduceIte,Nat.reduceEqDiff,reduceCtorEq]
 ·have hqi:((mu:Nat):Int)≠1:=by omega
  refine .inr ⟨by simp,⟨.r3,0,0,aw,sv,it,ws⟩,mu,ms,_,w,_,by simp [lT,hq],by rw [e0];exact stepG_cas_miss rfl rfl (by k_ne) rfl Tryz.func127 kM kN kP .i32 kQ rfl rfl rfl hs.cellSt (hs.thaw 0) hqi,by simp,hs,Eff.refl _,xz (C:=cfg Mu Wg ty N J ro Anch) (a:=muA Mu) (.inl rfl),?_⟩;clear hs hm1 hm2 hnb;rw [e0];refine dG (n:=4) ?_
  walk_nrm;refine cZ λw₃ h₃=>BP hne hi hb (dD hz hF h₃) hws ?_ ?_ ?_ ?_
  all_goals simp only [LL,REST,jQ,jU,kY,dW,dL,dS,dN,eO,dI,Tryz.f128,ak,reduceIte,Nat.reduceEqDiff,reduceCtorEq]
theorem JL (hne:Mu≠Wg) (hi:i≠0) (hb:Beside (cfg Mu Wg ty N J ro Anch) ((cfg Mu Wg ty N J ro Anch).Zw k) own) (hT:kH Mu Wg ty N J ro Anch own W0 i k c (G (b₁.at (a₁.put ((dO[i₁]?).bind (·.dst)) (.tuple #[])) (.inRegion dO dQ::k₁)) cs₁))
 {n:Nat} {it:Nat} {aw sv ws:Bool} {kG:Int} {oN:Array Oper} {aN lN rN:Code} {w:World} (hF:KM 97 Mu ((cfg Mu Wg ty N J ro Anch).Zw k) own W0 w) (hws:ws=decide (kG≠0)) (yE:oN=jQ 22) (yF:aN=jU 22) (yG:lN=LL) (yH:rN=REST):
 uq Tryz.prog (cfg Mu Wg ty N J ro Anch).sys (HX Mu Wg ty N J ro Anch own W0 i k c b₁ a₁ dO i₁ dQ k₁ cs₁) i (.bd k ⟨⟨.c2,3,9,aw,sv,it,ws⟩,c,n⟩) own (G ((base 128).at ⟨#[.pointer (some ⟨Mu,0,none⟩),j1,.int .i64 kG,.bool sv,.bool aw,.int .i64 (it:Nat),.int .i32 3,j7,j8,j9,j10,j11,j12,j13,nV,nW,mE,mF,mG,mH,mJ,nZ,oh,oo,mK,mM,mO,mP,mQ,mR,mU,mV,mW,mX,qh,qi,qj,ql,qm,qo,qx,qy,qz,qA,qB,qC,qD,qE,qF,qG,qH,qI,qJ,qK,qL,qM,qN,qO,qP,qQ,qR,qU,qV,qW,qX,qY,qZ,rq,ru,ry,rz,rA,rC,rD,rE,rF,rG,.pointer (some (muA Mu)),.int .i32 3,.int .i32 9,vN,rH,rJ,rM,rO,rP,rQ,rR,rT,rU,rV,tJ,rW,rX,rY,sD,rZ,r9,si,sj,iB,iC,iD,jH,iE,iF,iG,iH,iI,iJ,iK,iL,iM,iN,iO,iP,iQ,iR,iT,iU,iV,iW,iX,iY,iZ,ja,jc,jd,je,jf,jg,jh,ji,jk,jl,jm,jo,jq,jr],[]⟩ [.inRegion oN [5],.code aN,.inBlock 1,.inLoop lN,.inBlock 0,.code rN]) (b₁.at a₁ (.inRegion dO (i₁::dQ)::k₁)::cs₁)) w:=by
 have e0:(i==0)=false:=by simpa using hi
 have hz:((cfg Mu Wg ty N J ro Anch).Zw k).sy Mu:=.inl (.inl rfl);subst yE yF yG yH;simp only [LL,REST,jQ,jU,kY,dW,dL,dS,dN,eO,dI,Tryz.f128,ak,reduceIte,Nat.reduceEqDiff,reduceCtorEq];refine fI hne (by simp) rfl rfl λs hs hm1 hm2 hnb=>?_
 obtain ⟨v,wt,sm,jn,dn,⟨mu,ms,c0,c1,ow⟩⟩:=s;simp only at hs hm1 hm2 hnb ⊢
 by_cases hq:mu=3
 ·subst hq;have hs:MuAt 97 Mu w 3 ms:=hs;refine .inr ⟨by simp,⟨if ws then .s1 else .t1,0,0,aw,sv,0,ws⟩,9,ms,_,w.setCell (muA Mu) (.int .i32 9),_,by simp [lT],by rw [e0];exact stepG_cas_hit rfl rfl (by k_ne) rfl Tryz.func127 kM kN kP .i32 kQ rfl rfl rfl hs.cellSt (hs.thaw 0),by simp,hs.setSt 9,Eff.set _ _ (.inl rfl),mo (C:=cfg Mu Wg ty N J ro Anch) (a:=muA Mu) (.inl rfl),?_⟩;replace hF:=hF.turn hb hs (hs.setSt 9) (Eff.set (muA Mu) _ (.inl rfl));generalize w.setCell (muA Mu) (.int .i32 9)=w₂ at hF ⊢;clear hs hm1 hm2 hnb;rw [e0];refine dG (n:=4) ?_
  walk_nrm;refine cZ λw₃ h₃=>Vm hne hi hb hT (dD hz hF h₃) hws ?_ ?_ ?_ ?_
  all_goals simp only [LL,REST,jQ,jU,kY,dW,dL,dS,dN,eO,dI,Tryz.f128,ak,reduceIte,Nat.reduceEqDiff,reduceCtorEq]
 ·have hqi:((mu:Nat):Int)≠3:=by omega
  refine .inr ⟨by simp,⟨.r3,0,0,aw,sv,it,ws⟩,mu,ms,_,w,_,by simp [lT,hq],by rw [e0];exact stepG_cas_miss rfl rfl (by k_ne) rfl Tryz.func127 kM kN kP .i32 kQ rfl rfl rfl hs.cellSt (hs.thaw 0) hqi,by simp,hs,Eff.refl _,xz (C:=cfg Mu Wg ty N J ro Anch) (a:=muA Mu) (.inl rfl),?_⟩;clear hs hm1 hm2 hnb;rw [e0];refine dG (n:=4) ?_
  walk_nrm;refine cZ λw₃ h₃=>BP hne hi hb (dD hz hF h₃) hws ?_ ?_ ?_ ?_
  all_goals simp only [LL,REST,jQ,jU,kY,dW,dL,dS,dN,eO,dI,Tryz.f128,ak,reduceIte,Nat.reduceEqDiff,reduceCtorEq]
theorem G9 (hne:Mu≠Wg) (hi:i≠0) (hb:Beside (cfg Mu Wg ty N J ro Anch) ((cfg Mu Wg ty N J ro Anch).Zw k) own) (hT:kH Mu Wg ty N J ro Anch own W0 i k c (G (b₁.at (a₁.put ((dO[i₁]?).bind (·.dst)) (.tuple #[])) (.inRegion dO dQ::k₁)) cs₁))
 {n:Nat} {it:Nat} {aw sv ws:Bool} {kG:Int} {oN:Array Oper} {aN lN rN:Code} {w:World} (hF:KM 97 Mu ((cfg Mu Wg ty N J ro Anch).Zw k) own W0 w) (hws:ws=decide (kG≠0)) (yE:oN=jQ 22) (yF:aN=jU 22) (yG:lN=LL) (yH:rN=REST):
 uq Tryz.prog (cfg Mu Wg ty N J ro Anch).sys (HX Mu Wg ty N J ro Anch own W0 i k c b₁ a₁ dO i₁ dQ k₁ cs₁) i (.bd k ⟨⟨.c2,3,13,aw,sv,it,ws⟩,c,n⟩) own (G ((base 128).at ⟨#[.pointer (some ⟨Mu,0,none⟩),j1,.int .i64 kG,.bool sv,.bool aw,.int .i64 (it:Nat),.int .i32 3,j7,j8,j9,j10,j11,j12,j13,nV,nW,mE,mF,mG,mH,mJ,nZ,oh,oo,mK,mM,mO,mP,mQ,mR,mU,mV,mW,mX,qh,qi,qj,ql,qm,qo,qx,qy,qz,qA,qB,qC,qD,qE,qF,qG,qH,qI,qJ,qK,qL,qM,qN,qO,qP,qQ,qR,qU,qV,qW,qX,qY,qZ,rq,ru,ry,rz,rA,rC,rD,rE,rF,rG,.pointer (some (muA Mu)),.int .i32 3,.int .i32 13,vN,rH,rJ,rM,rO,rP,rQ,rR,rT,rU,rV,tJ,rW,rX,rY,sD,rZ,r9,si,sj,iB,iC,iD,jH,iE,iF,iG,iH,iI,iJ,iK,iL,iM,iN,iO,iP,iQ,iR,iT,iU,iV,iW,iX,iY,iZ,ja,jc,jd,je,jf,jg,jh,ji,jk,jl,jm,jo,jq,jr],[]⟩ [.inRegion oN [5],.code aN,.inBlock 1,.inLoop lN,.inBlock 0,.code rN]) (b₁.at a₁ (.inRegion dO (i₁::dQ)::k₁)::cs₁)) w:=by
 have e0:(i==0)=false:=by simpa using hi
 have hz:((cfg Mu Wg ty N J ro Anch).Zw k).sy Mu:=.inl (.inl rfl);subst yE yF yG yH;simp only [LL,REST,jQ,jU,kY,dW,dL,dS,dN,eO,dI,Tryz.f128,ak,reduceIte,Nat.reduceEqDiff,reduceCtorEq];refine fI hne (by simp) rfl rfl λs hs hm1 hm2 hnb=>?_
 obtain ⟨v,wt,sm,jn,dn,⟨mu,ms,c0,c1,ow⟩⟩:=s;simp only at hs hm1 hm2 hnb ⊢
 by_cases hq:mu=3
 ·subst hq;have hs:MuAt 97 Mu w 3 ms:=hs;refine .inr ⟨by simp,⟨if ws then .s1 else .t1,0,0,aw,sv,0,ws⟩,13,ms,_,w.setCell (muA Mu) (.int .i32 13),_,by simp [lT],by rw [e0];exact stepG_cas_hit rfl rfl (by k_ne) rfl Tryz.func127 kM kN kP .i32 kQ rfl rfl rfl hs.cellSt (hs.thaw 0),by simp,hs.setSt 13,Eff.set _ _ (.inl rfl),mo (C:=cfg Mu Wg ty N J ro Anch) (a:=muA Mu) (.inl rfl),?_⟩;replace hF:=hF.turn hb hs (hs.setSt 13) (Eff.set (muA Mu) _ (.inl rfl));generalize w.setCell (muA Mu) (.int .i32 13)=w₂ at hF ⊢;clear hs hm1 hm2 hnb;rw [e0];refine dG (n:=4) ?_
  walk_nrm;refine cZ λw₃ h₃=>Vm hne hi hb hT (dD hz hF h₃) hws ?_ ?_ ?_ ?_
  all_goals simp only [LL,REST,jQ,jU,kY,dW,dL,dS,dN,eO,dI,Tryz.f128,ak,reduceIte,Nat.reduceEqDiff,reduceCtorEq]
 ·have hqi:((mu:Nat):Int)≠3:=by omega
  refine .inr ⟨by simp,⟨.r3,0,0,aw,sv,it,ws⟩,mu,ms,_,w,_,by simp [lT,hq],by rw [e0];exact stepG_cas_miss rfl rfl (by k_ne) rfl Tryz.func127 kM kN kP .i32 kQ rfl rfl rfl hs.cellSt (hs.thaw 0) hqi,by simp,hs,Eff.refl _,xz (C:=cfg Mu Wg ty N J ro Anch) (a:=muA Mu) (.inl rfl),?_⟩;clear hs hm1 hm2 hnb;rw [e0];refine dG (n:=4) ?_
  walk_nrm;refine cZ λw₃ h₃=>BP hne hi hb (dD hz hF h₃) hws ?_ ?_ ?_ ?_
  all_goals simp only [LL,REST,jQ,jU,kY,dW,dL,dS,dN,eO,dI,Tryz.f128,ak,reduceIte,Nat.reduceEqDiff,reduceCtorEq]
theorem MM (hne:Mu≠Wg) (hi:i≠0) (hb:Beside (cfg Mu Wg ty N J ro Anch) ((cfg Mu Wg ty N J ro Anch).Zw k) own) (hT:kH Mu Wg ty N J ro Anch own W0 i k c (G (b₁.at (a₁.put ((dO[i₁]?).bind (·.dst)) (.tuple #[])) (.inRegion dO dQ::k₁)) cs₁))
 {n:Nat} {it:Nat} {aw sv ws:Bool} {kG:Int} {oN:Array Oper} {aN lN rN:Code} {w:World} (hF:KM 97 Mu ((cfg Mu Wg ty N J ro Anch).Zw k) own W0 w) (hws:ws=decide (kG≠0)) (yE:oN=jQ 22) (yF:aN=jU 22) (yG:lN=LL) (yH:rN=REST):
 uq Tryz.prog (cfg Mu Wg ty N J ro Anch).sys (HX Mu Wg ty N J ro Anch own W0 i k c b₁ a₁ dO i₁ dQ k₁ cs₁) i (.bd k ⟨⟨.c2,12,20,aw,sv,it,ws⟩,c,n⟩) own (G ((base 128).at ⟨#[.pointer (some ⟨Mu,0,none⟩),j1,.int .i64 kG,.bool sv,.bool aw,.int .i64 (it:Nat),.int .i32 12,j7,j8,j9,j10,j11,j12,j13,nV,nW,mE,mF,mG,mH,mJ,nZ,oh,oo,mK,mM,mO,mP,mQ,mR,mU,mV,mW,mX,qh,qi,qj,ql,qm,qo,qx,qy,qz,qA,qB,qC,qD,qE,qF,qG,qH,qI,qJ,qK,qL,qM,qN,qO,qP,qQ,qR,qU,qV,qW,qX,qY,qZ,rq,ru,ry,rz,rA,rC,rD,rE,rF,rG,.pointer (some (muA Mu)),.int .i32 12,.int .i32 20,vN,rH,rJ,rM,rO,rP,rQ,rR,rT,rU,rV,tJ,rW,rX,rY,sD,rZ,r9,si,sj,iB,iC,iD,jH,iE,iF,iG,iH,iI,iJ,iK,iL,iM,iN,iO,iP,iQ,iR,iT,iU,iV,iW,iX,iY,iZ,ja,jc,jd,je,jf,jg,jh,ji,jk,jl,jm,jo,jq,jr],[]⟩ [.inRegion oN [5],.code aN,.inBlock 1,.inLoop lN,.inBlock 0,.code rN]) (b₁.at a₁ (.inRegion dO (i₁::dQ)::k₁)::cs₁)) w:=by
 have e0:(i==0)=false:=by simpa using hi
 have hz:((cfg Mu Wg ty N J ro Anch).Zw k).sy Mu:=.inl (.inl rfl);subst yE yF yG yH;simp only [LL,REST,jQ,jU,kY,dW,dL,dS,dN,eO,dI,Tryz.f128,ak,reduceIte,Nat.reduceEqDiff,reduceCtorEq];refine fI hne (by simp) rfl rfl λs hs hm1 hm2 hnb=>?_
 obtain ⟨v,wt,sm,jn,dn,⟨mu,ms,c0,c1,ow⟩⟩:=s;simp only at hs hm1 hm2 hnb ⊢
 by_cases hq:mu=12
 ·subst hq;have hs:MuAt 97 Mu w 12 ms:=hs;refine .inr ⟨by simp,⟨if ws then .s1 else .t1,0,0,aw,sv,0,ws⟩,20,ms,_,w.setCell (muA Mu) (.int .i32 20),_,by simp [lT],by rw [e0];exact stepG_cas_hit rfl rfl (by k_ne) rfl Tryz.func127 kM kN kP .i32 kQ rfl rfl rfl hs.cellSt (hs.thaw 0),by simp,hs.setSt 20,Eff.set _ _ (.inl rfl),mo (C:=cfg Mu Wg ty N J ro Anch) (a:=muA Mu) (.inl rfl),?_⟩;replace hF:=hF.turn hb hs (hs.setSt 20) (Eff.set (muA Mu) _ (.inl rfl));generalize w.setCell (muA Mu) (.int .i32 20)=w₂ at hF ⊢;clear hs hm1 hm2 hnb;rw [e0];refine dG (n:=4) ?_
  walk_nrm;refine cZ λw₃ h₃=>YC hne hi hb hT (dD hz hF h₃) hws ?_ ?_ ?_ ?_
  all_goals simp only [LL,REST,jQ,jU,kY,dW,dL,dS,dN,eO,dI,Tryz.f128,ak,reduceIte,Nat.reduceEqDiff,reduceCtorEq]
 ·have hqi:((mu:Nat):Int)≠12:=by omega
  refine .inr ⟨by simp,⟨.r3,0,0,aw,sv,it,ws⟩,mu,ms,_,w,_,by simp [lT,hq],by rw [e0];exact stepG_cas_miss rfl rfl (by k_ne) rfl Tryz.func127 kM kN kP .i32 kQ rfl rfl rfl hs.cellSt (hs.thaw 0) hqi,by simp,hs,Eff.refl _,xz (C:=cfg Mu Wg ty N J ro Anch) (a:=muA Mu) (.inl rfl),?_⟩;clear hs hm1 hm2 hnb;rw [e0];refine dG (n:=4) ?_
  walk_nrm;refine cZ λw₃ h₃=>BP hne hi hb (dD hz hF h₃) hws ?_ ?_ ?_ ?_
  all_goals simp only [LL,REST,jQ,jU,kY,dW,dL,dS,dN,eO,dI,Tryz.f128,ak,reduceIte,Nat.reduceEqDiff,reduceCtorEq]
end
end Go.Proofs.Tryz
