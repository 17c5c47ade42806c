/- Part 13. -/
import Derived.Test.YtnemnkmojiljmaaGreatG12
set_option maxRecDepth 100000
set_option maxHeartbeats 0
set_option linter.all false
namespace Go.Proofs.Tryz
open Go Go.Conc Go.ConcN Go.ConcM Go.RowKit Go.Conc.Lib Go.ConcR.Gen Par
open Go.ConcR (KK wgBlock WgAt stA smA rd wr mk AtMkS)
section
variable {j1 j7 j8 j9 j10 j11 j12 j13 nV nW mE mF mG mH mJ nZ oh oo mK mM mO mP mQ mR mU mV mW mX qh qi qj ql qm qo qx qy qz qA qB qC qD qE qF qG qH qI qJ qK qL qM qN qO qP qQ qR qU qV qW qX qY qZ rq ru ry rz rA rC rD rE rF rG wo wu wz vN rH rJ rM rO rP rQ rR rT rU rV tJ rW rX rY sD rZ r9 si sj iB iC iD jH iE iF iG iH iI iJ iK iL iM iN iO iP iQ iR iT iU iV iW iX iY iZ ja jc jd je jf jg jh ji jk jl jm jo jq jr:Value}
variable {Mu Wg:Nat} {ty:TypeId} {N:Nat->Nat} {J:Nat->Nat->(Nat->Prop)->World->Prop} {ro:Nat->Prop} {Anch:(Nat->Prop)->Goroutine->World->Prop}
variable {own:Nat->Prop} {W0:World} {i k c:Nat} {b₁:Frame} {a₁:Act} {dO:Array Oper} {i₁:Nat} {dQ:List Nat} {k₁:List Item} {cs₁:List Frame}
theorem R9 (hne:Mu≠Wg) (hi:i≠0) (hb:Beside (cfg Mu Wg ty N J ro Anch) ((cfg Mu Wg ty N J ro Anch).Zw k) own) (hT:kH Mu Wg ty N J ro Anch own W0 i k c (G (b₁.at (a₁.put ((dO[i₁]?).bind (·.dst)) (.tuple #[])) (.inRegion dO dQ::k₁)) cs₁))
 {n:Nat} {it:Nat} {ws:Bool} {kG:Int} {w:World} (hF:KM 97 Mu ((cfg Mu Wg ty N J ro Anch).Zw k) own W0 w) (hws:ws=decide (kG≠0)):
 uq Tryz.prog (cfg Mu Wg ty N J ro Anch).sys (HX Mu Wg ty N J ro Anch own W0 i k c b₁ a₁ dO i₁ dQ k₁ cs₁) i (.bd k ⟨⟨.hd,0,0,false,false,it,ws⟩,c,n⟩) own (G ((base 128).at ⟨#[.pointer (some ⟨Mu,0,none⟩),j1,.int .i64 kG,.bool false,.bool false,.int .i64 (it:Nat),.int .i32 0,j7,j8,j9,j10,j11,j12,j13,nV,nW,mE,mF,mG,mH,mJ,nZ,oh,oo,mK,mM,mO,mP,mQ,mR,mU,mV,mW,mX,qh,qi,qj,ql,qm,qo,qx,qy,qz,qA,qB,qC,qD,qE,qF,qG,qH,qI,qJ,qK,qL,qM,qN,qO,qP,qQ,qR,qU,qV,qW,qX,qY,qZ,rq,ru,ry,rz,rA,rC,rD,rE,rF,rG,wo,wu,wz,vN,rH,rJ,rM,rO,rP,rQ,rR,rT,rU,rV,tJ,rW,rX,rY,sD,rZ,r9,si,sj,iB,iC,iD,jH,iE,iF,iG,iH,iI,iJ,iK,iL,iM,iN,iO,iP,iQ,iR,iT,iU,iV,iW,iX,iY,iZ,ja,jc,jd,je,jf,jg,jh,ji,jk,jl,jm,jo,jq,jr],[]⟩ [.code LL,.inLoop LL,.inBlock 0,.code REST]) (b₁.at a₁ (.inRegion dO (i₁::dQ)::k₁)::cs₁)) w:=by
 have e0:(i==0)=false:=by simpa using hi
 have hz:((cfg Mu Wg ty N J ro Anch).Zw k).sy Mu:=.inl (.inl rfl);simp only [LL,REST,jQ,jU,kY,dW,dL,dS,dN,eO,dI,Tryz.f128,ak,reduceIte,Nat.reduceEqDiff,reduceCtorEq];refine fI hne (by simp) rfl rfl λs hs hm1 hm2 hnb=>.inr ⟨by simp,_,_,_,_,w,#[],aS.2 rfl,by rw [e0];exact stepG_block,by simp,hs,Eff.refl _,(λe he=>by simp at he),?_⟩
 have e:vv 0 false false it ws=⟨.c2,0,1,false,false,it,ws⟩:=rfl;rw [e,e0];clear hs hm1 hm2 hnb e s;refine dG (n:=140) ?_
 repeat w_go (dD hz)
 try m_num
 repeat w_go (dD hz)
 refine cZ λw₃ h₃=>.stop λw₄ h₄=>.step (R6 hne hi hb hT (dD hz (dD hz hF h₃) h₄) hws ?_ ?_ ?_ ?_)
 all_goals simp only [LL,REST,jQ,jU,kY,dW,dL,dS,dN,eO,dI,Tryz.f128,ak,reduceIte,Nat.reduceEqDiff,reduceCtorEq]
theorem Sa (hne:Mu≠Wg) (hi:i≠0) (hb:Beside (cfg Mu Wg ty N J ro Anch) ((cfg Mu Wg ty N J ro Anch).Zw k) own) (hT:kH Mu Wg ty N J ro Anch own W0 i k c (G (b₁.at (a₁.put ((dO[i₁]?).bind (·.dst)) (.tuple #[])) (.inRegion dO dQ::k₁)) cs₁))
 {n:Nat} {it:Nat} {ws:Bool} {kG:Int} {w:World} (hF:KM 97 Mu ((cfg Mu Wg ty N J ro Anch).Zw k) own W0 w) (hws:ws=decide (kG≠0)):
 uq Tryz.prog (cfg Mu Wg ty N J ro Anch).sys (HX Mu Wg ty N J ro Anch own W0 i k c b₁ a₁ dO i₁ dQ k₁ cs₁) i (.bd k ⟨⟨.hd,2,0,false,false,it,ws⟩,c,n⟩) own (G ((base 128).at ⟨#[.pointer (some ⟨Mu,0,none⟩),j1,.int .i64 kG,.bool false,.bool false,.int .i64 (it:Nat),.int .i32 2,j7,j8,j9,j10,j11,j12,j13,nV,nW,mE,mF,mG,mH,mJ,nZ,oh,oo,mK,mM,mO,mP,mQ,mR,mU,mV,mW,mX,qh,qi,qj,ql,qm,qo,qx,qy,qz,qA,qB,qC,qD,qE,qF,qG,qH,qI,qJ,qK,qL,qM,qN,qO,qP,qQ,qR,qU,qV,qW,qX,qY,qZ,rq,ru,ry,rz,rA,rC,rD,rE,rF,rG,wo,wu,wz,vN,rH,rJ,rM,rO,rP,rQ,rR,rT,rU,rV,tJ,rW,rX,rY,sD,rZ,r9,si,sj,iB,iC,iD,jH,iE,iF,iG,iH,iI,iJ,iK,iL,iM,iN,iO,iP,iQ,iR,iT,iU,iV,iW,iX,iY,iZ,ja,jc,jd,je,jf,jg,jh,ji,jk,jl,jm,jo,jq,jr],[]⟩ [.code LL,.inLoop LL,.inBlock 0,.code REST]) (b₁.at a₁ (.inRegion dO (i₁::dQ)::k₁)::cs₁)) w:=by
 have e0:(i==0)=false:=by simpa using hi
 have hz:((cfg Mu Wg ty N J ro Anch).Zw k).sy Mu:=.inl (.inl rfl);simp only [LL,REST,jQ,jU,kY,dW,dL,dS,dN,eO,dI,Tryz.f128,ak,reduceIte,Nat.reduceEqDiff,reduceCtorEq];refine fI hne (by simp) rfl rfl λs hs hm1 hm2 hnb=>.inr ⟨by simp,_,_,_,_,w,#[],aS.2 rfl,by rw [e0];exact stepG_block,by simp,hs,Eff.refl _,(λe he=>by simp at he),?_⟩
 have e:vv 2 false false it ws=⟨.c2,2,3,false,false,it,ws⟩:=rfl;rw [e,e0];clear hs hm1 hm2 hnb e s;refine dG (n:=140) ?_
 repeat w_go (dD hz)
 try m_num
 repeat w_go (dD hz)
 refine cZ λw₃ h₃=>.stop λw₄ h₄=>.step (R8 hne hi hb hT (dD hz (dD hz hF h₃) h₄) hws ?_ ?_ ?_ ?_)
 all_goals simp only [LL,REST,jQ,jU,kY,dW,dL,dS,dN,eO,dI,Tryz.f128,ak,reduceIte,Nat.reduceEqDiff,reduceCtorEq]
theorem Sc (hne:Mu≠Wg) (hi:i≠0) (hb:Beside (cfg Mu Wg ty N J ro Anch) ((cfg Mu Wg ty N J ro Anch).Zw k) own) (hT:kH Mu Wg ty N J ro Anch own W0 i k c (G (b₁.at (a₁.put ((dO[i₁]?).bind (·.dst)) (.tuple #[])) (.inRegion dO dQ::k₁)) cs₁))
 {n:Nat} {it:Nat} {ws:Bool} {kG:Int} {w:World} (hF:KM 97 Mu ((cfg Mu Wg ty N J ro Anch).Zw k) own W0 w) (hws:ws=decide (kG≠0)):
 uq Tryz.prog (cfg Mu Wg ty N J ro Anch).sys (HX Mu Wg ty N J ro Anch own W0 i k c b₁ a₁ dO i₁ dQ k₁ cs₁) i (.bd k ⟨⟨.hd,2,0,true,false,it,ws⟩,c,n⟩) own (G ((base 128).at ⟨#[.pointer (some ⟨Mu,0,none⟩),j1,.int .i64 kG,.bool false,.bool true,.int .i64 (it:Nat),.int .i32 2,j7,j8,j9,j10,j11,j12,j13,nV,nW,mE,mF,mG,mH,mJ,nZ,oh,oo,mK,mM,mO,mP,mQ,mR,mU,mV,mW,mX,qh,qi,qj,ql,qm,qo,qx,qy,qz,qA,qB,qC,qD,qE,qF,qG,qH,qI,qJ,qK,qL,qM,qN,qO,qP,qQ,qR,qU,qV,qW,qX,qY,qZ,rq,ru,ry,rz,rA,rC,rD,rE,rF,rG,wo,wu,wz,vN,rH,rJ,rM,rO,rP,rQ,rR,rT,rU,rV,tJ,rW,rX,rY,sD,rZ,r9,si,sj,iB,iC,iD,jH,iE,iF,iG,iH,iI,iJ,iK,iL,iM,iN,iO,iP,iQ,iR,iT,iU,iV,iW,iX,iY,iZ,ja,jc,jd,je,jf,jg,jh,ji,jk,jl,jm,jo,jq,jr],[]⟩ [.code LL,.inLoop LL,.inBlock 0,.code REST]) (b₁.at a₁ (.inRegion dO (i₁::dQ)::k₁)::cs₁)) w:=by
 have e0:(i==0)=false:=by simpa using hi
 have hz:((cfg Mu Wg ty N J ro Anch).Zw k).sy Mu:=.inl (.inl rfl);simp only [LL,REST,jQ,jU,kY,dW,dL,dS,dN,eO,dI,Tryz.f128,ak,reduceIte,Nat.reduceEqDiff,reduceCtorEq];refine fI hne (by simp) rfl rfl λs hs hm1 hm2 hnb=>.inr ⟨by simp,_,_,_,_,w,#[],aS.2 rfl,by rw [e0];exact stepG_block,by simp,hs,Eff.refl _,(λe he=>by simp at he),?_⟩
 have e:vv 2 true false it ws=⟨.c2,2,1,true,false,it,ws⟩:=rfl;rw [e,e0];clear hs hm1 hm2 hnb e s;refine dG (n:=140) ?_
 repeat w_go (dD hz)
 try m_num
 repeat w_go (dD hz)
 refine cZ λw₃ h₃=>.stop λw₄ h₄=>.step (JJ hne hi hb hT (dD hz (dD hz hF h₃) h₄) hws ?_ ?_ ?_ ?_)
 all_goals simp only [LL,REST,jQ,jU,kY,dW,dL,dS,dN,eO,dI,Tryz.f128,ak,reduceIte,Nat.reduceEqDiff,reduceCtorEq]
theorem Sd (hne:Mu≠Wg) (hi:i≠0) (hb:Beside (cfg Mu Wg ty N J ro Anch) ((cfg Mu Wg ty N J ro Anch).Zw k) own) (hT:kH Mu Wg ty N J ro Anch own W0 i k c (G (b₁.at (a₁.put ((dO[i₁]?).bind (·.dst)) (.tuple #[])) (.inRegion dO dQ::k₁)) cs₁))
 {n:Nat} {it:Nat} {ws:Bool} {kG:Int} {w:World} (hF:KM 97 Mu ((cfg Mu Wg ty N J ro Anch).Zw k) own W0 w) (hws:ws=decide (kG≠0)):
 uq Tryz.prog (cfg Mu Wg ty N J ro Anch).sys (HX Mu Wg ty N J ro Anch own W0 i k c b₁ a₁ dO i₁ dQ k₁ cs₁) i (.bd k ⟨⟨.hd,2,0,true,true,it,ws⟩,c,n⟩) own (G ((base 128).at ⟨#[.pointer (some ⟨Mu,0,none⟩),j1,.int .i64 kG,.bool true,.bool true,.int .i64 (it:Nat),.int .i32 2,j7,j8,j9,j10,j11,j12,j13,nV,nW,mE,mF,mG,mH,mJ,nZ,oh,oo,mK,mM,mO,mP,mQ,mR,mU,mV,mW,mX,qh,qi,qj,ql,qm,qo,qx,qy,qz,qA,qB,qC,qD,qE,qF,qG,qH,qI,qJ,qK,qL,qM,qN,qO,qP,qQ,qR,qU,qV,qW,qX,qY,qZ,rq,ru,ry,rz,rA,rC,rD,rE,rF,rG,wo,wu,wz,vN,rH,rJ,rM,rO,rP,rQ,rR,rT,rU,rV,tJ,rW,rX,rY,sD,rZ,r9,si,sj,iB,iC,iD,jH,iE,iF,iG,iH,iI,iJ,iK,iL,iM,iN,iO,iP,iQ,iR,iT,iU,iV,iW,iX,iY,iZ,ja,jc,jd,je,jf,jg,jh,ji,jk,jl,jm,jo,jq,jr],[]⟩ [.code LL,.inLoop LL,.inBlock 0,.code REST]) (b₁.at a₁ (.inRegion dO (i₁::dQ)::k₁)::cs₁)) w:=by
 have e0:(i==0)=false:=by simpa using hi
 have hz:((cfg Mu Wg ty N J ro Anch).Zw k).sy Mu:=.inl (.inl rfl);simp only [LL,REST,jQ,jU,kY,dW,dL,dS,dN,eO,dI,Tryz.f128,ak,reduceIte,Nat.reduceEqDiff,reduceCtorEq];refine fI hne (by simp) rfl rfl λs hs hm1 hm2 hnb=>.inr ⟨by simp,_,_,_,_,w,#[],aS.2 rfl,by rw [e0];exact stepG_block,by simp,hs,Eff.refl _,(λe he=>by simp at he),?_⟩
 have e:vv 2 true true it ws=⟨.c2,2,1,true,true,it,ws⟩:=rfl;rw [e,e0];clear hs hm1 hm2 hnb e s;refine dG (n:=140) ?_
 repeat w_go (dD hz)
 try m_num
 repeat w_go (dD hz)
 refine cZ λw₃ h₃=>.stop λw₄ h₄=>.step (JJ hne hi hb hT (dD hz (dD hz hF h₃) h₄) hws ?_ ?_ ?_ ?_)
 all_goals simp only [LL,REST,jQ,jU,kY,dW,dL,dS,dN,eO,dI,Tryz.f128,ak,reduceIte,Nat.reduceEqDiff,reduceCtorEq]
theorem OE (hne:Mu≠Wg) (hi:i≠0) (hb:Beside (cfg Mu Wg ty N J ro Anch) ((cfg Mu Wg ty N J ro Anch).Zw k) own) (hT:kH Mu Wg ty N J ro Anch own W0 i k c (G (b₁.at (a₁.put ((dO[i₁]?).bind (·.dst)) (.tuple #[])) (.inRegion dO dQ::k₁)) cs₁))
 {n:Nat} {it:Nat} {ws:Bool} {kG:Int} {w:World} (hF:KM 97 Mu ((cfg Mu Wg ty N J ro Anch).Zw k) own W0 w) (hws:ws=decide (kG≠0)):
 uq Tryz.prog (cfg Mu Wg ty N J ro Anch).sys (HX Mu Wg ty N J ro Anch own W0 i k c b₁ a₁ dO i₁ dQ k₁ cs₁) i (.bd k ⟨⟨.hd,12,0,false,false,it,ws⟩,c,n⟩) own (G ((base 128).at ⟨#[.pointer (some ⟨Mu,0,none⟩),j1,.int .i64 kG,.bool false,.bool false,.int .i64 (it:Nat),.int .i32 12,j7,j8,j9,j10,j11,j12,j13,nV,nW,mE,mF,mG,mH,mJ,nZ,oh,oo,mK,mM,mO,mP,mQ,mR,mU,mV,mW,mX,qh,qi,qj,ql,qm,qo,qx,qy,qz,qA,qB,qC,qD,qE,qF,qG,qH,qI,qJ,qK,qL,qM,qN,qO,qP,qQ,qR,qU,qV,qW,qX,qY,qZ,rq,ru,ry,rz,rA,rC,rD,rE,rF,rG,wo,wu,wz,vN,rH,rJ,rM,rO,rP,rQ,rR,rT,rU,rV,tJ,rW,rX,rY,sD,rZ,r9,si,sj,iB,iC,iD,jH,iE,iF,iG,iH,iI,iJ,iK,iL,iM,iN,iO,iP,iQ,iR,iT,iU,iV,iW,iX,iY,iZ,ja,jc,jd,je,jf,jg,jh,ji,jk,jl,jm,jo,jq,jr],[]⟩ [.code LL,.inLoop LL,.inBlock 0,.code REST]) (b₁.at a₁ (.inRegion dO (i₁::dQ)::k₁)::cs₁)) w:=by
 have e0:(i==0)=false:=by simpa using hi
 have hz:((cfg Mu Wg ty N J ro Anch).Zw k).sy Mu:=.inl (.inl rfl);simp only [LL,REST,jQ,jU,kY,dW,dL,dS,dN,eO,dI,Tryz.f128,ak,reduceIte,Nat.reduceEqDiff,reduceCtorEq];refine fI hne (by simp) rfl rfl λs hs hm1 hm2 hnb=>.inr ⟨by simp,_,_,_,_,w,#[],aS.2 rfl,by rw [e0];exact stepG_block,by simp,hs,Eff.refl _,(λe he=>by simp at he),?_⟩
 have e:vv 12 false false it ws=⟨.c2,12,20,false,false,it,ws⟩:=rfl;rw [e,e0];clear hs hm1 hm2 hnb e s;refine dG (n:=140) ?_
 repeat w_go (dD hz)
 try m_num
 repeat w_go (dD hz)
 refine cZ λw₃ h₃=>.stop λw₄ h₄=>.step (MM hne hi hb hT (dD hz (dD hz hF h₃) h₄) hws ?_ ?_ ?_ ?_)
 all_goals simp only [LL,REST,jQ,jU,kY,dW,dL,dS,dN,eO,dI,Tryz.f128,ak,reduceIte,Nat.reduceEqDiff,reduceCtorEq]
end
end Go.Proofs.Tryz
