/- Part 11. -/
import Derived.Test.YtnemnkmojiljmaaGreatG10
set_option maxRecDepth 100000
set_option maxHeartbeats 0
set_option linter.all false
namespace Go.Proofs.Tryz
open Go Go.Conc Go.ConcN Go.ConcM Go.RowKit Go.Conc.Lib Go.ConcR.Gen Par
open Go.ConcR (KK wgBlock WgAt stA smA rd wr mk AtMkS)
section
variable {j1 j6 j7 j8 j9 j10 j11 j12 j13 nV nW mE mF mG mH mJ nZ oh oo mK mM mO mP mQ mR mU mV mW mX qh qi qj ql qm qo qx qy qz qA qB qC qD qE qF qG qH qI qJ qK qL qM qN qO qP qQ qR qU qV qW qX qY qZ rq ru ry rz rA rC rD rE rF rG wo wu wz vN rH rJ rM rO rP rQ rR rT rU rV tJ rW rX rY sD rZ r9 si sj iB iC iD jH iE iF iG iH iI iJ iK iL iM iN iO iP iQ iR iT iU iV iW iX iY iZ ja jc jd je jf jg jh ji jk jl jm jo jq jr:Value}
variable {Mu Wg:Nat} {ty:TypeId} {N:Nat->Nat} {J:Nat->Nat->(Nat->Prop)->World->Prop} {ro:Nat->Prop} {Anch:(Nat->Prop)->Goroutine->World->Prop}
variable {own:Nat->Prop} {W0:World} {i k c:Nat} {b₁:Frame} {a₁:Act} {dO:Array Oper} {i₁:Nat} {dQ:List Nat} {k₁:List Item} {cs₁:List Frame}
theorem ap6 (hne:Mu≠Wg) (hi:i≠0) (hb:Beside (cfg Mu Wg ty N J ro Anch) ((cfg Mu Wg ty N J ro Anch).Zw k) own) (hT:kH Mu Wg ty N J ro Anch own W0 i k c (G (b₁.at (a₁.put ((dO[i₁]?).bind (·.dst)) (.tuple #[])) (.inRegion dO dQ::k₁)) cs₁))
 {n:Nat} {it:Nat} {aw ws:Bool} {kG:Int} {oN:Array Oper} {aN lN rN:Code} {w:World} (hF:KM 97 Mu ((cfg Mu Wg ty N J ro Anch).Zw k) own W0 w) (hws:ws=decide (kG≠0)) (yE:oN=jQ 28) (yF:aN=jU 28) (yG:lN=LL) (yH:rN=REST):
 uq Tryz.prog (cfg Mu Wg ty N J ro Anch).sys (HX Mu Wg ty N J ro Anch own W0 i k c b₁ a₁ dO i₁ dQ k₁ cs₁) i (.bd k ⟨⟨.t2,0,0,aw,false,0,ws⟩,c,n⟩) own (G ((base 128).at ⟨#[.pointer (some ⟨Mu,0,none⟩),j1,.int .i64 kG,.bool false,.bool aw,.int .i64 (it:Nat),j6,j7,j8,j9,j10,j11,j12,j13,nV,nW,mE,mF,mG,mH,mJ,nZ,oh,oo,mK,mM,mO,mP,mQ,mR,mU,mV,mW,mX,qh,qi,qj,ql,qm,qo,qx,qy,qz,qA,qB,qC,qD,qE,qF,qG,qH,qI,qJ,qK,qL,qM,qN,qO,qP,qQ,qR,qU,qV,qW,qX,qY,qZ,rq,ru,ry,rz,rA,rC,rD,rE,rF,rG,wo,wu,wz,vN,rH,rJ,rM,rO,rP,rQ,rR,rT,rU,rV,tJ,rW,rX,rY,.bool false,rZ,r9,si,sj,iB,iC,iD,jH,iE,iF,iG,iH,iI,iJ,iK,iL,iM,iN,iO,iP,iQ,iR,iT,iU,iV,iW,iX,iY,iZ,ja,jc,jd,je,jf,jg,jh,ji,jk,jl,jm,jo,jq,jr],[]⟩ [.inRegion oN [2,3,4,5,6,7],.code aN,.inBlock 1,.inLoop lN,.inBlock 0,.code rN]) (b₁.at a₁ (.inRegion dO (i₁::dQ)::k₁)::cs₁)) w:=by
 have e0:(i==0)=false:=by simpa using hi
 have hz:((cfg Mu Wg ty N J ro Anch).Zw k).sy Mu:=.inl (.inl rfl);subst yE yF yG yH;simp only [LL,REST,jQ,jU,kY,dW,dL,dS,dN,eO,dI,Tryz.f128,ak,reduceIte,Nat.reduceEqDiff,reduceCtorEq];refine fI hne (by simp) rfl rfl λs hs hm1 hm2 hnb=>?_
 rcases hB:decide (1000000<IntKind.i64.wrap (((w.os.mono+w.tick:Nat):Int) - kG)) with _|_
 ·refine .inr ⟨by simp,⟨.r2,0,0,aw,false,0,ws⟩,s.b.mu,s.b.ms,_,w.later,#[],by simp [lT],by rw [e0];exact stepG_nanotime rfl rfl (by k_ne) rfl Tryz.func139 xH xI xJ xK xL,by simp,hs,Eff.later _,(λe he=>by simp at he),?_⟩;replace hF:KM 97 Mu ((cfg Mu Wg ty N J ro Anch).Zw k) own W0 w.later:=hF.turn hb hs hs (Eff.later w);clear hs hm1 hm2 hnb;rw [e0];generalize hwl:w.later=wl at hF ⊢;generalize ((w.os.mono+w.tick:Nat):Int)=tv at hB ⊢;clear hwl;refine dG (n:=60) ?_
  walk_nrm
  repeat w_go (dD hz)
  try simp only [hB]
  repeat w_go (dD hz)
  refine cZ λw₃ h₃=>.stop λw₄ h₄=>.step (af2 hne hi hb hT (dD hz (dD hz hF h₃) h₄) hws ?_ ?_ ?_ ?_)
  all_goals simp only [LL,REST,jQ,jU,kY,dW,dL,dS,dN,eO,dI,Tryz.f128,ak,reduceIte,Nat.reduceEqDiff,reduceCtorEq]
 ·refine .inr ⟨by simp,⟨.r2,0,0,aw,true,0,ws⟩,s.b.mu,s.b.ms,_,w.later,#[],by simp [lT],by rw [e0];exact stepG_nanotime rfl rfl (by k_ne) rfl Tryz.func139 xH xI xJ xK xL,by simp,hs,Eff.later _,(λe he=>by simp at he),?_⟩;replace hF:KM 97 Mu ((cfg Mu Wg ty N J ro Anch).Zw k) own W0 w.later:=hF.turn hb hs hs (Eff.later w);clear hs hm1 hm2 hnb;rw [e0];generalize hwl:w.later=wl at hF ⊢;generalize ((w.os.mono+w.tick:Nat):Int)=tv at hB ⊢;clear hwl;refine dG (n:=60) ?_
  walk_nrm
  repeat w_go (dD hz)
  try simp only [hB]
  repeat w_go (dD hz)
  refine cZ λw₃ h₃=>.stop λw₄ h₄=>.step (Vl hne hi hb hT (dD hz (dD hz hF h₃) h₄) hws ?_ ?_ ?_ ?_)
  all_goals simp only [LL,REST,jQ,jU,kY,dW,dL,dS,dN,eO,dI,Tryz.f128,ak,reduceIte,Nat.reduceEqDiff,reduceCtorEq]
theorem G7 (hne:Mu≠Wg) (hi:i≠0) (hb:Beside (cfg Mu Wg ty N J ro Anch) ((cfg Mu Wg ty N J ro Anch).Zw k) own) (hT:kH Mu Wg ty N J ro Anch own W0 i k c (G (b₁.at (a₁.put ((dO[i₁]?).bind (·.dst)) (.tuple #[])) (.inRegion dO dQ::k₁)) cs₁))
 {n:Nat} {it:Nat} {aw ws:Bool} {kG:Int} {oN:Array Oper} {aN lN rN:Code} {w:World} (hF:KM 97 Mu ((cfg Mu Wg ty N J ro Anch).Zw k) own W0 w) (hws:ws=decide (kG≠0)) (yE:oN=jQ 27) (yF:aN=jU 27) (yG:lN=LL) (yH:rN=REST):
 uq Tryz.prog (cfg Mu Wg ty N J ro Anch).sys (HX Mu Wg ty N J ro Anch own W0 i k c b₁ a₁ dO i₁ dQ k₁ cs₁) i (.bd k ⟨⟨.s1,0,0,aw,false,0,ws⟩,c,n⟩) own (G ((base 128).at ⟨#[.pointer (some ⟨Mu,0,none⟩),j1,.int .i64 kG,.bool false,.bool aw,.int .i64 (it:Nat),j6,j7,j8,j9,j10,j11,j12,j13,nV,nW,mE,mF,mG,mH,mJ,nZ,oh,oo,mK,mM,mO,mP,mQ,mR,mU,mV,mW,mX,qh,qi,qj,ql,qm,qo,qx,qy,qz,qA,qB,qC,qD,qE,qF,qG,qH,qI,qJ,qK,qL,qM,qN,qO,qP,qQ,qR,qU,qV,qW,qX,qY,qZ,rq,ru,ry,rz,rA,rC,rD,rE,rF,rG,wo,wu,wz,vN,rH,rJ,rM,rO,rP,rQ,rR,rT,rU,rV,.pointer (some (msA Mu)),rW,rX,rY,sD,rZ,r9,si,sj,iB,iC,iD,jH,iE,iF,iG,iH,iI,iJ,iK,iL,iM,iN,iO,iP,iQ,iR,iT,iU,iV,iW,iX,iY,iZ,ja,jc,jd,je,jf,jg,jh,ji,jk,jl,jm,jo,jq,jr],[]⟩ [.inRegion oN [4],.code aN,.inBlock 1,.inLoop lN,.inBlock 0,.code rN]) (b₁.at a₁ (.inRegion dO (i₁::dQ)::k₁)::cs₁)) w:=by
 have e0:(i==0)=false:=by simpa using hi
 have hz:((cfg Mu Wg ty N J ro Anch).Zw k).sy Mu:=.inl (.inl rfl);subst yE yF yG yH;simp only [LL,REST,jQ,jU,kY,dW,dL,dS,dN,eO,dI,Tryz.f128,ak,reduceIte,Nat.reduceEqDiff,reduceCtorEq];refine fI hne (by simp) rfl rfl λs hs hm1 hm2 hnb=>?_
 obtain ⟨v,wt,sm,jn,dn,⟨mu,ms,c0,c1,ow⟩⟩:=s;simp only at hs hm1 hm2 hnb ⊢;rcases ms with _|_|ms
 ·exact .inl ⟨⟨by simp,by simp⟩,by rw [e0];exact stepG_semacquire_wait rfl rfl rfl Tryz.func140 yx yA yB yC (by simp [Act.eval,msA]) hs.cellSm⟩
 ·have hs:MuAt 97 Mu w mu 1:=hs;refine .inr ⟨by simp,⟨.t2,0,0,aw,false,0,ws⟩,mu,0,_,w.setCell (msA Mu) (.int .u32 (1 - 1)),_,by simp [lT],by rw [e0];exact stepG_semacquire rfl rfl (by k_ne) rfl Tryz.func140 yx yA yB yC (by simp [Act.eval,msA]) hs.cellSm (by decide) (hs.thaw 1),by simp,hs.setSm (1 - 1),Eff.set _ _ (.inl rfl),⟨msA Mu,.inl rfl,rfl⟩,?_⟩;replace hF:=hF.turn hb hs (hs.setSm (1 - 1)) (Eff.set (msA Mu) _ (.inl rfl));generalize w.setCell (msA Mu) (.int .u32 (1 - 1))=w₂ at hF ⊢;clear hs hm1 hm2 hnb;rw [e0];refine dG (n:=60) ?_
  walk_nrm
  repeat w_go (dD hz)
  refine cZ λw₃ h₃=>.stop λw₄ h₄=>.step (ap6 hne hi hb hT (dD hz (dD hz hF h₃) h₄) hws ?_ ?_ ?_ ?_)
  all_goals simp only [LL,REST,jQ,jU,kY,dW,dL,dS,dN,eO,dI,Tryz.f128,ak,reduceIte,Nat.reduceEqDiff,reduceCtorEq]
 ·omega
theorem G8 (hne:Mu≠Wg) (hi:i≠0) (hb:Beside (cfg Mu Wg ty N J ro Anch) ((cfg Mu Wg ty N J ro Anch).Zw k) own) (hT:kH Mu Wg ty N J ro Anch own W0 i k c (G (b₁.at (a₁.put ((dO[i₁]?).bind (·.dst)) (.tuple #[])) (.inRegion dO dQ::k₁)) cs₁))
 {n:Nat} {it:Nat} {aw ws:Bool} {kG:Int} {oN:Array Oper} {aN lN rN:Code} {w:World} (hF:KM 97 Mu ((cfg Mu Wg ty N J ro Anch).Zw k) own W0 w) (hws:ws=decide (kG≠0)) (yE:oN=jQ 27) (yF:aN=jU 27) (yG:lN=LL) (yH:rN=REST):
 uq Tryz.prog (cfg Mu Wg ty N J ro Anch).sys (HX Mu Wg ty N J ro Anch own W0 i k c b₁ a₁ dO i₁ dQ k₁ cs₁) i (.bd k ⟨⟨.s1,0,0,aw,true,0,ws⟩,c,n⟩) own (G ((base 128).at ⟨#[.pointer (some ⟨Mu,0,none⟩),j1,.int .i64 kG,.bool true,.bool aw,.int .i64 (it:Nat),j6,j7,j8,j9,j10,j11,j12,j13,nV,nW,mE,mF,mG,mH,mJ,nZ,oh,oo,mK,mM,mO,mP,mQ,mR,mU,mV,mW,mX,qh,qi,qj,ql,qm,qo,qx,qy,qz,qA,qB,qC,qD,qE,qF,qG,qH,qI,qJ,qK,qL,qM,qN,qO,qP,qQ,qR,qU,qV,qW,qX,qY,qZ,rq,ru,ry,rz,rA,rC,rD,rE,rF,rG,wo,wu,wz,vN,rH,rJ,rM,rO,rP,rQ,rR,rT,rU,rV,.pointer (some (msA Mu)),rW,rX,rY,sD,rZ,r9,si,sj,iB,iC,iD,jH,iE,iF,iG,iH,iI,iJ,iK,iL,iM,iN,iO,iP,iQ,iR,iT,iU,iV,iW,iX,iY,iZ,ja,jc,jd,je,jf,jg,jh,ji,jk,jl,jm,jo,jq,jr],[]⟩ [.inRegion oN [4],.code aN,.inBlock 1,.inLoop lN,.inBlock 0,.code rN]) (b₁.at a₁ (.inRegion dO (i₁::dQ)::k₁)::cs₁)) w:=by
 have e0:(i==0)=false:=by simpa using hi
 have hz:((cfg Mu Wg ty N J ro Anch).Zw k).sy Mu:=.inl (.inl rfl);subst yE yF yG yH;simp only [LL,REST,jQ,jU,kY,dW,dL,dS,dN,eO,dI,Tryz.f128,ak,reduceIte,Nat.reduceEqDiff,reduceCtorEq];refine fI hne (by simp) rfl rfl λs hs hm1 hm2 hnb=>?_
 obtain ⟨v,wt,sm,jn,dn,⟨mu,ms,c0,c1,ow⟩⟩:=s;simp only at hs hm1 hm2 hnb ⊢;rcases ms with _|_|ms
 ·exact .inl ⟨⟨by simp,by simp⟩,by rw [e0];exact stepG_semacquire_wait rfl rfl rfl Tryz.func140 yx yA yB yC (by simp [Act.eval,msA]) hs.cellSm⟩
 ·have hs:MuAt 97 Mu w mu 1:=hs;refine .inr ⟨by simp,⟨.r2,0,0,aw,true,0,ws⟩,mu,0,_,w.setCell (msA Mu) (.int .u32 (1 - 1)),_,by simp [lT],by rw [e0];exact stepG_semacquire rfl rfl (by k_ne) rfl Tryz.func140 yx yA yB yC (by simp [Act.eval,msA]) hs.cellSm (by decide) (hs.thaw 1),by simp,hs.setSm (1 - 1),Eff.set _ _ (.inl rfl),⟨msA Mu,.inl rfl,rfl⟩,?_⟩;replace hF:=hF.turn hb hs (hs.setSm (1 - 1)) (Eff.set (msA Mu) _ (.inl rfl));generalize w.setCell (msA Mu) (.int .u32 (1 - 1))=w₂ at hF ⊢;clear hs hm1 hm2 hnb;rw [e0];refine dG (n:=60) ?_
  walk_nrm
  repeat w_go (dD hz)
  refine cZ λw₃ h₃=>.stop λw₄ h₄=>.step (Vl hne hi hb hT (dD hz (dD hz hF h₃) h₄) hws ?_ ?_ ?_ ?_)
  all_goals simp only [LL,REST,jQ,jU,kY,dW,dL,dS,dN,eO,dI,Tryz.f128,ak,reduceIte,Nat.reduceEqDiff,reduceCtorEq]
 ·omega
theorem OC (hne:Mu≠Wg) (hi:i≠0) (hb:Beside (cfg Mu Wg ty N J ro Anch) ((cfg Mu Wg ty N J ro Anch).Zw k) own) (hT:kH Mu Wg ty N J ro Anch own W0 i k c (G (b₁.at (a₁.put ((dO[i₁]?).bind (·.dst)) (.tuple #[])) (.inRegion dO dQ::k₁)) cs₁))
 {n:Nat} {it:Nat} {aw:Bool} {oN:Array Oper} {aN lN rN:Code} {w:World} (hF:KM 97 Mu ((cfg Mu Wg ty N J ro Anch).Zw k) own W0 w) (yE:oN=jQ 26) (yF:aN=kY 27) (yG:lN=LL) (yH:rN=REST):
 uq Tryz.prog (cfg Mu Wg ty N J ro Anch).sys (HX Mu Wg ty N J ro Anch own W0 i k c b₁ a₁ dO i₁ dQ k₁ cs₁) i (.bd k ⟨⟨.t1,0,0,aw,false,0,false⟩,c,n⟩) own (G ((base 128).at ⟨#[.pointer (some ⟨Mu,0,none⟩),j1,.int .i64 0,.bool false,.bool aw,.int .i64 (it:Nat),j6,j7,j8,j9,j10,j11,j12,j13,nV,nW,mE,mF,mG,mH,mJ,nZ,oh,oo,mK,mM,mO,mP,mQ,mR,mU,mV,mW,mX,qh,qi,qj,ql,qm,qo,qx,qy,qz,qA,qB,qC,qD,qE,qF,qG,qH,qI,qJ,qK,qL,qM,qN,qO,qP,qQ,qR,qU,qV,qW,qX,qY,qZ,rq,ru,ry,rz,rA,rC,rD,rE,rF,rG,wo,wu,wz,vN,rH,rJ,rM,rO,rP,rQ,rR,rT,rU,rV,tJ,rW,rX,rY,sD,rZ,r9,si,sj,iB,iC,iD,jH,iE,iF,iG,iH,iI,iJ,iK,iL,iM,iN,iO,iP,iQ,iR,iT,iU,iV,iW,iX,iY,iZ,ja,jc,jd,je,jf,jg,jh,ji,jk,jl,jm,jo,jq,jr],[]⟩ [.inRegion oN [0,1],.code aN,.inBlock 1,.inLoop lN,.inBlock 0,.code rN]) (b₁.at a₁ (.inRegion dO (i₁::dQ)::k₁)::cs₁)) w:=by
 have e0:(i==0)=false:=by simpa using hi
 have hz:((cfg Mu Wg ty N J ro Anch).Zw k).sy Mu:=.inl (.inl rfl);subst yE yF yG yH;simp only [LL,REST,jQ,jU,kY,dW,dL,dS,dN,eO,dI,Tryz.f128,ak,reduceIte,Nat.reduceEqDiff,reduceCtorEq];refine fI hne (by simp) rfl rfl λs hs hm1 hm2 hnb=>?_
 rcases hB:decide (((w.os.mono+w.tick:Nat):Int)≠0) with _|_
 ·refine .inr ⟨by simp,⟨.s1,0,0,aw,false,0,false⟩,s.b.mu,s.b.ms,_,w.later,#[],by simp [lT],by rw [e0];exact stepG_nanotime rfl rfl (by k_ne) rfl Tryz.func139 xH xI xJ xK xL,by simp,hs,Eff.later _,(λe he=>by simp at he),?_⟩;replace hF:KM 97 Mu ((cfg Mu Wg ty N J ro Anch).Zw k) own W0 w.later:=hF.turn hb hs hs (Eff.later w);clear hs hm1 hm2 hnb;rw [e0];generalize hwl:w.later=wl at hF ⊢;generalize ((w.os.mono+w.tick:Nat):Int)=tv at hB ⊢;clear hwl;refine dG (n:=60) ?_
  walk_nrm
  repeat w_go (dD hz)
  have hws:=hB.symm;refine cZ λw₃ h₃=>.stop λw₄ h₄=>.step (G7 hne hi hb hT (dD hz (dD hz hF h₃) h₄) hws ?_ ?_ ?_ ?_)
  all_goals simp only [LL,REST,jQ,jU,kY,dW,dL,dS,dN,eO,dI,Tryz.f128,ak,reduceIte,Nat.reduceEqDiff,reduceCtorEq]
 ·refine .inr ⟨by simp,⟨.s1,0,0,aw,false,0,true⟩,s.b.mu,s.b.ms,_,w.later,#[],by simp [lT],by rw [e0];exact stepG_nanotime rfl rfl (by k_ne) rfl Tryz.func139 xH xI xJ xK xL,by simp,hs,Eff.later _,(λe he=>by simp at he),?_⟩;replace hF:KM 97 Mu ((cfg Mu Wg ty N J ro Anch).Zw k) own W0 w.later:=hF.turn hb hs hs (Eff.later w);clear hs hm1 hm2 hnb;rw [e0];generalize hwl:w.later=wl at hF ⊢;generalize ((w.os.mono+w.tick:Nat):Int)=tv at hB ⊢;clear hwl;refine dG (n:=60) ?_
  walk_nrm
  repeat w_go (dD hz)
  have hws:=hB.symm;refine cZ λw₃ h₃=>.stop λw₄ h₄=>.step (G7 hne hi hb hT (dD hz (dD hz hF h₃) h₄) hws ?_ ?_ ?_ ?_)
  all_goals simp only [LL,REST,jQ,jU,kY,dW,dL,dS,dN,eO,dI,Tryz.f128,ak,reduceIte,Nat.reduceEqDiff,reduceCtorEq]
theorem OD (hne:Mu≠Wg) (hi:i≠0) (hb:Beside (cfg Mu Wg ty N J ro Anch) ((cfg Mu Wg ty N J ro Anch).Zw k) own) (hT:kH Mu Wg ty N J ro Anch own W0 i k c (G (b₁.at (a₁.put ((dO[i₁]?).bind (·.dst)) (.tuple #[])) (.inRegion dO dQ::k₁)) cs₁))
 {n:Nat} {it:Nat} {aw:Bool} {oN:Array Oper} {aN lN rN:Code} {w:World} (hF:KM 97 Mu ((cfg Mu Wg ty N J ro Anch).Zw k) own W0 w) (yE:oN=jQ 26) (yF:aN=kY 27) (yG:lN=LL) (yH:rN=REST):
 uq Tryz.prog (cfg Mu Wg ty N J ro Anch).sys (HX Mu Wg ty N J ro Anch own W0 i k c b₁ a₁ dO i₁ dQ k₁ cs₁) i (.bd k ⟨⟨.t1,0,0,aw,true,0,false⟩,c,n⟩) own (G ((base 128).at ⟨#[.pointer (some ⟨Mu,0,none⟩),j1,.int .i64 0,.bool true,.bool aw,.int .i64 (it:Nat),j6,j7,j8,j9,j10,j11,j12,j13,nV,nW,mE,mF,mG,mH,mJ,nZ,oh,oo,mK,mM,mO,mP,mQ,mR,mU,mV,mW,mX,qh,qi,qj,ql,qm,qo,qx,qy,qz,qA,qB,qC,qD,qE,qF,qG,qH,qI,qJ,qK,qL,qM,qN,qO,qP,qQ,qR,qU,qV,qW,qX,qY,qZ,rq,ru,ry,rz,rA,rC,rD,rE,rF,rG,wo,wu,wz,vN,rH,rJ,rM,rO,rP,rQ,rR,rT,rU,rV,tJ,rW,rX,rY,sD,rZ,r9,si,sj,iB,iC,iD,jH,iE,iF,iG,iH,iI,iJ,iK,iL,iM,iN,iO,iP,iQ,iR,iT,iU,iV,iW,iX,iY,iZ,ja,jc,jd,je,jf,jg,jh,ji,jk,jl,jm,jo,jq,jr],[]⟩ [.inRegion oN [0,1],.code aN,.inBlock 1,.inLoop lN,.inBlock 0,.code rN]) (b₁.at a₁ (.inRegion dO (i₁::dQ)::k₁)::cs₁)) w:=by
 have e0:(i==0)=false:=by simpa using hi
 have hz:((cfg Mu Wg ty N J ro Anch).Zw k).sy Mu:=.inl (.inl rfl);subst yE yF yG yH;simp only [LL,REST,jQ,jU,kY,dW,dL,dS,dN,eO,dI,Tryz.f128,ak,reduceIte,Nat.reduceEqDiff,reduceCtorEq];refine fI hne (by simp) rfl rfl λs hs hm1 hm2 hnb=>?_
 rcases hB:decide (((w.os.mono+w.tick:Nat):Int)≠0) with _|_
 ·refine .inr ⟨by simp,⟨.s1,0,0,aw,true,0,false⟩,s.b.mu,s.b.ms,_,w.later,#[],by simp [lT],by rw [e0];exact stepG_nanotime rfl rfl (by k_ne) rfl Tryz.func139 xH xI xJ xK xL,by simp,hs,Eff.later _,(λe he=>by simp at he),?_⟩;replace hF:KM 97 Mu ((cfg Mu Wg ty N J ro Anch).Zw k) own W0 w.later:=hF.turn hb hs hs (Eff.later w);clear hs hm1 hm2 hnb;rw [e0];generalize hwl:w.later=wl at hF ⊢;generalize ((w.os.mono+w.tick:Nat):Int)=tv at hB ⊢;clear hwl;refine dG (n:=60) ?_
  walk_nrm
  repeat w_go (dD hz)
  have hws:=hB.symm;refine cZ λw₃ h₃=>.stop λw₄ h₄=>.step (G8 hne hi hb hT (dD hz (dD hz hF h₃) h₄) hws ?_ ?_ ?_ ?_)
  all_goals simp only [LL,REST,jQ,jU,kY,dW,dL,dS,dN,eO,dI,Tryz.f128,ak,reduceIte,Nat.reduceEqDiff,reduceCtorEq]
 ·refine .inr ⟨by simp,⟨.s1,0,0,aw,true,0,true⟩,s.b.mu,s.b.ms,_,w.later,#[],by simp [lT],by rw [e0];exact stepG_nanotime rfl rfl (by k_ne) rfl Tryz.func139 xH xI xJ xK xL,by simp,hs,Eff.later _,(λe he=>by simp at he),?_⟩;replace hF:KM 97 Mu ((cfg Mu Wg ty N J ro Anch).Zw k) own W0 w.later:=hF.turn hb hs hs (Eff.later w);clear hs hm1 hm2 hnb;rw [e0];generalize hwl:w.later=wl at hF ⊢;generalize ((w.os.mono+w.tick:Nat):Int)=tv at hB ⊢;clear hwl;refine dG (n:=60) ?_
  walk_nrm
  repeat w_go (dD hz)
  have hws:=hB.symm;refine cZ λw₃ h₃=>.stop λw₄ h₄=>.step (G8 hne hi hb hT (dD hz (dD hz hF h₃) h₄) hws ?_ ?_ ?_ ?_)
  all_goals simp only [LL,REST,jQ,jU,kY,dW,dL,dS,dN,eO,dI,Tryz.f128,ak,reduceIte,Nat.reduceEqDiff,reduceCtorEq]
end
end Go.Proofs.Tryz
