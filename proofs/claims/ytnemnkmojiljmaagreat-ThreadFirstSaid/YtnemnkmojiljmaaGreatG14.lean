/- Part 14. -/
import Derived.Test.YtnemnkmojiljmaaGreatG13
set_option maxRecDepth 100000
set_option maxHeartbeats 0
set_option linter.all false
namespace Go.Proofs.Tryz
open Go Go.Conc Go.ConcN Go.ConcM Go.RowKit Go.Conc.Lib Go.ConcR.Gen Par
open Go.ConcR (KK wgBlock WgAt stA smA rd wr mk AtMkS)
section
variable {j1 j7 j8 j9 j10 j11 j12 j13 nV nW mE mF mG mH mJ nZ oh oo mK mM mO mP mQ mR mU mV mW mX qh qi qj ql qm qo qx qy qz qA qB qC qD qE qF qG qH qI qJ qK qL qM qN qO qP qQ qR qU qV qW qX qY qZ rq ru ry rz rA rC rD rE rF rG wo wu wz vN rH rJ rM rO rP rQ rR rT rU rV tJ rW rX rY sD rZ r9 si sj iB iC iD jH iE iF iG iH iI iJ iK iL iM iN iO iP iQ iR iT iU iV iW iX iY iZ ja jc jd je jf jg jh ji jk jl jm jo jq jr:Value}
variable {Mu Wg:Nat} {ty:TypeId} {N:Nat->Nat} {J:Nat->Nat->(Nat->Prop)->World->Prop} {ro:Nat->Prop} {Anch:(Nat->Prop)->Goroutine->World->Prop}
variable {own:Nat->Prop} {W0:World} {i k c:Nat} {b₁:Frame} {a₁:Act} {dO:Array Oper} {i₁:Nat} {dQ:List Nat} {k₁:List Item} {cs₁:List Frame}
theorem Sg (hne:Mu≠Wg) (hi:i≠0) (hb:Beside (cfg Mu Wg ty N J ro Anch) ((cfg Mu Wg ty N J ro Anch).Zw k) own) (hT:kH Mu Wg ty N J ro Anch own W0 i k c (G (b₁.at (a₁.put ((dO[i₁]?).bind (·.dst)) (.tuple #[])) (.inRegion dO dQ::k₁)) cs₁))
 {n:Nat} {it:Nat} {ws:Bool} {kG:Int} {w:World} (hF:KM 97 Mu ((cfg Mu Wg ty N J ro Anch).Zw k) own W0 w) (hws:ws=decide (kG≠0)):
 uq Tryz.prog (cfg Mu Wg ty N J ro Anch).sys (HX Mu Wg ty N J ro Anch own W0 i k c b₁ a₁ dO i₁ dQ k₁ cs₁) i (.bd k ⟨⟨.hd,1,0,false,false,it,ws⟩,c,n⟩) own (G ((base 128).at ⟨#[.pointer (some ⟨Mu,0,none⟩),j1,.int .i64 kG,.bool false,.bool false,.int .i64 (it:Nat),.int .i32 1,j7,j8,j9,j10,j11,j12,j13,nV,nW,mE,mF,mG,mH,mJ,nZ,oh,oo,mK,mM,mO,mP,mQ,mR,mU,mV,mW,mX,qh,qi,qj,ql,qm,qo,qx,qy,qz,qA,qB,qC,qD,qE,qF,qG,qH,qI,qJ,qK,qL,qM,qN,qO,qP,qQ,qR,qU,qV,qW,qX,qY,qZ,rq,ru,ry,rz,rA,rC,rD,rE,rF,rG,wo,wu,wz,vN,rH,rJ,rM,rO,rP,rQ,rR,rT,rU,rV,tJ,rW,rX,rY,sD,rZ,r9,si,sj,iB,iC,iD,jH,iE,iF,iG,iH,iI,iJ,iK,iL,iM,iN,iO,iP,iQ,iR,iT,iU,iV,iW,iX,iY,iZ,ja,jc,jd,je,jf,jg,jh,ji,jk,jl,jm,jo,jq,jr],[]⟩ [.code LL,.inLoop LL,.inBlock 0,.code REST]) (b₁.at a₁ (.inRegion dO (i₁::dQ)::k₁)::cs₁)) w:=by
 have e0:(i==0)=false:=by simpa using hi
 have hz:((cfg Mu Wg ty N J ro Anch).Zw k).sy Mu:=.inl (.inl rfl);simp only [LL,REST,jQ,jU,kY,dW,dL,dS,dN,eO,dI,Tryz.f128,ak,reduceIte,Nat.reduceEqDiff,reduceCtorEq];refine fI hne (by simp) rfl rfl λs hs hm1 hm2 hnb=>.inr ⟨by simp,_,_,_,_,w,#[],aS.2 rfl,by rw [e0];exact stepG_block,by simp,hs,Eff.refl _,(λe he=>by simp at he),?_⟩
 have e:vv 1 false false it ws=⟨.sq,1,0,false,false,it,ws⟩:=rfl;rw [e,e0];clear hs hm1 hm2 hnb e s;refine dG (n:=140) ?_
 repeat w_go (dD hz)
 refine cZ (λw₁ h₁=>?_);replace hF:=dD hz hF h₁;clear h₁;refine Gw.stop λw₁ h₁=>.step (?_)
 replace hF:=dD hz hF h₁;clear h₁;refine fI hne (by simp) rfl rfl λs hs hm1 hm2 hnb=>?_
 by_cases h4:it<4
 ·rcases hsp:w₁.spins with _|_
  ·refine .inr ⟨by simp,⟨.c2,1,9,false,false,it,ws⟩,s.b.mu,s.b.ms,_,w₁.asked,#[],by simp [lT,xA,h4],by rw [e0];exact stepG_canSpin_ask rfl rfl (by k_ne) rfl Tryz.func136 kR kS kT kU (k:=.i64) (n:=((it:Nat):Int)) (by simp [Act.eval]) (by omega),by simp,hs,Eff.asked _,(λe he=>by simp at he),?_⟩;replace hF:=hF.turn (W':=w₁.asked) hb hs hs (Eff.asked w₁);rw [hsp];generalize hwl:w₁.asked=wl at hF ⊢;clear hs hm1 hm2 hnb hwl hsp;rw [e0];refine dG (n:=140) ?_
   walk_nrm
   repeat w_go (dD hz)
   try m_num
   repeat w_go (dD hz)
   refine cZ λw₃ h₃=>.stop λw₄ h₄=>.step (JK hne hi hb hT (dD hz (dD hz hF h₃) h₄) hws ?_ ?_ ?_ ?_)
   all_goals simp only [LL,REST,jQ,jU,kY,dW,dL,dS,dN,eO,dI,Tryz.f128,ak,reduceIte,Nat.reduceEqDiff,reduceCtorEq]
  ·refine .inr ⟨by simp,⟨.r1,0,0,false,false,it,ws⟩,s.b.mu,s.b.ms,_,w₁.asked,#[],by simp [lT,xA,h4],by rw [e0];exact stepG_canSpin_ask rfl rfl (by k_ne) rfl Tryz.func136 kR kS kT kU (k:=.i64) (n:=((it:Nat):Int)) (by simp [Act.eval]) (by omega),by simp,hs,Eff.asked _,(λe he=>by simp at he),?_⟩;replace hF:=hF.turn (W':=w₁.asked) hb hs hs (Eff.asked w₁);rw [hsp];generalize hwl:w₁.asked=wl at hF ⊢;clear hs hm1 hm2 hnb hwl hsp;rw [e0];refine dG (n:=140) ?_
   walk_nrm
   repeat w_go (dD hz)
   u_in (dD hz) hF
   rw [stepG_entry_pure (.tuple #[]) rfl rfl (by k_ne) rfl Tryz.func137 BL BM BN BO];simp only [goes_go];refine ⟨⟨rfl,rfl⟩,?_⟩;walk_nrm
   repeat w_go (dD hz)
   have ew:IntKind.i64.wrap (((it:Nat):Int)+1)=((it+1:Nat):Int):=by rw [IntKind.wrap_i64];omega
   try simp only [ew]
   refine cZ (λw₁ h₁=>?_);replace hF:=dD hz hF h₁;clear h₁;refine Gw.stop λw₁ h₁=>.step (fI hne (by simp) rfl rfl λs hs hm1 hm2 hnb=>.inr ⟨by simp,_,_,_,_,w₁,#[],aS.2 rfl,by rw [e0];exact jv rfl rfl (by k_ne) rfl rfl hs.cellSt kC,by simp,hs,Eff.refl _,(λe he=>by simp at he),?_⟩)
   replace hF:=dD hz hF h₁;clear h₁;rw [e0];refine dG (n:=40) ?_
   walk_nrm
   repeat w_nl (dD hz)
   u_c stepG_inLoop (dD hz) hF
   exact cZ λw₃ h₃=>.stop λw₄ h₄=>.base (.inl (.mk (dD hz (dD hz hF h₃) h₄) hws))
 ·refine .inr ⟨by simp,⟨.c2,1,9,false,false,it,ws⟩,s.b.mu,s.b.ms,_,w₁,#[],by simp [lT,xA,h4],by rw [e0];exact stepG_canSpin_no rfl rfl (by k_ne) rfl Tryz.func136 kR kS kT kU (k:=.i64) (n:=((it:Nat):Int)) (by simp [Act.eval]) (by omega),by simp,hs,Eff.refl _,(λe he=>by simp at he),?_⟩;clear hs hm1 hm2 hnb;rw [e0];refine dG (n:=140) ?_
  walk_nrm
  repeat w_go (dD hz)
  try m_num
  repeat w_go (dD hz)
  refine cZ λw₃ h₃=>.stop λw₄ h₄=>.step (JK hne hi hb hT (dD hz (dD hz hF h₃) h₄) hws ?_ ?_ ?_ ?_)
  all_goals simp only [LL,REST,jQ,jU,kY,dW,dL,dS,dN,eO,dI,Tryz.f128,ak,reduceIte,Nat.reduceEqDiff,reduceCtorEq]
theorem Si (hne:Mu≠Wg) (hi:i≠0) (hb:Beside (cfg Mu Wg ty N J ro Anch) ((cfg Mu Wg ty N J ro Anch).Zw k) own) (hT:kH Mu Wg ty N J ro Anch own W0 i k c (G (b₁.at (a₁.put ((dO[i₁]?).bind (·.dst)) (.tuple #[])) (.inRegion dO dQ::k₁)) cs₁))
 {n:Nat} {it:Nat} {ws:Bool} {kG:Int} {w:World} (hF:KM 97 Mu ((cfg Mu Wg ty N J ro Anch).Zw k) own W0 w) (hws:ws=decide (kG≠0)):
 uq Tryz.prog (cfg Mu Wg ty N J ro Anch).sys (HX Mu Wg ty N J ro Anch own W0 i k c b₁ a₁ dO i₁ dQ k₁ cs₁) i (.bd k ⟨⟨.hd,3,0,true,false,it,ws⟩,c,n⟩) own (G ((base 128).at ⟨#[.pointer (some ⟨Mu,0,none⟩),j1,.int .i64 kG,.bool false,.bool true,.int .i64 (it:Nat),.int .i32 3,j7,j8,j9,j10,j11,j12,j13,nV,nW,mE,mF,mG,mH,mJ,nZ,oh,oo,mK,mM,mO,mP,mQ,mR,mU,mV,mW,mX,qh,qi,qj,ql,qm,qo,qx,qy,qz,qA,qB,qC,qD,qE,qF,qG,qH,qI,qJ,qK,qL,qM,qN,qO,qP,qQ,qR,qU,qV,qW,qX,qY,qZ,rq,ru,ry,rz,rA,rC,rD,rE,rF,rG,wo,wu,wz,vN,rH,rJ,rM,rO,rP,rQ,rR,rT,rU,rV,tJ,rW,rX,rY,sD,rZ,r9,si,sj,iB,iC,iD,jH,iE,iF,iG,iH,iI,iJ,iK,iL,iM,iN,iO,iP,iQ,iR,iT,iU,iV,iW,iX,iY,iZ,ja,jc,jd,je,jf,jg,jh,ji,jk,jl,jm,jo,jq,jr],[]⟩ [.code LL,.inLoop LL,.inBlock 0,.code REST]) (b₁.at a₁ (.inRegion dO (i₁::dQ)::k₁)::cs₁)) w:=by
 have e0:(i==0)=false:=by simpa using hi
 have hz:((cfg Mu Wg ty N J ro Anch).Zw k).sy Mu:=.inl (.inl rfl);simp only [LL,REST,jQ,jU,kY,dW,dL,dS,dN,eO,dI,Tryz.f128,ak,reduceIte,Nat.reduceEqDiff,reduceCtorEq];refine fI hne (by simp) rfl rfl λs hs hm1 hm2 hnb=>.inr ⟨by simp,_,_,_,_,w,#[],aS.2 rfl,by rw [e0];exact stepG_block,by simp,hs,Eff.refl _,(λe he=>by simp at he),?_⟩
 have e:vv 3 true false it ws=⟨.sq,3,0,true,false,it,ws⟩:=rfl;rw [e,e0];clear hs hm1 hm2 hnb e s;refine dG (n:=140) ?_
 repeat w_go (dD hz)
 refine cZ (λw₁ h₁=>?_);replace hF:=dD hz hF h₁;clear h₁;refine Gw.stop λw₁ h₁=>.step (?_)
 replace hF:=dD hz hF h₁;clear h₁;refine fI hne (by simp) rfl rfl λs hs hm1 hm2 hnb=>?_
 by_cases h4:it<4
 ·rcases hsp:w₁.spins with _|_
  ·refine .inr ⟨by simp,⟨.c2,3,9,true,false,it,ws⟩,s.b.mu,s.b.ms,_,w₁.asked,#[],by simp [lT,xA,h4],by rw [e0];exact stepG_canSpin_ask rfl rfl (by k_ne) rfl Tryz.func136 kR kS kT kU (k:=.i64) (n:=((it:Nat):Int)) (by simp [Act.eval]) (by omega),by simp,hs,Eff.asked _,(λe he=>by simp at he),?_⟩;replace hF:=hF.turn (W':=w₁.asked) hb hs hs (Eff.asked w₁);rw [hsp];generalize hwl:w₁.asked=wl at hF ⊢;clear hs hm1 hm2 hnb hwl hsp;rw [e0];refine dG (n:=140) ?_
   walk_nrm
   repeat w_go (dD hz)
   try m_num
   repeat w_go (dD hz)
   refine cZ λw₃ h₃=>.stop λw₄ h₄=>.step (JL hne hi hb hT (dD hz (dD hz hF h₃) h₄) hws ?_ ?_ ?_ ?_)
   all_goals simp only [LL,REST,jQ,jU,kY,dW,dL,dS,dN,eO,dI,Tryz.f128,ak,reduceIte,Nat.reduceEqDiff,reduceCtorEq]
  ·refine .inr ⟨by simp,⟨.r1,0,0,true,false,it,ws⟩,s.b.mu,s.b.ms,_,w₁.asked,#[],by simp [lT,xA,h4],by rw [e0];exact stepG_canSpin_ask rfl rfl (by k_ne) rfl Tryz.func136 kR kS kT kU (k:=.i64) (n:=((it:Nat):Int)) (by simp [Act.eval]) (by omega),by simp,hs,Eff.asked _,(λe he=>by simp at he),?_⟩;replace hF:=hF.turn (W':=w₁.asked) hb hs hs (Eff.asked w₁);rw [hsp];generalize hwl:w₁.asked=wl at hF ⊢;clear hs hm1 hm2 hnb hwl hsp;rw [e0];refine dG (n:=140) ?_
   walk_nrm
   repeat w_go (dD hz)
   u_in (dD hz) hF
   rw [stepG_entry_pure (.tuple #[]) rfl rfl (by k_ne) rfl Tryz.func137 BL BM BN BO];simp only [goes_go];refine ⟨⟨rfl,rfl⟩,?_⟩;walk_nrm
   repeat w_go (dD hz)
   have ew:IntKind.i64.wrap (((it:Nat):Int)+1)=((it+1:Nat):Int):=by rw [IntKind.wrap_i64];omega
   try simp only [ew]
   refine cZ (λw₁ h₁=>?_);replace hF:=dD hz hF h₁;clear h₁;refine Gw.stop λw₁ h₁=>.step (fI hne (by simp) rfl rfl λs hs hm1 hm2 hnb=>.inr ⟨by simp,_,_,_,_,w₁,#[],aS.2 rfl,by rw [e0];exact jv rfl rfl (by k_ne) rfl rfl hs.cellSt kC,by simp,hs,Eff.refl _,(λe he=>by simp at he),?_⟩)
   replace hF:=dD hz hF h₁;clear h₁;rw [e0];refine dG (n:=40) ?_
   walk_nrm
   repeat w_nl (dD hz)
   u_c stepG_inLoop (dD hz) hF
   exact cZ λw₃ h₃=>.stop λw₄ h₄=>.base (.inl (.mk (dD hz (dD hz hF h₃) h₄) hws))
 ·refine .inr ⟨by simp,⟨.c2,3,9,true,false,it,ws⟩,s.b.mu,s.b.ms,_,w₁,#[],by simp [lT,xA,h4],by rw [e0];exact stepG_canSpin_no rfl rfl (by k_ne) rfl Tryz.func136 kR kS kT kU (k:=.i64) (n:=((it:Nat):Int)) (by simp [Act.eval]) (by omega),by simp,hs,Eff.refl _,(λe he=>by simp at he),?_⟩;clear hs hm1 hm2 hnb;rw [e0];refine dG (n:=140) ?_
  walk_nrm
  repeat w_go (dD hz)
  try m_num
  repeat w_go (dD hz)
  refine cZ λw₃ h₃=>.stop λw₄ h₄=>.step (JL hne hi hb hT (dD hz (dD hz hF h₃) h₄) hws ?_ ?_ ?_ ?_)
  all_goals simp only [LL,REST,jQ,jU,kY,dW,dL,dS,dN,eO,dI,Tryz.f128,ak,reduceIte,Nat.reduceEqDiff,reduceCtorEq]
theorem Sj (hne:Mu≠Wg) (hi:i≠0) (hb:Beside (cfg Mu Wg ty N J ro Anch) ((cfg Mu Wg ty N J ro Anch).Zw k) own) (hT:kH Mu Wg ty N J ro Anch own W0 i k c (G (b₁.at (a₁.put ((dO[i₁]?).bind (·.dst)) (.tuple #[])) (.inRegion dO dQ::k₁)) cs₁))
 {n:Nat} {it:Nat} {ws:Bool} {kG:Int} {w:World} (hF:KM 97 Mu ((cfg Mu Wg ty N J ro Anch).Zw k) own W0 w) (hws:ws=decide (kG≠0)):
 uq Tryz.prog (cfg Mu Wg ty N J ro Anch).sys (HX Mu Wg ty N J ro Anch own W0 i k c b₁ a₁ dO i₁ dQ k₁ cs₁) i (.bd k ⟨⟨.hd,3,0,true,true,it,ws⟩,c,n⟩) own (G ((base 128).at ⟨#[.pointer (some ⟨Mu,0,none⟩),j1,.int .i64 kG,.bool true,.bool true,.int .i64 (it:Nat),.int .i32 3,j7,j8,j9,j10,j11,j12,j13,nV,nW,mE,mF,mG,mH,mJ,nZ,oh,oo,mK,mM,mO,mP,mQ,mR,mU,mV,mW,mX,qh,qi,qj,ql,qm,qo,qx,qy,qz,qA,qB,qC,qD,qE,qF,qG,qH,qI,qJ,qK,qL,qM,qN,qO,qP,qQ,qR,qU,qV,qW,qX,qY,qZ,rq,ru,ry,rz,rA,rC,rD,rE,rF,rG,wo,wu,wz,vN,rH,rJ,rM,rO,rP,rQ,rR,rT,rU,rV,tJ,rW,rX,rY,sD,rZ,r9,si,sj,iB,iC,iD,jH,iE,iF,iG,iH,iI,iJ,iK,iL,iM,iN,iO,iP,iQ,iR,iT,iU,iV,iW,iX,iY,iZ,ja,jc,jd,je,jf,jg,jh,ji,jk,jl,jm,jo,jq,jr],[]⟩ [.code LL,.inLoop LL,.inBlock 0,.code REST]) (b₁.at a₁ (.inRegion dO (i₁::dQ)::k₁)::cs₁)) w:=by
 have e0:(i==0)=false:=by simpa using hi
 have hz:((cfg Mu Wg ty N J ro Anch).Zw k).sy Mu:=.inl (.inl rfl);simp only [LL,REST,jQ,jU,kY,dW,dL,dS,dN,eO,dI,Tryz.f128,ak,reduceIte,Nat.reduceEqDiff,reduceCtorEq];refine fI hne (by simp) rfl rfl λs hs hm1 hm2 hnb=>.inr ⟨by simp,_,_,_,_,w,#[],aS.2 rfl,by rw [e0];exact stepG_block,by simp,hs,Eff.refl _,(λe he=>by simp at he),?_⟩
 have e:vv 3 true true it ws=⟨.sq,3,0,true,true,it,ws⟩:=rfl;rw [e,e0];clear hs hm1 hm2 hnb e s;refine dG (n:=140) ?_
 repeat w_go (dD hz)
 refine cZ (λw₁ h₁=>?_);replace hF:=dD hz hF h₁;clear h₁;refine Gw.stop λw₁ h₁=>.step (?_)
 replace hF:=dD hz hF h₁;clear h₁;refine fI hne (by simp) rfl rfl λs hs hm1 hm2 hnb=>?_
 by_cases h4:it<4
 ·rcases hsp:w₁.spins with _|_
  ·refine .inr ⟨by simp,⟨.c2,3,13,true,true,it,ws⟩,s.b.mu,s.b.ms,_,w₁.asked,#[],by simp [lT,xA,h4],by rw [e0];exact stepG_canSpin_ask rfl rfl (by k_ne) rfl Tryz.func136 kR kS kT kU (k:=.i64) (n:=((it:Nat):Int)) (by simp [Act.eval]) (by omega),by simp,hs,Eff.asked _,(λe he=>by simp at he),?_⟩;replace hF:=hF.turn (W':=w₁.asked) hb hs hs (Eff.asked w₁);rw [hsp];generalize hwl:w₁.asked=wl at hF ⊢;clear hs hm1 hm2 hnb hwl hsp;rw [e0];refine dG (n:=140) ?_
   walk_nrm
   repeat w_go (dD hz)
   try m_num
   repeat w_go (dD hz)
   refine cZ λw₃ h₃=>.stop λw₄ h₄=>.step (G9 hne hi hb hT (dD hz (dD hz hF h₃) h₄) hws ?_ ?_ ?_ ?_)
   all_goals simp only [LL,REST,jQ,jU,kY,dW,dL,dS,dN,eO,dI,Tryz.f128,ak,reduceIte,Nat.reduceEqDiff,reduceCtorEq]
  ·refine .inr ⟨by simp,⟨.r1,0,0,true,true,it,ws⟩,s.b.mu,s.b.ms,_,w₁.asked,#[],by simp [lT,xA,h4],by rw [e0];exact stepG_canSpin_ask rfl rfl (by k_ne) rfl Tryz.func136 kR kS kT kU (k:=.i64) (n:=((it:Nat):Int)) (by simp [Act.eval]) (by omega),by simp,hs,Eff.asked _,(λe he=>by simp at he),?_⟩;replace hF:=hF.turn (W':=w₁.asked) hb hs hs (Eff.asked w₁);rw [hsp];generalize hwl:w₁.asked=wl at hF ⊢;clear hs hm1 hm2 hnb hwl hsp;rw [e0];refine dG (n:=140) ?_
   walk_nrm
   repeat w_go (dD hz)
   u_in (dD hz) hF
   rw [stepG_entry_pure (.tuple #[]) rfl rfl (by k_ne) rfl Tryz.func137 BL BM BN BO];simp only [goes_go];refine ⟨⟨rfl,rfl⟩,?_⟩;walk_nrm
   repeat w_go (dD hz)
   have ew:IntKind.i64.wrap (((it:Nat):Int)+1)=((it+1:Nat):Int):=by rw [IntKind.wrap_i64];omega
   try simp only [ew]
   refine cZ (λw₁ h₁=>?_);replace hF:=dD hz hF h₁;clear h₁;refine Gw.stop λw₁ h₁=>.step (fI hne (by simp) rfl rfl λs hs hm1 hm2 hnb=>.inr ⟨by simp,_,_,_,_,w₁,#[],aS.2 rfl,by rw [e0];exact jv rfl rfl (by k_ne) rfl rfl hs.cellSt kC,by simp,hs,Eff.refl _,(λe he=>by simp at he),?_⟩)
   replace hF:=dD hz hF h₁;clear h₁;rw [e0];refine dG (n:=40) ?_
   walk_nrm
   repeat w_nl (dD hz)
   u_c stepG_inLoop (dD hz) hF
   exact cZ λw₃ h₃=>.stop λw₄ h₄=>.base (.inl (.mk (dD hz (dD hz hF h₃) h₄) hws))
 ·refine .inr ⟨by simp,⟨.c2,3,13,true,true,it,ws⟩,s.b.mu,s.b.ms,_,w₁,#[],by simp [lT,xA,h4],by rw [e0];exact stepG_canSpin_no rfl rfl (by k_ne) rfl Tryz.func136 kR kS kT kU (k:=.i64) (n:=((it:Nat):Int)) (by simp [Act.eval]) (by omega),by simp,hs,Eff.refl _,(λe he=>by simp at he),?_⟩;clear hs hm1 hm2 hnb;rw [e0];refine dG (n:=140) ?_
  walk_nrm
  repeat w_go (dD hz)
  try m_num
  repeat w_go (dD hz)
  refine cZ λw₃ h₃=>.stop λw₄ h₄=>.step (G9 hne hi hb hT (dD hz (dD hz hF h₃) h₄) hws ?_ ?_ ?_ ?_)
  all_goals simp only [LL,REST,jQ,jU,kY,dW,dL,dS,dN,eO,dI,Tryz.f128,ak,reduceIte,Nat.reduceEqDiff,reduceCtorEq]
end
end Go.Proofs.Tryz
