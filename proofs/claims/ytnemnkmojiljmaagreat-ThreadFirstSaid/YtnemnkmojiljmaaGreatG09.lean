/- Part 9. -/
import Derived.Test.YtnemnkmojiljmaaGreatG08
set_option maxRecDepth 100000
set_option maxHeartbeats 0
set_option linter.all false
namespace Go.Proofs.Tryz
open Go Go.Conc Go.ConcN Go.ConcM Go.RowKit Go.Conc.Lib Go.ConcR.Gen Par
open Go.ConcR (KK wgBlock WgAt stA smA rd wr mk AtMkS)
section
variable {j1 j6 j7 j8 j9 j10 j11 j12 j13 nV nW mE mF mG mH mJ nZ oh oo mK mM mO mP mQ mR mU mV mW mX qh qi qj ql qm qo qx qy qz qA qB qC qD qE qF qG qH qI qJ qK qL qM qN qO qP qQ qR qU qV qW qX qY qZ rq ru ry rz rA rC rD rE rF rG wo wu wz rH rJ rM rO rP rQ rR rT rU rV tJ rW rX rY sD rZ r9 si sj iB iC iD jH iE iF iG iH iI iJ iK iL iM iN iO iP iQ iR iT iU iV iW iX iY iZ ja jc jd je jf jg jh ji jk jl jm jo jq jr:Value}
variable {Mu Wg:Nat} {ty:TypeId} {N:Nat->Nat} {J:Nat->Nat->(Nat->Prop)->World->Prop} {ro:Nat->Prop} {Anch:(Nat->Prop)->Goroutine->World->Prop}
variable {own:Nat->Prop} {W0:World} {i k c:Nat} {b₁:Frame} {a₁:Act} {dO:Array Oper} {i₁:Nat} {dQ:List Nat} {k₁:List Item} {cs₁:List Frame}
theorem BP (hne:Mu≠Wg) (hi:i≠0) (hb:Beside (cfg Mu Wg ty N J ro Anch) ((cfg Mu Wg ty N J ro Anch).Zw k) own)
 {it n:Nat} {aw sv ws:Bool} {kG:Int} {oN:Array Oper} {aN lN rN:Code} {w:World} (hF:KM 97 Mu ((cfg Mu Wg ty N J ro Anch).Zw k) own W0 w) (hws:ws=decide (kG≠0)) (yE:oN=jQ 22) (yF:aN=jU 22) (yG:lN=LL) (yH:rN=REST):
 Gw Tryz.prog false ((cfg Mu Wg ty N J ro Anch).Zw k) ((HX Mu Wg ty N J ro Anch own W0 i k c b₁ a₁ dO i₁ dQ k₁ cs₁) i (.bd k ⟨⟨.r3,0,0,aw,sv,it,ws⟩,c,n⟩)) own (G ((base 128).at ⟨#[.pointer (some ⟨Mu,0,none⟩),j1,.int .i64 kG,.bool sv,.bool aw,.int .i64 (it:Nat),j6,j7,j8,j9,j10,j11,j12,j13,nV,nW,mE,mF,mG,mH,mJ,nZ,oh,oo,mK,mM,mO,mP,mQ,mR,mU,mV,mW,mX,qh,qi,qj,ql,qm,qo,qx,qy,qz,qA,qB,qC,qD,qE,qF,qG,qH,qI,qJ,qK,qL,qM,qN,qO,qP,qQ,qR,qU,qV,qW,qX,qY,qZ,rq,ru,ry,rz,rA,rC,rD,rE,rF,rG,wo,wu,wz,.bool false,rH,rJ,rM,rO,rP,rQ,rR,rT,rU,rV,tJ,rW,rX,rY,sD,rZ,r9,si,sj,iB,iC,iD,jH,iE,iF,iG,iH,iI,iJ,iK,iL,iM,iN,iO,iP,iQ,iR,iT,iU,iV,iW,iX,iY,iZ,ja,jc,jd,je,jf,jg,jh,ji,jk,jl,jm,jo,jq,jr],[]⟩ [.inRegion oN [],.code aN,.inBlock 1,.inLoop lN,.inBlock 0,.code rN]) (b₁.at a₁ (.inRegion dO (i₁::dQ)::k₁)::cs₁)) w:=by
 have e0:(i==0)=false:=by simpa using hi
 have hz:((cfg Mu Wg ty N J ro Anch).Zw k).sy Mu:=.inl (.inl rfl);subst yE yF yG yH;simp only [LL,REST,jQ,jU,kY,dW,dL,dS,dN,eO,dI,Tryz.f128,ak,reduceIte,Nat.reduceEqDiff,reduceCtorEq];refine dG (n:=60) ?_
 repeat w_go (dD hz)
 refine cZ (λw₁ h₁=>?_);replace hF:=dD hz hF h₁;clear h₁;refine Gw.stop λw₁ h₁=>.step (fI hne (by simp) rfl rfl λs hs hm1 hm2 hnb=>.inr ⟨by simp,_,_,_,_,w₁,#[],aS.2 rfl,by rw [e0];exact jv rfl rfl (by k_ne) rfl rfl hs.cellSt kC,by simp,hs,Eff.refl _,(λe he=>by simp at he),?_⟩)
 replace hF:=dD hz hF h₁;clear h₁;rw [e0];refine dG (n:=40) ?_
 walk_nrm
 repeat w_nl (dD hz)
 u_c stepG_inLoop (dD hz) hF
 exact cZ λw₃ h₃=>.stop λw₄ h₄=>.base (.inl (.mk (dD hz (dD hz hF h₃) h₄) hws))
theorem ap5 (hne:Mu≠Wg) (hi:i≠0) (hb:Beside (cfg Mu Wg ty N J ro Anch) ((cfg Mu Wg ty N J ro Anch).Zw k) own) (hT:kH Mu Wg ty N J ro Anch own W0 i k c (G (b₁.at (a₁.put ((dO[i₁]?).bind (·.dst)) (.tuple #[])) (.inRegion dO dQ::k₁)) cs₁))
 {it n:Nat} {aw sv ws:Bool} {kG:Int} {oN:Array Oper} {aN lN rN:Code} {w:World} (hF:KM 97 Mu ((cfg Mu Wg ty N J ro Anch).Zw k) own W0 w) (yE:oN=jQ 22) (yF:aN=jU 22) (yG:lN=LL) (yH:rN=REST):
 Gw Tryz.prog false ((cfg Mu Wg ty N J ro Anch).Zw k) ((HX Mu Wg ty N J ro Anch own W0 i k c b₁ a₁ dO i₁ dQ k₁ cs₁) i (.bd k ⟨lk .le,c,n⟩)) own (G ((base 128).at ⟨#[.pointer (some ⟨Mu,0,none⟩),j1,.int .i64 kG,.bool sv,.bool aw,.int .i64 (it:Nat),.int .i32 0,j7,j8,j9,j10,j11,j12,j13,nV,nW,mE,mF,mG,mH,mJ,nZ,oh,oo,mK,mM,mO,mP,mQ,mR,mU,mV,mW,mX,qh,qi,qj,ql,qm,qo,qx,qy,qz,qA,qB,qC,qD,qE,qF,qG,qH,qI,qJ,qK,qL,qM,qN,qO,qP,qQ,qR,qU,qV,qW,qX,qY,qZ,rq,ru,ry,rz,rA,rC,rD,rE,rF,rG,wo,wu,wz,.bool true,rH,rJ,rM,rO,rP,rQ,rR,rT,rU,rV,tJ,rW,rX,rY,sD,rZ,r9,si,sj,iB,iC,iD,jH,iE,iF,iG,iH,iI,iJ,iK,iL,iM,iN,iO,iP,iQ,iR,iT,iU,iV,iW,iX,iY,iZ,ja,jc,jd,je,jf,jg,jh,ji,jk,jl,jm,jo,jq,jr],[]⟩ [.inRegion oN [],.code aN,.inBlock 1,.inLoop lN,.inBlock 0,.code rN]) (b₁.at a₁ (.inRegion dO (i₁::dQ)::k₁)::cs₁)) w:=by
 have e0:(i==0)=false:=by simpa using hi
 have hz:((cfg Mu Wg ty N J ro Anch).Zw k).sy Mu:=.inl (.inl rfl);subst yE yF yG yH;simp only [LL,REST,jQ,jU,kY,dW,dL,dS,dN,eO,dI,Tryz.f128,ak,reduceIte,Nat.reduceEqDiff,reduceCtorEq];refine dG (n:=80) ?_
 repeat w_go (dD hz)
 try m_num
 repeat w_go (dD hz)
 refine cZ (λw₁ h₁=>?_);replace hF:=dD hz hF h₁;clear h₁;refine Gw.stop λw₁ h₁=>.step (fI hne (by simp) rfl rfl λs hs hm1 hm2 hnb=>.inr ⟨by simp,_,_,_,_,w₁,_,aS.2 rfl,by rw [e0];exact stepG_mark0 .enable (by simp) rfl rfl (by k_ne) rfl Tryz.jG.f_enable (x_enable_n Tryz.link) (x_enable_b Tryz.link) (x_enable_x Tryz.link) (x_enable_f Tryz.link),by simp,hs,Eff.refl _,rfl,?_⟩)
 replace hF:=dD hz hF h₁;clear h₁;clear hs hm1 hm2 hnb s;rw [e0];refine dG (n:=30) ?_
 walk_nrm
 repeat w_go (dD hz)
 m_convG Tryz.prog Tryz.jG.underlying_tUP zI ER hF.mu.choose_spec (dD hz) hF
 refine cZ (λw₁ h₁=>?_);replace hF:=dD hz hF h₁;clear h₁;refine Gw.stop λw₁ h₁=>.step (Oz hne rfl rfl rfl λs hs hc=>⟨_,by rw [e0];exact stepG_markAt .acquire (by simp) rfl rfl (by k_ne) rfl Tryz.jG.f_acquire (x_acquire_n Tryz.link) (x_acquire_b Tryz.link) (x_acquire_x Tryz.link) (x_acquire_f Tryz.link) (by simp [Act.eval,muA]), λGu JH hJ=>?_⟩)
 replace hF:=dD hz hF h₁;clear h₁;have JI:=hF.1;replace hF:KM 97 Mu ((cfg Mu Wg ty N J ro Anch).Zw k) (λb=>own b∨Gu b) w₁ w₁:=⟨dZ.refl _,hF.2⟩;rw [e0];refine dG (n:=30) ?_
 walk_nrm
 repeat w_go (dD hz)
 u_leave0 Tryz.func128 (dD hz) hF
 exact cZ λw₃ h₃=>Gw.mono (λ_ _ _ h=>.base (.inr h)) (e0 ▸ hT _ _ _ _ JI JH hJ (dD hz hF h₃))
theorem take2 (hne:Mu≠Wg) (hi:i≠0) (hb:Beside (cfg Mu Wg ty N J ro Anch) ((cfg Mu Wg ty N J ro Anch).Zw k) own) (hT:kH Mu Wg ty N J ro Anch own W0 i k c (G (b₁.at (a₁.put ((dO[i₁]?).bind (·.dst)) (.tuple #[])) (.inRegion dO dQ::k₁)) cs₁))
 {it n:Nat} {aw sv ws:Bool} {kG:Int} {oN:Array Oper} {aN lN rN:Code} {w:World} (hF:KM 97 Mu ((cfg Mu Wg ty N J ro Anch).Zw k) own W0 w) (yE:oN=jQ 22) (yF:aN=jU 22) (yG:lN=LL) (yH:rN=REST):
 Gw Tryz.prog false ((cfg Mu Wg ty N J ro Anch).Zw k) ((HX Mu Wg ty N J ro Anch own W0 i k c b₁ a₁ dO i₁ dQ k₁ cs₁) i (.bd k ⟨lk .le,c,n⟩)) own (G ((base 128).at ⟨#[.pointer (some ⟨Mu,0,none⟩),j1,.int .i64 kG,.bool sv,.bool aw,.int .i64 (it:Nat),.int .i32 2,j7,j8,j9,j10,j11,j12,j13,nV,nW,mE,mF,mG,mH,mJ,nZ,oh,oo,mK,mM,mO,mP,mQ,mR,mU,mV,mW,mX,qh,qi,qj,ql,qm,qo,qx,qy,qz,qA,qB,qC,qD,qE,qF,qG,qH,qI,qJ,qK,qL,qM,qN,qO,qP,qQ,qR,qU,qV,qW,qX,qY,qZ,rq,ru,ry,rz,rA,rC,rD,rE,rF,rG,wo,wu,wz,.bool true,rH,rJ,rM,rO,rP,rQ,rR,rT,rU,rV,tJ,rW,rX,rY,sD,rZ,r9,si,sj,iB,iC,iD,jH,iE,iF,iG,iH,iI,iJ,iK,iL,iM,iN,iO,iP,iQ,iR,iT,iU,iV,iW,iX,iY,iZ,ja,jc,jd,je,jf,jg,jh,ji,jk,jl,jm,jo,jq,jr],[]⟩ [.inRegion oN [],.code aN,.inBlock 1,.inLoop lN,.inBlock 0,.code rN]) (b₁.at a₁ (.inRegion dO (i₁::dQ)::k₁)::cs₁)) w:=by
 have e0:(i==0)=false:=by simpa using hi
 have hz:((cfg Mu Wg ty N J ro Anch).Zw k).sy Mu:=.inl (.inl rfl);subst yE yF yG yH;simp only [LL,REST,jQ,jU,kY,dW,dL,dS,dN,eO,dI,Tryz.f128,ak,reduceIte,Nat.reduceEqDiff,reduceCtorEq];refine dG (n:=80) ?_
 repeat w_go (dD hz)
 try m_num
 repeat w_go (dD hz)
 refine cZ (λw₁ h₁=>?_);replace hF:=dD hz hF h₁;clear h₁;refine Gw.stop λw₁ h₁=>.step (fI hne (by simp) rfl rfl λs hs hm1 hm2 hnb=>.inr ⟨by simp,_,_,_,_,w₁,_,aS.2 rfl,by rw [e0];exact stepG_mark0 .enable (by simp) rfl rfl (by k_ne) rfl Tryz.jG.f_enable (x_enable_n Tryz.link) (x_enable_b Tryz.link) (x_enable_x Tryz.link) (x_enable_f Tryz.link),by simp,hs,Eff.refl _,rfl,?_⟩)
 replace hF:=dD hz hF h₁;clear h₁;clear hs hm1 hm2 hnb s;rw [e0];refine dG (n:=30) ?_
 walk_nrm
 repeat w_go (dD hz)
 m_convG Tryz.prog Tryz.jG.underlying_tUP zI ER hF.mu.choose_spec (dD hz) hF
 refine cZ (λw₁ h₁=>?_);replace hF:=dD hz hF h₁;clear h₁;refine Gw.stop λw₁ h₁=>.step (Oz hne rfl rfl rfl λs hs hc=>⟨_,by rw [e0];exact stepG_markAt .acquire (by simp) rfl rfl (by k_ne) rfl Tryz.jG.f_acquire (x_acquire_n Tryz.link) (x_acquire_b Tryz.link) (x_acquire_x Tryz.link) (x_acquire_f Tryz.link) (by simp [Act.eval,muA]), λGu JH hJ=>?_⟩)
 replace hF:=dD hz hF h₁;clear h₁;have JI:=hF.1;replace hF:KM 97 Mu ((cfg Mu Wg ty N J ro Anch).Zw k) (λb=>own b∨Gu b) w₁ w₁:=⟨dZ.refl _,hF.2⟩;rw [e0];refine dG (n:=30) ?_
 walk_nrm
 repeat w_go (dD hz)
 u_leave0 Tryz.func128 (dD hz) hF
 exact cZ λw₃ h₃=>Gw.mono (λ_ _ _ h=>.base (.inr h)) (e0 ▸ hT _ _ _ _ JI JH hJ (dD hz hF h₃))
end
end Go.Proofs.Tryz
