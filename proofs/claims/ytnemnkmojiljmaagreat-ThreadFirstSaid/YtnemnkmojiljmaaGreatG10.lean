/- Part 10. -/
import Derived.Test.YtnemnkmojiljmaaGreatG09
set_option maxRecDepth 100000
set_option maxHeartbeats 0
set_option linter.all false
namespace Go.Proofs.Tryz
open Go Go.Conc Go.ConcN Go.ConcM Go.RowKit Go.Conc.Lib Go.ConcR.Gen Par
open Go.ConcR (KK wgBlock WgAt stA smA rd wr mk AtMkS)
section
variable {j1 j6 j7 j8 j9 j10 j11 j12 j13 nV nW mE mF mG mH mJ nZ oh oo mK mM mO mP mQ mR mU mV mW mX qh qi qj ql qm qo qx qy qz qA qB qC qD qE qF qG qH qI qJ qK qL qM qN qO qP qQ qR qU qV qW qX qY qZ rq ru ry rz rA rC rD rE rF rG wo wu wz vN rH rJ rM rO rP rQ rR rT rU rV tJ rW rX rY sD rZ r9 si sj iB iC iD iE iF iG iH iI iJ iK iL iM iN iO iP iQ iR iT iU iV iW iX iY iZ ja jc jd je jf jg jh ji jk jl jm jo jq jr:Value}
variable {Mu Wg:Nat} {ty:TypeId} {N:Nat->Nat} {J:Nat->Nat->(Nat->Prop)->World->Prop} {ro:Nat->Prop} {Anch:(Nat->Prop)->Goroutine->World->Prop}
variable {own:Nat->Prop} {W0:World} {i k c:Nat} {b₁:Frame} {a₁:Act} {dO:Array Oper} {i₁:Nat} {dQ:List Nat} {k₁:List Item} {cs₁:List Frame}
theorem FK {m:Nat} (h:MC m=true):m<=20:=by
 simp [MC] at h;omega
theorem af2 (hne:Mu≠Wg) (hi:i≠0) (hb:Beside (cfg Mu Wg ty N J ro Anch) ((cfg Mu Wg ty N J ro Anch).Zw k) own) (hT:kH Mu Wg ty N J ro Anch own W0 i k c (G (b₁.at (a₁.put ((dO[i₁]?).bind (·.dst)) (.tuple #[])) (.inRegion dO dQ::k₁)) cs₁))
 {n:Nat} {it:Nat} {aw ws:Bool} {kG:Int} {oN:Array Oper} {aN lN rN:Code} {w:World} (hF:KM 97 Mu ((cfg Mu Wg ty N J ro Anch).Zw k) own W0 w) (hws:ws=decide (kG≠0)) (yE:oN=jQ 29) (yF:aN=jU 29) (yG:lN=LL) (yH:rN=REST):
 uq Tryz.prog (cfg Mu Wg ty N J ro Anch).sys (HX Mu Wg ty N J ro Anch own W0 i k c b₁ a₁ dO i₁ dQ k₁ cs₁) i (.bd k ⟨⟨.r2,0,0,aw,false,0,ws⟩,c,n⟩) own (G ((base 128).at ⟨#[.pointer (some ⟨Mu,0,none⟩),j1,.int .i64 kG,.bool false,.bool aw,.int .i64 (it:Nat),j6,j7,j8,j9,j10,j11,j12,j13,nV,nW,mE,mF,mG,mH,mJ,nZ,oh,oo,mK,mM,mO,mP,mQ,mR,mU,mV,mW,mX,qh,qi,qj,ql,qm,qo,qx,qy,qz,qA,qB,qC,qD,qE,qF,qG,qH,qI,qJ,qK,qL,qM,qN,qO,qP,qQ,qR,qU,qV,qW,qX,qY,qZ,rq,ru,ry,rz,rA,rC,rD,rE,rF,rG,wo,wu,wz,vN,rH,rJ,rM,rO,rP,rQ,rR,rT,rU,rV,tJ,rW,rX,rY,sD,rZ,r9,si,sj,iB,iC,iD,.pointer (some (muA Mu)),iE,iF,iG,iH,iI,iJ,iK,iL,iM,iN,iO,iP,iQ,iR,iT,iU,iV,iW,iX,iY,iZ,ja,jc,jd,je,jf,jg,jh,ji,jk,jl,jm,jo,jq,jr],[]⟩ [.inRegion oN [3,4],.code aN,.inBlock 1,.inLoop lN,.inBlock 0,.code rN]) (b₁.at a₁ (.inRegion dO (i₁::dQ)::k₁)::cs₁)) w:=by
 have e0:(i==0)=false:=by simpa using hi
 have hz:((cfg Mu Wg ty N J ro Anch).Zw k).sy Mu:=.inl (.inl rfl);subst yE yF yG yH;simp only [LL,REST,jQ,jU,kY,dW,dL,dS,dN,eO,dI,Tryz.f128,ak,reduceIte,Nat.reduceEqDiff,reduceCtorEq];refine fI hne (by simp) rfl rfl λs hs hm1 hm2 hnb=>?_
 obtain ⟨v,wt,sm,jn,dn,⟨mu,ms,c0,c1,ow⟩⟩:=s;simp only at hs hm1 hm2 hnb ⊢
 by_cases hq:mu=12
 ·subst hq;refine .inr ⟨by simp,⟨.a1,0,11,false,false,0,false⟩,12,ms,_,w,#[],by simp [lT],by rw [e0];exact jv (v:=12) rfl rfl (by k_ne) rfl rfl hs.cellSt kC,by simp,hs,Eff.refl _,(λe he=>by simp at he),?_⟩;clear hs hm1 hm2 hnb;rw [e0];refine dG (n:=120) ?_
  walk_nrm
  repeat w_go (dD hz)
  refine cZ (λw₁ h₁=>?_);replace hF:=dD hz hF h₁;clear h₁;refine Gw.stop λw₁ h₁=>.step (fI hne (by simp) rfl rfl λs hs hm1 hm2 hnb=>?_)
  replace hF:=dD hz hF h₁;clear h₁
  have hle:11<=s.b.mu:=by
   rcases bz s.b.mu 11 with h|h
   ·have :=hnb (lk .bad,s.b.mu,s.b.ms) (by simp [lT,Nat.not_le.2 h]);cases this
   ·exact h
  have hmx:=FK hm1;have ew:IntKind.i32.wrap (((s.b.mu:Nat):Int)+(-11))=((s.b.mu - 11:Nat):Int):=by rw [IntKind.wrap_i32];omega
  refine .inr ⟨by simp,lk .le,s.b.mu - 11,s.b.ms,_,w₁.setCell (muA Mu) (.int .i32 ((s.b.mu - 11:Nat):Int)),_,by simp [lT,hle],by rw [e0];exact (stepG_add_atomic rfl rfl (by k_ne) rfl Tryz.func129 vY vZ wh .i32 wm rfl rfl hs.cellSt (hs.thaw 0)).trans (by rw [ew];first |done|rfl),by simp,hs.setSt _,Eff.set _ _ (.inl rfl),mo (C:=cfg Mu Wg ty N J ro Anch) (a:=muA Mu) (.inl rfl),?_⟩;replace hF:=hF.turn hb hs (hs.setSt ((s.b.mu - 11:Nat):Int)) (Eff.set (muA Mu) _ (.inl rfl));generalize hwn:w₁.setCell (muA Mu) (.int .i32 ((s.b.mu - 11:Nat):Int))=w₂ at hF ⊢;generalize hmn:((s.b.mu - 11:Nat):Int)=mn;clear hwn hmn ew hle hmx hs hm1 hm2 hnb s;rw [e0];refine dG (n:=80) ?_
  walk_nrm
  repeat w_go (dD hz)
  refine cZ (λw₁ h₁=>?_);replace hF:=dD hz hF h₁;clear h₁;refine Gw.stop λw₁ h₁=>.step (fI hne (by simp) rfl rfl λs hs hm1 hm2 hnb=>.inr ⟨by simp,_,_,_,_,w₁,_,aS.2 rfl,by rw [e0];exact stepG_mark0 .enable (by simp) rfl rfl (by k_ne) rfl Tryz.jG.f_enable (x_enable_n Tryz.link) (x_enable_b Tryz.link) (x_enable_x Tryz.link) (x_enable_f Tryz.link),by simp,hs,Eff.refl _,rfl,?_⟩)
  replace hF:=dD hz hF h₁;clear h₁;clear hs hm1 hm2 hnb s;rw [e0];refine dG (n:=30) ?_
  walk_nrm
  repeat w_go (dD hz)
  m_convG Tryz.prog Tryz.jG.underlying_tUP zI ER hF.mu.choose_spec (dD hz) hF
  refine cZ (λw₁ h₁=>?_);replace hF:=dD hz hF h₁;clear h₁;refine Gw.stop λw₁ h₁=>.step (Oz hne rfl rfl rfl λs hs hc=>⟨_,by rw [e0];exact stepG_markAt .acquire (by simp) rfl rfl (by k_ne) rfl Tryz.jG.f_acquire (x_acquire_n Tryz.link) (x_acquire_b Tryz.link) (x_acquire_x Tryz.link) (x_acquire_f Tryz.link) (by simp [Act.eval,muA]), λGu JH hJ=>?_⟩)
  replace hF:=dD hz hF h₁;clear h₁;have JI:=hF.1;replace hF:KM 97 Mu ((cfg Mu Wg ty N J ro Anch).Zw k) (λb=>own b∨Gu b) w₁ w₁:=⟨dZ.refl _,hF.2⟩;rw [e0];refine dG (n:=30) ?_
  walk_nrm
  repeat w_go (dD hz)
  u_leave0 Tryz.func128 (dD hz) hF
  exact cZ λw₃ h₃=>Gw.mono (λ_ _ _ h=>.base (.inr h)) (e0 ▸ hT _ _ _ _ JI JH hJ (dD hz hF h₃))
 by_cases hq:mu=20
 ·subst hq;refine .inr ⟨by simp,⟨.a1,0,11,false,false,0,false⟩,20,ms,_,w,#[],by simp [lT],by rw [e0];exact jv (v:=20) rfl rfl (by k_ne) rfl rfl hs.cellSt kC,by simp,hs,Eff.refl _,(λe he=>by simp at he),?_⟩;clear hs hm1 hm2 hnb;rw [e0];refine dG (n:=120) ?_
  walk_nrm
  repeat w_go (dD hz)
  refine cZ (λw₁ h₁=>?_);replace hF:=dD hz hF h₁;clear h₁;refine Gw.stop λw₁ h₁=>.step (fI hne (by simp) rfl rfl λs hs hm1 hm2 hnb=>?_)
  replace hF:=dD hz hF h₁;clear h₁
  have hle:11<=s.b.mu:=by
   rcases bz s.b.mu 11 with h|h
   ·have :=hnb (lk .bad,s.b.mu,s.b.ms) (by simp [lT,Nat.not_le.2 h]);cases this
   ·exact h
  have hmx:=FK hm1;have ew:IntKind.i32.wrap (((s.b.mu:Nat):Int)+(-11))=((s.b.mu - 11:Nat):Int):=by rw [IntKind.wrap_i32];omega
  refine .inr ⟨by simp,lk .le,s.b.mu - 11,s.b.ms,_,w₁.setCell (muA Mu) (.int .i32 ((s.b.mu - 11:Nat):Int)),_,by simp [lT,hle],by rw [e0];exact (stepG_add_atomic rfl rfl (by k_ne) rfl Tryz.func129 vY vZ wh .i32 wm rfl rfl hs.cellSt (hs.thaw 0)).trans (by rw [ew];first |done|rfl),by simp,hs.setSt _,Eff.set _ _ (.inl rfl),mo (C:=cfg Mu Wg ty N J ro Anch) (a:=muA Mu) (.inl rfl),?_⟩;replace hF:=hF.turn hb hs (hs.setSt ((s.b.mu - 11:Nat):Int)) (Eff.set (muA Mu) _ (.inl rfl));generalize hwn:w₁.setCell (muA Mu) (.int .i32 ((s.b.mu - 11:Nat):Int))=w₂ at hF ⊢;generalize hmn:((s.b.mu - 11:Nat):Int)=mn;clear hwn hmn ew hle hmx hs hm1 hm2 hnb s;rw [e0];refine dG (n:=80) ?_
  walk_nrm
  repeat w_go (dD hz)
  refine cZ (λw₁ h₁=>?_);replace hF:=dD hz hF h₁;clear h₁;refine Gw.stop λw₁ h₁=>.step (fI hne (by simp) rfl rfl λs hs hm1 hm2 hnb=>.inr ⟨by simp,_,_,_,_,w₁,_,aS.2 rfl,by rw [e0];exact stepG_mark0 .enable (by simp) rfl rfl (by k_ne) rfl Tryz.jG.f_enable (x_enable_n Tryz.link) (x_enable_b Tryz.link) (x_enable_x Tryz.link) (x_enable_f Tryz.link),by simp,hs,Eff.refl _,rfl,?_⟩)
  replace hF:=dD hz hF h₁;clear h₁;clear hs hm1 hm2 hnb s;rw [e0];refine dG (n:=30) ?_
  walk_nrm
  repeat w_go (dD hz)
  m_convG Tryz.prog Tryz.jG.underlying_tUP zI ER hF.mu.choose_spec (dD hz) hF
  refine cZ (λw₁ h₁=>?_);replace hF:=dD hz hF h₁;clear h₁;refine Gw.stop λw₁ h₁=>.step (Oz hne rfl rfl rfl λs hs hc=>⟨_,by rw [e0];exact stepG_markAt .acquire (by simp) rfl rfl (by k_ne) rfl Tryz.jG.f_acquire (x_acquire_n Tryz.link) (x_acquire_b Tryz.link) (x_acquire_x Tryz.link) (x_acquire_f Tryz.link) (by simp [Act.eval,muA]), λGu JH hJ=>?_⟩)
  replace hF:=dD hz hF h₁;clear h₁;have JI:=hF.1;replace hF:KM 97 Mu ((cfg Mu Wg ty N J ro Anch).Zw k) (λb=>own b∨Gu b) w₁ w₁:=⟨dZ.refl _,hF.2⟩;rw [e0];refine dG (n:=30) ?_
  walk_nrm
  repeat w_go (dD hz)
  u_leave0 Tryz.func128 (dD hz) hF
  exact cZ λw₃ h₃=>Gw.mono (λ_ _ _ h=>.base (.inr h)) (e0 ▸ hT _ _ _ _ JI JH hJ (dD hz hF h₃))
 have h13:mu≠13:= λe=>by
  subst e;have :=hnb (lk .bad,13,ms) (by simp [lT]);cases this
 have hq4:bits .and .i32 ((mu:Nat):Int) 4=0:=by
  have :mu=0∨mu=1∨mu=2∨mu=3∨mu=8∨mu=9:=by simp [MC] at hm1;omega
  rcases this with rfl|rfl|rfl|rfl|rfl|rfl<;>decide
 refine .inr ⟨by simp,⟨.hd,mu,0,true,false,0,ws⟩,mu,ms,_,w,#[],by simp [lT, *],by rw [e0];exact jv rfl rfl (by k_ne) rfl rfl hs.cellSt kC,by simp,hs,Eff.refl _,(λe he=>by simp at he),?_⟩;clear hs hm1 hm2 hnb;rw [e0];refine dG (n:=120) ?_
 walk_nrm
 repeat w_nl (dD hz)
 u_c stepG_inLoop (dD hz) hF
 exact cZ λw₃ h₃=>.stop λw₄ h₄=>.base (.inl (.mk (dD hz (dD hz hF h₃) h₄) hws))
theorem Vl (hne:Mu≠Wg) (hi:i≠0) (hb:Beside (cfg Mu Wg ty N J ro Anch) ((cfg Mu Wg ty N J ro Anch).Zw k) own) (hT:kH Mu Wg ty N J ro Anch own W0 i k c (G (b₁.at (a₁.put ((dO[i₁]?).bind (·.dst)) (.tuple #[])) (.inRegion dO dQ::k₁)) cs₁))
 {n:Nat} {it:Nat} {aw ws:Bool} {kG:Int} {oN:Array Oper} {aN lN rN:Code} {w:World} (hF:KM 97 Mu ((cfg Mu Wg ty N J ro Anch).Zw k) own W0 w) (hws:ws=decide (kG≠0)) (yE:oN=jQ 29) (yF:aN=jU 29) (yG:lN=LL) (yH:rN=REST):
 uq Tryz.prog (cfg Mu Wg ty N J ro Anch).sys (HX Mu Wg ty N J ro Anch own W0 i k c b₁ a₁ dO i₁ dQ k₁ cs₁) i (.bd k ⟨⟨.r2,0,0,aw,true,0,ws⟩,c,n⟩) own (G ((base 128).at ⟨#[.pointer (some ⟨Mu,0,none⟩),j1,.int .i64 kG,.bool true,.bool aw,.int .i64 (it:Nat),j6,j7,j8,j9,j10,j11,j12,j13,nV,nW,mE,mF,mG,mH,mJ,nZ,oh,oo,mK,mM,mO,mP,mQ,mR,mU,mV,mW,mX,qh,qi,qj,ql,qm,qo,qx,qy,qz,qA,qB,qC,qD,qE,qF,qG,qH,qI,qJ,qK,qL,qM,qN,qO,qP,qQ,qR,qU,qV,qW,qX,qY,qZ,rq,ru,ry,rz,rA,rC,rD,rE,rF,rG,wo,wu,wz,vN,rH,rJ,rM,rO,rP,rQ,rR,rT,rU,rV,tJ,rW,rX,rY,sD,rZ,r9,si,sj,iB,iC,iD,.pointer (some (muA Mu)),iE,iF,iG,iH,iI,iJ,iK,iL,iM,iN,iO,iP,iQ,iR,iT,iU,iV,iW,iX,iY,iZ,ja,jc,jd,je,jf,jg,jh,ji,jk,jl,jm,jo,jq,jr],[]⟩ [.inRegion oN [3,4],.code aN,.inBlock 1,.inLoop lN,.inBlock 0,.code rN]) (b₁.at a₁ (.inRegion dO (i₁::dQ)::k₁)::cs₁)) w:=by
 have e0:(i==0)=false:=by simpa using hi
 have hz:((cfg Mu Wg ty N J ro Anch).Zw k).sy Mu:=.inl (.inl rfl);subst yE yF yG yH;simp only [LL,REST,jQ,jU,kY,dW,dL,dS,dN,eO,dI,Tryz.f128,ak,reduceIte,Nat.reduceEqDiff,reduceCtorEq];refine fI hne (by simp) rfl rfl λs hs hm1 hm2 hnb=>?_
 obtain ⟨v,wt,sm,jn,dn,⟨mu,ms,c0,c1,ow⟩⟩:=s;simp only at hs hm1 hm2 hnb ⊢
 by_cases hq:mu=12
 ·subst hq;refine .inr ⟨by simp,⟨.a1,0,11,false,false,0,false⟩,12,ms,_,w,#[],by simp [lT],by rw [e0];exact jv (v:=12) rfl rfl (by k_ne) rfl rfl hs.cellSt kC,by simp,hs,Eff.refl _,(λe he=>by simp at he),?_⟩;clear hs hm1 hm2 hnb;rw [e0];refine dG (n:=120) ?_
  walk_nrm
  repeat w_go (dD hz)
  refine cZ (λw₁ h₁=>?_);replace hF:=dD hz hF h₁;clear h₁;refine Gw.stop λw₁ h₁=>.step (fI hne (by simp) rfl rfl λs hs hm1 hm2 hnb=>?_)
  replace hF:=dD hz hF h₁;clear h₁
  have hle:11<=s.b.mu:=by
   rcases bz s.b.mu 11 with h|h
   ·have :=hnb (lk .bad,s.b.mu,s.b.ms) (by simp [lT,Nat.not_le.2 h]);cases this
   ·exact h
  have hmx:=FK hm1;have ew:IntKind.i32.wrap (((s.b.mu:Nat):Int)+(-11))=((s.b.mu - 11:Nat):Int):=by rw [IntKind.wrap_i32];omega
  refine .inr ⟨by simp,lk .le,s.b.mu - 11,s.b.ms,_,w₁.setCell (muA Mu) (.int .i32 ((s.b.mu - 11:Nat):Int)),_,by simp [lT,hle],by rw [e0];exact (stepG_add_atomic rfl rfl (by k_ne) rfl Tryz.func129 vY vZ wh .i32 wm rfl rfl hs.cellSt (hs.thaw 0)).trans (by rw [ew];first |done|rfl),by simp,hs.setSt _,Eff.set _ _ (.inl rfl),mo (C:=cfg Mu Wg ty N J ro Anch) (a:=muA Mu) (.inl rfl),?_⟩;replace hF:=hF.turn hb hs (hs.setSt ((s.b.mu - 11:Nat):Int)) (Eff.set (muA Mu) _ (.inl rfl));generalize hwn:w₁.setCell (muA Mu) (.int .i32 ((s.b.mu - 11:Nat):Int))=w₂ at hF ⊢;generalize hmn:((s.b.mu - 11:Nat):Int)=mn;clear hwn hmn ew hle hmx hs hm1 hm2 hnb s;rw [e0];refine dG (n:=80) ?_
  walk_nrm
  repeat w_go (dD hz)
  refine cZ (λw₁ h₁=>?_);replace hF:=dD hz hF h₁;clear h₁;refine Gw.stop λw₁ h₁=>.step (fI hne (by simp) rfl rfl λs hs hm1 hm2 hnb=>.inr ⟨by simp,_,_,_,_,w₁,_,aS.2 rfl,by rw [e0];exact stepG_mark0 .enable (by simp) rfl rfl (by k_ne) rfl Tryz.jG.f_enable (x_enable_n Tryz.link) (x_enable_b Tryz.link) (x_enable_x Tryz.link) (x_enable_f Tryz.link),by simp,hs,Eff.refl _,rfl,?_⟩)
  replace hF:=dD hz hF h₁;clear h₁;clear hs hm1 hm2 hnb s;rw [e0];refine dG (n:=30) ?_
  walk_nrm
  repeat w_go (dD hz)
  m_convG Tryz.prog Tryz.jG.underlying_tUP zI ER hF.mu.choose_spec (dD hz) hF
  refine cZ (λw₁ h₁=>?_);replace hF:=dD hz hF h₁;clear h₁;refine Gw.stop λw₁ h₁=>.step (Oz hne rfl rfl rfl λs hs hc=>⟨_,by rw [e0];exact stepG_markAt .acquire (by simp) rfl rfl (by k_ne) rfl Tryz.jG.f_acquire (x_acquire_n Tryz.link) (x_acquire_b Tryz.link) (x_acquire_x Tryz.link) (x_acquire_f Tryz.link) (by simp [Act.eval,muA]), λGu JH hJ=>?_⟩)
  replace hF:=dD hz hF h₁;clear h₁;have JI:=hF.1;replace hF:KM 97 Mu ((cfg Mu Wg ty N J ro Anch).Zw k) (λb=>own b∨Gu b) w₁ w₁:=⟨dZ.refl _,hF.2⟩;rw [e0];refine dG (n:=30) ?_
  walk_nrm
  repeat w_go (dD hz)
  u_leave0 Tryz.func128 (dD hz) hF
  exact cZ λw₃ h₃=>Gw.mono (λ_ _ _ h=>.base (.inr h)) (e0 ▸ hT _ _ _ _ JI JH hJ (dD hz hF h₃))
 by_cases hq:mu=20
 ·subst hq;refine .inr ⟨by simp,⟨.a1,0,7,false,false,0,false⟩,20,ms,_,w,#[],by simp [lT],by rw [e0];exact jv (v:=20) rfl rfl (by k_ne) rfl rfl hs.cellSt kC,by simp,hs,Eff.refl _,(λe he=>by simp at he),?_⟩;clear hs hm1 hm2 hnb;rw [e0];refine dG (n:=120) ?_
  walk_nrm
  repeat w_go (dD hz)
  refine cZ (λw₁ h₁=>?_);replace hF:=dD hz hF h₁;clear h₁;refine Gw.stop λw₁ h₁=>.step (fI hne (by simp) rfl rfl λs hs hm1 hm2 hnb=>?_)
  replace hF:=dD hz hF h₁;clear h₁
  have hle:7<=s.b.mu:=by
   rcases bz s.b.mu 7 with h|h
   ·have :=hnb (lk .bad,s.b.mu,s.b.ms) (by simp [lT,Nat.not_le.2 h]);cases this
   ·exact h
  have hmx:=FK hm1;have ew:IntKind.i32.wrap (((s.b.mu:Nat):Int)+(-7))=((s.b.mu - 7:Nat):Int):=by rw [IntKind.wrap_i32];omega
  refine .inr ⟨by simp,lk .le,s.b.mu - 7,s.b.ms,_,w₁.setCell (muA Mu) (.int .i32 ((s.b.mu - 7:Nat):Int)),_,by simp [lT,hle],by rw [e0];exact (stepG_add_atomic rfl rfl (by k_ne) rfl Tryz.func129 vY vZ wh .i32 wm rfl rfl hs.cellSt (hs.thaw 0)).trans (by rw [ew];first |done|rfl),by simp,hs.setSt _,Eff.set _ _ (.inl rfl),mo (C:=cfg Mu Wg ty N J ro Anch) (a:=muA Mu) (.inl rfl),?_⟩;replace hF:=hF.turn hb hs (hs.setSt ((s.b.mu - 7:Nat):Int)) (Eff.set (muA Mu) _ (.inl rfl));generalize hwn:w₁.setCell (muA Mu) (.int .i32 ((s.b.mu - 7:Nat):Int))=w₂ at hF ⊢;generalize hmn:((s.b.mu - 7:Nat):Int)=mn;clear hwn hmn ew hle hmx hs hm1 hm2 hnb s;rw [e0];refine dG (n:=80) ?_
  walk_nrm
  repeat w_go (dD hz)
  refine cZ (λw₁ h₁=>?_);replace hF:=dD hz hF h₁;clear h₁;refine Gw.stop λw₁ h₁=>.step (fI hne (by simp) rfl rfl λs hs hm1 hm2 hnb=>.inr ⟨by simp,_,_,_,_,w₁,_,aS.2 rfl,by rw [e0];exact stepG_mark0 .enable (by simp) rfl rfl (by k_ne) rfl Tryz.jG.f_enable (x_enable_n Tryz.link) (x_enable_b Tryz.link) (x_enable_x Tryz.link) (x_enable_f Tryz.link),by simp,hs,Eff.refl _,rfl,?_⟩)
  replace hF:=dD hz hF h₁;clear h₁;clear hs hm1 hm2 hnb s;rw [e0];refine dG (n:=30) ?_
  walk_nrm
  repeat w_go (dD hz)
  m_convG Tryz.prog Tryz.jG.underlying_tUP zI ER hF.mu.choose_spec (dD hz) hF
  refine cZ (λw₁ h₁=>?_);replace hF:=dD hz hF h₁;clear h₁;refine Gw.stop λw₁ h₁=>.step (Oz hne rfl rfl rfl λs hs hc=>⟨_,by rw [e0];exact stepG_markAt .acquire (by simp) rfl rfl (by k_ne) rfl Tryz.jG.f_acquire (x_acquire_n Tryz.link) (x_acquire_b Tryz.link) (x_acquire_x Tryz.link) (x_acquire_f Tryz.link) (by simp [Act.eval,muA]), λGu JH hJ=>?_⟩)
  replace hF:=dD hz hF h₁;clear h₁;have JI:=hF.1;replace hF:KM 97 Mu ((cfg Mu Wg ty N J ro Anch).Zw k) (λb=>own b∨Gu b) w₁ w₁:=⟨dZ.refl _,hF.2⟩;rw [e0];refine dG (n:=30) ?_
  walk_nrm
  repeat w_go (dD hz)
  u_leave0 Tryz.func128 (dD hz) hF
  exact cZ λw₃ h₃=>Gw.mono (λ_ _ _ h=>.base (.inr h)) (e0 ▸ hT _ _ _ _ JI JH hJ (dD hz hF h₃))
 have h13:mu≠13:= λe=>by
  subst e;have :=hnb (lk .bad,13,ms) (by simp [lT]);cases this
 have hq4:bits .and .i32 ((mu:Nat):Int) 4=0:=by
  have :mu=0∨mu=1∨mu=2∨mu=3∨mu=8∨mu=9:=by simp [MC] at hm1;omega
  rcases this with rfl|rfl|rfl|rfl|rfl|rfl<;>decide
 refine .inr ⟨by simp,⟨.hd,mu,0,true,true,0,ws⟩,mu,ms,_,w,#[],by simp [lT, *],by rw [e0];exact jv rfl rfl (by k_ne) rfl rfl hs.cellSt kC,by simp,hs,Eff.refl _,(λe he=>by simp at he),?_⟩;clear hs hm1 hm2 hnb;rw [e0];refine dG (n:=120) ?_
 walk_nrm
 repeat w_nl (dD hz)
 u_c stepG_inLoop (dD hz) hF
 exact cZ λw₃ h₃=>.stop λw₄ h₄=>.base (.inl (.mk (dD hz (dD hz hF h₃) h₄) hws))
end
end Go.Proofs.Tryz
