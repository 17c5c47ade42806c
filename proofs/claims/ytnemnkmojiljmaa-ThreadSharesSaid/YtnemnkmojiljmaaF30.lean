/- Part 30. -/
import Derived.Test.YtnemnkmojiljmaaF29
set_option maxRecDepth 100000
set_option maxHeartbeats 8000000
set_option linter.all false
namespace Go.Proofs.Try
open Go Go.Conc Go.ConcN Go.ConcM Go.RowKit Go.Conc.Lib Go.ConcR.Gen Par
open Go.ConcR (KK wgBlock WgAt stA smA rd wr mk AtMkS)
section
variable {j1 j6 j7 j8 j9 j10 j11 j12 j13 lU lV kz kC kD kE kF l6 l7 l8 kG kH kJ kK kL kM kN kP kQ kR nJ nK nL nM nN nO nP nQ nR nS nT nU nV nW nX nY nZ oh oo oq ou oz oC oD oF oG oH oI oJ oK oO oP oQ oU oV oW oZ pg pq pz pE pF pG uk um uo tF pI pJ pK pM pO pQ pR pU pV pW qL p8 p9 qa qj qb qc qd qf fC fD fE fF fG fH fI fJ fK fM fO fP fQ fT fU fV fZ gq gu gy gz gB gD gF gG gH gI gJ gK gL gM gN gP gQ gT gU gV gW:Value}
variable {Mu Wg:Nat} {ty:TypeId} {N:Nat->Nat} {J:Nat->Nat->(Nat->Prop)->World->Prop} {ro:Nat->Prop} {Anch:(Nat->Prop)->Goroutine->World->Prop}
variable {own:Nat->Prop} {W0:World} {i k c:Nat} {b₁:Frame} {a₁:Act} {bS:Array Oper} {i₁:Nat} {bU:List Nat} {k₁:List Item} {cs₁:List Frame}
theorem Dv {m:Nat} (h:KA m=true):m<=20:=by
 simp [KA] at h;omega
theorem ZR (hne:Mu≠Wg) (hi:i≠0) (hb:Beside (cfg Mu Wg ty N J ro Anch) ((cfg Mu Wg ty N J ro Anch).Zw k) own) (hT:ja Mu Wg ty N J ro Anch own W0 i k c (G (b₁.at (a₁.put ((bS[i₁]?).bind (·.dst)) (.tuple #[])) (.inRegion bS bU::k₁)) cs₁))
 {n:Nat} {it:Nat} {aw ws:Bool} {iZ:Int} {oN:Array Oper} {aN lN rN:Code} {w:World} (hF:KM 80 Mu ((cfg Mu Wg ty N J ro Anch).Zw k) own W0 w) (hws:ws=decide (iZ≠0)) (wP:oN=iJ 29) (wQ:aN=iM 29) (wR:lN=LL) (wS:rN=REST):
 rC Try.prog (cfg Mu Wg ty N J ro Anch).sys (HX Mu Wg ty N J ro Anch own W0 i k c b₁ a₁ bS i₁ bU k₁ cs₁) i (.bd k ⟨⟨.r2,0,0,aw,false,0,ws⟩,c,n⟩) own (G ((base 89).at ⟨#[.pointer (some ⟨Mu,0,none⟩),j1,.int .i64 iZ,.bool false,.bool aw,.int .i64 (it:Nat),j6,j7,j8,j9,j10,j11,j12,j13,lU,lV,kz,kC,kD,kE,kF,l6,l7,l8,kG,kH,kJ,kK,kL,kM,kN,kP,kQ,kR,nJ,nK,nL,nM,nN,nO,nP,nQ,nR,nS,nT,nU,nV,nW,nX,nY,nZ,oh,oo,oq,ou,oz,oC,oD,oF,oG,oH,oI,oJ,oK,oO,oP,oQ,oU,oV,oW,oZ,pg,pq,pz,pE,pF,pG,uk,um,uo,tF,pI,pJ,pK,pM,pO,pQ,pR,pU,pV,pW,qL,p8,p9,qa,qj,qb,qc,qd,qf,fC,fD,fE,.pointer (some (muA Mu)),fF,fG,fH,fI,fJ,fK,fM,fO,fP,fQ,fT,fU,fV,fZ,gq,gu,gy,gz,gB,gD,gF,gG,gH,gI,gJ,gK,gL,gM,gN,gP,gQ,gT,gU,gV,gW],[]⟩ [.inRegion oN [3,4],.code aN,.inBlock 1,.inLoop lN,.inBlock 0,.code rN]) (b₁.at a₁ (.inRegion bS (i₁::bU)::k₁)::cs₁)) w:=by
 have e0:(i==0)=false:=by simpa using hi
 have hz:((cfg Mu Wg ty N J ro Anch).Zw k).sy Mu:=.inl (.inl rfl);subst wP wQ wR wS;simp only [LL,REST,iJ,iM,jv,bY,bO,bW,bR,cB,bN,Try.f89,Option.getD_some,reduceIte,Nat.reduceEqDiff,reduceCtorEq];refine dH hne (by simp) rfl rfl λs hs hm1 hm2 hnb=>?_
 obtain ⟨v,wt,sm,jn,dn,⟨mu,ms,c0,c1,ow⟩⟩:=s;simp only at hs hm1 hm2 hnb ⊢
 by_cases hq:mu=12
 ·subst hq;refine .inr ⟨by simp,⟨.a1,0,11,false,false,0,false⟩,12,ms,_,w,#[],by simp [jO],by rw [e0];exact gZ (v:=12) rfl rfl (by k_ne) rfl rfl hs.cellSt iT,by simp,hs,Eff.refl _,(λe he=>by simp at he),?_⟩;clear hs hm1 hm2 hnb;rw [e0];refine bL (n:=120) ?_
  walk_nrm
  repeat w_go (KM.rely hz)
  refine Goes.stop (λw₁ h₁=>?_);replace hF:=KM.rely hz hF h₁;clear h₁;refine Gw.stop λw₁ h₁=>.step (dH hne (by simp) rfl rfl λs hs hm1 hm2 hnb=>?_)
  replace hF:=KM.rely hz hF h₁;clear h₁
  have hle:11<=s.b.mu:=by
   rcases aO s.b.mu 11 with h|h
   ·have :=hnb (lk .bad,s.b.mu,s.b.ms) (by simp [jO,Nat.not_le.2 h]);cases this
   ·exact h
  have hmx:=Dv hm1;have ew:IntKind.i32.wrap (((s.b.mu:Nat):Int)+(-11))=((s.b.mu - 11:Nat):Int):=by rw [IntKind.wrap_i32];omega
  refine .inr ⟨by simp,lk .le,s.b.mu - 11,s.b.ms,_,w₁.setCell (muA Mu) (.int .i32 ((s.b.mu - 11:Nat):Int)),_,by simp [jO,hle],by rw [e0];exact (stepG_add_atomic rfl rfl (by k_ne) rfl Try.func90 uf ug uh .i32 uj rfl rfl hs.cellSt (hs.thaw 0)).trans (by rw [ew];first |done|rfl),by simp,hs.setSt _,Eff.set _ _ (.inl rfl),jZ (C:=cfg Mu Wg ty N J ro Anch) (a:=muA Mu) (.inl rfl),?_⟩;replace hF:=hF.turn hb hs (hs.setSt ((s.b.mu - 11:Nat):Int)) (Eff.set (muA Mu) _ (.inl rfl));generalize hwn:w₁.setCell (muA Mu) (.int .i32 ((s.b.mu - 11:Nat):Int))=w₂ at hF ⊢;generalize hmn:((s.b.mu - 11:Nat):Int)=mn;clear hwn hmn ew hle hmx hs hm1 hm2 hnb s;rw [e0];refine bL (n:=80) ?_
  walk_nrm
  repeat w_go (KM.rely hz)
  refine Goes.stop (λw₁ h₁=>?_);replace hF:=KM.rely hz hF h₁;clear h₁;refine Gw.stop λw₁ h₁=>.step (dH hne (by simp) rfl rfl λs hs hm1 hm2 hnb=>.inr ⟨by simp,_,_,_,_,w₁,_,aB.2 rfl,by rw [e0];exact stepG_mark0 .enable (by simp) rfl rfl (by k_ne) rfl Try.iB.f_enable (x_enable_n Try.link) (x_enable_b Try.link) (x_enable_x Try.link) (x_enable_f Try.link),by simp,hs,Eff.refl _,rfl,?_⟩)
  replace hF:=KM.rely hz hF h₁;clear h₁;clear hs hm1 hm2 hnb s;rw [e0];refine bL (n:=30) ?_
  walk_nrm
  repeat w_go (KM.rely hz)
  m_convG Try.prog Try.iB.underlying_tUP xV CR hF.mu.choose_spec (KM.rely hz) hF
  refine Goes.stop (λw₁ h₁=>?_);replace hF:=KM.rely hz hF h₁;clear h₁;refine Gw.stop λw₁ h₁=>.step (MX hne rfl rfl rfl λs hs hc=>⟨_,by rw [e0];exact stepG_markAt .acquire (by simp) rfl rfl (by k_ne) rfl Try.iB.f_acquire (x_acquire_n Try.link) (x_acquire_b Try.link) (x_acquire_x Try.link) (x_acquire_f Try.link) (by simp [Act.eval,muA]), λGu Hg hJ=>?_⟩)
  replace hF:=KM.rely hz hF h₁;clear h₁;have Qv:=hF.1;replace hF:KM 80 Mu ((cfg Mu Wg ty N J ro Anch).Zw k) (λb=>own b∨Gu b) w₁ w₁:=⟨bZ.refl _,hF.2⟩;rw [e0];refine bL (n:=30) ?_
  walk_nrm
  repeat w_go (KM.rely hz)
  u_leave0 Try.func89 (KM.rely hz) hF
  exact Goes.stop λw₃ h₃=>Gw.mono (λ_ _ _ h=>.base (.inr h)) (e0 ▸ hT _ _ _ _ Qv Hg hJ (KM.rely hz hF h₃))
 by_cases hq:mu=20
 ·subst hq;refine .inr ⟨by simp,⟨.a1,0,11,false,false,0,false⟩,20,ms,_,w,#[],by simp [jO],by rw [e0];exact gZ (v:=20) rfl rfl (by k_ne) rfl rfl hs.cellSt iT,by simp,hs,Eff.refl _,(λe he=>by simp at he),?_⟩;clear hs hm1 hm2 hnb;rw [e0];refine bL (n:=120) ?_
  walk_nrm
  repeat w_go (KM.rely hz)
  refine Goes.stop (λw₁ h₁=>?_);replace hF:=KM.rely hz hF h₁;clear h₁;refine Gw.stop λw₁ h₁=>.step (dH hne (by simp) rfl rfl λs hs hm1 hm2 hnb=>?_)
  replace hF:=KM.rely hz hF h₁;clear h₁
  have hle:11<=s.b.mu:=by
   rcases aO s.b.mu 11 with h|h
   ·have :=hnb (lk .bad,s.b.mu,s.b.ms) (by simp [jO,Nat.not_le.2 h]);cases this
   ·exact h
  have hmx:=Dv hm1;have ew:IntKind.i32.wrap (((s.b.mu:Nat):Int)+(-11))=((s.b.mu - 11:Nat):Int):=by rw [IntKind.wrap_i32];omega
  refine .inr ⟨by simp,lk .le,s.b.mu - 11,s.b.ms,_,w₁.setCell (muA Mu) (.int .i32 ((s.b.mu - 11:Nat):Int)),_,by simp [jO,hle],by rw [e0];exact (stepG_add_atomic rfl rfl (by k_ne) rfl Try.func90 uf ug uh .i32 uj rfl rfl hs.cellSt (hs.thaw 0)).trans (by rw [ew];first |done|rfl),by simp,hs.setSt _,Eff.set _ _ (.inl rfl),jZ (C:=cfg Mu Wg ty N J ro Anch) (a:=muA Mu) (.inl rfl),?_⟩;replace hF:=hF.turn hb hs (hs.setSt ((s.b.mu - 11:Nat):Int)) (Eff.set (muA Mu) _ (.inl rfl));generalize hwn:w₁.setCell (muA Mu) (.int .i32 ((s.b.mu - 11:Nat):Int))=w₂ at hF ⊢;generalize hmn:((s.b.mu - 11:Nat):Int)=mn;clear hwn hmn ew hle hmx hs hm1 hm2 hnb s;rw [e0];refine bL (n:=80) ?_
  walk_nrm
  repeat w_go (KM.rely hz)
  refine Goes.stop (λw₁ h₁=>?_);replace hF:=KM.rely hz hF h₁;clear h₁;refine Gw.stop λw₁ h₁=>.step (dH hne (by simp) rfl rfl λs hs hm1 hm2 hnb=>.inr ⟨by simp,_,_,_,_,w₁,_,aB.2 rfl,by rw [e0];exact stepG_mark0 .enable (by simp) rfl rfl (by k_ne) rfl Try.iB.f_enable (x_enable_n Try.link) (x_enable_b Try.link) (x_enable_x Try.link) (x_enable_f Try.link),by simp,hs,Eff.refl _,rfl,?_⟩)
  replace hF:=KM.rely hz hF h₁;clear h₁;clear hs hm1 hm2 hnb s;rw [e0];refine bL (n:=30) ?_
  walk_nrm
  repeat w_go (KM.rely hz)
  m_convG Try.prog Try.iB.underlying_tUP xV CR hF.mu.choose_spec (KM.rely hz) hF
  refine Goes.stop (λw₁ h₁=>?_);replace hF:=KM.rely hz hF h₁;clear h₁;refine Gw.stop λw₁ h₁=>.step (MX hne rfl rfl rfl λs hs hc=>⟨_,by rw [e0];exact stepG_markAt .acquire (by simp) rfl rfl (by k_ne) rfl Try.iB.f_acquire (x_acquire_n Try.link) (x_acquire_b Try.link) (x_acquire_x Try.link) (x_acquire_f Try.link) (by simp [Act.eval,muA]), λGu Hg hJ=>?_⟩)
  replace hF:=KM.rely hz hF h₁;clear h₁;have Qv:=hF.1;replace hF:KM 80 Mu ((cfg Mu Wg ty N J ro Anch).Zw k) (λb=>own b∨Gu b) w₁ w₁:=⟨bZ.refl _,hF.2⟩;rw [e0];refine bL (n:=30) ?_
  walk_nrm
  repeat w_go (KM.rely hz)
  u_leave0 Try.func89 (KM.rely hz) hF
  exact Goes.stop λw₃ h₃=>Gw.mono (λ_ _ _ h=>.base (.inr h)) (e0 ▸ hT _ _ _ _ Qv Hg hJ (KM.rely hz hF h₃))
 have h13:mu≠13:= λe=>by
  subst e;have :=hnb (lk .bad,13,ms) (by simp [jO]);cases this
 have hq4:bits .and .i32 ((mu:Nat):Int) 4=0:=by
  have :mu=0∨mu=1∨mu=2∨mu=3∨mu=8∨mu=9:=by simp [KA] at hm1;omega
  rcases this with rfl|rfl|rfl|rfl|rfl|rfl<;>decide
 refine .inr ⟨by simp,⟨.hd,mu,0,true,false,0,ws⟩,mu,ms,_,w,#[],by simp [jO, *],by rw [e0];exact gZ rfl rfl (by k_ne) rfl rfl hs.cellSt iT,by simp,hs,Eff.refl _,(λe he=>by simp at he),?_⟩;clear hs hm1 hm2 hnb;rw [e0];refine bL (n:=120) ?_
 walk_nrm
 repeat w_nl (KM.rely hz)
 u_c stepG_inLoop (KM.rely hz) hF
 exact Goes.stop λw₃ h₃=>.stop λw₄ h₄=>.base (.inl (.mk (KM.rely hz (KM.rely hz hF h₃) h₄) hws))
theorem Ui (hne:Mu≠Wg) (hi:i≠0) (hb:Beside (cfg Mu Wg ty N J ro Anch) ((cfg Mu Wg ty N J ro Anch).Zw k) own) (hT:ja Mu Wg ty N J ro Anch own W0 i k c (G (b₁.at (a₁.put ((bS[i₁]?).bind (·.dst)) (.tuple #[])) (.inRegion bS bU::k₁)) cs₁))
 {n:Nat} {it:Nat} {aw ws:Bool} {iZ:Int} {oN:Array Oper} {aN lN rN:Code} {w:World} (hF:KM 80 Mu ((cfg Mu Wg ty N J ro Anch).Zw k) own W0 w) (hws:ws=decide (iZ≠0)) (wP:oN=iJ 29) (wQ:aN=iM 29) (wR:lN=LL) (wS:rN=REST):
 rC Try.prog (cfg Mu Wg ty N J ro Anch).sys (HX Mu Wg ty N J ro Anch own W0 i k c b₁ a₁ bS i₁ bU k₁ cs₁) i (.bd k ⟨⟨.r2,0,0,aw,true,0,ws⟩,c,n⟩) own (G ((base 89).at ⟨#[.pointer (some ⟨Mu,0,none⟩),j1,.int .i64 iZ,.bool true,.bool aw,.int .i64 (it:Nat),j6,j7,j8,j9,j10,j11,j12,j13,lU,lV,kz,kC,kD,kE,kF,l6,l7,l8,kG,kH,kJ,kK,kL,kM,kN,kP,kQ,kR,nJ,nK,nL,nM,nN,nO,nP,nQ,nR,nS,nT,nU,nV,nW,nX,nY,nZ,oh,oo,oq,ou,oz,oC,oD,oF,oG,oH,oI,oJ,oK,oO,oP,oQ,oU,oV,oW,oZ,pg,pq,pz,pE,pF,pG,uk,um,uo,tF,pI,pJ,pK,pM,pO,pQ,pR,pU,pV,pW,qL,p8,p9,qa,qj,qb,qc,qd,qf,fC,fD,fE,.pointer (some (muA Mu)),fF,fG,fH,fI,fJ,fK,fM,fO,fP,fQ,fT,fU,fV,fZ,gq,gu,gy,gz,gB,gD,gF,gG,gH,gI,gJ,gK,gL,gM,gN,gP,gQ,gT,gU,gV,gW],[]⟩ [.inRegion oN [3,4],.code aN,.inBlock 1,.inLoop lN,.inBlock 0,.code rN]) (b₁.at a₁ (.inRegion bS (i₁::bU)::k₁)::cs₁)) w:=by
 have e0:(i==0)=false:=by simpa using hi
 have hz:((cfg Mu Wg ty N J ro Anch).Zw k).sy Mu:=.inl (.inl rfl);subst wP wQ wR wS;simp only [LL,REST,iJ,iM,jv,bY,bO,bW,bR,cB,bN,Try.f89,Option.getD_some,reduceIte,Nat.reduceEqDiff,reduceCtorEq];refine dH hne (by simp) rfl rfl λs hs hm1 hm2 hnb=>?_
 obtain ⟨v,wt,sm,jn,dn,⟨mu,ms,c0,c1,ow⟩⟩:=s;simp only at hs hm1 hm2 hnb ⊢
 by_cases hq:mu=12
 ·subst hq;refine .inr ⟨by simp,⟨.a1,0,11,false,false,0,false⟩,12,ms,_,w,#[],by simp [jO],by rw [e0];exact gZ (v:=12) rfl rfl (by k_ne) rfl rfl hs.cellSt iT,by simp,hs,Eff.refl _,(λe he=>by simp at he),?_⟩;clear hs hm1 hm2 hnb;rw [e0];refine bL (n:=120) ?_
  walk_nrm
  repeat w_go (KM.rely hz)
  refine Goes.stop (λw₁ h₁=>?_);replace hF:=KM.rely hz hF h₁;clear h₁;refine Gw.stop λw₁ h₁=>.step (dH hne (by simp) rfl rfl λs hs hm1 hm2 hnb=>?_)
  replace hF:=KM.rely hz hF h₁;clear h₁
  have hle:11<=s.b.mu:=by
   rcases aO s.b.mu 11 with h|h
   ·have :=hnb (lk .bad,s.b.mu,s.b.ms) (by simp [jO,Nat.not_le.2 h]);cases this
   ·exact h
  have hmx:=Dv hm1;have ew:IntKind.i32.wrap (((s.b.mu:Nat):Int)+(-11))=((s.b.mu - 11:Nat):Int):=by rw [IntKind.wrap_i32];omega
  refine .inr ⟨by simp,lk .le,s.b.mu - 11,s.b.ms,_,w₁.setCell (muA Mu) (.int .i32 ((s.b.mu - 11:Nat):Int)),_,by simp [jO,hle],by rw [e0];exact (stepG_add_atomic rfl rfl (by k_ne) rfl Try.func90 uf ug uh .i32 uj rfl rfl hs.cellSt (hs.thaw 0)).trans (by rw [ew];first |done|rfl),by simp,hs.setSt _,Eff.set _ _ (.inl rfl),jZ (C:=cfg Mu Wg ty N J ro Anch) (a:=muA Mu) (.inl rfl),?_⟩;replace hF:=hF.turn hb hs (hs.setSt ((s.b.mu - 11:Nat):Int)) (Eff.set (muA Mu) _ (.inl rfl));generalize hwn:w₁.setCell (muA Mu) (.int .i32 ((s.b.mu - 11:Nat):Int))=w₂ at hF ⊢;generalize hmn:((s.b.mu - 11:Nat):Int)=mn;clear hwn hmn ew hle hmx hs hm1 hm2 hnb s;rw [e0];refine bL (n:=80) ?_
  walk_nrm
  repeat w_go (KM.rely hz)
  refine Goes.stop (λw₁ h₁=>?_);replace hF:=KM.rely hz hF h₁;clear h₁;refine Gw.stop λw₁ h₁=>.step (dH hne (by simp) rfl rfl λs hs hm1 hm2 hnb=>.inr ⟨by simp,_,_,_,_,w₁,_,aB.2 rfl,by rw [e0];exact stepG_mark0 .enable (by simp) rfl rfl (by k_ne) rfl Try.iB.f_enable (x_enable_n Try.link) (x_enable_b Try.link) (x_enable_x Try.link) (x_enable_f Try.link),by simp,hs,Eff.refl _,rfl,?_⟩)
  replace hF:=KM.rely hz hF h₁;clear h₁;clear hs hm1 hm2 hnb s;rw [e0];refine bL (n:=30) ?_
  walk_nrm
  repeat w_go (KM.rely hz)
  m_convG Try.prog Try.iB.underlying_tUP xV CR hF.mu.choose_spec (KM.rely hz) hF
  refine Goes.stop (λw₁ h₁=>?_);replace hF:=KM.rely hz hF h₁;clear h₁;refine Gw.stop λw₁ h₁=>.step (MX hne rfl rfl rfl λs hs hc=>⟨_,by rw [e0];exact stepG_markAt .acquire (by simp) rfl rfl (by k_ne) rfl Try.iB.f_acquire (x_acquire_n Try.link) (x_acquire_b Try.link) (x_acquire_x Try.link) (x_acquire_f Try.link) (by simp [Act.eval,muA]), λGu Hg hJ=>?_⟩)
  replace hF:=KM.rely hz hF h₁;clear h₁;have Qv:=hF.1;replace hF:KM 80 Mu ((cfg Mu Wg ty N J ro Anch).Zw k) (λb=>own b∨Gu b) w₁ w₁:=⟨bZ.refl _,hF.2⟩;rw [e0];refine bL (n:=30) ?_
  walk_nrm
  repeat w_go (KM.rely hz)
  u_leave0 Try.func89 (KM.rely hz) hF
  exact Goes.stop λw₃ h₃=>Gw.mono (λ_ _ _ h=>.base (.inr h)) (e0 ▸ hT _ _ _ _ Qv Hg hJ (KM.rely hz hF h₃))
 by_cases hq:mu=20
 ·subst hq;refine .inr ⟨by simp,⟨.a1,0,7,false,false,0,false⟩,20,ms,_,w,#[],by simp [jO],by rw [e0];exact gZ (v:=20) rfl rfl (by k_ne) rfl rfl hs.cellSt iT,by simp,hs,Eff.refl _,(λe he=>by simp at he),?_⟩;clear hs hm1 hm2 hnb;rw [e0];refine bL (n:=120) ?_
  walk_nrm
  repeat w_go (KM.rely hz)
  refine Goes.stop (λw₁ h₁=>?_);replace hF:=KM.rely hz hF h₁;clear h₁;refine Gw.stop λw₁ h₁=>.step (dH hne (by simp) rfl rfl λs hs hm1 hm2 hnb=>?_)
  replace hF:=KM.rely hz hF h₁;clear h₁
  have hle:7<=s.b.mu:=by
   rcases aO s.b.mu 7 with h|h
   ·have :=hnb (lk .bad,s.b.mu,s.b.ms) (by simp [jO,Nat.not_le.2 h]);cases this
   ·exact h
  have hmx:=Dv hm1;have ew:IntKind.i32.wrap (((s.b.mu:Nat):Int)+(-7))=((s.b.mu - 7:Nat):Int):=by rw [IntKind.wrap_i32];omega
  refine .inr ⟨by simp,lk .le,s.b.mu - 7,s.b.ms,_,w₁.setCell (muA Mu) (.int .i32 ((s.b.mu - 7:Nat):Int)),_,by simp [jO,hle],by rw [e0];exact (stepG_add_atomic rfl rfl (by k_ne) rfl Try.func90 uf ug uh .i32 uj rfl rfl hs.cellSt (hs.thaw 0)).trans (by rw [ew];first |done|rfl),by simp,hs.setSt _,Eff.set _ _ (.inl rfl),jZ (C:=cfg Mu Wg ty N J ro Anch) (a:=muA Mu) (.inl rfl),?_⟩;replace hF:=hF.turn hb hs (hs.setSt ((s.b.mu - 7:Nat):Int)) (Eff.set (muA Mu) _ (.inl rfl));generalize hwn:w₁.setCell (muA Mu) (.int .i32 ((s.b.mu - 7:Nat):Int))=w₂ at hF ⊢;generalize hmn:((s.b.mu - 7:Nat):Int)=mn;clear hwn hmn ew hle hmx hs hm1 hm2 hnb s;rw [e0];refine bL (n:=80) ?_
  walk_nrm
  repeat w_go (KM.rely hz)
  refine Goes.stop (λw₁ h₁=>?_);replace hF:=KM.rely hz hF h₁;clear h₁;refine Gw.stop λw₁ h₁=>.step (dH hne (by simp) rfl rfl λs hs hm1 hm2 hnb=>.inr ⟨by simp,_,_,_,_,w₁,_,aB.2 rfl,by rw [e0];exact stepG_mark0 .enable (by simp) rfl rfl (by k_ne) rfl Try.iB.f_enable (x_enable_n Try.link) (x_enable_b Try.link) (x_enable_x Try.link) (x_enable_f Try.link),by simp,hs,Eff.refl _,rfl,?_⟩)
  replace hF:=KM.rely hz hF h₁;clear h₁;clear hs hm1 hm2 hnb s;rw [e0];refine bL (n:=30) ?_
  walk_nrm
  repeat w_go (KM.rely hz)
  m_convG Try.prog Try.iB.underlying_tUP xV CR hF.mu.choose_spec (KM.rely hz) hF
  refine Goes.stop (λw₁ h₁=>?_);replace hF:=KM.rely hz hF h₁;clear h₁;refine Gw.stop λw₁ h₁=>.step (MX hne rfl rfl rfl λs hs hc=>⟨_,by rw [e0];exact stepG_markAt .acquire (by simp) rfl rfl (by k_ne) rfl Try.iB.f_acquire (x_acquire_n Try.link) (x_acquire_b Try.link) (x_acquire_x Try.link) (x_acquire_f Try.link) (by simp [Act.eval,muA]), λGu Hg hJ=>?_⟩)
  replace hF:=KM.rely hz hF h₁;clear h₁;have Qv:=hF.1;replace hF:KM 80 Mu ((cfg Mu Wg ty N J ro Anch).Zw k) (λb=>own b∨Gu b) w₁ w₁:=⟨bZ.refl _,hF.2⟩;rw [e0];refine bL (n:=30) ?_
  walk_nrm
  repeat w_go (KM.rely hz)
  u_leave0 Try.func89 (KM.rely hz) hF
  exact Goes.stop λw₃ h₃=>Gw.mono (λ_ _ _ h=>.base (.inr h)) (e0 ▸ hT _ _ _ _ Qv Hg hJ (KM.rely hz hF h₃))
 have h13:mu≠13:= λe=>by
  subst e;have :=hnb (lk .bad,13,ms) (by simp [jO]);cases this
 have hq4:bits .and .i32 ((mu:Nat):Int) 4=0:=by
  have :mu=0∨mu=1∨mu=2∨mu=3∨mu=8∨mu=9:=by simp [KA] at hm1;omega
  rcases this with rfl|rfl|rfl|rfl|rfl|rfl<;>decide
 refine .inr ⟨by simp,⟨.hd,mu,0,true,true,0,ws⟩,mu,ms,_,w,#[],by simp [jO, *],by rw [e0];exact gZ rfl rfl (by k_ne) rfl rfl hs.cellSt iT,by simp,hs,Eff.refl _,(λe he=>by simp at he),?_⟩;clear hs hm1 hm2 hnb;rw [e0];refine bL (n:=120) ?_
 walk_nrm
 repeat w_nl (KM.rely hz)
 u_c stepG_inLoop (KM.rely hz) hF
 exact Goes.stop λw₃ h₃=>.stop λw₄ h₄=>.base (.inl (.mk (KM.rely hz (KM.rely hz hF h₃) h₄) hws))
end
end Go.Proofs.Try
