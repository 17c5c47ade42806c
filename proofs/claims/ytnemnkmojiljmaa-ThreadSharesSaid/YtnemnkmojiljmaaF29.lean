/- Part 29. -/
import Derived.Test.YtnemnkmojiljmaaF28
set_option maxRecDepth 100000
set_option maxHeartbeats 8000000
set_option linter.all false
namespace Go.Proofs.Try
open Go Go.Conc Go.ConcN Go.ConcM Go.RowKit Go.Conc.Lib Go.ConcR.Gen Par
open Go.ConcR (KK wgBlock WgAt stA smA rd wr mk AtMkS)
section
variable {j1 j6 j7 j8 j9 j10 j11 j12 j13 lU lV kz kC kD kE kF l6 l7 l8 kG kH kJ kK kL kM kN kP kQ kR nJ nK nL nM nN nO nP nQ nR nS nT nU nV nW nX nY nZ oh oo oq ou oz oC oD oF oG oH oI oJ oK oO oP oQ oU oV oW oZ pg pq pz pE pF pG uk um uo pI pJ pK pM pO pQ pR pU pV pW qL p8 p9 qa qj qb qc qd qf fC fD fE iC fF fG fH fI fJ fK fM fO fP fQ fT fU fV fZ gq gu gy gz gB gD gF gG gH gI gJ gK gL gM gN gP gQ gT gU gV gW:Value}
variable {Mu Wg:Nat} {ty:TypeId} {N:Nat->Nat} {J:Nat->Nat->(Nat->Prop)->World->Prop} {ro:Nat->Prop} {Anch:(Nat->Prop)->Goroutine->World->Prop}
variable {own:Nat->Prop} {W0:World} {i k c:Nat} {b₁:Frame} {a₁:Act} {bS:Array Oper} {i₁:Nat} {bU:List Nat} {k₁:List Item} {cs₁:List Frame}
theorem zO (hne:Mu≠Wg) (hi:i≠0) (hb:Beside (cfg Mu Wg ty N J ro Anch) ((cfg Mu Wg ty N J ro Anch).Zw k) own)
 {it n:Nat} {aw sv ws:Bool} {iZ:Int} {oN:Array Oper} {aN lN rN:Code} {w:World} (hF:KM 80 Mu ((cfg Mu Wg ty N J ro Anch).Zw k) own W0 w) (hws:ws=decide (iZ≠0)) (wP:oN=iJ 22) (wQ:aN=iM 22) (wR:lN=LL) (wS:rN=REST):
 Gw Try.prog false ((cfg Mu Wg ty N J ro Anch).Zw k) ((HX Mu Wg ty N J ro Anch own W0 i k c b₁ a₁ bS i₁ bU k₁ cs₁) i (.bd k ⟨⟨.r3,0,0,aw,sv,it,ws⟩,c,n⟩)) own (G ((base 89).at ⟨#[.pointer (some ⟨Mu,0,none⟩),j1,.int .i64 iZ,.bool sv,.bool aw,.int .i64 (it:Nat),j6,j7,j8,j9,j10,j11,j12,j13,lU,lV,kz,kC,kD,kE,kF,l6,l7,l8,kG,kH,kJ,kK,kL,kM,kN,kP,kQ,kR,nJ,nK,nL,nM,nN,nO,nP,nQ,nR,nS,nT,nU,nV,nW,nX,nY,nZ,oh,oo,oq,ou,oz,oC,oD,oF,oG,oH,oI,oJ,oK,oO,oP,oQ,oU,oV,oW,oZ,pg,pq,pz,pE,pF,pG,uk,um,uo,.bool false,pI,pJ,pK,pM,pO,pQ,pR,pU,pV,pW,qL,p8,p9,qa,qj,qb,qc,qd,qf,fC,fD,fE,iC,fF,fG,fH,fI,fJ,fK,fM,fO,fP,fQ,fT,fU,fV,fZ,gq,gu,gy,gz,gB,gD,gF,gG,gH,gI,gJ,gK,gL,gM,gN,gP,gQ,gT,gU,gV,gW],[]⟩ [.inRegion oN [],.code aN,.inBlock 1,.inLoop lN,.inBlock 0,.code rN]) (b₁.at a₁ (.inRegion bS (i₁::bU)::k₁)::cs₁)) w:=by
 have e0:(i==0)=false:=by simpa using hi
 have hz:((cfg Mu Wg ty N J ro Anch).Zw k).sy Mu:=.inl (.inl rfl);subst wP wQ wR wS;simp only [LL,REST,iJ,iM,jv,bY,bO,bW,bR,cB,bN,Try.f89,Option.getD_some,reduceIte,Nat.reduceEqDiff,reduceCtorEq];refine bL (n:=60) ?_
 repeat w_go (KM.rely hz)
 refine Goes.stop (λw₁ h₁=>?_);replace hF:=KM.rely hz hF h₁;clear h₁;refine Gw.stop λw₁ h₁=>.step (dH hne (by simp) rfl rfl λs hs hm1 hm2 hnb=>.inr ⟨by simp,_,_,_,_,w₁,#[],aB.2 rfl,by rw [e0];exact gZ rfl rfl (by k_ne) rfl rfl hs.cellSt iT,by simp,hs,Eff.refl _,(λe he=>by simp at he),?_⟩)
 replace hF:=KM.rely hz hF h₁;clear h₁;rw [e0];refine bL (n:=40) ?_
 walk_nrm
 repeat w_nl (KM.rely hz)
 u_c stepG_inLoop (KM.rely hz) hF
 exact Goes.stop λw₃ h₃=>.stop λw₄ h₄=>.base (.inl (.mk (KM.rely hz (KM.rely hz hF h₃) h₄) hws))
theorem ak7 (hne:Mu≠Wg) (hi:i≠0) (hb:Beside (cfg Mu Wg ty N J ro Anch) ((cfg Mu Wg ty N J ro Anch).Zw k) own) (hT:ja Mu Wg ty N J ro Anch own W0 i k c (G (b₁.at (a₁.put ((bS[i₁]?).bind (·.dst)) (.tuple #[])) (.inRegion bS bU::k₁)) cs₁))
 {it n:Nat} {aw sv ws:Bool} {iZ:Int} {oN:Array Oper} {aN lN rN:Code} {w:World} (hF:KM 80 Mu ((cfg Mu Wg ty N J ro Anch).Zw k) own W0 w) (wP:oN=iJ 22) (wQ:aN=iM 22) (wR:lN=LL) (wS:rN=REST):
 Gw Try.prog false ((cfg Mu Wg ty N J ro Anch).Zw k) ((HX Mu Wg ty N J ro Anch own W0 i k c b₁ a₁ bS i₁ bU k₁ cs₁) i (.bd k ⟨lk .le,c,n⟩)) own (G ((base 89).at ⟨#[.pointer (some ⟨Mu,0,none⟩),j1,.int .i64 iZ,.bool sv,.bool aw,.int .i64 (it:Nat),.int .i32 0,j7,j8,j9,j10,j11,j12,j13,lU,lV,kz,kC,kD,kE,kF,l6,l7,l8,kG,kH,kJ,kK,kL,kM,kN,kP,kQ,kR,nJ,nK,nL,nM,nN,nO,nP,nQ,nR,nS,nT,nU,nV,nW,nX,nY,nZ,oh,oo,oq,ou,oz,oC,oD,oF,oG,oH,oI,oJ,oK,oO,oP,oQ,oU,oV,oW,oZ,pg,pq,pz,pE,pF,pG,uk,um,uo,.bool true,pI,pJ,pK,pM,pO,pQ,pR,pU,pV,pW,qL,p8,p9,qa,qj,qb,qc,qd,qf,fC,fD,fE,iC,fF,fG,fH,fI,fJ,fK,fM,fO,fP,fQ,fT,fU,fV,fZ,gq,gu,gy,gz,gB,gD,gF,gG,gH,gI,gJ,gK,gL,gM,gN,gP,gQ,gT,gU,gV,gW],[]⟩ [.inRegion oN [],.code aN,.inBlock 1,.inLoop lN,.inBlock 0,.code rN]) (b₁.at a₁ (.inRegion bS (i₁::bU)::k₁)::cs₁)) w:=by
 have e0:(i==0)=false:=by simpa using hi
 have hz:((cfg Mu Wg ty N J ro Anch).Zw k).sy Mu:=.inl (.inl rfl);subst wP wQ wR wS;simp only [LL,REST,iJ,iM,jv,bY,bO,bW,bR,cB,bN,Try.f89,Option.getD_some,reduceIte,Nat.reduceEqDiff,reduceCtorEq];refine bL (n:=80) ?_
 repeat w_go (KM.rely hz)
 try m_num
 repeat w_go (KM.rely hz)
 refine Goes.stop (λw₁ h₁=>?_);replace hF:=KM.rely hz hF h₁;clear h₁;refine Gw.stop λw₁ h₁=>.step (dH hne (by simp) rfl rfl λs hs hm1 hm2 hnb=>.inr ⟨by simp,_,_,_,_,w₁,_,aB.2 rfl,by rw [e0];exact stepG_mark0 .enable (by simp) rfl rfl (by k_ne) rfl Try.iB.f_enable (x_enable_n Try.link) (x_enable_b Try.link) (x_enable_x Try.link) (x_enable_f Try.link),by simp,hs,Eff.refl _,rfl,?_⟩)
 replace hF:=KM.rely hz hF h₁;clear h₁;clear hs hm1 hm2 hnb s;rw [e0];refine bL (n:=30) ?_
 walk_nrm
 repeat w_go (KM.rely hz)
 m_convG Try.prog Try.iB.underlying_tUP xV CR hF.mu.choose_spec (KM.rely hz) hF
 refine Goes.stop (λw₁ h₁=>?_);replace hF:=KM.rely hz hF h₁;clear h₁;refine Gw.stop λw₁ h₁=>.step (MX hne rfl rfl rfl λs hs hc=>⟨_,by rw [e0];exact stepG_markAt .acquire (by simp) rfl rfl (by k_ne) rfl Try.iB.f_acquire (x_acquire_n Try.link) (x_acquire_b Try.link) (x_acquire_x Try.link) (x_acquire_f Try.link) (by simp [Act.eval,muA]), λGu Hg hJ=>?_⟩)
 replace hF:=KM.rely hz hF h₁;clear h₁;have Qv:=hF.1;replace hF:KM 80 Mu ((cfg Mu Wg ty N J ro Anch).Zw k) (λb=>own b∨Gu b) w₁ w₁:=⟨bZ.refl _,hF.2⟩;rw [e0];refine bL (n:=30) ?_
 walk_nrm
 repeat w_go (KM.rely hz)
 u_leave0 Try.func89 (KM.rely hz) hF
 exact Goes.stop λw₃ h₃=>Gw.mono (λ_ _ _ h=>.base (.inr h)) (e0 ▸ hT _ _ _ _ Qv Hg hJ (KM.rely hz hF h₃))
theorem take2 (hne:Mu≠Wg) (hi:i≠0) (hb:Beside (cfg Mu Wg ty N J ro Anch) ((cfg Mu Wg ty N J ro Anch).Zw k) own) (hT:ja Mu Wg ty N J ro Anch own W0 i k c (G (b₁.at (a₁.put ((bS[i₁]?).bind (·.dst)) (.tuple #[])) (.inRegion bS bU::k₁)) cs₁))
 {it n:Nat} {aw sv ws:Bool} {iZ:Int} {oN:Array Oper} {aN lN rN:Code} {w:World} (hF:KM 80 Mu ((cfg Mu Wg ty N J ro Anch).Zw k) own W0 w) (wP:oN=iJ 22) (wQ:aN=iM 22) (wR:lN=LL) (wS:rN=REST):
 Gw Try.prog false ((cfg Mu Wg ty N J ro Anch).Zw k) ((HX Mu Wg ty N J ro Anch own W0 i k c b₁ a₁ bS i₁ bU k₁ cs₁) i (.bd k ⟨lk .le,c,n⟩)) own (G ((base 89).at ⟨#[.pointer (some ⟨Mu,0,none⟩),j1,.int .i64 iZ,.bool sv,.bool aw,.int .i64 (it:Nat),.int .i32 2,j7,j8,j9,j10,j11,j12,j13,lU,lV,kz,kC,kD,kE,kF,l6,l7,l8,kG,kH,kJ,kK,kL,kM,kN,kP,kQ,kR,nJ,nK,nL,nM,nN,nO,nP,nQ,nR,nS,nT,nU,nV,nW,nX,nY,nZ,oh,oo,oq,ou,oz,oC,oD,oF,oG,oH,oI,oJ,oK,oO,oP,oQ,oU,oV,oW,oZ,pg,pq,pz,pE,pF,pG,uk,um,uo,.bool true,pI,pJ,pK,pM,pO,pQ,pR,pU,pV,pW,qL,p8,p9,qa,qj,qb,qc,qd,qf,fC,fD,fE,iC,fF,fG,fH,fI,fJ,fK,fM,fO,fP,fQ,fT,fU,fV,fZ,gq,gu,gy,gz,gB,gD,gF,gG,gH,gI,gJ,gK,gL,gM,gN,gP,gQ,gT,gU,gV,gW],[]⟩ [.inRegion oN [],.code aN,.inBlock 1,.inLoop lN,.inBlock 0,.code rN]) (b₁.at a₁ (.inRegion bS (i₁::bU)::k₁)::cs₁)) w:=by
 have e0:(i==0)=false:=by simpa using hi
 have hz:((cfg Mu Wg ty N J ro Anch).Zw k).sy Mu:=.inl (.inl rfl);subst wP wQ wR wS;simp only [LL,REST,iJ,iM,jv,bY,bO,bW,bR,cB,bN,Try.f89,Option.getD_some,reduceIte,Nat.reduceEqDiff,reduceCtorEq];refine bL (n:=80) ?_
 repeat w_go (KM.rely hz)
 try m_num
 repeat w_go (KM.rely hz)
 refine Goes.stop (λw₁ h₁=>?_);replace hF:=KM.rely hz hF h₁;clear h₁;refine Gw.stop λw₁ h₁=>.step (dH hne (by simp) rfl rfl λs hs hm1 hm2 hnb=>.inr ⟨by simp,_,_,_,_,w₁,_,aB.2 rfl,by rw [e0];exact stepG_mark0 .enable (by simp) rfl rfl (by k_ne) rfl Try.iB.f_enable (x_enable_n Try.link) (x_enable_b Try.link) (x_enable_x Try.link) (x_enable_f Try.link),by simp,hs,Eff.refl _,rfl,?_⟩)
 replace hF:=KM.rely hz hF h₁;clear h₁;clear hs hm1 hm2 hnb s;rw [e0];refine bL (n:=30) ?_
 walk_nrm
 repeat w_go (KM.rely hz)
 m_convG Try.prog Try.iB.underlying_tUP xV CR hF.mu.choose_spec (KM.rely hz) hF
 refine Goes.stop (λw₁ h₁=>?_);replace hF:=KM.rely hz hF h₁;clear h₁;refine Gw.stop λw₁ h₁=>.step (MX hne rfl rfl rfl λs hs hc=>⟨_,by rw [e0];exact stepG_markAt .acquire (by simp) rfl rfl (by k_ne) rfl Try.iB.f_acquire (x_acquire_n Try.link) (x_acquire_b Try.link) (x_acquire_x Try.link) (x_acquire_f Try.link) (by simp [Act.eval,muA]), λGu Hg hJ=>?_⟩)
 replace hF:=KM.rely hz hF h₁;clear h₁;have Qv:=hF.1;replace hF:KM 80 Mu ((cfg Mu Wg ty N J ro Anch).Zw k) (λb=>own b∨Gu b) w₁ w₁:=⟨bZ.refl _,hF.2⟩;rw [e0];refine bL (n:=30) ?_
 walk_nrm
 repeat w_go (KM.rely hz)
 u_leave0 Try.func89 (KM.rely hz) hF
 exact Goes.stop λw₃ h₃=>Gw.mono (λ_ _ _ h=>.base (.inr h)) (e0 ▸ hT _ _ _ _ Qv Hg hJ (KM.rely hz hF h₃))
end
end Go.Proofs.Try
