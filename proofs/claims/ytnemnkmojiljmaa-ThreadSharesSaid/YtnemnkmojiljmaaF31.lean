/- Part 31. -/
import Derived.Test.YtnemnkmojiljmaaF30
set_option maxRecDepth 100000
set_option maxHeartbeats 8000000
set_option linter.all false
namespace Go.Proofs.Try
open Go Go.Conc Go.ConcN Go.ConcM Go.RowKit Go.Conc.Lib Go.ConcR.Gen Par
open Go.ConcR (KK wgBlock WgAt stA smA rd wr mk AtMkS)
section
variable {j1 j6 j7 j8 j9 j10 j11 j12 j13 lU lV kz kC kD kE kF l6 l7 l8 kG kH kJ kK kL kM kN kP kQ kR nJ nK nL nM nN nO nP nQ nR nS nT nU nV nW nX nY nZ oh oo oq ou oz oC oD oF oG oH oI oJ oK oO oP oQ oU oV oW oZ pg pq pz pE pF pG uk um uo tF pI pJ pK pM pO pQ pR pU pV pW qL p8 p9 qa qj qb qc qd qf fC fD fE iC fF fG fH fI fJ fK fM fO fP fQ fT fU fV fZ gq gu gy gz gB gD gF gG gH gI gJ gK gL gM gN gP gQ gT gU gV gW:Value}
variable {Mu Wg:Nat} {ty:TypeId} {N:Nat->Nat} {J:Nat->Nat->(Nat->Prop)->World->Prop} {ro:Nat->Prop} {Anch:(Nat->Prop)->Goroutine->World->Prop}
variable {own:Nat->Prop} {W0:World} {i k c:Nat} {b₁:Frame} {a₁:Act} {bS:Array Oper} {i₁:Nat} {bU:List Nat} {k₁:List Item} {cs₁:List Frame}
theorem ak8 (hne:Mu≠Wg) (hi:i≠0) (hb:Beside (cfg Mu Wg ty N J ro Anch) ((cfg Mu Wg ty N J ro Anch).Zw k) own) (hT:ja Mu Wg ty N J ro Anch own W0 i k c (G (b₁.at (a₁.put ((bS[i₁]?).bind (·.dst)) (.tuple #[])) (.inRegion bS bU::k₁)) cs₁))
 {n:Nat} {it:Nat} {aw ws:Bool} {iZ:Int} {oN:Array Oper} {aN lN rN:Code} {w:World} (hF:KM 80 Mu ((cfg Mu Wg ty N J ro Anch).Zw k) own W0 w) (hws:ws=decide (iZ≠0)) (wP:oN=iJ 28) (wQ:aN=iM 28) (wR:lN=LL) (wS:rN=REST):
 rC Try.prog (cfg Mu Wg ty N J ro Anch).sys (HX Mu Wg ty N J ro Anch own W0 i k c b₁ a₁ bS i₁ bU k₁ cs₁) i (.bd k ⟨⟨.t2,0,0,aw,false,0,ws⟩,c,n⟩) own (G ((base 89).at ⟨#[.pointer (some ⟨Mu,0,none⟩),j1,.int .i64 iZ,.bool false,.bool aw,.int .i64 (it:Nat),j6,j7,j8,j9,j10,j11,j12,j13,lU,lV,kz,kC,kD,kE,kF,l6,l7,l8,kG,kH,kJ,kK,kL,kM,kN,kP,kQ,kR,nJ,nK,nL,nM,nN,nO,nP,nQ,nR,nS,nT,nU,nV,nW,nX,nY,nZ,oh,oo,oq,ou,oz,oC,oD,oF,oG,oH,oI,oJ,oK,oO,oP,oQ,oU,oV,oW,oZ,pg,pq,pz,pE,pF,pG,uk,um,uo,tF,pI,pJ,pK,pM,pO,pQ,pR,pU,pV,pW,qL,p8,p9,qa,.bool false,qb,qc,qd,qf,fC,fD,fE,iC,fF,fG,fH,fI,fJ,fK,fM,fO,fP,fQ,fT,fU,fV,fZ,gq,gu,gy,gz,gB,gD,gF,gG,gH,gI,gJ,gK,gL,gM,gN,gP,gQ,gT,gU,gV,gW],[]⟩ [.inRegion oN [2,3,4,5,6,7],.code aN,.inBlock 1,.inLoop lN,.inBlock 0,.code rN]) (b₁.at a₁ (.inRegion bS (i₁::bU)::k₁)::cs₁)) w:=by
 have e0:(i==0)=false:=by simpa using hi
 have hz:((cfg Mu Wg ty N J ro Anch).Zw k).sy Mu:=.inl (.inl rfl);subst wP wQ wR wS;simp only [LL,REST,iJ,iM,jv,bY,bO,bW,bR,cB,bN,Try.f89,Option.getD_some,reduceIte,Nat.reduceEqDiff,reduceCtorEq];refine dH hne (by simp) rfl rfl λs hs hm1 hm2 hnb=>?_
 rcases hB:decide (1000000<IntKind.i64.wrap (((w.os.mono+w.tick:Nat):Int) - iZ)) with _|_
 ·refine .inr ⟨by simp,⟨.r2,0,0,aw,false,0,ws⟩,s.b.mu,s.b.ms,_,w.later,#[],by simp [jO],by rw [e0];exact stepG_nanotime rfl rfl (by k_ne) rfl Try.func100 vw vz vB vC vD,by simp,hs,Eff.later _,(λe he=>by simp at he),?_⟩;replace hF:KM 80 Mu ((cfg Mu Wg ty N J ro Anch).Zw k) own W0 w.later:=hF.turn hb hs hs (Eff.later w);clear hs hm1 hm2 hnb;rw [e0];generalize hwl:w.later=wl at hF ⊢;generalize ((w.os.mono+w.tick:Nat):Int)=tv at hB ⊢;clear hwl;refine bL (n:=60) ?_
  walk_nrm
  repeat w_go (KM.rely hz)
  try simp only [hB]
  repeat w_go (KM.rely hz)
  refine Goes.stop λw₃ h₃=>.stop λw₄ h₄=>.step (ZR hne hi hb hT (KM.rely hz (KM.rely hz hF h₃) h₄) hws ?_ ?_ ?_ ?_)
  all_goals simp only [LL,REST,iJ,iM,jv,bY,bO,bW,bR,cB,bN,Try.f89,Option.getD_some,reduceIte,Nat.reduceEqDiff,reduceCtorEq]
 ·refine .inr ⟨by simp,⟨.r2,0,0,aw,true,0,ws⟩,s.b.mu,s.b.ms,_,w.later,#[],by simp [jO],by rw [e0];exact stepG_nanotime rfl rfl (by k_ne) rfl Try.func100 vw vz vB vC vD,by simp,hs,Eff.later _,(λe he=>by simp at he),?_⟩;replace hF:KM 80 Mu ((cfg Mu Wg ty N J ro Anch).Zw k) own W0 w.later:=hF.turn hb hs hs (Eff.later w);clear hs hm1 hm2 hnb;rw [e0];generalize hwl:w.later=wl at hF ⊢;generalize ((w.os.mono+w.tick:Nat):Int)=tv at hB ⊢;clear hwl;refine bL (n:=60) ?_
  walk_nrm
  repeat w_go (KM.rely hz)
  try simp only [hB]
  repeat w_go (KM.rely hz)
  refine Goes.stop λw₃ h₃=>.stop λw₄ h₄=>.step (Ui hne hi hb hT (KM.rely hz (KM.rely hz hF h₃) h₄) hws ?_ ?_ ?_ ?_)
  all_goals simp only [LL,REST,iJ,iM,jv,bY,bO,bW,bR,cB,bN,Try.f89,Option.getD_some,reduceIte,Nat.reduceEqDiff,reduceCtorEq]
theorem Fs (hne:Mu≠Wg) (hi:i≠0) (hb:Beside (cfg Mu Wg ty N J ro Anch) ((cfg Mu Wg ty N J ro Anch).Zw k) own) (hT:ja Mu Wg ty N J ro Anch own W0 i k c (G (b₁.at (a₁.put ((bS[i₁]?).bind (·.dst)) (.tuple #[])) (.inRegion bS bU::k₁)) cs₁))
 {n:Nat} {it:Nat} {aw ws:Bool} {iZ:Int} {oN:Array Oper} {aN lN rN:Code} {w:World} (hF:KM 80 Mu ((cfg Mu Wg ty N J ro Anch).Zw k) own W0 w) (hws:ws=decide (iZ≠0)) (wP:oN=iJ 27) (wQ:aN=iM 27) (wR:lN=LL) (wS:rN=REST):
 rC Try.prog (cfg Mu Wg ty N J ro Anch).sys (HX Mu Wg ty N J ro Anch own W0 i k c b₁ a₁ bS i₁ bU k₁ cs₁) i (.bd k ⟨⟨.s1,0,0,aw,false,0,ws⟩,c,n⟩) own (G ((base 89).at ⟨#[.pointer (some ⟨Mu,0,none⟩),j1,.int .i64 iZ,.bool false,.bool aw,.int .i64 (it:Nat),j6,j7,j8,j9,j10,j11,j12,j13,lU,lV,kz,kC,kD,kE,kF,l6,l7,l8,kG,kH,kJ,kK,kL,kM,kN,kP,kQ,kR,nJ,nK,nL,nM,nN,nO,nP,nQ,nR,nS,nT,nU,nV,nW,nX,nY,nZ,oh,oo,oq,ou,oz,oC,oD,oF,oG,oH,oI,oJ,oK,oO,oP,oQ,oU,oV,oW,oZ,pg,pq,pz,pE,pF,pG,uk,um,uo,tF,pI,pJ,pK,pM,pO,pQ,pR,pU,pV,pW,.pointer (some (msA Mu)),p8,p9,qa,qj,qb,qc,qd,qf,fC,fD,fE,iC,fF,fG,fH,fI,fJ,fK,fM,fO,fP,fQ,fT,fU,fV,fZ,gq,gu,gy,gz,gB,gD,gF,gG,gH,gI,gJ,gK,gL,gM,gN,gP,gQ,gT,gU,gV,gW],[]⟩ [.inRegion oN [4],.code aN,.inBlock 1,.inLoop lN,.inBlock 0,.code rN]) (b₁.at a₁ (.inRegion bS (i₁::bU)::k₁)::cs₁)) w:=by
 have e0:(i==0)=false:=by simpa using hi
 have hz:((cfg Mu Wg ty N J ro Anch).Zw k).sy Mu:=.inl (.inl rfl);subst wP wQ wR wS;simp only [LL,REST,iJ,iM,jv,bY,bO,bW,bR,cB,bN,Try.f89,Option.getD_some,reduceIte,Nat.reduceEqDiff,reduceCtorEq];refine dH hne (by simp) rfl rfl λs hs hm1 hm2 hnb=>?_
 obtain ⟨v,wt,sm,jn,dn,⟨mu,ms,c0,c1,ow⟩⟩:=s;simp only at hs hm1 hm2 hnb ⊢;rcases ms with _|_|ms
 ·exact .inl ⟨⟨by simp,by simp⟩,by rw [e0];exact stepG_semacquire_wait rfl rfl rfl Try.func101 wI wJ wK wM (by simp [Act.eval,msA]) hs.cellSm⟩
 ·have hs:MuAt 80 Mu w mu 1:=hs;refine .inr ⟨by simp,⟨.t2,0,0,aw,false,0,ws⟩,mu,0,_,w.setCell (msA Mu) (.int .u32 (1 - 1)),_,by simp [jO],by rw [e0];exact stepG_semacquire rfl rfl (by k_ne) rfl Try.func101 wI wJ wK wM (by simp [Act.eval,msA]) hs.cellSm (by decide) (hs.thaw 1),by simp,hs.setSm (1 - 1),Eff.set _ _ (.inl rfl),⟨msA Mu,.inl rfl,rfl⟩,?_⟩;replace hF:=hF.turn hb hs (hs.setSm (1 - 1)) (Eff.set (msA Mu) _ (.inl rfl));generalize w.setCell (msA Mu) (.int .u32 (1 - 1))=w₂ at hF ⊢;clear hs hm1 hm2 hnb;rw [e0];refine bL (n:=60) ?_
  walk_nrm
  repeat w_go (KM.rely hz)
  refine Goes.stop λw₃ h₃=>.stop λw₄ h₄=>.step (ak8 hne hi hb hT (KM.rely hz (KM.rely hz hF h₃) h₄) hws ?_ ?_ ?_ ?_)
  all_goals simp only [LL,REST,iJ,iM,jv,bY,bO,bW,bR,cB,bN,Try.f89,Option.getD_some,reduceIte,Nat.reduceEqDiff,reduceCtorEq]
 ·omega
theorem Fu (hne:Mu≠Wg) (hi:i≠0) (hb:Beside (cfg Mu Wg ty N J ro Anch) ((cfg Mu Wg ty N J ro Anch).Zw k) own) (hT:ja Mu Wg ty N J ro Anch own W0 i k c (G (b₁.at (a₁.put ((bS[i₁]?).bind (·.dst)) (.tuple #[])) (.inRegion bS bU::k₁)) cs₁))
 {n:Nat} {it:Nat} {aw ws:Bool} {iZ:Int} {oN:Array Oper} {aN lN rN:Code} {w:World} (hF:KM 80 Mu ((cfg Mu Wg ty N J ro Anch).Zw k) own W0 w) (hws:ws=decide (iZ≠0)) (wP:oN=iJ 27) (wQ:aN=iM 27) (wR:lN=LL) (wS:rN=REST):
 rC Try.prog (cfg Mu Wg ty N J ro Anch).sys (HX Mu Wg ty N J ro Anch own W0 i k c b₁ a₁ bS i₁ bU k₁ cs₁) i (.bd k ⟨⟨.s1,0,0,aw,true,0,ws⟩,c,n⟩) own (G ((base 89).at ⟨#[.pointer (some ⟨Mu,0,none⟩),j1,.int .i64 iZ,.bool true,.bool aw,.int .i64 (it:Nat),j6,j7,j8,j9,j10,j11,j12,j13,lU,lV,kz,kC,kD,kE,kF,l6,l7,l8,kG,kH,kJ,kK,kL,kM,kN,kP,kQ,kR,nJ,nK,nL,nM,nN,nO,nP,nQ,nR,nS,nT,nU,nV,nW,nX,nY,nZ,oh,oo,oq,ou,oz,oC,oD,oF,oG,oH,oI,oJ,oK,oO,oP,oQ,oU,oV,oW,oZ,pg,pq,pz,pE,pF,pG,uk,um,uo,tF,pI,pJ,pK,pM,pO,pQ,pR,pU,pV,pW,.pointer (some (msA Mu)),p8,p9,qa,qj,qb,qc,qd,qf,fC,fD,fE,iC,fF,fG,fH,fI,fJ,fK,fM,fO,fP,fQ,fT,fU,fV,fZ,gq,gu,gy,gz,gB,gD,gF,gG,gH,gI,gJ,gK,gL,gM,gN,gP,gQ,gT,gU,gV,gW],[]⟩ [.inRegion oN [4],.code aN,.inBlock 1,.inLoop lN,.inBlock 0,.code rN]) (b₁.at a₁ (.inRegion bS (i₁::bU)::k₁)::cs₁)) w:=by
 have e0:(i==0)=false:=by simpa using hi
 have hz:((cfg Mu Wg ty N J ro Anch).Zw k).sy Mu:=.inl (.inl rfl);subst wP wQ wR wS;simp only [LL,REST,iJ,iM,jv,bY,bO,bW,bR,cB,bN,Try.f89,Option.getD_some,reduceIte,Nat.reduceEqDiff,reduceCtorEq];refine dH hne (by simp) rfl rfl λs hs hm1 hm2 hnb=>?_
 obtain ⟨v,wt,sm,jn,dn,⟨mu,ms,c0,c1,ow⟩⟩:=s;simp only at hs hm1 hm2 hnb ⊢;rcases ms with _|_|ms
 ·exact .inl ⟨⟨by simp,by simp⟩,by rw [e0];exact stepG_semacquire_wait rfl rfl rfl Try.func101 wI wJ wK wM (by simp [Act.eval,msA]) hs.cellSm⟩
 ·have hs:MuAt 80 Mu w mu 1:=hs;refine .inr ⟨by simp,⟨.r2,0,0,aw,true,0,ws⟩,mu,0,_,w.setCell (msA Mu) (.int .u32 (1 - 1)),_,by simp [jO],by rw [e0];exact stepG_semacquire rfl rfl (by k_ne) rfl Try.func101 wI wJ wK wM (by simp [Act.eval,msA]) hs.cellSm (by decide) (hs.thaw 1),by simp,hs.setSm (1 - 1),Eff.set _ _ (.inl rfl),⟨msA Mu,.inl rfl,rfl⟩,?_⟩;replace hF:=hF.turn hb hs (hs.setSm (1 - 1)) (Eff.set (msA Mu) _ (.inl rfl));generalize w.setCell (msA Mu) (.int .u32 (1 - 1))=w₂ at hF ⊢;clear hs hm1 hm2 hnb;rw [e0];refine bL (n:=60) ?_
  walk_nrm
  repeat w_go (KM.rely hz)
  refine Goes.stop λw₃ h₃=>.stop λw₄ h₄=>.step (Ui hne hi hb hT (KM.rely hz (KM.rely hz hF h₃) h₄) hws ?_ ?_ ?_ ?_)
  all_goals simp only [LL,REST,iJ,iM,jv,bY,bO,bW,bR,cB,bN,Try.f89,Option.getD_some,reduceIte,Nat.reduceEqDiff,reduceCtorEq]
 ·omega
theorem Na (hne:Mu≠Wg) (hi:i≠0) (hb:Beside (cfg Mu Wg ty N J ro Anch) ((cfg Mu Wg ty N J ro Anch).Zw k) own) (hT:ja Mu Wg ty N J ro Anch own W0 i k c (G (b₁.at (a₁.put ((bS[i₁]?).bind (·.dst)) (.tuple #[])) (.inRegion bS bU::k₁)) cs₁))
 {n:Nat} {it:Nat} {aw:Bool} {oN:Array Oper} {aN lN rN:Code} {w:World} (hF:KM 80 Mu ((cfg Mu Wg ty N J ro Anch).Zw k) own W0 w) (wP:oN=iJ 26) (wQ:aN=jv 27) (wR:lN=LL) (wS:rN=REST):
 rC Try.prog (cfg Mu Wg ty N J ro Anch).sys (HX Mu Wg ty N J ro Anch own W0 i k c b₁ a₁ bS i₁ bU k₁ cs₁) i (.bd k ⟨⟨.t1,0,0,aw,false,0,false⟩,c,n⟩) own (G ((base 89).at ⟨#[.pointer (some ⟨Mu,0,none⟩),j1,.int .i64 0,.bool false,.bool aw,.int .i64 (it:Nat),j6,j7,j8,j9,j10,j11,j12,j13,lU,lV,kz,kC,kD,kE,kF,l6,l7,l8,kG,kH,kJ,kK,kL,kM,kN,kP,kQ,kR,nJ,nK,nL,nM,nN,nO,nP,nQ,nR,nS,nT,nU,nV,nW,nX,nY,nZ,oh,oo,oq,ou,oz,oC,oD,oF,oG,oH,oI,oJ,oK,oO,oP,oQ,oU,oV,oW,oZ,pg,pq,pz,pE,pF,pG,uk,um,uo,tF,pI,pJ,pK,pM,pO,pQ,pR,pU,pV,pW,qL,p8,p9,qa,qj,qb,qc,qd,qf,fC,fD,fE,iC,fF,fG,fH,fI,fJ,fK,fM,fO,fP,fQ,fT,fU,fV,fZ,gq,gu,gy,gz,gB,gD,gF,gG,gH,gI,gJ,gK,gL,gM,gN,gP,gQ,gT,gU,gV,gW],[]⟩ [.inRegion oN [0,1],.code aN,.inBlock 1,.inLoop lN,.inBlock 0,.code rN]) (b₁.at a₁ (.inRegion bS (i₁::bU)::k₁)::cs₁)) w:=by
 have e0:(i==0)=false:=by simpa using hi
 have hz:((cfg Mu Wg ty N J ro Anch).Zw k).sy Mu:=.inl (.inl rfl);subst wP wQ wR wS;simp only [LL,REST,iJ,iM,jv,bY,bO,bW,bR,cB,bN,Try.f89,Option.getD_some,reduceIte,Nat.reduceEqDiff,reduceCtorEq];refine dH hne (by simp) rfl rfl λs hs hm1 hm2 hnb=>?_
 rcases hB:decide (((w.os.mono+w.tick:Nat):Int)≠0) with _|_
 ·refine .inr ⟨by simp,⟨.s1,0,0,aw,false,0,false⟩,s.b.mu,s.b.ms,_,w.later,#[],by simp [jO],by rw [e0];exact stepG_nanotime rfl rfl (by k_ne) rfl Try.func100 vw vz vB vC vD,by simp,hs,Eff.later _,(λe he=>by simp at he),?_⟩;replace hF:KM 80 Mu ((cfg Mu Wg ty N J ro Anch).Zw k) own W0 w.later:=hF.turn hb hs hs (Eff.later w);clear hs hm1 hm2 hnb;rw [e0];generalize hwl:w.later=wl at hF ⊢;generalize ((w.os.mono+w.tick:Nat):Int)=tv at hB ⊢;clear hwl;refine bL (n:=60) ?_
  walk_nrm
  repeat w_go (KM.rely hz)
  have hws:=hB.symm;refine Goes.stop λw₃ h₃=>.stop λw₄ h₄=>.step (Fs hne hi hb hT (KM.rely hz (KM.rely hz hF h₃) h₄) hws ?_ ?_ ?_ ?_)
  all_goals simp only [LL,REST,iJ,iM,jv,bY,bO,bW,bR,cB,bN,Try.f89,Option.getD_some,reduceIte,Nat.reduceEqDiff,reduceCtorEq]
 ·refine .inr ⟨by simp,⟨.s1,0,0,aw,false,0,true⟩,s.b.mu,s.b.ms,_,w.later,#[],by simp [jO],by rw [e0];exact stepG_nanotime rfl rfl (by k_ne) rfl Try.func100 vw vz vB vC vD,by simp,hs,Eff.later _,(λe he=>by simp at he),?_⟩;replace hF:KM 80 Mu ((cfg Mu Wg ty N J ro Anch).Zw k) own W0 w.later:=hF.turn hb hs hs (Eff.later w);clear hs hm1 hm2 hnb;rw [e0];generalize hwl:w.later=wl at hF ⊢;generalize ((w.os.mono+w.tick:Nat):Int)=tv at hB ⊢;clear hwl;refine bL (n:=60) ?_
  walk_nrm
  repeat w_go (KM.rely hz)
  have hws:=hB.symm;refine Goes.stop λw₃ h₃=>.stop λw₄ h₄=>.step (Fs hne hi hb hT (KM.rely hz (KM.rely hz hF h₃) h₄) hws ?_ ?_ ?_ ?_)
  all_goals simp only [LL,REST,iJ,iM,jv,bY,bO,bW,bR,cB,bN,Try.f89,Option.getD_some,reduceIte,Nat.reduceEqDiff,reduceCtorEq]
theorem Nb (hne:Mu≠Wg) (hi:i≠0) (hb:Beside (cfg Mu Wg ty N J ro Anch) ((cfg Mu Wg ty N J ro Anch).Zw k) own) (hT:ja Mu Wg ty N J ro Anch own W0 i k c (G (b₁.at (a₁.put ((bS[i₁]?).bind (·.dst)) (.tuple #[])) (.inRegion bS bU::k₁)) cs₁))
 {n:Nat} {it:Nat} {aw:Bool} {oN:Array Oper} {aN lN rN:Code} {w:World} (hF:KM 80 Mu ((cfg Mu Wg ty N J ro Anch).Zw k) own W0 w) (wP:oN=iJ 26) (wQ:aN=jv 27) (wR:lN=LL) (wS:rN=REST):
 rC Try.prog (cfg Mu Wg ty N J ro Anch).sys (HX Mu Wg ty N J ro Anch own W0 i k c b₁ a₁ bS i₁ bU k₁ cs₁) i (.bd k ⟨⟨.t1,0,0,aw,true,0,false⟩,c,n⟩) own (G ((base 89).at ⟨#[.pointer (some ⟨Mu,0,none⟩),j1,.int .i64 0,.bool true,.bool aw,.int .i64 (it:Nat),j6,j7,j8,j9,j10,j11,j12,j13,lU,lV,kz,kC,kD,kE,kF,l6,l7,l8,kG,kH,kJ,kK,kL,kM,kN,kP,kQ,kR,nJ,nK,nL,nM,nN,nO,nP,nQ,nR,nS,nT,nU,nV,nW,nX,nY,nZ,oh,oo,oq,ou,oz,oC,oD,oF,oG,oH,oI,oJ,oK,oO,oP,oQ,oU,oV,oW,oZ,pg,pq,pz,pE,pF,pG,uk,um,uo,tF,pI,pJ,pK,pM,pO,pQ,pR,pU,pV,pW,qL,p8,p9,qa,qj,qb,qc,qd,qf,fC,fD,fE,iC,fF,fG,fH,fI,fJ,fK,fM,fO,fP,fQ,fT,fU,fV,fZ,gq,gu,gy,gz,gB,gD,gF,gG,gH,gI,gJ,gK,gL,gM,gN,gP,gQ,gT,gU,gV,gW],[]⟩ [.inRegion oN [0,1],.code aN,.inBlock 1,.inLoop lN,.inBlock 0,.code rN]) (b₁.at a₁ (.inRegion bS (i₁::bU)::k₁)::cs₁)) w:=by
 have e0:(i==0)=false:=by simpa using hi
 have hz:((cfg Mu Wg ty N J ro Anch).Zw k).sy Mu:=.inl (.inl rfl);subst wP wQ wR wS;simp only [LL,REST,iJ,iM,jv,bY,bO,bW,bR,cB,bN,Try.f89,Option.getD_some,reduceIte,Nat.reduceEqDiff,reduceCtorEq];refine dH hne (by simp) rfl rfl λs hs hm1 hm2 hnb=>?_
 rcases hB:decide (((w.os.mono+w.tick:Nat):Int)≠0) with _|_
 ·refine .inr ⟨by simp,⟨.s1,0,0,aw,true,0,false⟩,s.b.mu,s.b.ms,_,w.later,#[],by simp [jO],by rw [e0];exact stepG_nanotime rfl rfl (by k_ne) rfl Try.func100 vw vz vB vC vD,by simp,hs,Eff.later _,(λe he=>by simp at he),?_⟩;replace hF:KM 80 Mu ((cfg Mu Wg ty N J ro Anch).Zw k) own W0 w.later:=hF.turn hb hs hs (Eff.later w);clear hs hm1 hm2 hnb;rw [e0];generalize hwl:w.later=wl at hF ⊢;generalize ((w.os.mono+w.tick:Nat):Int)=tv at hB ⊢;clear hwl;refine bL (n:=60) ?_
  walk_nrm
  repeat w_go (KM.rely hz)
  have hws:=hB.symm;refine Goes.stop λw₃ h₃=>.stop λw₄ h₄=>.step (Fu hne hi hb hT (KM.rely hz (KM.rely hz hF h₃) h₄) hws ?_ ?_ ?_ ?_)
  all_goals simp only [LL,REST,iJ,iM,jv,bY,bO,bW,bR,cB,bN,Try.f89,Option.getD_some,reduceIte,Nat.reduceEqDiff,reduceCtorEq]
 ·refine .inr ⟨by simp,⟨.s1,0,0,aw,true,0,true⟩,s.b.mu,s.b.ms,_,w.later,#[],by simp [jO],by rw [e0];exact stepG_nanotime rfl rfl (by k_ne) rfl Try.func100 vw vz vB vC vD,by simp,hs,Eff.later _,(λe he=>by simp at he),?_⟩;replace hF:KM 80 Mu ((cfg Mu Wg ty N J ro Anch).Zw k) own W0 w.later:=hF.turn hb hs hs (Eff.later w);clear hs hm1 hm2 hnb;rw [e0];generalize hwl:w.later=wl at hF ⊢;generalize ((w.os.mono+w.tick:Nat):Int)=tv at hB ⊢;clear hwl;refine bL (n:=60) ?_
  walk_nrm
  repeat w_go (KM.rely hz)
  have hws:=hB.symm;refine Goes.stop λw₃ h₃=>.stop λw₄ h₄=>.step (Fu hne hi hb hT (KM.rely hz (KM.rely hz hF h₃) h₄) hws ?_ ?_ ?_ ?_)
  all_goals simp only [LL,REST,iJ,iM,jv,bY,bO,bW,bR,cB,bN,Try.f89,Option.getD_some,reduceIte,Nat.reduceEqDiff,reduceCtorEq]
end
end Go.Proofs.Try
