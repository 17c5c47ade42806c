/- Part 34. -/
import Derived.Test.YtnemnkmojiljmaaF33
set_option maxRecDepth 100000
set_option maxHeartbeats 8000000
set_option linter.all false
namespace Go.Proofs.Try
open Go Go.Conc Go.ConcN Go.ConcM Go.RowKit Go.Conc.Lib Go.ConcR.Gen Par
open Go.ConcR (KK wgBlock WgAt stA smA rd wr mk AtMkS)
section
variable {j1 j7 j8 j9 j10 j11 j12 j13 lU lV kz kC kD kE kF l6 l7 l8 kG kH kJ kK kL kM kN kP kQ kR nJ nK nL nM nN nO nP nQ nR nS nT nU nV nW nX nY nZ oh oo oq ou oz oC oD oF oG oH oI oJ oK oO oP oQ oU oV oW oZ pg pq pz pE pF pG uk um uo tF pI pJ pK pM pO pQ pR pU pV pW qL p8 p9 qa qj qb qc qd qf fC fD fE iC fF fG fH fI fJ fK fM fO fP fQ fT fU fV fZ gq gu gy gz gB gD gF gG gH gI gJ gK gL gM gN gP gQ gT gU gV gW:Value}
variable {Mu Wg:Nat} {ty:TypeId} {N:Nat->Nat} {J:Nat->Nat->(Nat->Prop)->World->Prop} {ro:Nat->Prop} {Anch:(Nat->Prop)->Goroutine->World->Prop}
variable {own:Nat->Prop} {W0:World} {i k c:Nat} {b₁:Frame} {a₁:Act} {bS:Array Oper} {i₁:Nat} {bU:List Nat} {k₁:List Item} {cs₁:List Frame}
theorem QC (hne:Mu≠Wg) (hi:i≠0) (hb:Beside (cfg Mu Wg ty N J ro Anch) ((cfg Mu Wg ty N J ro Anch).Zw k) own) (hT:ja Mu Wg ty N J ro Anch own W0 i k c (G (b₁.at (a₁.put ((bS[i₁]?).bind (·.dst)) (.tuple #[])) (.inRegion bS bU::k₁)) cs₁))
 {n:Nat} {it:Nat} {ws:Bool} {iZ:Int} {w:World} (hF:KM 80 Mu ((cfg Mu Wg ty N J ro Anch).Zw k) own W0 w) (hws:ws=decide (iZ≠0)):
 rC Try.prog (cfg Mu Wg ty N J ro Anch).sys (HX Mu Wg ty N J ro Anch own W0 i k c b₁ a₁ bS i₁ bU k₁ cs₁) i (.bd k ⟨⟨.hd,1,0,false,false,it,ws⟩,c,n⟩) own (G ((base 89).at ⟨#[.pointer (some ⟨Mu,0,none⟩),j1,.int .i64 iZ,.bool false,.bool false,.int .i64 (it:Nat),.int .i32 1,j7,j8,j9,j10,j11,j12,j13,lU,lV,kz,kC,kD,kE,kF,l6,l7,l8,kG,kH,kJ,kK,kL,kM,kN,kP,kQ,kR,nJ,nK,nL,nM,nN,nO,nP,nQ,nR,nS,nT,nU,nV,nW,nX,nY,nZ,oh,oo,oq,ou,oz,oC,oD,oF,oG,oH,oI,oJ,oK,oO,oP,oQ,oU,oV,oW,oZ,pg,pq,pz,pE,pF,pG,uk,um,uo,tF,pI,pJ,pK,pM,pO,pQ,pR,pU,pV,pW,qL,p8,p9,qa,qj,qb,qc,qd,qf,fC,fD,fE,iC,fF,fG,fH,fI,fJ,fK,fM,fO,fP,fQ,fT,fU,fV,fZ,gq,gu,gy,gz,gB,gD,gF,gG,gH,gI,gJ,gK,gL,gM,gN,gP,gQ,gT,gU,gV,gW],[]⟩ [.code LL,.inLoop LL,.inBlock 0,.code REST]) (b₁.at a₁ (.inRegion bS (i₁::bU)::k₁)::cs₁)) w:=by
 have e0:(i==0)=false:=by simpa using hi
 have hz:((cfg Mu Wg ty N J ro Anch).Zw k).sy Mu:=.inl (.inl rfl);simp only [LL,REST,iJ,iM,jv,bY,bO,bW,bR,cB,bN,Try.f89,Option.getD_some,reduceIte,Nat.reduceEqDiff,reduceCtorEq];refine dH hne (by simp) rfl rfl λs hs hm1 hm2 hnb=>.inr ⟨by simp,_,_,_,_,w,#[],aB.2 rfl,by rw [e0];exact stepG_block,by simp,hs,Eff.refl _,(λe he=>by simp at he),?_⟩
 have e:tu 1 false false it ws=⟨.sq,1,0,false,false,it,ws⟩:=rfl;rw [e,e0];clear hs hm1 hm2 hnb e s;refine bL (n:=140) ?_
 repeat w_go (KM.rely hz)
 refine Goes.stop (λw₁ h₁=>?_);replace hF:=KM.rely hz hF h₁;clear h₁;refine Gw.stop λw₁ h₁=>.step (?_)
 replace hF:=KM.rely hz hF h₁;clear h₁;refine dH hne (by simp) rfl rfl λs hs hm1 hm2 hnb=>?_
 by_cases h4:it<4
 ·rcases hsp:w₁.spins with _|_
  ·refine .inr ⟨by simp,⟨.c2,1,9,false,false,it,ws⟩,s.b.mu,s.b.ms,_,w₁.asked,#[],by simp [jO,vo,h4],by rw [e0];exact stepG_canSpin_ask rfl rfl (by k_ne) rfl Try.func97 jk jl jm jo (k:=.i64) (n:=((it:Nat):Int)) (by simp [Act.eval]) (by omega),by simp,hs,Eff.asked _,(λe he=>by simp at he),?_⟩;replace hF:=hF.turn (W':=w₁.asked) hb hs hs (Eff.asked w₁);rw [hsp];generalize hwl:w₁.asked=wl at hF ⊢;clear hs hm1 hm2 hnb hwl hsp;rw [e0];refine bL (n:=140) ?_
   walk_nrm
   repeat w_go (KM.rely hz)
   try m_num
   repeat w_go (KM.rely hz)
   refine Goes.stop λw₃ h₃=>.stop λw₄ h₄=>.step (Hq hne hi hb hT (KM.rely hz (KM.rely hz hF h₃) h₄) hws ?_ ?_ ?_ ?_)
   all_goals simp only [LL,REST,iJ,iM,jv,bY,bO,bW,bR,cB,bN,Try.f89,Option.getD_some,reduceIte,Nat.reduceEqDiff,reduceCtorEq]
  ·refine .inr ⟨by simp,⟨.r1,0,0,false,false,it,ws⟩,s.b.mu,s.b.ms,_,w₁.asked,#[],by simp [jO,vo,h4],by rw [e0];exact stepG_canSpin_ask rfl rfl (by k_ne) rfl Try.func97 jk jl jm jo (k:=.i64) (n:=((it:Nat):Int)) (by simp [Act.eval]) (by omega),by simp,hs,Eff.asked _,(λe he=>by simp at he),?_⟩;replace hF:=hF.turn (W':=w₁.asked) hb hs hs (Eff.asked w₁);rw [hsp];generalize hwl:w₁.asked=wl at hF ⊢;clear hs hm1 hm2 hnb hwl hsp;rw [e0];refine bL (n:=140) ?_
   walk_nrm
   repeat w_go (KM.rely hz)
   u_in (KM.rely hz) hF
   rw [stepG_entry_pure (.tuple #[]) rfl rfl (by k_ne) rfl Try.func98 zJ zK zL zM];simp only [goes_go];refine ⟨⟨rfl,rfl⟩,?_⟩;walk_nrm
   repeat w_go (KM.rely hz)
   have ew:IntKind.i64.wrap (((it:Nat):Int)+1)=((it+1:Nat):Int):=by rw [IntKind.wrap_i64];omega
   try simp only [ew]
   refine Goes.stop (λw₁ h₁=>?_);replace hF:=KM.rely hz hF h₁;clear h₁;refine Gw.stop λw₁ h₁=>.step (dH hne (by simp) rfl rfl λs hs hm1 hm2 hnb=>.inr ⟨by simp,_,_,_,_,w₁,#[],aB.2 rfl,by rw [e0];exact gZ rfl rfl (by k_ne) rfl rfl hs.cellSt iT,by simp,hs,Eff.refl _,(λe he=>by simp at he),?_⟩)
   replace hF:=KM.rely hz hF h₁;clear h₁;rw [e0];refine bL (n:=40) ?_
   walk_nrm
   repeat w_nl (KM.rely hz)
   u_c stepG_inLoop (KM.rely hz) hF
   exact Goes.stop λw₃ h₃=>.stop λw₄ h₄=>.base (.inl (.mk (KM.rely hz (KM.rely hz hF h₃) h₄) hws))
 ·refine .inr ⟨by simp,⟨.c2,1,9,false,false,it,ws⟩,s.b.mu,s.b.ms,_,w₁,#[],by simp [jO,vo,h4],by rw [e0];exact stepG_canSpin_no rfl rfl (by k_ne) rfl Try.func97 jk jl jm jo (k:=.i64) (n:=((it:Nat):Int)) (by simp [Act.eval]) (by omega),by simp,hs,Eff.refl _,(λe he=>by simp at he),?_⟩;clear hs hm1 hm2 hnb;rw [e0];refine bL (n:=140) ?_
  walk_nrm
  repeat w_go (KM.rely hz)
  try m_num
  repeat w_go (KM.rely hz)
  refine Goes.stop λw₃ h₃=>.stop λw₄ h₄=>.step (Hq hne hi hb hT (KM.rely hz (KM.rely hz hF h₃) h₄) hws ?_ ?_ ?_ ?_)
  all_goals simp only [LL,REST,iJ,iM,jv,bY,bO,bW,bR,cB,bN,Try.f89,Option.getD_some,reduceIte,Nat.reduceEqDiff,reduceCtorEq]
theorem QD (hne:Mu≠Wg) (hi:i≠0) (hb:Beside (cfg Mu Wg ty N J ro Anch) ((cfg Mu Wg ty N J ro Anch).Zw k) own) (hT:ja Mu Wg ty N J ro Anch own W0 i k c (G (b₁.at (a₁.put ((bS[i₁]?).bind (·.dst)) (.tuple #[])) (.inRegion bS bU::k₁)) cs₁))
 {n:Nat} {it:Nat} {ws:Bool} {iZ:Int} {w:World} (hF:KM 80 Mu ((cfg Mu Wg ty N J ro Anch).Zw k) own W0 w) (hws:ws=decide (iZ≠0)):
 rC Try.prog (cfg Mu Wg ty N J ro Anch).sys (HX Mu Wg ty N J ro Anch own W0 i k c b₁ a₁ bS i₁ bU k₁ cs₁) i (.bd k ⟨⟨.hd,3,0,true,false,it,ws⟩,c,n⟩) own (G ((base 89).at ⟨#[.pointer (some ⟨Mu,0,none⟩),j1,.int .i64 iZ,.bool false,.bool true,.int .i64 (it:Nat),.int .i32 3,j7,j8,j9,j10,j11,j12,j13,lU,lV,kz,kC,kD,kE,kF,l6,l7,l8,kG,kH,kJ,kK,kL,kM,kN,kP,kQ,kR,nJ,nK,nL,nM,nN,nO,nP,nQ,nR,nS,nT,nU,nV,nW,nX,nY,nZ,oh,oo,oq,ou,oz,oC,oD,oF,oG,oH,oI,oJ,oK,oO,oP,oQ,oU,oV,oW,oZ,pg,pq,pz,pE,pF,pG,uk,um,uo,tF,pI,pJ,pK,pM,pO,pQ,pR,pU,pV,pW,qL,p8,p9,qa,qj,qb,qc,qd,qf,fC,fD,fE,iC,fF,fG,fH,fI,fJ,fK,fM,fO,fP,fQ,fT,fU,fV,fZ,gq,gu,gy,gz,gB,gD,gF,gG,gH,gI,gJ,gK,gL,gM,gN,gP,gQ,gT,gU,gV,gW],[]⟩ [.code LL,.inLoop LL,.inBlock 0,.code REST]) (b₁.at a₁ (.inRegion bS (i₁::bU)::k₁)::cs₁)) w:=by
 have e0:(i==0)=false:=by simpa using hi
 have hz:((cfg Mu Wg ty N J ro Anch).Zw k).sy Mu:=.inl (.inl rfl);simp only [LL,REST,iJ,iM,jv,bY,bO,bW,bR,cB,bN,Try.f89,Option.getD_some,reduceIte,Nat.reduceEqDiff,reduceCtorEq];refine dH hne (by simp) rfl rfl λs hs hm1 hm2 hnb=>.inr ⟨by simp,_,_,_,_,w,#[],aB.2 rfl,by rw [e0];exact stepG_block,by simp,hs,Eff.refl _,(λe he=>by simp at he),?_⟩
 have e:tu 3 true false it ws=⟨.sq,3,0,true,false,it,ws⟩:=rfl;rw [e,e0];clear hs hm1 hm2 hnb e s;refine bL (n:=140) ?_
 repeat w_go (KM.rely hz)
 refine Goes.stop (λw₁ h₁=>?_);replace hF:=KM.rely hz hF h₁;clear h₁;refine Gw.stop λw₁ h₁=>.step (?_)
 replace hF:=KM.rely hz hF h₁;clear h₁;refine dH hne (by simp) rfl rfl λs hs hm1 hm2 hnb=>?_
 by_cases h4:it<4
 ·rcases hsp:w₁.spins with _|_
  ·refine .inr ⟨by simp,⟨.c2,3,9,true,false,it,ws⟩,s.b.mu,s.b.ms,_,w₁.asked,#[],by simp [jO,vo,h4],by rw [e0];exact stepG_canSpin_ask rfl rfl (by k_ne) rfl Try.func97 jk jl jm jo (k:=.i64) (n:=((it:Nat):Int)) (by simp [Act.eval]) (by omega),by simp,hs,Eff.asked _,(λe he=>by simp at he),?_⟩;replace hF:=hF.turn (W':=w₁.asked) hb hs hs (Eff.asked w₁);rw [hsp];generalize hwl:w₁.asked=wl at hF ⊢;clear hs hm1 hm2 hnb hwl hsp;rw [e0];refine bL (n:=140) ?_
   walk_nrm
   repeat w_go (KM.rely hz)
   try m_num
   repeat w_go (KM.rely hz)
   refine Goes.stop λw₃ h₃=>.stop λw₄ h₄=>.step (Hr hne hi hb hT (KM.rely hz (KM.rely hz hF h₃) h₄) hws ?_ ?_ ?_ ?_)
   all_goals simp only [LL,REST,iJ,iM,jv,bY,bO,bW,bR,cB,bN,Try.f89,Option.getD_some,reduceIte,Nat.reduceEqDiff,reduceCtorEq]
  ·refine .inr ⟨by simp,⟨.r1,0,0,true,false,it,ws⟩,s.b.mu,s.b.ms,_,w₁.asked,#[],by simp [jO,vo,h4],by rw [e0];exact stepG_canSpin_ask rfl rfl (by k_ne) rfl Try.func97 jk jl jm jo (k:=.i64) (n:=((it:Nat):Int)) (by simp [Act.eval]) (by omega),by simp,hs,Eff.asked _,(λe he=>by simp at he),?_⟩;replace hF:=hF.turn (W':=w₁.asked) hb hs hs (Eff.asked w₁);rw [hsp];generalize hwl:w₁.asked=wl at hF ⊢;clear hs hm1 hm2 hnb hwl hsp;rw [e0];refine bL (n:=140) ?_
   walk_nrm
   repeat w_go (KM.rely hz)
   u_in (KM.rely hz) hF
   rw [stepG_entry_pure (.tuple #[]) rfl rfl (by k_ne) rfl Try.func98 zJ zK zL zM];simp only [goes_go];refine ⟨⟨rfl,rfl⟩,?_⟩;walk_nrm
   repeat w_go (KM.rely hz)
   have ew:IntKind.i64.wrap (((it:Nat):Int)+1)=((it+1:Nat):Int):=by rw [IntKind.wrap_i64];omega
   try simp only [ew]
   refine Goes.stop (λw₁ h₁=>?_);replace hF:=KM.rely hz hF h₁;clear h₁;refine Gw.stop λw₁ h₁=>.step (dH hne (by simp) rfl rfl λs hs hm1 hm2 hnb=>.inr ⟨by simp,_,_,_,_,w₁,#[],aB.2 rfl,by rw [e0];exact gZ rfl rfl (by k_ne) rfl rfl hs.cellSt iT,by simp,hs,Eff.refl _,(λe he=>by simp at he),?_⟩)
   replace hF:=KM.rely hz hF h₁;clear h₁;rw [e0];refine bL (n:=40) ?_
   walk_nrm
   repeat w_nl (KM.rely hz)
   u_c stepG_inLoop (KM.rely hz) hF
   exact Goes.stop λw₃ h₃=>.stop λw₄ h₄=>.base (.inl (.mk (KM.rely hz (KM.rely hz hF h₃) h₄) hws))
 ·refine .inr ⟨by simp,⟨.c2,3,9,true,false,it,ws⟩,s.b.mu,s.b.ms,_,w₁,#[],by simp [jO,vo,h4],by rw [e0];exact stepG_canSpin_no rfl rfl (by k_ne) rfl Try.func97 jk jl jm jo (k:=.i64) (n:=((it:Nat):Int)) (by simp [Act.eval]) (by omega),by simp,hs,Eff.refl _,(λe he=>by simp at he),?_⟩;clear hs hm1 hm2 hnb;rw [e0];refine bL (n:=140) ?_
  walk_nrm
  repeat w_go (KM.rely hz)
  try m_num
  repeat w_go (KM.rely hz)
  refine Goes.stop λw₃ h₃=>.stop λw₄ h₄=>.step (Hr hne hi hb hT (KM.rely hz (KM.rely hz hF h₃) h₄) hws ?_ ?_ ?_ ?_)
  all_goals simp only [LL,REST,iJ,iM,jv,bY,bO,bW,bR,cB,bN,Try.f89,Option.getD_some,reduceIte,Nat.reduceEqDiff,reduceCtorEq]
theorem QE (hne:Mu≠Wg) (hi:i≠0) (hb:Beside (cfg Mu Wg ty N J ro Anch) ((cfg Mu Wg ty N J ro Anch).Zw k) own) (hT:ja Mu Wg ty N J ro Anch own W0 i k c (G (b₁.at (a₁.put ((bS[i₁]?).bind (·.dst)) (.tuple #[])) (.inRegion bS bU::k₁)) cs₁))
 {n:Nat} {it:Nat} {ws:Bool} {iZ:Int} {w:World} (hF:KM 80 Mu ((cfg Mu Wg ty N J ro Anch).Zw k) own W0 w) (hws:ws=decide (iZ≠0)):
 rC Try.prog (cfg Mu Wg ty N J ro Anch).sys (HX Mu Wg ty N J ro Anch own W0 i k c b₁ a₁ bS i₁ bU k₁ cs₁) i (.bd k ⟨⟨.hd,3,0,true,true,it,ws⟩,c,n⟩) own (G ((base 89).at ⟨#[.pointer (some ⟨Mu,0,none⟩),j1,.int .i64 iZ,.bool true,.bool true,.int .i64 (it:Nat),.int .i32 3,j7,j8,j9,j10,j11,j12,j13,lU,lV,kz,kC,kD,kE,kF,l6,l7,l8,kG,kH,kJ,kK,kL,kM,kN,kP,kQ,kR,nJ,nK,nL,nM,nN,nO,nP,nQ,nR,nS,nT,nU,nV,nW,nX,nY,nZ,oh,oo,oq,ou,oz,oC,oD,oF,oG,oH,oI,oJ,oK,oO,oP,oQ,oU,oV,oW,oZ,pg,pq,pz,pE,pF,pG,uk,um,uo,tF,pI,pJ,pK,pM,pO,pQ,pR,pU,pV,pW,qL,p8,p9,qa,qj,qb,qc,qd,qf,fC,fD,fE,iC,fF,fG,fH,fI,fJ,fK,fM,fO,fP,fQ,fT,fU,fV,fZ,gq,gu,gy,gz,gB,gD,gF,gG,gH,gI,gJ,gK,gL,gM,gN,gP,gQ,gT,gU,gV,gW],[]⟩ [.code LL,.inLoop LL,.inBlock 0,.code REST]) (b₁.at a₁ (.inRegion bS (i₁::bU)::k₁)::cs₁)) w:=by
 have e0:(i==0)=false:=by simpa using hi
 have hz:((cfg Mu Wg ty N J ro Anch).Zw k).sy Mu:=.inl (.inl rfl);simp only [LL,REST,iJ,iM,jv,bY,bO,bW,bR,cB,bN,Try.f89,Option.getD_some,reduceIte,Nat.reduceEqDiff,reduceCtorEq];refine dH hne (by simp) rfl rfl λs hs hm1 hm2 hnb=>.inr ⟨by simp,_,_,_,_,w,#[],aB.2 rfl,by rw [e0];exact stepG_block,by simp,hs,Eff.refl _,(λe he=>by simp at he),?_⟩
 have e:tu 3 true true it ws=⟨.sq,3,0,true,true,it,ws⟩:=rfl;rw [e,e0];clear hs hm1 hm2 hnb e s;refine bL (n:=140) ?_
 repeat w_go (KM.rely hz)
 refine Goes.stop (λw₁ h₁=>?_);replace hF:=KM.rely hz hF h₁;clear h₁;refine Gw.stop λw₁ h₁=>.step (?_)
 replace hF:=KM.rely hz hF h₁;clear h₁;refine dH hne (by simp) rfl rfl λs hs hm1 hm2 hnb=>?_
 by_cases h4:it<4
 ·rcases hsp:w₁.spins with _|_
  ·refine .inr ⟨by simp,⟨.c2,3,13,true,true,it,ws⟩,s.b.mu,s.b.ms,_,w₁.asked,#[],by simp [jO,vo,h4],by rw [e0];exact stepG_canSpin_ask rfl rfl (by k_ne) rfl Try.func97 jk jl jm jo (k:=.i64) (n:=((it:Nat):Int)) (by simp [Act.eval]) (by omega),by simp,hs,Eff.asked _,(λe he=>by simp at he),?_⟩;replace hF:=hF.turn (W':=w₁.asked) hb hs hs (Eff.asked w₁);rw [hsp];generalize hwl:w₁.asked=wl at hF ⊢;clear hs hm1 hm2 hnb hwl hsp;rw [e0];refine bL (n:=140) ?_
   walk_nrm
   repeat w_go (KM.rely hz)
   try m_num
   repeat w_go (KM.rely hz)
   refine Goes.stop λw₃ h₃=>.stop λw₄ h₄=>.step (Fv hne hi hb hT (KM.rely hz (KM.rely hz hF h₃) h₄) hws ?_ ?_ ?_ ?_)
   all_goals simp only [LL,REST,iJ,iM,jv,bY,bO,bW,bR,cB,bN,Try.f89,Option.getD_some,reduceIte,Nat.reduceEqDiff,reduceCtorEq]
  ·refine .inr ⟨by simp,⟨.r1,0,0,true,true,it,ws⟩,s.b.mu,s.b.ms,_,w₁.asked,#[],by simp [jO,vo,h4],by rw [e0];exact stepG_canSpin_ask rfl rfl (by k_ne) rfl Try.func97 jk jl jm jo (k:=.i64) (n:=((it:Nat):Int)) (by simp [Act.eval]) (by omega),by simp,hs,Eff.asked _,(λe he=>by simp at he),?_⟩;replace hF:=hF.turn (W':=w₁.asked) hb hs hs (Eff.asked w₁);rw [hsp];generalize hwl:w₁.asked=wl at hF ⊢;clear hs hm1 hm2 hnb hwl hsp;rw [e0];refine bL (n:=140) ?_
   walk_nrm
   repeat w_go (KM.rely hz)
   u_in (KM.rely hz) hF
   rw [stepG_entry_pure (.tuple #[]) rfl rfl (by k_ne) rfl Try.func98 zJ zK zL zM];simp only [goes_go];refine ⟨⟨rfl,rfl⟩,?_⟩;walk_nrm
   repeat w_go (KM.rely hz)
   have ew:IntKind.i64.wrap (((it:Nat):Int)+1)=((it+1:Nat):Int):=by rw [IntKind.wrap_i64];omega
   try simp only [ew]
   refine Goes.stop (λw₁ h₁=>?_);replace hF:=KM.rely hz hF h₁;clear h₁;refine Gw.stop λw₁ h₁=>.step (dH hne (by simp) rfl rfl λs hs hm1 hm2 hnb=>.inr ⟨by simp,_,_,_,_,w₁,#[],aB.2 rfl,by rw [e0];exact gZ rfl rfl (by k_ne) rfl rfl hs.cellSt iT,by simp,hs,Eff.refl _,(λe he=>by simp at he),?_⟩)
   replace hF:=KM.rely hz hF h₁;clear h₁;rw [e0];refine bL (n:=40) ?_
   walk_nrm
   repeat w_nl (KM.rely hz)
   u_c stepG_inLoop (KM.rely hz) hF
   exact Goes.stop λw₃ h₃=>.stop λw₄ h₄=>.base (.inl (.mk (KM.rely hz (KM.rely hz hF h₃) h₄) hws))
 ·refine .inr ⟨by simp,⟨.c2,3,13,true,true,it,ws⟩,s.b.mu,s.b.ms,_,w₁,#[],by simp [jO,vo,h4],by rw [e0];exact stepG_canSpin_no rfl rfl (by k_ne) rfl Try.func97 jk jl jm jo (k:=.i64) (n:=((it:Nat):Int)) (by simp [Act.eval]) (by omega),by simp,hs,Eff.refl _,(λe he=>by simp at he),?_⟩;clear hs hm1 hm2 hnb;rw [e0];refine bL (n:=140) ?_
  walk_nrm
  repeat w_go (KM.rely hz)
  try m_num
  repeat w_go (KM.rely hz)
  refine Goes.stop λw₃ h₃=>.stop λw₄ h₄=>.step (Fv hne hi hb hT (KM.rely hz (KM.rely hz hF h₃) h₄) hws ?_ ?_ ?_ ?_)
  all_goals simp only [LL,REST,iJ,iM,jv,bY,bO,bW,bR,cB,bN,Try.f89,Option.getD_some,reduceIte,Nat.reduceEqDiff,reduceCtorEq]
end
end Go.Proofs.Try
