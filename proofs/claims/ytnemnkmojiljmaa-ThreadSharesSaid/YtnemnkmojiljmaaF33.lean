/- Part 33. -/
import Derived.Test.YtnemnkmojiljmaaF32
set_option maxRecDepth 100000
set_option maxHeartbeats 8000000
set_option linter.all false
namespace Go.Proofs.Try
open Go Go.Conc Go.ConcN Go.ConcM Go.RowKit Go.Conc.Lib Go.ConcR.Gen Par
open Go.ConcR (KK wgBlock WgAt stA smA rd wr mk AtMkS)
section
variable {j1 j7 j8 j9 j10 j11 j12 j13 lU lV kz kC kD kE kF l6 l7 l8 kG kH kJ kK kL kM kN kP kQ kR nJ nK nL nM nN nO nP nQ nR nS nT nU nV nW nX nY nZ oh oo oq ou oz oC oD oF oG oH oI oJ oK oO oP oQ oU oV oW oZ pg pq pz pE pF pG uk um uo tF pI pJ pK pM pO pQ pR pU pV pW qL p8 p9 qa qj qb qc qd qf fC fD fE iC fF fG fH fI fJ fK fM fO fP fQ fT fU fV fZ gq gu gy gz gB gD gF gG gH gI gJ gK gL gM gN gP gQ gT gU gV gW:Value}
variable {Mu Wg:Nat} {ty:TypeId} {N:Nat->Nat} {J:Nat->Nat->(Nat->Prop)->World->Prop} {ro:Nat->Prop} {Anch:(Nat->Prop)->Goroutine->World->Prop}
variable {own:Nat->Prop} {W0:World} {i k c:Nat} {b₁:Frame} {a₁:Act} {bS:Array Oper} {i₁:Nat} {bU:List Nat} {k₁:List Item} {cs₁:List Frame}
theorem Qy (hne:Mu≠Wg) (hi:i≠0) (hb:Beside (cfg Mu Wg ty N J ro Anch) ((cfg Mu Wg ty N J ro Anch).Zw k) own) (hT:ja Mu Wg ty N J ro Anch own W0 i k c (G (b₁.at (a₁.put ((bS[i₁]?).bind (·.dst)) (.tuple #[])) (.inRegion bS bU::k₁)) cs₁))
 {n:Nat} {it:Nat} {ws:Bool} {iZ:Int} {w:World} (hF:KM 80 Mu ((cfg Mu Wg ty N J ro Anch).Zw k) own W0 w) (hws:ws=decide (iZ≠0)):
 rC Try.prog (cfg Mu Wg ty N J ro Anch).sys (HX Mu Wg ty N J ro Anch own W0 i k c b₁ a₁ bS i₁ bU k₁ cs₁) i (.bd k ⟨⟨.hd,0,0,false,false,it,ws⟩,c,n⟩) own (G ((base 89).at ⟨#[.pointer (some ⟨Mu,0,none⟩),j1,.int .i64 iZ,.bool false,.bool false,.int .i64 (it:Nat),.int .i32 0,j7,j8,j9,j10,j11,j12,j13,lU,lV,kz,kC,kD,kE,kF,l6,l7,l8,kG,kH,kJ,kK,kL,kM,kN,kP,kQ,kR,nJ,nK,nL,nM,nN,nO,nP,nQ,nR,nS,nT,nU,nV,nW,nX,nY,nZ,oh,oo,oq,ou,oz,oC,oD,oF,oG,oH,oI,oJ,oK,oO,oP,oQ,oU,oV,oW,oZ,pg,pq,pz,pE,pF,pG,uk,um,uo,tF,pI,pJ,pK,pM,pO,pQ,pR,pU,pV,pW,qL,p8,p9,qa,qj,qb,qc,qd,qf,fC,fD,fE,iC,fF,fG,fH,fI,fJ,fK,fM,fO,fP,fQ,fT,fU,fV,fZ,gq,gu,gy,gz,gB,gD,gF,gG,gH,gI,gJ,gK,gL,gM,gN,gP,gQ,gT,gU,gV,gW],[]⟩ [.code LL,.inLoop LL,.inBlock 0,.code REST]) (b₁.at a₁ (.inRegion bS (i₁::bU)::k₁)::cs₁)) w:=by
 have e0:(i==0)=false:=by simpa using hi
 have hz:((cfg Mu Wg ty N J ro Anch).Zw k).sy Mu:=.inl (.inl rfl);simp only [LL,REST,iJ,iM,jv,bY,bO,bW,bR,cB,bN,Try.f89,Option.getD_some,reduceIte,Nat.reduceEqDiff,reduceCtorEq];refine dH hne (by simp) rfl rfl λs hs hm1 hm2 hnb=>.inr ⟨by simp,_,_,_,_,w,#[],aB.2 rfl,by rw [e0];exact stepG_block,by simp,hs,Eff.refl _,(λe he=>by simp at he),?_⟩
 have e:tu 0 false false it ws=⟨.c2,0,1,false,false,it,ws⟩:=rfl;rw [e,e0];clear hs hm1 hm2 hnb e s;refine bL (n:=140) ?_
 repeat w_go (KM.rely hz)
 try m_num
 repeat w_go (KM.rely hz)
 refine Goes.stop λw₃ h₃=>.stop λw₄ h₄=>.step (Qw hne hi hb hT (KM.rely hz (KM.rely hz hF h₃) h₄) hws ?_ ?_ ?_ ?_)
 all_goals simp only [LL,REST,iJ,iM,jv,bY,bO,bW,bR,cB,bN,Try.f89,Option.getD_some,reduceIte,Nat.reduceEqDiff,reduceCtorEq]
theorem Qz (hne:Mu≠Wg) (hi:i≠0) (hb:Beside (cfg Mu Wg ty N J ro Anch) ((cfg Mu Wg ty N J ro Anch).Zw k) own) (hT:ja Mu Wg ty N J ro Anch own W0 i k c (G (b₁.at (a₁.put ((bS[i₁]?).bind (·.dst)) (.tuple #[])) (.inRegion bS bU::k₁)) cs₁))
 {n:Nat} {it:Nat} {ws:Bool} {iZ:Int} {w:World} (hF:KM 80 Mu ((cfg Mu Wg ty N J ro Anch).Zw k) own W0 w) (hws:ws=decide (iZ≠0)):
 rC Try.prog (cfg Mu Wg ty N J ro Anch).sys (HX Mu Wg ty N J ro Anch own W0 i k c b₁ a₁ bS i₁ bU k₁ cs₁) i (.bd k ⟨⟨.hd,2,0,false,false,it,ws⟩,c,n⟩) own (G ((base 89).at ⟨#[.pointer (some ⟨Mu,0,none⟩),j1,.int .i64 iZ,.bool false,.bool false,.int .i64 (it:Nat),.int .i32 2,j7,j8,j9,j10,j11,j12,j13,lU,lV,kz,kC,kD,kE,kF,l6,l7,l8,kG,kH,kJ,kK,kL,kM,kN,kP,kQ,kR,nJ,nK,nL,nM,nN,nO,nP,nQ,nR,nS,nT,nU,nV,nW,nX,nY,nZ,oh,oo,oq,ou,oz,oC,oD,oF,oG,oH,oI,oJ,oK,oO,oP,oQ,oU,oV,oW,oZ,pg,pq,pz,pE,pF,pG,uk,um,uo,tF,pI,pJ,pK,pM,pO,pQ,pR,pU,pV,pW,qL,p8,p9,qa,qj,qb,qc,qd,qf,fC,fD,fE,iC,fF,fG,fH,fI,fJ,fK,fM,fO,fP,fQ,fT,fU,fV,fZ,gq,gu,gy,gz,gB,gD,gF,gG,gH,gI,gJ,gK,gL,gM,gN,gP,gQ,gT,gU,gV,gW],[]⟩ [.code LL,.inLoop LL,.inBlock 0,.code REST]) (b₁.at a₁ (.inRegion bS (i₁::bU)::k₁)::cs₁)) w:=by
 have e0:(i==0)=false:=by simpa using hi
 have hz:((cfg Mu Wg ty N J ro Anch).Zw k).sy Mu:=.inl (.inl rfl);simp only [LL,REST,iJ,iM,jv,bY,bO,bW,bR,cB,bN,Try.f89,Option.getD_some,reduceIte,Nat.reduceEqDiff,reduceCtorEq];refine dH hne (by simp) rfl rfl λs hs hm1 hm2 hnb=>.inr ⟨by simp,_,_,_,_,w,#[],aB.2 rfl,by rw [e0];exact stepG_block,by simp,hs,Eff.refl _,(λe he=>by simp at he),?_⟩
 have e:tu 2 false false it ws=⟨.c2,2,3,false,false,it,ws⟩:=rfl;rw [e,e0];clear hs hm1 hm2 hnb e s;refine bL (n:=140) ?_
 repeat w_go (KM.rely hz)
 try m_num
 repeat w_go (KM.rely hz)
 refine Goes.stop λw₃ h₃=>.stop λw₄ h₄=>.step (Qx hne hi hb hT (KM.rely hz (KM.rely hz hF h₃) h₄) hws ?_ ?_ ?_ ?_)
 all_goals simp only [LL,REST,iJ,iM,jv,bY,bO,bW,bR,cB,bN,Try.f89,Option.getD_some,reduceIte,Nat.reduceEqDiff,reduceCtorEq]
theorem QA (hne:Mu≠Wg) (hi:i≠0) (hb:Beside (cfg Mu Wg ty N J ro Anch) ((cfg Mu Wg ty N J ro Anch).Zw k) own) (hT:ja Mu Wg ty N J ro Anch own W0 i k c (G (b₁.at (a₁.put ((bS[i₁]?).bind (·.dst)) (.tuple #[])) (.inRegion bS bU::k₁)) cs₁))
 {n:Nat} {it:Nat} {ws:Bool} {iZ:Int} {w:World} (hF:KM 80 Mu ((cfg Mu Wg ty N J ro Anch).Zw k) own W0 w) (hws:ws=decide (iZ≠0)):
 rC Try.prog (cfg Mu Wg ty N J ro Anch).sys (HX Mu Wg ty N J ro Anch own W0 i k c b₁ a₁ bS i₁ bU k₁ cs₁) i (.bd k ⟨⟨.hd,2,0,true,false,it,ws⟩,c,n⟩) own (G ((base 89).at ⟨#[.pointer (some ⟨Mu,0,none⟩),j1,.int .i64 iZ,.bool false,.bool true,.int .i64 (it:Nat),.int .i32 2,j7,j8,j9,j10,j11,j12,j13,lU,lV,kz,kC,kD,kE,kF,l6,l7,l8,kG,kH,kJ,kK,kL,kM,kN,kP,kQ,kR,nJ,nK,nL,nM,nN,nO,nP,nQ,nR,nS,nT,nU,nV,nW,nX,nY,nZ,oh,oo,oq,ou,oz,oC,oD,oF,oG,oH,oI,oJ,oK,oO,oP,oQ,oU,oV,oW,oZ,pg,pq,pz,pE,pF,pG,uk,um,uo,tF,pI,pJ,pK,pM,pO,pQ,pR,pU,pV,pW,qL,p8,p9,qa,qj,qb,qc,qd,qf,fC,fD,fE,iC,fF,fG,fH,fI,fJ,fK,fM,fO,fP,fQ,fT,fU,fV,fZ,gq,gu,gy,gz,gB,gD,gF,gG,gH,gI,gJ,gK,gL,gM,gN,gP,gQ,gT,gU,gV,gW],[]⟩ [.code LL,.inLoop LL,.inBlock 0,.code REST]) (b₁.at a₁ (.inRegion bS (i₁::bU)::k₁)::cs₁)) w:=by
 have e0:(i==0)=false:=by simpa using hi
 have hz:((cfg Mu Wg ty N J ro Anch).Zw k).sy Mu:=.inl (.inl rfl);simp only [LL,REST,iJ,iM,jv,bY,bO,bW,bR,cB,bN,Try.f89,Option.getD_some,reduceIte,Nat.reduceEqDiff,reduceCtorEq];refine dH hne (by simp) rfl rfl λs hs hm1 hm2 hnb=>.inr ⟨by simp,_,_,_,_,w,#[],aB.2 rfl,by rw [e0];exact stepG_block,by simp,hs,Eff.refl _,(λe he=>by simp at he),?_⟩
 have e:tu 2 true false it ws=⟨.c2,2,1,true,false,it,ws⟩:=rfl;rw [e,e0];clear hs hm1 hm2 hnb e s;refine bL (n:=140) ?_
 repeat w_go (KM.rely hz)
 try m_num
 repeat w_go (KM.rely hz)
 refine Goes.stop λw₃ h₃=>.stop λw₄ h₄=>.step (Hl hne hi hb hT (KM.rely hz (KM.rely hz hF h₃) h₄) hws ?_ ?_ ?_ ?_)
 all_goals simp only [LL,REST,iJ,iM,jv,bY,bO,bW,bR,cB,bN,Try.f89,Option.getD_some,reduceIte,Nat.reduceEqDiff,reduceCtorEq]
theorem QB (hne:Mu≠Wg) (hi:i≠0) (hb:Beside (cfg Mu Wg ty N J ro Anch) ((cfg Mu Wg ty N J ro Anch).Zw k) own) (hT:ja Mu Wg ty N J ro Anch own W0 i k c (G (b₁.at (a₁.put ((bS[i₁]?).bind (·.dst)) (.tuple #[])) (.inRegion bS bU::k₁)) cs₁))
 {n:Nat} {it:Nat} {ws:Bool} {iZ:Int} {w:World} (hF:KM 80 Mu ((cfg Mu Wg ty N J ro Anch).Zw k) own W0 w) (hws:ws=decide (iZ≠0)):
 rC Try.prog (cfg Mu Wg ty N J ro Anch).sys (HX Mu Wg ty N J ro Anch own W0 i k c b₁ a₁ bS i₁ bU k₁ cs₁) i (.bd k ⟨⟨.hd,2,0,true,true,it,ws⟩,c,n⟩) own (G ((base 89).at ⟨#[.pointer (some ⟨Mu,0,none⟩),j1,.int .i64 iZ,.bool true,.bool true,.int .i64 (it:Nat),.int .i32 2,j7,j8,j9,j10,j11,j12,j13,lU,lV,kz,kC,kD,kE,kF,l6,l7,l8,kG,kH,kJ,kK,kL,kM,kN,kP,kQ,kR,nJ,nK,nL,nM,nN,nO,nP,nQ,nR,nS,nT,nU,nV,nW,nX,nY,nZ,oh,oo,oq,ou,oz,oC,oD,oF,oG,oH,oI,oJ,oK,oO,oP,oQ,oU,oV,oW,oZ,pg,pq,pz,pE,pF,pG,uk,um,uo,tF,pI,pJ,pK,pM,pO,pQ,pR,pU,pV,pW,qL,p8,p9,qa,qj,qb,qc,qd,qf,fC,fD,fE,iC,fF,fG,fH,fI,fJ,fK,fM,fO,fP,fQ,fT,fU,fV,fZ,gq,gu,gy,gz,gB,gD,gF,gG,gH,gI,gJ,gK,gL,gM,gN,gP,gQ,gT,gU,gV,gW],[]⟩ [.code LL,.inLoop LL,.inBlock 0,.code REST]) (b₁.at a₁ (.inRegion bS (i₁::bU)::k₁)::cs₁)) w:=by
 have e0:(i==0)=false:=by simpa using hi
 have hz:((cfg Mu Wg ty N J ro Anch).Zw k).sy Mu:=.inl (.inl rfl);simp only [LL,REST,iJ,iM,jv,bY,bO,bW,bR,cB,bN,Try.f89,Option.getD_some,reduceIte,Nat.reduceEqDiff,reduceCtorEq];refine dH hne (by simp) rfl rfl λs hs hm1 hm2 hnb=>.inr ⟨by simp,_,_,_,_,w,#[],aB.2 rfl,by rw [e0];exact stepG_block,by simp,hs,Eff.refl _,(λe he=>by simp at he),?_⟩
 have e:tu 2 true true it ws=⟨.c2,2,1,true,true,it,ws⟩:=rfl;rw [e,e0];clear hs hm1 hm2 hnb e s;refine bL (n:=140) ?_
 repeat w_go (KM.rely hz)
 try m_num
 repeat w_go (KM.rely hz)
 refine Goes.stop λw₃ h₃=>.stop λw₄ h₄=>.step (Hl hne hi hb hT (KM.rely hz (KM.rely hz hF h₃) h₄) hws ?_ ?_ ?_ ?_)
 all_goals simp only [LL,REST,iJ,iM,jv,bY,bO,bW,bR,cB,bN,Try.f89,Option.getD_some,reduceIte,Nat.reduceEqDiff,reduceCtorEq]
theorem Nc (hne:Mu≠Wg) (hi:i≠0) (hb:Beside (cfg Mu Wg ty N J ro Anch) ((cfg Mu Wg ty N J ro Anch).Zw k) own) (hT:ja Mu Wg ty N J ro Anch own W0 i k c (G (b₁.at (a₁.put ((bS[i₁]?).bind (·.dst)) (.tuple #[])) (.inRegion bS bU::k₁)) cs₁))
 {n:Nat} {it:Nat} {ws:Bool} {iZ:Int} {w:World} (hF:KM 80 Mu ((cfg Mu Wg ty N J ro Anch).Zw k) own W0 w) (hws:ws=decide (iZ≠0)):
 rC Try.prog (cfg Mu Wg ty N J ro Anch).sys (HX Mu Wg ty N J ro Anch own W0 i k c b₁ a₁ bS i₁ bU k₁ cs₁) i (.bd k ⟨⟨.hd,12,0,false,false,it,ws⟩,c,n⟩) own (G ((base 89).at ⟨#[.pointer (some ⟨Mu,0,none⟩),j1,.int .i64 iZ,.bool false,.bool false,.int .i64 (it:Nat),.int .i32 12,j7,j8,j9,j10,j11,j12,j13,lU,lV,kz,kC,kD,kE,kF,l6,l7,l8,kG,kH,kJ,kK,kL,kM,kN,kP,kQ,kR,nJ,nK,nL,nM,nN,nO,nP,nQ,nR,nS,nT,nU,nV,nW,nX,nY,nZ,oh,oo,oq,ou,oz,oC,oD,oF,oG,oH,oI,oJ,oK,oO,oP,oQ,oU,oV,oW,oZ,pg,pq,pz,pE,pF,pG,uk,um,uo,tF,pI,pJ,pK,pM,pO,pQ,pR,pU,pV,pW,qL,p8,p9,qa,qj,qb,qc,qd,qf,fC,fD,fE,iC,fF,fG,fH,fI,fJ,fK,fM,fO,fP,fQ,fT,fU,fV,fZ,gq,gu,gy,gz,gB,gD,gF,gG,gH,gI,gJ,gK,gL,gM,gN,gP,gQ,gT,gU,gV,gW],[]⟩ [.code LL,.inLoop LL,.inBlock 0,.code REST]) (b₁.at a₁ (.inRegion bS (i₁::bU)::k₁)::cs₁)) w:=by
 have e0:(i==0)=false:=by simpa using hi
 have hz:((cfg Mu Wg ty N J ro Anch).Zw k).sy Mu:=.inl (.inl rfl);simp only [LL,REST,iJ,iM,jv,bY,bO,bW,bR,cB,bN,Try.f89,Option.getD_some,reduceIte,Nat.reduceEqDiff,reduceCtorEq];refine dH hne (by simp) rfl rfl λs hs hm1 hm2 hnb=>.inr ⟨by simp,_,_,_,_,w,#[],aB.2 rfl,by rw [e0];exact stepG_block,by simp,hs,Eff.refl _,(λe he=>by simp at he),?_⟩
 have e:tu 12 false false it ws=⟨.c2,12,20,false,false,it,ws⟩:=rfl;rw [e,e0];clear hs hm1 hm2 hnb e s;refine bL (n:=140) ?_
 repeat w_go (KM.rely hz)
 try m_num
 repeat w_go (KM.rely hz)
 refine Goes.stop λw₃ h₃=>.stop λw₄ h₄=>.step (KQ hne hi hb hT (KM.rely hz (KM.rely hz hF h₃) h₄) hws ?_ ?_ ?_ ?_)
 all_goals simp only [LL,REST,iJ,iM,jv,bY,bO,bW,bR,cB,bN,Try.f89,Option.getD_some,reduceIte,Nat.reduceEqDiff,reduceCtorEq]
end
end Go.Proofs.Try
