/- Part 32. -/
import Derived.Test.YtnemnkmojiljmaaF31
set_option maxRecDepth 100000
set_option maxHeartbeats 8000000
set_option linter.all false
namespace Go.Proofs.Try
open Go Go.Conc Go.ConcN Go.ConcM Go.RowKit Go.Conc.Lib Go.ConcR.Gen Par
open Go.ConcR (KK wgBlock WgAt stA smA rd wr mk AtMkS)
section
variable {j1 j7 j8 j9 j10 j11 j12 j13 lU lV kz kC kD kE kF l6 l7 l8 kG kH kJ kK kL kM kN kP kQ kR nJ nK nL nM nN nO nP nQ nR nS nT nU nV nW nX nY nZ oh oo oq ou oz oC oD oF oG oH oI oJ oK oO oP oQ oU oV oW oZ pg pq pz pE pF pG uk um uo tF pI pJ pK pM pO pQ pR pU pV pW qL p8 p9 qa qj qb qc qd qf fC fD fE iC fF fG fH fI fJ fK fM fO fP fQ fT fU fV fZ gq gu gy gz gB gD gF gG gH gI gJ gK gL gM gN gP gQ gT gU gV gW:Value}
variable {Mu Wg:Nat} {ty:TypeId} {N:Nat->Nat} {J:Nat->Nat->(Nat->Prop)->World->Prop} {ro:Nat->Prop} {Anch:(Nat->Prop)->Goroutine->World->Prop}
variable {own:Nat->Prop} {W0:World} {i k c:Nat} {b₁:Frame} {a₁:Act} {bS:Array Oper} {i₁:Nat} {bU:List Nat} {k₁:List Item} {cs₁:List Frame}
theorem ZT (hne:Mu≠Wg) (hi:i≠0) (hb:Beside (cfg Mu Wg ty N J ro Anch) ((cfg Mu Wg ty N J ro Anch).Zw k) own) (hT:ja Mu Wg ty N J ro Anch own W0 i k c (G (b₁.at (a₁.put ((bS[i₁]?).bind (·.dst)) (.tuple #[])) (.inRegion bS bU::k₁)) cs₁))
 {n:Nat} {it:Nat} {aw sv ws:Bool} {iZ:Int} {oN:Array Oper} {aN lN rN:Code} {w:World} (hF:KM 80 Mu ((cfg Mu Wg ty N J ro Anch).Zw k) own W0 w) (hws:ws=decide (iZ≠0)) (wP:oN=iJ 22) (wQ:aN=iM 22) (wR:lN=LL) (wS:rN=REST):
 Gw Try.prog false ((cfg Mu Wg ty N J ro Anch).Zw k) ((HX Mu Wg ty N J ro Anch own W0 i k c b₁ a₁ bS i₁ bU k₁ cs₁) i (.bd k ⟨⟨if ws then .s1 else .t1,0,0,aw,sv,0,ws⟩,c,n⟩)) own (G ((base 89).at ⟨#[.pointer (some ⟨Mu,0,none⟩),j1,.int .i64 iZ,.bool sv,.bool aw,.int .i64 (it:Nat),.int .i32 1,j7,j8,j9,j10,j11,j12,j13,lU,lV,kz,kC,kD,kE,kF,l6,l7,l8,kG,kH,kJ,kK,kL,kM,kN,kP,kQ,kR,nJ,nK,nL,nM,nN,nO,nP,nQ,nR,nS,nT,nU,nV,nW,nX,nY,nZ,oh,oo,oq,ou,oz,oC,oD,oF,oG,oH,oI,oJ,oK,oO,oP,oQ,oU,oV,oW,oZ,pg,pq,pz,pE,pF,pG,uk,um,uo,.bool true,pI,pJ,pK,pM,pO,pQ,pR,pU,pV,pW,qL,p8,p9,qa,qj,qb,qc,qd,qf,fC,fD,fE,iC,fF,fG,fH,fI,fJ,fK,fM,fO,fP,fQ,fT,fU,fV,fZ,gq,gu,gy,gz,gB,gD,gF,gG,gH,gI,gJ,gK,gL,gM,gN,gP,gQ,gT,gU,gV,gW],[]⟩ [.inRegion oN [],.code aN,.inBlock 1,.inLoop lN,.inBlock 0,.code rN]) (b₁.at a₁ (.inRegion bS (i₁::bU)::k₁)::cs₁)) w:=by
 have e0:(i==0)=false:=by simpa using hi
 have hz:((cfg Mu Wg ty N J ro Anch).Zw k).sy Mu:=.inl (.inl rfl);subst wP wQ wR wS;cases ws
 ·have hw0:iZ=0:=by simpa using hws
  clear hws;subst hw0;cases sv
  ·simp only [LL,REST,iJ,iM,jv,bY,bO,bW,bR,cB,bN,Try.f89,Option.getD_some,reduceIte,Nat.reduceEqDiff,reduceCtorEq];refine bL (n:=80) ?_
   repeat w_go (KM.rely hz)
   refine Goes.stop λw₃ h₃=>.stop λw₄ h₄=>.step (Na hne hi hb hT (KM.rely hz (KM.rely hz hF h₃) h₄) ?_ ?_ ?_ ?_)
   all_goals simp only [LL,REST,iJ,iM,jv,bY,bO,bW,bR,cB,bN,Try.f89,Option.getD_some,reduceIte,Nat.reduceEqDiff,reduceCtorEq]
  ·simp only [LL,REST,iJ,iM,jv,bY,bO,bW,bR,cB,bN,Try.f89,Option.getD_some,reduceIte,Nat.reduceEqDiff,reduceCtorEq];refine bL (n:=80) ?_
   repeat w_go (KM.rely hz)
   refine Goes.stop λw₃ h₃=>.stop λw₄ h₄=>.step (Nb hne hi hb hT (KM.rely hz (KM.rely hz hF h₃) h₄) ?_ ?_ ?_ ?_)
   all_goals simp only [LL,REST,iJ,iM,jv,bY,bO,bW,bR,cB,bN,Try.f89,Option.getD_some,reduceIte,Nat.reduceEqDiff,reduceCtorEq]
 ·have hw0:iZ≠0:=by simpa using hws.symm
  have hwt:=hws.symm;clear hws;have q1:(iZ==0)=false:=by simpa using hw0
  have q2:(iZ !=0)=true:=by simpa using hw0
  cases sv
  ·simp only [LL,REST,iJ,iM,jv,bY,bO,bW,bR,cB,bN,Try.f89,Option.getD_some,reduceIte,Nat.reduceEqDiff,reduceCtorEq];refine bL (n:=80) ?_
   repeat w_go (KM.rely hz)
   try simp only [q1,q2]
   repeat w_go (KM.rely hz)
   have hws:=hwt.symm;refine Goes.stop λw₃ h₃=>.stop λw₄ h₄=>.step (Fs hne hi hb hT (KM.rely hz (KM.rely hz hF h₃) h₄) hws ?_ ?_ ?_ ?_)
   all_goals simp only [LL,REST,iJ,iM,jv,bY,bO,bW,bR,cB,bN,Try.f89,Option.getD_some,reduceIte,Nat.reduceEqDiff,reduceCtorEq]
  ·simp only [LL,REST,iJ,iM,jv,bY,bO,bW,bR,cB,bN,Try.f89,Option.getD_some,reduceIte,Nat.reduceEqDiff,reduceCtorEq];refine bL (n:=80) ?_
   repeat w_go (KM.rely hz)
   try simp only [q1,q2]
   repeat w_go (KM.rely hz)
   have hws:=hwt.symm;refine Goes.stop λw₃ h₃=>.stop λw₄ h₄=>.step (Fu hne hi hb hT (KM.rely hz (KM.rely hz hF h₃) h₄) hws ?_ ?_ ?_ ?_)
   all_goals simp only [LL,REST,iJ,iM,jv,bY,bO,bW,bR,cB,bN,Try.f89,Option.getD_some,reduceIte,Nat.reduceEqDiff,reduceCtorEq]
theorem Uj (hne:Mu≠Wg) (hi:i≠0) (hb:Beside (cfg Mu Wg ty N J ro Anch) ((cfg Mu Wg ty N J ro Anch).Zw k) own) (hT:ja Mu Wg ty N J ro Anch own W0 i k c (G (b₁.at (a₁.put ((bS[i₁]?).bind (·.dst)) (.tuple #[])) (.inRegion bS bU::k₁)) cs₁))
 {n:Nat} {it:Nat} {aw sv ws:Bool} {iZ:Int} {oN:Array Oper} {aN lN rN:Code} {w:World} (hF:KM 80 Mu ((cfg Mu Wg ty N J ro Anch).Zw k) own W0 w) (hws:ws=decide (iZ≠0)) (wP:oN=iJ 22) (wQ:aN=iM 22) (wR:lN=LL) (wS:rN=REST):
 Gw Try.prog false ((cfg Mu Wg ty N J ro Anch).Zw k) ((HX Mu Wg ty N J ro Anch own W0 i k c b₁ a₁ bS i₁ bU k₁ cs₁) i (.bd k ⟨⟨if ws then .s1 else .t1,0,0,aw,sv,0,ws⟩,c,n⟩)) own (G ((base 89).at ⟨#[.pointer (some ⟨Mu,0,none⟩),j1,.int .i64 iZ,.bool sv,.bool aw,.int .i64 (it:Nat),.int .i32 3,j7,j8,j9,j10,j11,j12,j13,lU,lV,kz,kC,kD,kE,kF,l6,l7,l8,kG,kH,kJ,kK,kL,kM,kN,kP,kQ,kR,nJ,nK,nL,nM,nN,nO,nP,nQ,nR,nS,nT,nU,nV,nW,nX,nY,nZ,oh,oo,oq,ou,oz,oC,oD,oF,oG,oH,oI,oJ,oK,oO,oP,oQ,oU,oV,oW,oZ,pg,pq,pz,pE,pF,pG,uk,um,uo,.bool true,pI,pJ,pK,pM,pO,pQ,pR,pU,pV,pW,qL,p8,p9,qa,qj,qb,qc,qd,qf,fC,fD,fE,iC,fF,fG,fH,fI,fJ,fK,fM,fO,fP,fQ,fT,fU,fV,fZ,gq,gu,gy,gz,gB,gD,gF,gG,gH,gI,gJ,gK,gL,gM,gN,gP,gQ,gT,gU,gV,gW],[]⟩ [.inRegion oN [],.code aN,.inBlock 1,.inLoop lN,.inBlock 0,.code rN]) (b₁.at a₁ (.inRegion bS (i₁::bU)::k₁)::cs₁)) w:=by
 have e0:(i==0)=false:=by simpa using hi
 have hz:((cfg Mu Wg ty N J ro Anch).Zw k).sy Mu:=.inl (.inl rfl);subst wP wQ wR wS;cases ws
 ·have hw0:iZ=0:=by simpa using hws
  clear hws;subst hw0;cases sv
  ·simp only [LL,REST,iJ,iM,jv,bY,bO,bW,bR,cB,bN,Try.f89,Option.getD_some,reduceIte,Nat.reduceEqDiff,reduceCtorEq];refine bL (n:=80) ?_
   repeat w_go (KM.rely hz)
   refine Goes.stop λw₃ h₃=>.stop λw₄ h₄=>.step (Na hne hi hb hT (KM.rely hz (KM.rely hz hF h₃) h₄) ?_ ?_ ?_ ?_)
   all_goals simp only [LL,REST,iJ,iM,jv,bY,bO,bW,bR,cB,bN,Try.f89,Option.getD_some,reduceIte,Nat.reduceEqDiff,reduceCtorEq]
  ·simp only [LL,REST,iJ,iM,jv,bY,bO,bW,bR,cB,bN,Try.f89,Option.getD_some,reduceIte,Nat.reduceEqDiff,reduceCtorEq];refine bL (n:=80) ?_
   repeat w_go (KM.rely hz)
   refine Goes.stop λw₃ h₃=>.stop λw₄ h₄=>.step (Nb hne hi hb hT (KM.rely hz (KM.rely hz hF h₃) h₄) ?_ ?_ ?_ ?_)
   all_goals simp only [LL,REST,iJ,iM,jv,bY,bO,bW,bR,cB,bN,Try.f89,Option.getD_some,reduceIte,Nat.reduceEqDiff,reduceCtorEq]
 ·have hw0:iZ≠0:=by simpa using hws.symm
  have hwt:=hws.symm;clear hws;have q1:(iZ==0)=false:=by simpa using hw0
  have q2:(iZ !=0)=true:=by simpa using hw0
  cases sv
  ·simp only [LL,REST,iJ,iM,jv,bY,bO,bW,bR,cB,bN,Try.f89,Option.getD_some,reduceIte,Nat.reduceEqDiff,reduceCtorEq];refine bL (n:=80) ?_
   repeat w_go (KM.rely hz)
   try simp only [q1,q2]
   repeat w_go (KM.rely hz)
   have hws:=hwt.symm;refine Goes.stop λw₃ h₃=>.stop λw₄ h₄=>.step (Fs hne hi hb hT (KM.rely hz (KM.rely hz hF h₃) h₄) hws ?_ ?_ ?_ ?_)
   all_goals simp only [LL,REST,iJ,iM,jv,bY,bO,bW,bR,cB,bN,Try.f89,Option.getD_some,reduceIte,Nat.reduceEqDiff,reduceCtorEq]
  ·simp only [LL,REST,iJ,iM,jv,bY,bO,bW,bR,cB,bN,Try.f89,Option.getD_some,reduceIte,Nat.reduceEqDiff,reduceCtorEq];refine bL (n:=80) ?_
   repeat w_go (KM.rely hz)
   try simp only [q1,q2]
   repeat w_go (KM.rely hz)
   have hws:=hwt.symm;refine Goes.stop λw₃ h₃=>.stop λw₄ h₄=>.step (Fu hne hi hb hT (KM.rely hz (KM.rely hz hF h₃) h₄) hws ?_ ?_ ?_ ?_)
   all_goals simp only [LL,REST,iJ,iM,jv,bY,bO,bW,bR,cB,bN,Try.f89,Option.getD_some,reduceIte,Nat.reduceEqDiff,reduceCtorEq]
theorem WE (hne:Mu≠Wg) (hi:i≠0) (hb:Beside (cfg Mu Wg ty N J ro Anch) ((cfg Mu Wg ty N J ro Anch).Zw k) own) (hT:ja Mu Wg ty N J ro Anch own W0 i k c (G (b₁.at (a₁.put ((bS[i₁]?).bind (·.dst)) (.tuple #[])) (.inRegion bS bU::k₁)) cs₁))
 {n:Nat} {it:Nat} {aw sv ws:Bool} {iZ:Int} {oN:Array Oper} {aN lN rN:Code} {w:World} (hF:KM 80 Mu ((cfg Mu Wg ty N J ro Anch).Zw k) own W0 w) (hws:ws=decide (iZ≠0)) (wP:oN=iJ 22) (wQ:aN=iM 22) (wR:lN=LL) (wS:rN=REST):
 Gw Try.prog false ((cfg Mu Wg ty N J ro Anch).Zw k) ((HX Mu Wg ty N J ro Anch own W0 i k c b₁ a₁ bS i₁ bU k₁ cs₁) i (.bd k ⟨⟨if ws then .s1 else .t1,0,0,aw,sv,0,ws⟩,c,n⟩)) own (G ((base 89).at ⟨#[.pointer (some ⟨Mu,0,none⟩),j1,.int .i64 iZ,.bool sv,.bool aw,.int .i64 (it:Nat),.int .i32 12,j7,j8,j9,j10,j11,j12,j13,lU,lV,kz,kC,kD,kE,kF,l6,l7,l8,kG,kH,kJ,kK,kL,kM,kN,kP,kQ,kR,nJ,nK,nL,nM,nN,nO,nP,nQ,nR,nS,nT,nU,nV,nW,nX,nY,nZ,oh,oo,oq,ou,oz,oC,oD,oF,oG,oH,oI,oJ,oK,oO,oP,oQ,oU,oV,oW,oZ,pg,pq,pz,pE,pF,pG,uk,um,uo,.bool true,pI,pJ,pK,pM,pO,pQ,pR,pU,pV,pW,qL,p8,p9,qa,qj,qb,qc,qd,qf,fC,fD,fE,iC,fF,fG,fH,fI,fJ,fK,fM,fO,fP,fQ,fT,fU,fV,fZ,gq,gu,gy,gz,gB,gD,gF,gG,gH,gI,gJ,gK,gL,gM,gN,gP,gQ,gT,gU,gV,gW],[]⟩ [.inRegion oN [],.code aN,.inBlock 1,.inLoop lN,.inBlock 0,.code rN]) (b₁.at a₁ (.inRegion bS (i₁::bU)::k₁)::cs₁)) w:=by
 have e0:(i==0)=false:=by simpa using hi
 have hz:((cfg Mu Wg ty N J ro Anch).Zw k).sy Mu:=.inl (.inl rfl);subst wP wQ wR wS;cases ws
 ·have hw0:iZ=0:=by simpa using hws
  clear hws;subst hw0;cases sv
  ·simp only [LL,REST,iJ,iM,jv,bY,bO,bW,bR,cB,bN,Try.f89,Option.getD_some,reduceIte,Nat.reduceEqDiff,reduceCtorEq];refine bL (n:=80) ?_
   repeat w_go (KM.rely hz)
   refine Goes.stop λw₃ h₃=>.stop λw₄ h₄=>.step (Na hne hi hb hT (KM.rely hz (KM.rely hz hF h₃) h₄) ?_ ?_ ?_ ?_)
   all_goals simp only [LL,REST,iJ,iM,jv,bY,bO,bW,bR,cB,bN,Try.f89,Option.getD_some,reduceIte,Nat.reduceEqDiff,reduceCtorEq]
  ·simp only [LL,REST,iJ,iM,jv,bY,bO,bW,bR,cB,bN,Try.f89,Option.getD_some,reduceIte,Nat.reduceEqDiff,reduceCtorEq];refine bL (n:=80) ?_
   repeat w_go (KM.rely hz)
   refine Goes.stop λw₃ h₃=>.stop λw₄ h₄=>.step (Nb hne hi hb hT (KM.rely hz (KM.rely hz hF h₃) h₄) ?_ ?_ ?_ ?_)
   all_goals simp only [LL,REST,iJ,iM,jv,bY,bO,bW,bR,cB,bN,Try.f89,Option.getD_some,reduceIte,Nat.reduceEqDiff,reduceCtorEq]
 ·have hw0:iZ≠0:=by simpa using hws.symm
  have hwt:=hws.symm;clear hws;have q1:(iZ==0)=false:=by simpa using hw0
  have q2:(iZ !=0)=true:=by simpa using hw0
  cases sv
  ·simp only [LL,REST,iJ,iM,jv,bY,bO,bW,bR,cB,bN,Try.f89,Option.getD_some,reduceIte,Nat.reduceEqDiff,reduceCtorEq];refine bL (n:=80) ?_
   repeat w_go (KM.rely hz)
   try simp only [q1,q2]
   repeat w_go (KM.rely hz)
   have hws:=hwt.symm;refine Goes.stop λw₃ h₃=>.stop λw₄ h₄=>.step (Fs hne hi hb hT (KM.rely hz (KM.rely hz hF h₃) h₄) hws ?_ ?_ ?_ ?_)
   all_goals simp only [LL,REST,iJ,iM,jv,bY,bO,bW,bR,cB,bN,Try.f89,Option.getD_some,reduceIte,Nat.reduceEqDiff,reduceCtorEq]
  ·simp only [LL,REST,iJ,iM,jv,bY,bO,bW,bR,cB,bN,Try.f89,Option.getD_some,reduceIte,Nat.reduceEqDiff,reduceCtorEq];refine bL (n:=80) ?_
   repeat w_go (KM.rely hz)
   try simp only [q1,q2]
   repeat w_go (KM.rely hz)
   have hws:=hwt.symm;refine Goes.stop λw₃ h₃=>.stop λw₄ h₄=>.step (Fu hne hi hb hT (KM.rely hz (KM.rely hz hF h₃) h₄) hws ?_ ?_ ?_ ?_)
   all_goals simp only [LL,REST,iJ,iM,jv,bY,bO,bW,bR,cB,bN,Try.f89,Option.getD_some,reduceIte,Nat.reduceEqDiff,reduceCtorEq]
theorem Qw (hne:Mu≠Wg) (hi:i≠0) (hb:Beside (cfg Mu Wg ty N J ro Anch) ((cfg Mu Wg ty N J ro Anch).Zw k) own) (hT:ja Mu Wg ty N J ro Anch own W0 i k c (G (b₁.at (a₁.put ((bS[i₁]?).bind (·.dst)) (.tuple #[])) (.inRegion bS bU::k₁)) cs₁))
 {n:Nat} {it:Nat} {aw sv ws:Bool} {iZ:Int} {oN:Array Oper} {aN lN rN:Code} {w:World} (hF:KM 80 Mu ((cfg Mu Wg ty N J ro Anch).Zw k) own W0 w) (hws:ws=decide (iZ≠0)) (wP:oN=iJ 22) (wQ:aN=iM 22) (wR:lN=LL) (wS:rN=REST):
 rC Try.prog (cfg Mu Wg ty N J ro Anch).sys (HX Mu Wg ty N J ro Anch own W0 i k c b₁ a₁ bS i₁ bU k₁ cs₁) i (.bd k ⟨⟨.c2,0,1,aw,sv,it,ws⟩,c,n⟩) own (G ((base 89).at ⟨#[.pointer (some ⟨Mu,0,none⟩),j1,.int .i64 iZ,.bool sv,.bool aw,.int .i64 (it:Nat),.int .i32 0,j7,j8,j9,j10,j11,j12,j13,lU,lV,kz,kC,kD,kE,kF,l6,l7,l8,kG,kH,kJ,kK,kL,kM,kN,kP,kQ,kR,nJ,nK,nL,nM,nN,nO,nP,nQ,nR,nS,nT,nU,nV,nW,nX,nY,nZ,oh,oo,oq,ou,oz,oC,oD,oF,oG,oH,oI,oJ,oK,oO,oP,oQ,oU,oV,oW,oZ,pg,pq,pz,pE,pF,pG,.pointer (some (muA Mu)),.int .i32 0,.int .i32 1,tF,pI,pJ,pK,pM,pO,pQ,pR,pU,pV,pW,qL,p8,p9,qa,qj,qb,qc,qd,qf,fC,fD,fE,iC,fF,fG,fH,fI,fJ,fK,fM,fO,fP,fQ,fT,fU,fV,fZ,gq,gu,gy,gz,gB,gD,gF,gG,gH,gI,gJ,gK,gL,gM,gN,gP,gQ,gT,gU,gV,gW],[]⟩ [.inRegion oN [5],.code aN,.inBlock 1,.inLoop lN,.inBlock 0,.code rN]) (b₁.at a₁ (.inRegion bS (i₁::bU)::k₁)::cs₁)) w:=by
 have e0:(i==0)=false:=by simpa using hi
 have hz:((cfg Mu Wg ty N J ro Anch).Zw k).sy Mu:=.inl (.inl rfl);subst wP wQ wR wS;simp only [LL,REST,iJ,iM,jv,bY,bO,bW,bR,cB,bN,Try.f89,Option.getD_some,reduceIte,Nat.reduceEqDiff,reduceCtorEq];refine dH hne (by simp) rfl rfl λs hs hm1 hm2 hnb=>?_
 obtain ⟨v,wt,sm,jn,dn,⟨mu,ms,c0,c1,ow⟩⟩:=s;simp only at hs hm1 hm2 hnb ⊢
 by_cases hq:mu=0
 ·subst hq;have hs:MuAt 80 Mu w 0 ms:=hs;refine .inr ⟨by simp,lk .le,1,ms,_,w.setCell (muA Mu) (.int .i32 1),_,by simp [jO],by rw [e0];exact stepG_cas_hit rfl rfl (by k_ne) rfl Try.func88 jf jg jh .i32 ji rfl rfl rfl hs.cellSt (hs.thaw 0),by simp,hs.setSt 1,Eff.set _ _ (.inl rfl),jZ (C:=cfg Mu Wg ty N J ro Anch) (a:=muA Mu) (.inl rfl),?_⟩;replace hF:=hF.turn hb hs (hs.setSt 1) (Eff.set (muA Mu) _ (.inl rfl));generalize w.setCell (muA Mu) (.int .i32 1)=w₂ at hF ⊢;clear hs hm1 hm2 hnb;rw [e0];refine bL (n:=4) ?_
  walk_nrm;refine Goes.stop λw₃ h₃=>ak7 (ws:=false) hne hi hb hT (KM.rely hz hF h₃) ?_ ?_ ?_ ?_
  all_goals simp only [LL,REST,iJ,iM,jv,bY,bO,bW,bR,cB,bN,Try.f89,Option.getD_some,reduceIte,Nat.reduceEqDiff,reduceCtorEq]
 ·have hqi:((mu:Nat):Int)≠0:=by omega
  refine .inr ⟨by simp,⟨.r3,0,0,aw,sv,it,ws⟩,mu,ms,_,w,_,by simp [jO,hq],by rw [e0];exact stepG_cas_miss rfl rfl (by k_ne) rfl Try.func88 jf jg jh .i32 ji rfl rfl rfl hs.cellSt (hs.thaw 0) hqi,by simp,hs,Eff.refl _,vk (C:=cfg Mu Wg ty N J ro Anch) (a:=muA Mu) (.inl rfl),?_⟩;clear hs hm1 hm2 hnb;rw [e0];refine bL (n:=4) ?_
  walk_nrm;refine Goes.stop λw₃ h₃=>zO hne hi hb (KM.rely hz hF h₃) hws ?_ ?_ ?_ ?_
  all_goals simp only [LL,REST,iJ,iM,jv,bY,bO,bW,bR,cB,bN,Try.f89,Option.getD_some,reduceIte,Nat.reduceEqDiff,reduceCtorEq]
theorem Qx (hne:Mu≠Wg) (hi:i≠0) (hb:Beside (cfg Mu Wg ty N J ro Anch) ((cfg Mu Wg ty N J ro Anch).Zw k) own) (hT:ja Mu Wg ty N J ro Anch own W0 i k c (G (b₁.at (a₁.put ((bS[i₁]?).bind (·.dst)) (.tuple #[])) (.inRegion bS bU::k₁)) cs₁))
 {n:Nat} {it:Nat} {aw sv ws:Bool} {iZ:Int} {oN:Array Oper} {aN lN rN:Code} {w:World} (hF:KM 80 Mu ((cfg Mu Wg ty N J ro Anch).Zw k) own W0 w) (hws:ws=decide (iZ≠0)) (wP:oN=iJ 22) (wQ:aN=iM 22) (wR:lN=LL) (wS:rN=REST):
 rC Try.prog (cfg Mu Wg ty N J ro Anch).sys (HX Mu Wg ty N J ro Anch own W0 i k c b₁ a₁ bS i₁ bU k₁ cs₁) i (.bd k ⟨⟨.c2,2,3,aw,sv,it,ws⟩,c,n⟩) own (G ((base 89).at ⟨#[.pointer (some ⟨Mu,0,none⟩),j1,.int .i64 iZ,.bool sv,.bool aw,.int .i64 (it:Nat),.int .i32 2,j7,j8,j9,j10,j11,j12,j13,lU,lV,kz,kC,kD,kE,kF,l6,l7,l8,kG,kH,kJ,kK,kL,kM,kN,kP,kQ,kR,nJ,nK,nL,nM,nN,nO,nP,nQ,nR,nS,nT,nU,nV,nW,nX,nY,nZ,oh,oo,oq,ou,oz,oC,oD,oF,oG,oH,oI,oJ,oK,oO,oP,oQ,oU,oV,oW,oZ,pg,pq,pz,pE,pF,pG,.pointer (some (muA Mu)),.int .i32 2,.int .i32 3,tF,pI,pJ,pK,pM,pO,pQ,pR,pU,pV,pW,qL,p8,p9,qa,qj,qb,qc,qd,qf,fC,fD,fE,iC,fF,fG,fH,fI,fJ,fK,fM,fO,fP,fQ,fT,fU,fV,fZ,gq,gu,gy,gz,gB,gD,gF,gG,gH,gI,gJ,gK,gL,gM,gN,gP,gQ,gT,gU,gV,gW],[]⟩ [.inRegion oN [5],.code aN,.inBlock 1,.inLoop lN,.inBlock 0,.code rN]) (b₁.at a₁ (.inRegion bS (i₁::bU)::k₁)::cs₁)) w:=by
 have e0:(i==0)=false:=by simpa using hi
 have hz:((cfg Mu Wg ty N J ro Anch).Zw k).sy Mu:=.inl (.inl rfl);subst wP wQ wR wS;simp only [LL,REST,iJ,iM,jv,bY,bO,bW,bR,cB,bN,Try.f89,Option.getD_some,reduceIte,Nat.reduceEqDiff,reduceCtorEq];refine dH hne (by simp) rfl rfl λs hs hm1 hm2 hnb=>?_
 obtain ⟨v,wt,sm,jn,dn,⟨mu,ms,c0,c1,ow⟩⟩:=s;simp only at hs hm1 hm2 hnb ⊢
 by_cases hq:mu=2
 ·subst hq;have hs:MuAt 80 Mu w 2 ms:=hs;refine .inr ⟨by simp,lk .le,3,ms,_,w.setCell (muA Mu) (.int .i32 3),_,by simp [jO],by rw [e0];exact stepG_cas_hit rfl rfl (by k_ne) rfl Try.func88 jf jg jh .i32 ji rfl rfl rfl hs.cellSt (hs.thaw 0),by simp,hs.setSt 3,Eff.set _ _ (.inl rfl),jZ (C:=cfg Mu Wg ty N J ro Anch) (a:=muA Mu) (.inl rfl),?_⟩;replace hF:=hF.turn hb hs (hs.setSt 3) (Eff.set (muA Mu) _ (.inl rfl));generalize w.setCell (muA Mu) (.int .i32 3)=w₂ at hF ⊢;clear hs hm1 hm2 hnb;rw [e0];refine bL (n:=4) ?_
  walk_nrm;refine Goes.stop λw₃ h₃=>take2 (ws:=false) hne hi hb hT (KM.rely hz hF h₃) ?_ ?_ ?_ ?_
  all_goals simp only [LL,REST,iJ,iM,jv,bY,bO,bW,bR,cB,bN,Try.f89,Option.getD_some,reduceIte,Nat.reduceEqDiff,reduceCtorEq]
 ·have hqi:((mu:Nat):Int)≠2:=by omega
  refine .inr ⟨by simp,⟨.r3,0,0,aw,sv,it,ws⟩,mu,ms,_,w,_,by simp [jO,hq],by rw [e0];exact stepG_cas_miss rfl rfl (by k_ne) rfl Try.func88 jf jg jh .i32 ji rfl rfl rfl hs.cellSt (hs.thaw 0) hqi,by simp,hs,Eff.refl _,vk (C:=cfg Mu Wg ty N J ro Anch) (a:=muA Mu) (.inl rfl),?_⟩;clear hs hm1 hm2 hnb;rw [e0];refine bL (n:=4) ?_
  walk_nrm;refine Goes.stop λw₃ h₃=>zO hne hi hb (KM.rely hz hF h₃) hws ?_ ?_ ?_ ?_
  all_goals simp only [LL,REST,iJ,iM,jv,bY,bO,bW,bR,cB,bN,Try.f89,Option.getD_some,reduceIte,Nat.reduceEqDiff,reduceCtorEq]
theorem Hl (hne:Mu≠Wg) (hi:i≠0) (hb:Beside (cfg Mu Wg ty N J ro Anch) ((cfg Mu Wg ty N J ro Anch).Zw k) own) (hT:ja Mu Wg ty N J ro Anch own W0 i k c (G (b₁.at (a₁.put ((bS[i₁]?).bind (·.dst)) (.tuple #[])) (.inRegion bS bU::k₁)) cs₁))
 {n:Nat} {it:Nat} {aw sv ws:Bool} {iZ:Int} {oN:Array Oper} {aN lN rN:Code} {w:World} (hF:KM 80 Mu ((cfg Mu Wg ty N J ro Anch).Zw k) own W0 w) (hws:ws=decide (iZ≠0)) (wP:oN=iJ 22) (wQ:aN=iM 22) (wR:lN=LL) (wS:rN=REST):
 rC Try.prog (cfg Mu Wg ty N J ro Anch).sys (HX Mu Wg ty N J ro Anch own W0 i k c b₁ a₁ bS i₁ bU k₁ cs₁) i (.bd k ⟨⟨.c2,2,1,aw,sv,it,ws⟩,c,n⟩) own (G ((base 89).at ⟨#[.pointer (some ⟨Mu,0,none⟩),j1,.int .i64 iZ,.bool sv,.bool aw,.int .i64 (it:Nat),.int .i32 2,j7,j8,j9,j10,j11,j12,j13,lU,lV,kz,kC,kD,kE,kF,l6,l7,l8,kG,kH,kJ,kK,kL,kM,kN,kP,kQ,kR,nJ,nK,nL,nM,nN,nO,nP,nQ,nR,nS,nT,nU,nV,nW,nX,nY,nZ,oh,oo,oq,ou,oz,oC,oD,oF,oG,oH,oI,oJ,oK,oO,oP,oQ,oU,oV,oW,oZ,pg,pq,pz,pE,pF,pG,.pointer (some (muA Mu)),.int .i32 2,.int .i32 1,tF,pI,pJ,pK,pM,pO,pQ,pR,pU,pV,pW,qL,p8,p9,qa,qj,qb,qc,qd,qf,fC,fD,fE,iC,fF,fG,fH,fI,fJ,fK,fM,fO,fP,fQ,fT,fU,fV,fZ,gq,gu,gy,gz,gB,gD,gF,gG,gH,gI,gJ,gK,gL,gM,gN,gP,gQ,gT,gU,gV,gW],[]⟩ [.inRegion oN [5],.code aN,.inBlock 1,.inLoop lN,.inBlock 0,.code rN]) (b₁.at a₁ (.inRegion bS (i₁::bU)::k₁)::cs₁)) w:=by
 have e0:(i==0)=false:=by simpa using hi
 have hz:((cfg Mu Wg ty N J ro Anch).Zw k).sy Mu:=.inl (.inl rfl);subst wP wQ wR wS;simp only [LL,REST,iJ,iM,jv,bY,bO,bW,bR,cB,bN,Try.f89,Option.getD_some,reduceIte,Nat.reduceEqDiff,reduceCtorEq];refine dH hne (by simp) rfl rfl λs hs hm1 hm2 hnb=>?_
 obtain ⟨v,wt,sm,jn,dn,⟨mu,ms,c0,c1,ow⟩⟩:=s;simp only at hs hm1 hm2 hnb ⊢
 by_cases hq:mu=2
 ·subst hq;have hs:MuAt 80 Mu w 2 ms:=hs;refine .inr ⟨by simp,lk .le,1,ms,_,w.setCell (muA Mu) (.int .i32 1),_,by simp [jO],by rw [e0];exact stepG_cas_hit rfl rfl (by k_ne) rfl Try.func88 jf jg jh .i32 ji rfl rfl rfl hs.cellSt (hs.thaw 0),by simp,hs.setSt 1,Eff.set _ _ (.inl rfl),jZ (C:=cfg Mu Wg ty N J ro Anch) (a:=muA Mu) (.inl rfl),?_⟩;replace hF:=hF.turn hb hs (hs.setSt 1) (Eff.set (muA Mu) _ (.inl rfl));generalize w.setCell (muA Mu) (.int .i32 1)=w₂ at hF ⊢;clear hs hm1 hm2 hnb;rw [e0];refine bL (n:=4) ?_
  walk_nrm;refine Goes.stop λw₃ h₃=>take2 (ws:=false) hne hi hb hT (KM.rely hz hF h₃) ?_ ?_ ?_ ?_
  all_goals simp only [LL,REST,iJ,iM,jv,bY,bO,bW,bR,cB,bN,Try.f89,Option.getD_some,reduceIte,Nat.reduceEqDiff,reduceCtorEq]
 ·have hqi:((mu:Nat):Int)≠2:=by omega
  refine .inr ⟨by simp,⟨.r3,0,0,aw,sv,it,ws⟩,mu,ms,_,w,_,by simp [jO,hq],by rw [e0];exact stepG_cas_miss rfl rfl (by k_ne) rfl Try.func88 jf jg jh .i32 ji rfl rfl rfl hs.cellSt (hs.thaw 0) hqi,by simp,hs,Eff.refl _,vk (C:=cfg Mu Wg ty N J ro Anch) (a:=muA Mu) (.inl rfl),?_⟩;clear hs hm1 hm2 hnb;rw [e0];refine bL (n:=4) ?_
  walk_nrm;refine Goes.stop λw₃ h₃=>zO hne hi hb (KM.rely hz hF h₃) hws ?_ ?_ ?_ ?_
  all_goals simp only [LL,REST,iJ,iM,jv,bY,bO,bW,bR,cB,bN,Try.f89,Option.getD_some,reduceIte,Nat.reduceEqDiff,reduceCtorEq]
theorem Hq (hne:Mu≠Wg) (hi:i≠0) (hb:Beside (cfg Mu Wg ty N J ro Anch) ((cfg Mu Wg ty N J ro Anch).Zw k) own) (hT:ja Mu Wg ty N J ro Anch own W0 i k c (G (b₁.at (a₁.put ((bS[i₁]?).bind (·.dst)) (.tuple #[])) (.inRegion bS bU::k₁)) cs₁))
 {n:Nat} {it:Nat} {aw sv ws:Bool} {iZ:Int} {oN:Array Oper} {aN lN rN:Code} {w:World} (hF:KM 80 Mu ((cfg Mu Wg ty N J ro Anch).Zw k) own W0 w) (hws:ws=decide (iZ≠0)) (wP:oN=iJ 22) (wQ:aN=iM 22) (wR:lN=LL) (wS:rN=REST):
 rC Try.prog (cfg Mu Wg ty N J ro Anch).sys (HX Mu Wg ty N J ro Anch own W0 i k c b₁ a₁ bS i₁ bU k₁ cs₁) i (.bd k ⟨⟨.c2,1,9,aw,sv,it,ws⟩,c,n⟩) own (G ((base 89).at ⟨#[.pointer (some ⟨Mu,0,none⟩),j1,.int .i64 iZ,.bool sv,.bool aw,.int .i64 (it:Nat),.int .i32 1,j7,j8,j9,j10,j11,j12,j13,lU,lV,kz,kC,kD,kE,kF,l6,l7,l8,kG,kH,kJ,kK,kL,kM,kN,kP,kQ,kR,nJ,nK,nL,nM,nN,nO,nP,nQ,nR,nS,nT,nU,nV,nW,nX,nY,nZ,oh,oo,oq,ou,oz,oC,oD,oF,oG,oH,oI,oJ,oK,oO,oP,oQ,oU,oV,oW,oZ,pg,pq,pz,pE,pF,pG,.pointer (some (muA Mu)),.int .i32 1,.int .i32 9,tF,pI,pJ,pK,pM,pO,pQ,pR,pU,pV,pW,qL,p8,p9,qa,qj,qb,qc,qd,qf,fC,fD,fE,iC,fF,fG,fH,fI,fJ,fK,fM,fO,fP,fQ,fT,fU,fV,fZ,gq,gu,gy,gz,gB,gD,gF,gG,gH,gI,gJ,gK,gL,gM,gN,gP,gQ,gT,gU,gV,gW],[]⟩ [.inRegion oN [5],.code aN,.inBlock 1,.inLoop lN,.inBlock 0,.code rN]) (b₁.at a₁ (.inRegion bS (i₁::bU)::k₁)::cs₁)) w:=by
 have e0:(i==0)=false:=by simpa using hi
 have hz:((cfg Mu Wg ty N J ro Anch).Zw k).sy Mu:=.inl (.inl rfl);subst wP wQ wR wS;simp only [LL,REST,iJ,iM,jv,bY,bO,bW,bR,cB,bN,Try.f89,Option.getD_some,reduceIte,Nat.reduceEqDiff,reduceCtorEq];refine dH hne (by simp) rfl rfl λs hs hm1 hm2 hnb=>?_
 obtain ⟨v,wt,sm,jn,dn,⟨mu,ms,c0,c1,ow⟩⟩:=s;simp only at hs hm1 hm2 hnb ⊢
 by_cases hq:mu=1
 ·subst hq;have hs:MuAt 80 Mu w 1 ms:=hs;refine .inr ⟨by simp,⟨if ws then .s1 else .t1,0,0,aw,sv,0,ws⟩,9,ms,_,w.setCell (muA Mu) (.int .i32 9),_,by simp [jO],by rw [e0];exact stepG_cas_hit rfl rfl (by k_ne) rfl Try.func88 jf jg jh .i32 ji rfl rfl rfl hs.cellSt (hs.thaw 0),by simp,hs.setSt 9,Eff.set _ _ (.inl rfl),jZ (C:=cfg Mu Wg ty N J ro Anch) (a:=muA Mu) (.inl rfl),?_⟩;replace hF:=hF.turn hb hs (hs.setSt 9) (Eff.set (muA Mu) _ (.inl rfl));generalize w.setCell (muA Mu) (.int .i32 9)=w₂ at hF ⊢;clear hs hm1 hm2 hnb;rw [e0];refine bL (n:=4) ?_
  walk_nrm;refine Goes.stop λw₃ h₃=>ZT hne hi hb hT (KM.rely hz hF h₃) hws ?_ ?_ ?_ ?_
  all_goals simp only [LL,REST,iJ,iM,jv,bY,bO,bW,bR,cB,bN,Try.f89,Option.getD_some,reduceIte,Nat.reduceEqDiff,reduceCtorEq]
 ·have hqi:((mu:Nat):Int)≠1:=by omega
  refine .inr ⟨by simp,⟨.r3,0,0,aw,sv,it,ws⟩,mu,ms,_,w,_,by simp [jO,hq],by rw [e0];exact stepG_cas_miss rfl rfl (by k_ne) rfl Try.func88 jf jg jh .i32 ji rfl rfl rfl hs.cellSt (hs.thaw 0) hqi,by simp,hs,Eff.refl _,vk (C:=cfg Mu Wg ty N J ro Anch) (a:=muA Mu) (.inl rfl),?_⟩;clear hs hm1 hm2 hnb;rw [e0];refine bL (n:=4) ?_
  walk_nrm;refine Goes.stop λw₃ h₃=>zO hne hi hb (KM.rely hz hF h₃) hws ?_ ?_ ?_ ?_
  all_goals simp only [LL,REST,iJ,iM,jv,bY,bO,bW,bR,cB,bN,Try.f89,Option.getD_some,reduceIte,Nat.reduceEqDiff,reduceCtorEq]
theorem Hr (hne:Mu≠Wg) (hi:i≠0) (hb:Beside (cfg Mu Wg ty N J ro Anch) ((cfg Mu Wg ty N J ro Anch).Zw k) own) (hT:ja Mu Wg ty N J ro Anch own W0 i k c (G (b₁.at (a₁.put ((bS[i₁]?).bind (·.dst)) (.tuple #[])) (.inRegion bS bU::k₁)) cs₁))
 {n:Nat} {it:Nat} {aw sv ws:Bool} {iZ:Int} {oN:Array Oper} {aN lN rN:Code} {w:World} (hF:KM 80 Mu ((cfg Mu Wg ty N J ro Anch).Zw k) own W0 w) (hws:ws=decide (iZ≠0)) (wP:oN=iJ 22) (wQ:aN=iM 22) (wR:lN=LL) (wS:rN=REST):
 rC Try.prog (cfg Mu Wg ty N J ro Anch).sys (HX Mu Wg ty N J ro Anch own W0 i k c b₁ a₁ bS i₁ bU k₁ cs₁) i (.bd k ⟨⟨.c2,3,9,aw,sv,it,ws⟩,c,n⟩) own (G ((base 89).at ⟨#[.pointer (some ⟨Mu,0,none⟩),j1,.int .i64 iZ,.bool sv,.bool aw,.int .i64 (it:Nat),.int .i32 3,j7,j8,j9,j10,j11,j12,j13,lU,lV,kz,kC,kD,kE,kF,l6,l7,l8,kG,kH,kJ,kK,kL,kM,kN,kP,kQ,kR,nJ,nK,nL,nM,nN,nO,nP,nQ,nR,nS,nT,nU,nV,nW,nX,nY,nZ,oh,oo,oq,ou,oz,oC,oD,oF,oG,oH,oI,oJ,oK,oO,oP,oQ,oU,oV,oW,oZ,pg,pq,pz,pE,pF,pG,.pointer (some (muA Mu)),.int .i32 3,.int .i32 9,tF,pI,pJ,pK,pM,pO,pQ,pR,pU,pV,pW,qL,p8,p9,qa,qj,qb,qc,qd,qf,fC,fD,fE,iC,fF,fG,fH,fI,fJ,fK,fM,fO,fP,fQ,fT,fU,fV,fZ,gq,gu,gy,gz,gB,gD,gF,gG,gH,gI,gJ,gK,gL,gM,gN,gP,gQ,gT,gU,gV,gW],[]⟩ [.inRegion oN [5],.code aN,.inBlock 1,.inLoop lN,.inBlock 0,.code rN]) (b₁.at a₁ (.inRegion bS (i₁::bU)::k₁)::cs₁)) w:=by
 have e0:(i==0)=false:=by simpa using hi
 have hz:((cfg Mu Wg ty N J ro Anch).Zw k).sy Mu:=.inl (.inl rfl);subst wP wQ wR wS;simp only [LL,REST,iJ,iM,jv,bY,bO,bW,bR,cB,bN,Try.f89,Option.getD_some,reduceIte,Nat.reduceEqDiff,reduceCtorEq];refine dH hne (by simp) rfl rfl λs hs hm1 hm2 hnb=>?_
 obtain ⟨v,wt,sm,jn,dn,⟨mu,ms,c0,c1,ow⟩⟩:=s;simp only at hs hm1 hm2 hnb ⊢
 by_cases hq:mu=3
 ·subst hq;have hs:MuAt 80 Mu w 3 ms:=hs;refine .inr ⟨by simp,⟨if ws then .s1 else .t1,0,0,aw,sv,0,ws⟩,9,ms,_,w.setCell (muA Mu) (.int .i32 9),_,by simp [jO],by rw [e0];exact stepG_cas_hit rfl rfl (by k_ne) rfl Try.func88 jf jg jh .i32 ji rfl rfl rfl hs.cellSt (hs.thaw 0),by simp,hs.setSt 9,Eff.set _ _ (.inl rfl),jZ (C:=cfg Mu Wg ty N J ro Anch) (a:=muA Mu) (.inl rfl),?_⟩;replace hF:=hF.turn hb hs (hs.setSt 9) (Eff.set (muA Mu) _ (.inl rfl));generalize w.setCell (muA Mu) (.int .i32 9)=w₂ at hF ⊢;clear hs hm1 hm2 hnb;rw [e0];refine bL (n:=4) ?_
  walk_nrm;refine Goes.stop λw₃ h₃=>Uj hne hi hb hT (KM.rely hz hF h₃) hws ?_ ?_ ?_ ?_
  all_goals simp only [LL,REST,iJ,iM,jv,bY,bO,bW,bR,cB,bN,Try.f89,Option.getD_some,reduceIte,Nat.reduceEqDiff,reduceCtorEq]
 ·have hqi:((mu:Nat):Int)≠3:=by omega
  refine .inr ⟨by simp,⟨.r3,0,0,aw,sv,it,ws⟩,mu,ms,_,w,_,by simp [jO,hq],by rw [e0];exact stepG_cas_miss rfl rfl (by k_ne) rfl Try.func88 jf jg jh .i32 ji rfl rfl rfl hs.cellSt (hs.thaw 0) hqi,by simp,hs,Eff.refl _,vk (C:=cfg Mu Wg ty N J ro Anch) (a:=muA Mu) (.inl rfl),?_⟩;clear hs hm1 hm2 hnb;rw [e0];refine bL (n:=4) ?_
  walk_nrm;refine Goes.stop λw₃ h₃=>zO hne hi hb (KM.rely hz hF h₃) hws ?_ ?_ ?_ ?_
  all_goals simp only [LL,REST,iJ,iM,jv,bY,bO,bW,bR,cB,bN,Try.f89,Option.getD_some,reduceIte,Nat.reduceEqDiff,reduceCtorEq]
theorem Fv (hne:Mu≠Wg) (hi:i≠0) (hb:Beside (cfg Mu Wg ty N J ro Anch) ((cfg Mu Wg ty N J ro Anch).Zw k) own) (hT:ja Mu Wg ty N J ro Anch own W0 i k c (G (b₁.at (a₁.put ((bS[i₁]?).bind (·.dst)) (.tuple #[])) (.inRegion bS bU::k₁)) cs₁))
 {n:Nat} {it:Nat} {aw sv ws:Bool} {iZ:Int} {oN:Array Oper} {aN lN rN:Code} {w:World} (hF:KM 80 Mu ((cfg Mu Wg ty N J ro Anch).Zw k) own W0 w) (hws:ws=decide (iZ≠0)) (wP:oN=iJ 22) (wQ:aN=iM 22) (wR:lN=LL) (wS:rN=REST):
 rC Try.prog (cfg Mu Wg ty N J ro Anch).sys (HX Mu Wg ty N J ro Anch own W0 i k c b₁ a₁ bS i₁ bU k₁ cs₁) i (.bd k ⟨⟨.c2,3,13,aw,sv,it,ws⟩,c,n⟩) own (G ((base 89).at ⟨#[.pointer (some ⟨Mu,0,none⟩),j1,.int .i64 iZ,.bool sv,.bool aw,.int .i64 (it:Nat),.int .i32 3,j7,j8,j9,j10,j11,j12,j13,lU,lV,kz,kC,kD,kE,kF,l6,l7,l8,kG,kH,kJ,kK,kL,kM,kN,kP,kQ,kR,nJ,nK,nL,nM,nN,nO,nP,nQ,nR,nS,nT,nU,nV,nW,nX,nY,nZ,oh,oo,oq,ou,oz,oC,oD,oF,oG,oH,oI,oJ,oK,oO,oP,oQ,oU,oV,oW,oZ,pg,pq,pz,pE,pF,pG,.pointer (some (muA Mu)),.int .i32 3,.int .i32 13,tF,pI,pJ,pK,pM,pO,pQ,pR,pU,pV,pW,qL,p8,p9,qa,qj,qb,qc,qd,qf,fC,fD,fE,iC,fF,fG,fH,fI,fJ,fK,fM,fO,fP,fQ,fT,fU,fV,fZ,gq,gu,gy,gz,gB,gD,gF,gG,gH,gI,gJ,gK,gL,gM,gN,gP,gQ,gT,gU,gV,gW],[]⟩ [.inRegion oN [5],.code aN,.inBlock 1,.inLoop lN,.inBlock 0,.code rN]) (b₁.at a₁ (.inRegion bS (i₁::bU)::k₁)::cs₁)) w:=by
 have e0:(i==0)=false:=by simpa using hi
 have hz:((cfg Mu Wg ty N J ro Anch).Zw k).sy Mu:=.inl (.inl rfl);subst wP wQ wR wS;simp only [LL,REST,iJ,iM,jv,bY,bO,bW,bR,cB,bN,Try.f89,Option.getD_some,reduceIte,Nat.reduceEqDiff,reduceCtorEq];refine dH hne (by simp) rfl rfl λs hs hm1 hm2 hnb=>?_
 obtain ⟨v,wt,sm,jn,dn,⟨mu,ms,c0,c1,ow⟩⟩:=s;simp only at hs hm1 hm2 hnb ⊢
 by_cases hq:mu=3
 ·subst hq;have hs:MuAt 80 Mu w 3 ms:=hs;refine .inr ⟨by simp,⟨if ws then .s1 else .t1,0,0,aw,sv,0,ws⟩,13,ms,_,w.setCell (muA Mu) (.int .i32 13),_,by simp [jO],by rw [e0];exact stepG_cas_hit rfl rfl (by k_ne) rfl Try.func88 jf jg jh .i32 ji rfl rfl rfl hs.cellSt (hs.thaw 0),by simp,hs.setSt 13,Eff.set _ _ (.inl rfl),jZ (C:=cfg Mu Wg ty N J ro Anch) (a:=muA Mu) (.inl rfl),?_⟩;replace hF:=hF.turn hb hs (hs.setSt 13) (Eff.set (muA Mu) _ (.inl rfl));generalize w.setCell (muA Mu) (.int .i32 13)=w₂ at hF ⊢;clear hs hm1 hm2 hnb;rw [e0];refine bL (n:=4) ?_
  walk_nrm;refine Goes.stop λw₃ h₃=>Uj hne hi hb hT (KM.rely hz hF h₃) hws ?_ ?_ ?_ ?_
  all_goals simp only [LL,REST,iJ,iM,jv,bY,bO,bW,bR,cB,bN,Try.f89,Option.getD_some,reduceIte,Nat.reduceEqDiff,reduceCtorEq]
 ·have hqi:((mu:Nat):Int)≠3:=by omega
  refine .inr ⟨by simp,⟨.r3,0,0,aw,sv,it,ws⟩,mu,ms,_,w,_,by simp [jO,hq],by rw [e0];exact stepG_cas_miss rfl rfl (by k_ne) rfl Try.func88 jf jg jh .i32 ji rfl rfl rfl hs.cellSt (hs.thaw 0) hqi,by simp,hs,Eff.refl _,vk (C:=cfg Mu Wg ty N J ro Anch) (a:=muA Mu) (.inl rfl),?_⟩;clear hs hm1 hm2 hnb;rw [e0];refine bL (n:=4) ?_
  walk_nrm;refine Goes.stop λw₃ h₃=>zO hne hi hb (KM.rely hz hF h₃) hws ?_ ?_ ?_ ?_
  all_goals simp only [LL,REST,iJ,iM,jv,bY,bO,bW,bR,cB,bN,Try.f89,Option.getD_some,reduceIte,Nat.reduceEqDiff,reduceCtorEq]
theorem KQ (hne:Mu≠Wg) (hi:i≠0) (hb:Beside (cfg Mu Wg ty N J ro Anch) ((cfg Mu Wg ty N J ro Anch).Zw k) own) (hT:ja Mu Wg ty N J ro Anch own W0 i k c (G (b₁.at (a₁.put ((bS[i₁]?).bind (·.dst)) (.tuple #[])) (.inRegion bS bU::k₁)) cs₁))
 {n:Nat} {it:Nat} {aw sv ws:Bool} {iZ:Int} {oN:Array Oper} {aN lN rN:Code} {w:World} (hF:KM 80 Mu ((cfg Mu Wg ty N J ro Anch).Zw k) own W0 w) (hws:ws=decide (iZ≠0)) (wP:oN=iJ 22) (wQ:aN=iM 22) (wR:lN=LL) (wS:rN=REST):
 rC Try.prog (cfg Mu Wg ty N J ro Anch).sys (HX Mu Wg ty N J ro Anch own W0 i k c b₁ a₁ bS i₁ bU k₁ cs₁) i (.bd k ⟨⟨.c2,12,20,aw,sv,it,ws⟩,c,n⟩) own (G ((base 89).at ⟨#[.pointer (some ⟨Mu,0,none⟩),j1,.int .i64 iZ,.bool sv,.bool aw,.int .i64 (it:Nat),.int .i32 12,j7,j8,j9,j10,j11,j12,j13,lU,lV,kz,kC,kD,kE,kF,l6,l7,l8,kG,kH,kJ,kK,kL,kM,kN,kP,kQ,kR,nJ,nK,nL,nM,nN,nO,nP,nQ,nR,nS,nT,nU,nV,nW,nX,nY,nZ,oh,oo,oq,ou,oz,oC,oD,oF,oG,oH,oI,oJ,oK,oO,oP,oQ,oU,oV,oW,oZ,pg,pq,pz,pE,pF,pG,.pointer (some (muA Mu)),.int .i32 12,.int .i32 20,tF,pI,pJ,pK,pM,pO,pQ,pR,pU,pV,pW,qL,p8,p9,qa,qj,qb,qc,qd,qf,fC,fD,fE,iC,fF,fG,fH,fI,fJ,fK,fM,fO,fP,fQ,fT,fU,fV,fZ,gq,gu,gy,gz,gB,gD,gF,gG,gH,gI,gJ,gK,gL,gM,gN,gP,gQ,gT,gU,gV,gW],[]⟩ [.inRegion oN [5],.code aN,.inBlock 1,.inLoop lN,.inBlock 0,.code rN]) (b₁.at a₁ (.inRegion bS (i₁::bU)::k₁)::cs₁)) w:=by
 have e0:(i==0)=false:=by simpa using hi
 have hz:((cfg Mu Wg ty N J ro Anch).Zw k).sy Mu:=.inl (.inl rfl);subst wP wQ wR wS;simp only [LL,REST,iJ,iM,jv,bY,bO,bW,bR,cB,bN,Try.f89,Option.getD_some,reduceIte,Nat.reduceEqDiff,reduceCtorEq];refine dH hne (by simp) rfl rfl λs hs hm1 hm2 hnb=>?_
 obtain ⟨v,wt,sm,jn,dn,⟨mu,ms,c0,c1,ow⟩⟩:=s;simp only at hs hm1 hm2 hnb ⊢
 by_cases hq:mu=12
 ·subst hq;have hs:MuAt 80 Mu w 12 ms:=hs;refine .inr ⟨by simp,⟨if ws then .s1 else .t1,0,0,aw,sv,0,ws⟩,20,ms,_,w.setCell (muA Mu) (.int .i32 20),_,by simp [jO],by rw [e0];exact stepG_cas_hit rfl rfl (by k_ne) rfl Try.func88 jf jg jh .i32 ji rfl rfl rfl hs.cellSt (hs.thaw 0),by simp,hs.setSt 20,Eff.set _ _ (.inl rfl),jZ (C:=cfg Mu Wg ty N J ro Anch) (a:=muA Mu) (.inl rfl),?_⟩;replace hF:=hF.turn hb hs (hs.setSt 20) (Eff.set (muA Mu) _ (.inl rfl));generalize w.setCell (muA Mu) (.int .i32 20)=w₂ at hF ⊢;clear hs hm1 hm2 hnb;rw [e0];refine bL (n:=4) ?_
  walk_nrm;refine Goes.stop λw₃ h₃=>WE hne hi hb hT (KM.rely hz hF h₃) hws ?_ ?_ ?_ ?_
  all_goals simp only [LL,REST,iJ,iM,jv,bY,bO,bW,bR,cB,bN,Try.f89,Option.getD_some,reduceIte,Nat.reduceEqDiff,reduceCtorEq]
 ·have hqi:((mu:Nat):Int)≠12:=by omega
  refine .inr ⟨by simp,⟨.r3,0,0,aw,sv,it,ws⟩,mu,ms,_,w,_,by simp [jO,hq],by rw [e0];exact stepG_cas_miss rfl rfl (by k_ne) rfl Try.func88 jf jg jh .i32 ji rfl rfl rfl hs.cellSt (hs.thaw 0) hqi,by simp,hs,Eff.refl _,vk (C:=cfg Mu Wg ty N J ro Anch) (a:=muA Mu) (.inl rfl),?_⟩;clear hs hm1 hm2 hnb;rw [e0];refine bL (n:=4) ?_
  walk_nrm;refine Goes.stop λw₃ h₃=>zO hne hi hb (KM.rely hz hF h₃) hws ?_ ?_ ?_ ?_
  all_goals simp only [LL,REST,iJ,iM,jv,bY,bO,bW,bR,cB,bN,Try.f89,Option.getD_some,reduceIte,Nat.reduceEqDiff,reduceCtorEq]
end
end Go.Proofs.Try
