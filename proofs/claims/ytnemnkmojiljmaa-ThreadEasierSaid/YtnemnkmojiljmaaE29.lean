/- Part 29. -/
import Derived.Test.YtnemnkmojiljmaaE28
set_option maxRecDepth 100000
set_option maxHeartbeats 8000000
set_option linter.all false
namespace Go.Proofs.Try
open Go Go.Conc Go.ConcN Go.ConcM Go.RowKit Go.Conc.Lib Go.ConcR.Gen Par
open Go.ConcR (KK wgBlock WgAt stA smA rd wr mk AtMkS)
section
variable {j1 j7 j8 j9 j10 j11 j12 j13 lV lW ku kz kC kD kE l8 l9 mg kF kG kH kJ kK kL kM kN kP kQ nM nN nO nP nQ nR nS nT nU nV nW nX nY nZ oh oo oq ou oz oC oD oF oG oH oI oJ oK oO oP oQ oU oV oW oZ pg pq pz pE pF pG pI pJ pK uo uq uu tL pM pO pQ pR pU pV pW p8 p9 qa qN qb qc qd qm qf qg qh qi fD fE fF iD fG fH fI fJ fK fM fO fP fQ fT fU fV fZ gq gu gy gz gB gD gF gG gH gI gJ gK gL gM gN gP gQ gT gU gV gW gX:Value}
variable {Mu Wg:Nat} {ty:TypeId} {N:Nat->Nat} {J:Nat->Nat->(Nat->Prop)->World->Prop} {ro:Nat->Prop} {Anch:(Nat->Prop)->Goroutine->World->Prop}
variable {own:Nat->Prop} {W0:World} {i k c:Nat} {b₁:Frame} {a₁:Act} {bS:Array Oper} {i₁:Nat} {bU:List Nat} {k₁:List Item} {cs₁:List Frame}
theorem ZO (hne:Mu≠Wg) (hi:i≠0) (hb:Beside (cfg Mu Wg ty N J ro Anch) ((cfg Mu Wg ty N J ro Anch).Zw k) own) (hT:jc Mu Wg ty N J ro Anch own W0 i k c (G (b₁.at (a₁.put ((bS[i₁]?).bind (·.dst)) (.tuple #[])) (.inRegion bS bU::k₁)) cs₁))
 {n:Nat} {it:Nat} {aw sv ws:Bool} {ja:Int} {oN:Array Oper} {aN lN rN:Code} {w:World} (hF:KM 80 Mu ((cfg Mu Wg ty N J ro Anch).Zw k) own W0 w) (hws:ws=decide (ja≠0)) (wM:oN=iK 22) (wN:aN=iN 22) (wO:lN=LL) (wP:rN=REST):
 Gw Try.prog false ((cfg Mu Wg ty N J ro Anch).Zw k) ((HX Mu Wg ty N J ro Anch own W0 i k c b₁ a₁ bS i₁ bU k₁ cs₁) i (.bd k ⟨⟨if ws then .s1 else .t1,0,0,aw,sv,0,ws⟩,c,n⟩)) own (G ((base 89).at ⟨#[.pointer (some ⟨Mu,0,none⟩),j1,.int .i64 ja,.bool sv,.bool aw,.int .i64 (it:Nat),.int .i32 1,j7,j8,j9,j10,j11,j12,j13,lV,lW,ku,kz,kC,kD,kE,l8,l9,mg,kF,kG,kH,kJ,kK,kL,kM,kN,kP,kQ,nM,nN,nO,nP,nQ,nR,nS,nT,nU,nV,nW,nX,nY,nZ,oh,oo,oq,ou,oz,oC,oD,oF,oG,oH,oI,oJ,oK,oO,oP,oQ,oU,oV,oW,oZ,pg,pq,pz,pE,pF,pG,pI,pJ,pK,uo,uq,uu,.bool true,pM,pO,pQ,pR,pU,pV,pW,p8,p9,qa,qN,qb,qc,qd,qm,qf,qg,qh,qi,fD,fE,fF,iD,fG,fH,fI,fJ,fK,fM,fO,fP,fQ,fT,fU,fV,fZ,gq,gu,gy,gz,gB,gD,gF,gG,gH,gI,gJ,gK,gL,gM,gN,gP,gQ,gT,gU,gV,gW,gX],[]⟩ [.inRegion oN [],.code aN,.inBlock 1,.inLoop lN,.inBlock 0,.code rN]) (b₁.at a₁ (.inRegion bS (i₁::bU)::k₁)::cs₁)) w:=by
 have e0:(i==0)=false:=by simpa using hi
 have hz:((cfg Mu Wg ty N J ro Anch).Zw k).sy Mu:=.inl (.inl rfl);subst wM wN wO wP;cases ws
 ·have hw0:ja=0:=by simpa using hws
  clear hws;subst hw0;cases sv
  ·simp only [LL,REST,iK,iN,jy,bY,bO,bW,bP,cu,bN,Try.f89,Option.getD_some,reduceIte,Nat.reduceEqDiff,reduceCtorEq];refine bL (n:=80) ?_
   repeat w_go (KM.rely hz)
   refine Goes.stop λw₃ h₃=>.stop λw₄ h₄=>.step (M3 hne hi hb hT (KM.rely hz (KM.rely hz hF h₃) h₄) ?_ ?_ ?_ ?_)
   all_goals simp only [LL,REST,iK,iN,jy,bY,bO,bW,bP,cu,bN,Try.f89,Option.getD_some,reduceIte,Nat.reduceEqDiff,reduceCtorEq]
  ·simp only [LL,REST,iK,iN,jy,bY,bO,bW,bP,cu,bN,Try.f89,Option.getD_some,reduceIte,Nat.reduceEqDiff,reduceCtorEq];refine bL (n:=80) ?_
   repeat w_go (KM.rely hz)
   refine Goes.stop λw₃ h₃=>.stop λw₄ h₄=>.step (M4 hne hi hb hT (KM.rely hz (KM.rely hz hF h₃) h₄) ?_ ?_ ?_ ?_)
   all_goals simp only [LL,REST,iK,iN,jy,bY,bO,bW,bP,cu,bN,Try.f89,Option.getD_some,reduceIte,Nat.reduceEqDiff,reduceCtorEq]
 ·have hw0:ja≠0:=by simpa using hws.symm
  have hwt:=hws.symm;clear hws;have q1:(ja==0)=false:=by simpa using hw0
  have q2:(ja !=0)=true:=by simpa using hw0
  cases sv
  ·simp only [LL,REST,iK,iN,jy,bY,bO,bW,bP,cu,bN,Try.f89,Option.getD_some,reduceIte,Nat.reduceEqDiff,reduceCtorEq];refine bL (n:=80) ?_
   repeat w_go (KM.rely hz)
   try simp only [q1,q2]
   repeat w_go (KM.rely hz)
   have hws:=hwt.symm;refine Goes.stop λw₃ h₃=>.stop λw₄ h₄=>.step (Ff hne hi hb hT (KM.rely hz (KM.rely hz hF h₃) h₄) hws ?_ ?_ ?_ ?_)
   all_goals simp only [LL,REST,iK,iN,jy,bY,bO,bW,bP,cu,bN,Try.f89,Option.getD_some,reduceIte,Nat.reduceEqDiff,reduceCtorEq]
  ·simp only [LL,REST,iK,iN,jy,bY,bO,bW,bP,cu,bN,Try.f89,Option.getD_some,reduceIte,Nat.reduceEqDiff,reduceCtorEq];refine bL (n:=80) ?_
   repeat w_go (KM.rely hz)
   try simp only [q1,q2]
   repeat w_go (KM.rely hz)
   have hws:=hwt.symm;refine Goes.stop λw₃ h₃=>.stop λw₄ h₄=>.step (Fg hne hi hb hT (KM.rely hz (KM.rely hz hF h₃) h₄) hws ?_ ?_ ?_ ?_)
   all_goals simp only [LL,REST,iK,iN,jy,bY,bO,bW,bP,cu,bN,Try.f89,Option.getD_some,reduceIte,Nat.reduceEqDiff,reduceCtorEq]
theorem Ui (hne:Mu≠Wg) (hi:i≠0) (hb:Beside (cfg Mu Wg ty N J ro Anch) ((cfg Mu Wg ty N J ro Anch).Zw k) own) (hT:jc Mu Wg ty N J ro Anch own W0 i k c (G (b₁.at (a₁.put ((bS[i₁]?).bind (·.dst)) (.tuple #[])) (.inRegion bS bU::k₁)) cs₁))
 {n:Nat} {it:Nat} {aw sv ws:Bool} {ja:Int} {oN:Array Oper} {aN lN rN:Code} {w:World} (hF:KM 80 Mu ((cfg Mu Wg ty N J ro Anch).Zw k) own W0 w) (hws:ws=decide (ja≠0)) (wM:oN=iK 22) (wN:aN=iN 22) (wO:lN=LL) (wP:rN=REST):
 Gw Try.prog false ((cfg Mu Wg ty N J ro Anch).Zw k) ((HX Mu Wg ty N J ro Anch own W0 i k c b₁ a₁ bS i₁ bU k₁ cs₁) i (.bd k ⟨⟨if ws then .s1 else .t1,0,0,aw,sv,0,ws⟩,c,n⟩)) own (G ((base 89).at ⟨#[.pointer (some ⟨Mu,0,none⟩),j1,.int .i64 ja,.bool sv,.bool aw,.int .i64 (it:Nat),.int .i32 3,j7,j8,j9,j10,j11,j12,j13,lV,lW,ku,kz,kC,kD,kE,l8,l9,mg,kF,kG,kH,kJ,kK,kL,kM,kN,kP,kQ,nM,nN,nO,nP,nQ,nR,nS,nT,nU,nV,nW,nX,nY,nZ,oh,oo,oq,ou,oz,oC,oD,oF,oG,oH,oI,oJ,oK,oO,oP,oQ,oU,oV,oW,oZ,pg,pq,pz,pE,pF,pG,pI,pJ,pK,uo,uq,uu,.bool true,pM,pO,pQ,pR,pU,pV,pW,p8,p9,qa,qN,qb,qc,qd,qm,qf,qg,qh,qi,fD,fE,fF,iD,fG,fH,fI,fJ,fK,fM,fO,fP,fQ,fT,fU,fV,fZ,gq,gu,gy,gz,gB,gD,gF,gG,gH,gI,gJ,gK,gL,gM,gN,gP,gQ,gT,gU,gV,gW,gX],[]⟩ [.inRegion oN [],.code aN,.inBlock 1,.inLoop lN,.inBlock 0,.code rN]) (b₁.at a₁ (.inRegion bS (i₁::bU)::k₁)::cs₁)) w:=by
 have e0:(i==0)=false:=by simpa using hi
 have hz:((cfg Mu Wg ty N J ro Anch).Zw k).sy Mu:=.inl (.inl rfl);subst wM wN wO wP;cases ws
 ·have hw0:ja=0:=by simpa using hws
  clear hws;subst hw0;cases sv
  ·simp only [LL,REST,iK,iN,jy,bY,bO,bW,bP,cu,bN,Try.f89,Option.getD_some,reduceIte,Nat.reduceEqDiff,reduceCtorEq];refine bL (n:=80) ?_
   repeat w_go (KM.rely hz)
   refine Goes.stop λw₃ h₃=>.stop λw₄ h₄=>.step (M3 hne hi hb hT (KM.rely hz (KM.rely hz hF h₃) h₄) ?_ ?_ ?_ ?_)
   all_goals simp only [LL,REST,iK,iN,jy,bY,bO,bW,bP,cu,bN,Try.f89,Option.getD_some,reduceIte,Nat.reduceEqDiff,reduceCtorEq]
  ·simp only [LL,REST,iK,iN,jy,bY,bO,bW,bP,cu,bN,Try.f89,Option.getD_some,reduceIte,Nat.reduceEqDiff,reduceCtorEq];refine bL (n:=80) ?_
   repeat w_go (KM.rely hz)
   refine Goes.stop λw₃ h₃=>.stop λw₄ h₄=>.step (M4 hne hi hb hT (KM.rely hz (KM.rely hz hF h₃) h₄) ?_ ?_ ?_ ?_)
   all_goals simp only [LL,REST,iK,iN,jy,bY,bO,bW,bP,cu,bN,Try.f89,Option.getD_some,reduceIte,Nat.reduceEqDiff,reduceCtorEq]
 ·have hw0:ja≠0:=by simpa using hws.symm
  have hwt:=hws.symm;clear hws;have q1:(ja==0)=false:=by simpa using hw0
  have q2:(ja !=0)=true:=by simpa using hw0
  cases sv
  ·simp only [LL,REST,iK,iN,jy,bY,bO,bW,bP,cu,bN,Try.f89,Option.getD_some,reduceIte,Nat.reduceEqDiff,reduceCtorEq];refine bL (n:=80) ?_
   repeat w_go (KM.rely hz)
   try simp only [q1,q2]
   repeat w_go (KM.rely hz)
   have hws:=hwt.symm;refine Goes.stop λw₃ h₃=>.stop λw₄ h₄=>.step (Ff hne hi hb hT (KM.rely hz (KM.rely hz hF h₃) h₄) hws ?_ ?_ ?_ ?_)
   all_goals simp only [LL,REST,iK,iN,jy,bY,bO,bW,bP,cu,bN,Try.f89,Option.getD_some,reduceIte,Nat.reduceEqDiff,reduceCtorEq]
  ·simp only [LL,REST,iK,iN,jy,bY,bO,bW,bP,cu,bN,Try.f89,Option.getD_some,reduceIte,Nat.reduceEqDiff,reduceCtorEq];refine bL (n:=80) ?_
   repeat w_go (KM.rely hz)
   try simp only [q1,q2]
   repeat w_go (KM.rely hz)
   have hws:=hwt.symm;refine Goes.stop λw₃ h₃=>.stop λw₄ h₄=>.step (Fg hne hi hb hT (KM.rely hz (KM.rely hz hF h₃) h₄) hws ?_ ?_ ?_ ?_)
   all_goals simp only [LL,REST,iK,iN,jy,bY,bO,bW,bP,cu,bN,Try.f89,Option.getD_some,reduceIte,Nat.reduceEqDiff,reduceCtorEq]
theorem WB (hne:Mu≠Wg) (hi:i≠0) (hb:Beside (cfg Mu Wg ty N J ro Anch) ((cfg Mu Wg ty N J ro Anch).Zw k) own) (hT:jc Mu Wg ty N J ro Anch own W0 i k c (G (b₁.at (a₁.put ((bS[i₁]?).bind (·.dst)) (.tuple #[])) (.inRegion bS bU::k₁)) cs₁))
 {n:Nat} {it:Nat} {aw sv ws:Bool} {ja:Int} {oN:Array Oper} {aN lN rN:Code} {w:World} (hF:KM 80 Mu ((cfg Mu Wg ty N J ro Anch).Zw k) own W0 w) (hws:ws=decide (ja≠0)) (wM:oN=iK 22) (wN:aN=iN 22) (wO:lN=LL) (wP:rN=REST):
 Gw Try.prog false ((cfg Mu Wg ty N J ro Anch).Zw k) ((HX Mu Wg ty N J ro Anch own W0 i k c b₁ a₁ bS i₁ bU k₁ cs₁) i (.bd k ⟨⟨if ws then .s1 else .t1,0,0,aw,sv,0,ws⟩,c,n⟩)) own (G ((base 89).at ⟨#[.pointer (some ⟨Mu,0,none⟩),j1,.int .i64 ja,.bool sv,.bool aw,.int .i64 (it:Nat),.int .i32 12,j7,j8,j9,j10,j11,j12,j13,lV,lW,ku,kz,kC,kD,kE,l8,l9,mg,kF,kG,kH,kJ,kK,kL,kM,kN,kP,kQ,nM,nN,nO,nP,nQ,nR,nS,nT,nU,nV,nW,nX,nY,nZ,oh,oo,oq,ou,oz,oC,oD,oF,oG,oH,oI,oJ,oK,oO,oP,oQ,oU,oV,oW,oZ,pg,pq,pz,pE,pF,pG,pI,pJ,pK,uo,uq,uu,.bool true,pM,pO,pQ,pR,pU,pV,pW,p8,p9,qa,qN,qb,qc,qd,qm,qf,qg,qh,qi,fD,fE,fF,iD,fG,fH,fI,fJ,fK,fM,fO,fP,fQ,fT,fU,fV,fZ,gq,gu,gy,gz,gB,gD,gF,gG,gH,gI,gJ,gK,gL,gM,gN,gP,gQ,gT,gU,gV,gW,gX],[]⟩ [.inRegion oN [],.code aN,.inBlock 1,.inLoop lN,.inBlock 0,.code rN]) (b₁.at a₁ (.inRegion bS (i₁::bU)::k₁)::cs₁)) w:=by
 have e0:(i==0)=false:=by simpa using hi
 have hz:((cfg Mu Wg ty N J ro Anch).Zw k).sy Mu:=.inl (.inl rfl);subst wM wN wO wP;cases ws
 ·have hw0:ja=0:=by simpa using hws
  clear hws;subst hw0;cases sv
  ·simp only [LL,REST,iK,iN,jy,bY,bO,bW,bP,cu,bN,Try.f89,Option.getD_some,reduceIte,Nat.reduceEqDiff,reduceCtorEq];refine bL (n:=80) ?_
   repeat w_go (KM.rely hz)
   refine Goes.stop λw₃ h₃=>.stop λw₄ h₄=>.step (M3 hne hi hb hT (KM.rely hz (KM.rely hz hF h₃) h₄) ?_ ?_ ?_ ?_)
   all_goals simp only [LL,REST,iK,iN,jy,bY,bO,bW,bP,cu,bN,Try.f89,Option.getD_some,reduceIte,Nat.reduceEqDiff,reduceCtorEq]
  ·simp only [LL,REST,iK,iN,jy,bY,bO,bW,bP,cu,bN,Try.f89,Option.getD_some,reduceIte,Nat.reduceEqDiff,reduceCtorEq];refine bL (n:=80) ?_
   repeat w_go (KM.rely hz)
   refine Goes.stop λw₃ h₃=>.stop λw₄ h₄=>.step (M4 hne hi hb hT (KM.rely hz (KM.rely hz hF h₃) h₄) ?_ ?_ ?_ ?_)
   all_goals simp only [LL,REST,iK,iN,jy,bY,bO,bW,bP,cu,bN,Try.f89,Option.getD_some,reduceIte,Nat.reduceEqDiff,reduceCtorEq]
 ·have hw0:ja≠0:=by simpa using hws.symm
  have hwt:=hws.symm;clear hws;have q1:(ja==0)=false:=by simpa using hw0
  have q2:(ja !=0)=true:=by simpa using hw0
  cases sv
  ·simp only [LL,REST,iK,iN,jy,bY,bO,bW,bP,cu,bN,Try.f89,Option.getD_some,reduceIte,Nat.reduceEqDiff,reduceCtorEq];refine bL (n:=80) ?_
   repeat w_go (KM.rely hz)
   try simp only [q1,q2]
   repeat w_go (KM.rely hz)
   have hws:=hwt.symm;refine Goes.stop λw₃ h₃=>.stop λw₄ h₄=>.step (Ff hne hi hb hT (KM.rely hz (KM.rely hz hF h₃) h₄) hws ?_ ?_ ?_ ?_)
   all_goals simp only [LL,REST,iK,iN,jy,bY,bO,bW,bP,cu,bN,Try.f89,Option.getD_some,reduceIte,Nat.reduceEqDiff,reduceCtorEq]
  ·simp only [LL,REST,iK,iN,jy,bY,bO,bW,bP,cu,bN,Try.f89,Option.getD_some,reduceIte,Nat.reduceEqDiff,reduceCtorEq];refine bL (n:=80) ?_
   repeat w_go (KM.rely hz)
   try simp only [q1,q2]
   repeat w_go (KM.rely hz)
   have hws:=hwt.symm;refine Goes.stop λw₃ h₃=>.stop λw₄ h₄=>.step (Fg hne hi hb hT (KM.rely hz (KM.rely hz hF h₃) h₄) hws ?_ ?_ ?_ ?_)
   all_goals simp only [LL,REST,iK,iN,jy,bY,bO,bW,bP,cu,bN,Try.f89,Option.getD_some,reduceIte,Nat.reduceEqDiff,reduceCtorEq]
theorem Qp (hne:Mu≠Wg) (hi:i≠0) (hb:Beside (cfg Mu Wg ty N J ro Anch) ((cfg Mu Wg ty N J ro Anch).Zw k) own) (hT:jc Mu Wg ty N J ro Anch own W0 i k c (G (b₁.at (a₁.put ((bS[i₁]?).bind (·.dst)) (.tuple #[])) (.inRegion bS bU::k₁)) cs₁))
 {n:Nat} {it:Nat} {aw sv ws:Bool} {ja:Int} {oN:Array Oper} {aN lN rN:Code} {w:World} (hF:KM 80 Mu ((cfg Mu Wg ty N J ro Anch).Zw k) own W0 w) (hws:ws=decide (ja≠0)) (wM:oN=iK 22) (wN:aN=iN 22) (wO:lN=LL) (wP:rN=REST):
 rE Try.prog (cfg Mu Wg ty N J ro Anch).sys (HX Mu Wg ty N J ro Anch own W0 i k c b₁ a₁ bS i₁ bU k₁ cs₁) i (.bd k ⟨⟨.c2,0,1,aw,sv,it,ws⟩,c,n⟩) own (G ((base 89).at ⟨#[.pointer (some ⟨Mu,0,none⟩),j1,.int .i64 ja,.bool sv,.bool aw,.int .i64 (it:Nat),.int .i32 0,j7,j8,j9,j10,j11,j12,j13,lV,lW,ku,kz,kC,kD,kE,l8,l9,mg,kF,kG,kH,kJ,kK,kL,kM,kN,kP,kQ,nM,nN,nO,nP,nQ,nR,nS,nT,nU,nV,nW,nX,nY,nZ,oh,oo,oq,ou,oz,oC,oD,oF,oG,oH,oI,oJ,oK,oO,oP,oQ,oU,oV,oW,oZ,pg,pq,pz,pE,pF,pG,pI,pJ,pK,.pointer (some (muA Mu)),.int .i32 0,.int .i32 1,tL,pM,pO,pQ,pR,pU,pV,pW,p8,p9,qa,qN,qb,qc,qd,qm,qf,qg,qh,qi,fD,fE,fF,iD,fG,fH,fI,fJ,fK,fM,fO,fP,fQ,fT,fU,fV,fZ,gq,gu,gy,gz,gB,gD,gF,gG,gH,gI,gJ,gK,gL,gM,gN,gP,gQ,gT,gU,gV,gW,gX],[]⟩ [.inRegion oN [5],.code aN,.inBlock 1,.inLoop lN,.inBlock 0,.code rN]) (b₁.at a₁ (.inRegion bS (i₁::bU)::k₁)::cs₁)) w:=by
 have e0:(i==0)=false:=by simpa using hi
 have hz:((cfg Mu Wg ty N J ro Anch).Zw k).sy Mu:=.inl (.inl rfl);subst wM wN wO wP;simp only [LL,REST,iK,iN,jy,bY,bO,bW,bP,cu,bN,Try.f89,Option.getD_some,reduceIte,Nat.reduceEqDiff,reduceCtorEq];refine dG hne (by simp) rfl rfl λs hs hm1 hm2 hnb=>?_
 obtain ⟨v,wt,sm,jn,dn,⟨mu,ms,c0,c1,ow⟩⟩:=s;simp only at hs hm1 hm2 hnb ⊢
 by_cases hq:mu=0
 ·subst hq;have hs:MuAt 80 Mu w 0 ms:=hs;refine .inr ⟨by simp,lk .le,1,ms,_,w.setCell (muA Mu) (.int .i32 1),_,by simp [jO],by rw [e0];exact stepG_cas_hit rfl rfl (by k_ne) rfl Try.func88 jg jh ji .i32 jk rfl rfl rfl hs.cellSt (hs.thaw 0),by simp,hs.setSt 1,Eff.set _ _ (.inl rfl),jY (C:=cfg Mu Wg ty N J ro Anch) (a:=muA Mu) (.inl rfl),?_⟩;replace hF:=hF.turn hb hs (hs.setSt 1) (Eff.set (muA Mu) _ (.inl rfl));generalize w.setCell (muA Mu) (.int .i32 1)=w₂ at hF ⊢;clear hs hm1 hm2 hnb;rw [e0];refine bL (n:=4) ?_
  walk_nrm;refine Goes.stop λw₃ h₃=>ak2 (ws:=false) hne hi hb hT (KM.rely hz hF h₃) ?_ ?_ ?_ ?_
  all_goals simp only [LL,REST,iK,iN,jy,bY,bO,bW,bP,cu,bN,Try.f89,Option.getD_some,reduceIte,Nat.reduceEqDiff,reduceCtorEq]
 ·have hqi:((mu:Nat):Int)≠0:=by omega
  refine .inr ⟨by simp,⟨.r3,0,0,aw,sv,it,ws⟩,mu,ms,_,w,_,by simp [jO,hq],by rw [e0];exact stepG_cas_miss rfl rfl (by k_ne) rfl Try.func88 jg jh ji .i32 jk rfl rfl rfl hs.cellSt (hs.thaw 0) hqi,by simp,hs,Eff.refl _,vv (C:=cfg Mu Wg ty N J ro Anch) (a:=muA Mu) (.inl rfl),?_⟩;clear hs hm1 hm2 hnb;rw [e0];refine bL (n:=4) ?_
  walk_nrm;refine Goes.stop λw₃ h₃=>zP hne hi hb (KM.rely hz hF h₃) hws ?_ ?_ ?_ ?_
  all_goals simp only [LL,REST,iK,iN,jy,bY,bO,bW,bP,cu,bN,Try.f89,Option.getD_some,reduceIte,Nat.reduceEqDiff,reduceCtorEq]
theorem Qq (hne:Mu≠Wg) (hi:i≠0) (hb:Beside (cfg Mu Wg ty N J ro Anch) ((cfg Mu Wg ty N J ro Anch).Zw k) own) (hT:jc Mu Wg ty N J ro Anch own W0 i k c (G (b₁.at (a₁.put ((bS[i₁]?).bind (·.dst)) (.tuple #[])) (.inRegion bS bU::k₁)) cs₁))
 {n:Nat} {it:Nat} {aw sv ws:Bool} {ja:Int} {oN:Array Oper} {aN lN rN:Code} {w:World} (hF:KM 80 Mu ((cfg Mu Wg ty N J ro Anch).Zw k) own W0 w) (hws:ws=decide (ja≠0)) (wM:oN=iK 22) (wN:aN=iN 22) (wO:lN=LL) (wP:rN=REST):
 rE Try.prog (cfg Mu Wg ty N J ro Anch).sys (HX Mu Wg ty N J ro Anch own W0 i k c b₁ a₁ bS i₁ bU k₁ cs₁) i (.bd k ⟨⟨.c2,2,3,aw,sv,it,ws⟩,c,n⟩) own (G ((base 89).at ⟨#[.pointer (some ⟨Mu,0,none⟩),j1,.int .i64 ja,.bool sv,.bool aw,.int .i64 (it:Nat),.int .i32 2,j7,j8,j9,j10,j11,j12,j13,lV,lW,ku,kz,kC,kD,kE,l8,l9,mg,kF,kG,kH,kJ,kK,kL,kM,kN,kP,kQ,nM,nN,nO,nP,nQ,nR,nS,nT,nU,nV,nW,nX,nY,nZ,oh,oo,oq,ou,oz,oC,oD,oF,oG,oH,oI,oJ,oK,oO,oP,oQ,oU,oV,oW,oZ,pg,pq,pz,pE,pF,pG,pI,pJ,pK,.pointer (some (muA Mu)),.int .i32 2,.int .i32 3,tL,pM,pO,pQ,pR,pU,pV,pW,p8,p9,qa,qN,qb,qc,qd,qm,qf,qg,qh,qi,fD,fE,fF,iD,fG,fH,fI,fJ,fK,fM,fO,fP,fQ,fT,fU,fV,fZ,gq,gu,gy,gz,gB,gD,gF,gG,gH,gI,gJ,gK,gL,gM,gN,gP,gQ,gT,gU,gV,gW,gX],[]⟩ [.inRegion oN [5],.code aN,.inBlock 1,.inLoop lN,.inBlock 0,.code rN]) (b₁.at a₁ (.inRegion bS (i₁::bU)::k₁)::cs₁)) w:=by
 have e0:(i==0)=false:=by simpa using hi
 have hz:((cfg Mu Wg ty N J ro Anch).Zw k).sy Mu:=.inl (.inl rfl);subst wM wN wO wP;simp only [LL,REST,iK,iN,jy,bY,bO,bW,bP,cu,bN,Try.f89,Option.getD_some,reduceIte,Nat.reduceEqDiff,reduceCtorEq];refine dG hne (by simp) rfl rfl λs hs hm1 hm2 hnb=>?_
 obtain ⟨v,wt,sm,jn,dn,⟨mu,ms,c0,c1,ow⟩⟩:=s;simp only at hs hm1 hm2 hnb ⊢
 by_cases hq:mu=2
 ·subst hq;have hs:MuAt 80 Mu w 2 ms:=hs;refine .inr ⟨by simp,lk .le,3,ms,_,w.setCell (muA Mu) (.int .i32 3),_,by simp [jO],by rw [e0];exact stepG_cas_hit rfl rfl (by k_ne) rfl Try.func88 jg jh ji .i32 jk rfl rfl rfl hs.cellSt (hs.thaw 0),by simp,hs.setSt 3,Eff.set _ _ (.inl rfl),jY (C:=cfg Mu Wg ty N J ro Anch) (a:=muA Mu) (.inl rfl),?_⟩;replace hF:=hF.turn hb hs (hs.setSt 3) (Eff.set (muA Mu) _ (.inl rfl));generalize w.setCell (muA Mu) (.int .i32 3)=w₂ at hF ⊢;clear hs hm1 hm2 hnb;rw [e0];refine bL (n:=4) ?_
  walk_nrm;refine Goes.stop λw₃ h₃=>take2 (ws:=false) hne hi hb hT (KM.rely hz hF h₃) ?_ ?_ ?_ ?_
  all_goals simp only [LL,REST,iK,iN,jy,bY,bO,bW,bP,cu,bN,Try.f89,Option.getD_some,reduceIte,Nat.reduceEqDiff,reduceCtorEq]
 ·have hqi:((mu:Nat):Int)≠2:=by omega
  refine .inr ⟨by simp,⟨.r3,0,0,aw,sv,it,ws⟩,mu,ms,_,w,_,by simp [jO,hq],by rw [e0];exact stepG_cas_miss rfl rfl (by k_ne) rfl Try.func88 jg jh ji .i32 jk rfl rfl rfl hs.cellSt (hs.thaw 0) hqi,by simp,hs,Eff.refl _,vv (C:=cfg Mu Wg ty N J ro Anch) (a:=muA Mu) (.inl rfl),?_⟩;clear hs hm1 hm2 hnb;rw [e0];refine bL (n:=4) ?_
  walk_nrm;refine Goes.stop λw₃ h₃=>zP hne hi hb (KM.rely hz hF h₃) hws ?_ ?_ ?_ ?_
  all_goals simp only [LL,REST,iK,iN,jy,bY,bO,bW,bP,cu,bN,Try.f89,Option.getD_some,reduceIte,Nat.reduceEqDiff,reduceCtorEq]
theorem G7 (hne:Mu≠Wg) (hi:i≠0) (hb:Beside (cfg Mu Wg ty N J ro Anch) ((cfg Mu Wg ty N J ro Anch).Zw k) own) (hT:jc Mu Wg ty N J ro Anch own W0 i k c (G (b₁.at (a₁.put ((bS[i₁]?).bind (·.dst)) (.tuple #[])) (.inRegion bS bU::k₁)) cs₁))
 {n:Nat} {it:Nat} {aw sv ws:Bool} {ja:Int} {oN:Array Oper} {aN lN rN:Code} {w:World} (hF:KM 80 Mu ((cfg Mu Wg ty N J ro Anch).Zw k) own W0 w) (hws:ws=decide (ja≠0)) (wM:oN=iK 22) (wN:aN=iN 22) (wO:lN=LL) (wP:rN=REST):
 rE Try.prog (cfg Mu Wg ty N J ro Anch).sys (HX Mu Wg ty N J ro Anch own W0 i k c b₁ a₁ bS i₁ bU k₁ cs₁) i (.bd k ⟨⟨.c2,2,1,aw,sv,it,ws⟩,c,n⟩) own (G ((base 89).at ⟨#[.pointer (some ⟨Mu,0,none⟩),j1,.int .i64 ja,.bool sv,.bool aw,.int .i64 (it:Nat),.int .i32 2,j7,j8,j9,j10,j11,j12,j13,lV,lW,ku,kz,kC,kD,kE,l8,l9,mg,kF,kG,kH,kJ,kK,kL,kM,kN,kP,kQ,nM,nN,nO,nP,nQ,nR,nS,nT,nU,nV,nW,nX,nY,nZ,oh,oo,oq,ou,oz,oC,oD,oF,oG,oH,oI,oJ,oK,oO,oP,oQ,oU,oV,oW,oZ,pg,pq,pz,pE,pF,pG,pI,pJ,pK,.pointer (some (muA Mu)),.int .i32 2,.int .i32 1,tL,pM,pO,pQ,pR,pU,pV,pW,p8,p9,qa,qN,qb,qc,qd,qm,qf,qg,qh,qi,fD,fE,fF,iD,fG,fH,fI,fJ,fK,fM,fO,fP,fQ,fT,fU,fV,fZ,gq,gu,gy,gz,gB,gD,gF,gG,gH,gI,gJ,gK,gL,gM,gN,gP,gQ,gT,gU,gV,gW,gX],[]⟩ [.inRegion oN [5],.code aN,.inBlock 1,.inLoop lN,.inBlock 0,.code rN]) (b₁.at a₁ (.inRegion bS (i₁::bU)::k₁)::cs₁)) w:=by
 have e0:(i==0)=false:=by simpa using hi
 have hz:((cfg Mu Wg ty N J ro Anch).Zw k).sy Mu:=.inl (.inl rfl);subst wM wN wO wP;simp only [LL,REST,iK,iN,jy,bY,bO,bW,bP,cu,bN,Try.f89,Option.getD_some,reduceIte,Nat.reduceEqDiff,reduceCtorEq];refine dG hne (by simp) rfl rfl λs hs hm1 hm2 hnb=>?_
 obtain ⟨v,wt,sm,jn,dn,⟨mu,ms,c0,c1,ow⟩⟩:=s;simp only at hs hm1 hm2 hnb ⊢
 by_cases hq:mu=2
 ·subst hq;have hs:MuAt 80 Mu w 2 ms:=hs;refine .inr ⟨by simp,lk .le,1,ms,_,w.setCell (muA Mu) (.int .i32 1),_,by simp [jO],by rw [e0];exact stepG_cas_hit rfl rfl (by k_ne) rfl Try.func88 jg jh ji .i32 jk rfl rfl rfl hs.cellSt (hs.thaw 0),by simp,hs.setSt 1,Eff.set _ _ (.inl rfl),jY (C:=cfg Mu Wg ty N J ro Anch) (a:=muA Mu) (.inl rfl),?_⟩;replace hF:=hF.turn hb hs (hs.setSt 1) (Eff.set (muA Mu) _ (.inl rfl));generalize w.setCell (muA Mu) (.int .i32 1)=w₂ at hF ⊢;clear hs hm1 hm2 hnb;rw [e0];refine bL (n:=4) ?_
  walk_nrm;refine Goes.stop λw₃ h₃=>take2 (ws:=false) hne hi hb hT (KM.rely hz hF h₃) ?_ ?_ ?_ ?_
  all_goals simp only [LL,REST,iK,iN,jy,bY,bO,bW,bP,cu,bN,Try.f89,Option.getD_some,reduceIte,Nat.reduceEqDiff,reduceCtorEq]
 ·have hqi:((mu:Nat):Int)≠2:=by omega
  refine .inr ⟨by simp,⟨.r3,0,0,aw,sv,it,ws⟩,mu,ms,_,w,_,by simp [jO,hq],by rw [e0];exact stepG_cas_miss rfl rfl (by k_ne) rfl Try.func88 jg jh ji .i32 jk rfl rfl rfl hs.cellSt (hs.thaw 0) hqi,by simp,hs,Eff.refl _,vv (C:=cfg Mu Wg ty N J ro Anch) (a:=muA Mu) (.inl rfl),?_⟩;clear hs hm1 hm2 hnb;rw [e0];refine bL (n:=4) ?_
  walk_nrm;refine Goes.stop λw₃ h₃=>zP hne hi hb (KM.rely hz hF h₃) hws ?_ ?_ ?_ ?_
  all_goals simp only [LL,REST,iK,iN,jy,bY,bO,bW,bP,cu,bN,Try.f89,Option.getD_some,reduceIte,Nat.reduceEqDiff,reduceCtorEq]
theorem G8 (hne:Mu≠Wg) (hi:i≠0) (hb:Beside (cfg Mu Wg ty N J ro Anch) ((cfg Mu Wg ty N J ro Anch).Zw k) own) (hT:jc Mu Wg ty N J ro Anch own W0 i k c (G (b₁.at (a₁.put ((bS[i₁]?).bind (·.dst)) (.tuple #[])) (.inRegion bS bU::k₁)) cs₁))
 {n:Nat} {it:Nat} {aw sv ws:Bool} {ja:Int} {oN:Array Oper} {aN lN rN:Code} {w:World} (hF:KM 80 Mu ((cfg Mu Wg ty N J ro Anch).Zw k) own W0 w) (hws:ws=decide (ja≠0)) (wM:oN=iK 22) (wN:aN=iN 22) (wO:lN=LL) (wP:rN=REST):
 rE Try.prog (cfg Mu Wg ty N J ro Anch).sys (HX Mu Wg ty N J ro Anch own W0 i k c b₁ a₁ bS i₁ bU k₁ cs₁) i (.bd k ⟨⟨.c2,1,9,aw,sv,it,ws⟩,c,n⟩) own (G ((base 89).at ⟨#[.pointer (some ⟨Mu,0,none⟩),j1,.int .i64 ja,.bool sv,.bool aw,.int .i64 (it:Nat),.int .i32 1,j7,j8,j9,j10,j11,j12,j13,lV,lW,ku,kz,kC,kD,kE,l8,l9,mg,kF,kG,kH,kJ,kK,kL,kM,kN,kP,kQ,nM,nN,nO,nP,nQ,nR,nS,nT,nU,nV,nW,nX,nY,nZ,oh,oo,oq,ou,oz,oC,oD,oF,oG,oH,oI,oJ,oK,oO,oP,oQ,oU,oV,oW,oZ,pg,pq,pz,pE,pF,pG,pI,pJ,pK,.pointer (some (muA Mu)),.int .i32 1,.int .i32 9,tL,pM,pO,pQ,pR,pU,pV,pW,p8,p9,qa,qN,qb,qc,qd,qm,qf,qg,qh,qi,fD,fE,fF,iD,fG,fH,fI,fJ,fK,fM,fO,fP,fQ,fT,fU,fV,fZ,gq,gu,gy,gz,gB,gD,gF,gG,gH,gI,gJ,gK,gL,gM,gN,gP,gQ,gT,gU,gV,gW,gX],[]⟩ [.inRegion oN [5],.code aN,.inBlock 1,.inLoop lN,.inBlock 0,.code rN]) (b₁.at a₁ (.inRegion bS (i₁::bU)::k₁)::cs₁)) w:=by
 have e0:(i==0)=false:=by simpa using hi
 have hz:((cfg Mu Wg ty N J ro Anch).Zw k).sy Mu:=.inl (.inl rfl);subst wM wN wO wP;simp only [LL,REST,iK,iN,jy,bY,bO,bW,bP,cu,bN,Try.f89,Option.getD_some,reduceIte,Nat.reduceEqDiff,reduceCtorEq];refine dG hne (by simp) rfl rfl λs hs hm1 hm2 hnb=>?_
 obtain ⟨v,wt,sm,jn,dn,⟨mu,ms,c0,c1,ow⟩⟩:=s;simp only at hs hm1 hm2 hnb ⊢
 by_cases hq:mu=1
 ·subst hq;have hs:MuAt 80 Mu w 1 ms:=hs;refine .inr ⟨by simp,⟨if ws then .s1 else .t1,0,0,aw,sv,0,ws⟩,9,ms,_,w.setCell (muA Mu) (.int .i32 9),_,by simp [jO],by rw [e0];exact stepG_cas_hit rfl rfl (by k_ne) rfl Try.func88 jg jh ji .i32 jk rfl rfl rfl hs.cellSt (hs.thaw 0),by simp,hs.setSt 9,Eff.set _ _ (.inl rfl),jY (C:=cfg Mu Wg ty N J ro Anch) (a:=muA Mu) (.inl rfl),?_⟩;replace hF:=hF.turn hb hs (hs.setSt 9) (Eff.set (muA Mu) _ (.inl rfl));generalize w.setCell (muA Mu) (.int .i32 9)=w₂ at hF ⊢;clear hs hm1 hm2 hnb;rw [e0];refine bL (n:=4) ?_
  walk_nrm;refine Goes.stop λw₃ h₃=>ZO hne hi hb hT (KM.rely hz hF h₃) hws ?_ ?_ ?_ ?_
  all_goals simp only [LL,REST,iK,iN,jy,bY,bO,bW,bP,cu,bN,Try.f89,Option.getD_some,reduceIte,Nat.reduceEqDiff,reduceCtorEq]
 ·have hqi:((mu:Nat):Int)≠1:=by omega
  refine .inr ⟨by simp,⟨.r3,0,0,aw,sv,it,ws⟩,mu,ms,_,w,_,by simp [jO,hq],by rw [e0];exact stepG_cas_miss rfl rfl (by k_ne) rfl Try.func88 jg jh ji .i32 jk rfl rfl rfl hs.cellSt (hs.thaw 0) hqi,by simp,hs,Eff.refl _,vv (C:=cfg Mu Wg ty N J ro Anch) (a:=muA Mu) (.inl rfl),?_⟩;clear hs hm1 hm2 hnb;rw [e0];refine bL (n:=4) ?_
  walk_nrm;refine Goes.stop λw₃ h₃=>zP hne hi hb (KM.rely hz hF h₃) hws ?_ ?_ ?_ ?_
  all_goals simp only [LL,REST,iK,iN,jy,bY,bO,bW,bP,cu,bN,Try.f89,Option.getD_some,reduceIte,Nat.reduceEqDiff,reduceCtorEq]
theorem G9 (hne:Mu≠Wg) (hi:i≠0) (hb:Beside (cfg Mu Wg ty N J ro Anch) ((cfg Mu Wg ty N J ro Anch).Zw k) own) (hT:jc Mu Wg ty N J ro Anch own W0 i k c (G (b₁.at (a₁.put ((bS[i₁]?).bind (·.dst)) (.tuple #[])) (.inRegion bS bU::k₁)) cs₁))
 {n:Nat} {it:Nat} {aw sv ws:Bool} {ja:Int} {oN:Array Oper} {aN lN rN:Code} {w:World} (hF:KM 80 Mu ((cfg Mu Wg ty N J ro Anch).Zw k) own W0 w) (hws:ws=decide (ja≠0)) (wM:oN=iK 22) (wN:aN=iN 22) (wO:lN=LL) (wP:rN=REST):
 rE Try.prog (cfg Mu Wg ty N J ro Anch).sys (HX Mu Wg ty N J ro Anch own W0 i k c b₁ a₁ bS i₁ bU k₁ cs₁) i (.bd k ⟨⟨.c2,3,9,aw,sv,it,ws⟩,c,n⟩) own (G ((base 89).at ⟨#[.pointer (some ⟨Mu,0,none⟩),j1,.int .i64 ja,.bool sv,.bool aw,.int .i64 (it:Nat),.int .i32 3,j7,j8,j9,j10,j11,j12,j13,lV,lW,ku,kz,kC,kD,kE,l8,l9,mg,kF,kG,kH,kJ,kK,kL,kM,kN,kP,kQ,nM,nN,nO,nP,nQ,nR,nS,nT,nU,nV,nW,nX,nY,nZ,oh,oo,oq,ou,oz,oC,oD,oF,oG,oH,oI,oJ,oK,oO,oP,oQ,oU,oV,oW,oZ,pg,pq,pz,pE,pF,pG,pI,pJ,pK,.pointer (some (muA Mu)),.int .i32 3,.int .i32 9,tL,pM,pO,pQ,pR,pU,pV,pW,p8,p9,qa,qN,qb,qc,qd,qm,qf,qg,qh,qi,fD,fE,fF,iD,fG,fH,fI,fJ,fK,fM,fO,fP,fQ,fT,fU,fV,fZ,gq,gu,gy,gz,gB,gD,gF,gG,gH,gI,gJ,gK,gL,gM,gN,gP,gQ,gT,gU,gV,gW,gX],[]⟩ [.inRegion oN [5],.code aN,.inBlock 1,.inLoop lN,.inBlock 0,.code rN]) (b₁.at a₁ (.inRegion bS (i₁::bU)::k₁)::cs₁)) w:=by
 have e0:(i==0)=false:=by simpa using hi
 have hz:((cfg Mu Wg ty N J ro Anch).Zw k).sy Mu:=.inl (.inl rfl);subst wM wN wO wP;simp only [LL,REST,iK,iN,jy,bY,bO,bW,bP,cu,bN,Try.f89,Option.getD_some,reduceIte,Nat.reduceEqDiff,reduceCtorEq];refine dG hne (by simp) rfl rfl λs hs hm1 hm2 hnb=>?_
 obtain ⟨v,wt,sm,jn,dn,⟨mu,ms,c0,c1,ow⟩⟩:=s;simp only at hs hm1 hm2 hnb ⊢
 by_cases hq:mu=3
 ·subst hq;have hs:MuAt 80 Mu w 3 ms:=hs;refine .inr ⟨by simp,⟨if ws then .s1 else .t1,0,0,aw,sv,0,ws⟩,9,ms,_,w.setCell (muA Mu) (.int .i32 9),_,by simp [jO],by rw [e0];exact stepG_cas_hit rfl rfl (by k_ne) rfl Try.func88 jg jh ji .i32 jk rfl rfl rfl hs.cellSt (hs.thaw 0),by simp,hs.setSt 9,Eff.set _ _ (.inl rfl),jY (C:=cfg Mu Wg ty N J ro Anch) (a:=muA Mu) (.inl rfl),?_⟩;replace hF:=hF.turn hb hs (hs.setSt 9) (Eff.set (muA Mu) _ (.inl rfl));generalize w.setCell (muA Mu) (.int .i32 9)=w₂ at hF ⊢;clear hs hm1 hm2 hnb;rw [e0];refine bL (n:=4) ?_
  walk_nrm;refine Goes.stop λw₃ h₃=>Ui hne hi hb hT (KM.rely hz hF h₃) hws ?_ ?_ ?_ ?_
  all_goals simp only [LL,REST,iK,iN,jy,bY,bO,bW,bP,cu,bN,Try.f89,Option.getD_some,reduceIte,Nat.reduceEqDiff,reduceCtorEq]
 ·have hqi:((mu:Nat):Int)≠3:=by omega
  refine .inr ⟨by simp,⟨.r3,0,0,aw,sv,it,ws⟩,mu,ms,_,w,_,by simp [jO,hq],by rw [e0];exact stepG_cas_miss rfl rfl (by k_ne) rfl Try.func88 jg jh ji .i32 jk rfl rfl rfl hs.cellSt (hs.thaw 0) hqi,by simp,hs,Eff.refl _,vv (C:=cfg Mu Wg ty N J ro Anch) (a:=muA Mu) (.inl rfl),?_⟩;clear hs hm1 hm2 hnb;rw [e0];refine bL (n:=4) ?_
  walk_nrm;refine Goes.stop λw₃ h₃=>zP hne hi hb (KM.rely hz hF h₃) hws ?_ ?_ ?_ ?_
  all_goals simp only [LL,REST,iK,iN,jy,bY,bO,bW,bP,cu,bN,Try.f89,Option.getD_some,reduceIte,Nat.reduceEqDiff,reduceCtorEq]
theorem Fh (hne:Mu≠Wg) (hi:i≠0) (hb:Beside (cfg Mu Wg ty N J ro Anch) ((cfg Mu Wg ty N J ro Anch).Zw k) own) (hT:jc Mu Wg ty N J ro Anch own W0 i k c (G (b₁.at (a₁.put ((bS[i₁]?).bind (·.dst)) (.tuple #[])) (.inRegion bS bU::k₁)) cs₁))
 {n:Nat} {it:Nat} {aw sv ws:Bool} {ja:Int} {oN:Array Oper} {aN lN rN:Code} {w:World} (hF:KM 80 Mu ((cfg Mu Wg ty N J ro Anch).Zw k) own W0 w) (hws:ws=decide (ja≠0)) (wM:oN=iK 22) (wN:aN=iN 22) (wO:lN=LL) (wP:rN=REST):
 rE Try.prog (cfg Mu Wg ty N J ro Anch).sys (HX Mu Wg ty N J ro Anch own W0 i k c b₁ a₁ bS i₁ bU k₁ cs₁) i (.bd k ⟨⟨.c2,3,13,aw,sv,it,ws⟩,c,n⟩) own (G ((base 89).at ⟨#[.pointer (some ⟨Mu,0,none⟩),j1,.int .i64 ja,.bool sv,.bool aw,.int .i64 (it:Nat),.int .i32 3,j7,j8,j9,j10,j11,j12,j13,lV,lW,ku,kz,kC,kD,kE,l8,l9,mg,kF,kG,kH,kJ,kK,kL,kM,kN,kP,kQ,nM,nN,nO,nP,nQ,nR,nS,nT,nU,nV,nW,nX,nY,nZ,oh,oo,oq,ou,oz,oC,oD,oF,oG,oH,oI,oJ,oK,oO,oP,oQ,oU,oV,oW,oZ,pg,pq,pz,pE,pF,pG,pI,pJ,pK,.pointer (some (muA Mu)),.int .i32 3,.int .i32 13,tL,pM,pO,pQ,pR,pU,pV,pW,p8,p9,qa,qN,qb,qc,qd,qm,qf,qg,qh,qi,fD,fE,fF,iD,fG,fH,fI,fJ,fK,fM,fO,fP,fQ,fT,fU,fV,fZ,gq,gu,gy,gz,gB,gD,gF,gG,gH,gI,gJ,gK,gL,gM,gN,gP,gQ,gT,gU,gV,gW,gX],[]⟩ [.inRegion oN [5],.code aN,.inBlock 1,.inLoop lN,.inBlock 0,.code rN]) (b₁.at a₁ (.inRegion bS (i₁::bU)::k₁)::cs₁)) w:=by
 have e0:(i==0)=false:=by simpa using hi
 have hz:((cfg Mu Wg ty N J ro Anch).Zw k).sy Mu:=.inl (.inl rfl);subst wM wN wO wP;simp only [LL,REST,iK,iN,jy,bY,bO,bW,bP,cu,bN,Try.f89,Option.getD_some,reduceIte,Nat.reduceEqDiff,reduceCtorEq];refine dG hne (by simp) rfl rfl λs hs hm1 hm2 hnb=>?_
 obtain ⟨v,wt,sm,jn,dn,⟨mu,ms,c0,c1,ow⟩⟩:=s;simp only at hs hm1 hm2 hnb ⊢
 by_cases hq:mu=3
 ·subst hq;have hs:MuAt 80 Mu w 3 ms:=hs;refine .inr ⟨by simp,⟨if ws then .s1 else .t1,0,0,aw,sv,0,ws⟩,13,ms,_,w.setCell (muA Mu) (.int .i32 13),_,by simp [jO],by rw [e0];exact stepG_cas_hit rfl rfl (by k_ne) rfl Try.func88 jg jh ji .i32 jk rfl rfl rfl hs.cellSt (hs.thaw 0),by simp,hs.setSt 13,Eff.set _ _ (.inl rfl),jY (C:=cfg Mu Wg ty N J ro Anch) (a:=muA Mu) (.inl rfl),?_⟩;replace hF:=hF.turn hb hs (hs.setSt 13) (Eff.set (muA Mu) _ (.inl rfl));generalize w.setCell (muA Mu) (.int .i32 13)=w₂ at hF ⊢;clear hs hm1 hm2 hnb;rw [e0];refine bL (n:=4) ?_
  walk_nrm;refine Goes.stop λw₃ h₃=>Ui hne hi hb hT (KM.rely hz hF h₃) hws ?_ ?_ ?_ ?_
  all_goals simp only [LL,REST,iK,iN,jy,bY,bO,bW,bP,cu,bN,Try.f89,Option.getD_some,reduceIte,Nat.reduceEqDiff,reduceCtorEq]
 ·have hqi:((mu:Nat):Int)≠3:=by omega
  refine .inr ⟨by simp,⟨.r3,0,0,aw,sv,it,ws⟩,mu,ms,_,w,_,by simp [jO,hq],by rw [e0];exact stepG_cas_miss rfl rfl (by k_ne) rfl Try.func88 jg jh ji .i32 jk rfl rfl rfl hs.cellSt (hs.thaw 0) hqi,by simp,hs,Eff.refl _,vv (C:=cfg Mu Wg ty N J ro Anch) (a:=muA Mu) (.inl rfl),?_⟩;clear hs hm1 hm2 hnb;rw [e0];refine bL (n:=4) ?_
  walk_nrm;refine Goes.stop λw₃ h₃=>zP hne hi hb (KM.rely hz hF h₃) hws ?_ ?_ ?_ ?_
  all_goals simp only [LL,REST,iK,iN,jy,bY,bO,bW,bP,cu,bN,Try.f89,Option.getD_some,reduceIte,Nat.reduceEqDiff,reduceCtorEq]
theorem KG (hne:Mu≠Wg) (hi:i≠0) (hb:Beside (cfg Mu Wg ty N J ro Anch) ((cfg Mu Wg ty N J ro Anch).Zw k) own) (hT:jc Mu Wg ty N J ro Anch own W0 i k c (G (b₁.at (a₁.put ((bS[i₁]?).bind (·.dst)) (.tuple #[])) (.inRegion bS bU::k₁)) cs₁))
 {n:Nat} {it:Nat} {aw sv ws:Bool} {ja:Int} {oN:Array Oper} {aN lN rN:Code} {w:World} (hF:KM 80 Mu ((cfg Mu Wg ty N J ro Anch).Zw k) own W0 w) (hws:ws=decide (ja≠0)) (wM:oN=iK 22) (wN:aN=iN 22) (wO:lN=LL) (wP:rN=REST):
 rE Try.prog (cfg Mu Wg ty N J ro Anch).sys (HX Mu Wg ty N J ro Anch own W0 i k c b₁ a₁ bS i₁ bU k₁ cs₁) i (.bd k ⟨⟨.c2,12,20,aw,sv,it,ws⟩,c,n⟩) own (G ((base 89).at ⟨#[.pointer (some ⟨Mu,0,none⟩),j1,.int .i64 ja,.bool sv,.bool aw,.int .i64 (it:Nat),.int .i32 12,j7,j8,j9,j10,j11,j12,j13,lV,lW,ku,kz,kC,kD,kE,l8,l9,mg,kF,kG,kH,kJ,kK,kL,kM,kN,kP,kQ,nM,nN,nO,nP,nQ,nR,nS,nT,nU,nV,nW,nX,nY,nZ,oh,oo,oq,ou,oz,oC,oD,oF,oG,oH,oI,oJ,oK,oO,oP,oQ,oU,oV,oW,oZ,pg,pq,pz,pE,pF,pG,pI,pJ,pK,.pointer (some (muA Mu)),.int .i32 12,.int .i32 20,tL,pM,pO,pQ,pR,pU,pV,pW,p8,p9,qa,qN,qb,qc,qd,qm,qf,qg,qh,qi,fD,fE,fF,iD,fG,fH,fI,fJ,fK,fM,fO,fP,fQ,fT,fU,fV,fZ,gq,gu,gy,gz,gB,gD,gF,gG,gH,gI,gJ,gK,gL,gM,gN,gP,gQ,gT,gU,gV,gW,gX],[]⟩ [.inRegion oN [5],.code aN,.inBlock 1,.inLoop lN,.inBlock 0,.code rN]) (b₁.at a₁ (.inRegion bS (i₁::bU)::k₁)::cs₁)) w:=by
 have e0:(i==0)=false:=by simpa using hi
 have hz:((cfg Mu Wg ty N J ro Anch).Zw k).sy Mu:=.inl (.inl rfl);subst wM wN wO wP;simp only [LL,REST,iK,iN,jy,bY,bO,bW,bP,cu,bN,Try.f89,Option.getD_some,reduceIte,Nat.reduceEqDiff,reduceCtorEq];refine dG hne (by simp) rfl rfl λs hs hm1 hm2 hnb=>?_
 obtain ⟨v,wt,sm,jn,dn,⟨mu,ms,c0,c1,ow⟩⟩:=s;simp only at hs hm1 hm2 hnb ⊢
 by_cases hq:mu=12
 ·subst hq;have hs:MuAt 80 Mu w 12 ms:=hs;refine .inr ⟨by simp,⟨if ws then .s1 else .t1,0,0,aw,sv,0,ws⟩,20,ms,_,w.setCell (muA Mu) (.int .i32 20),_,by simp [jO],by rw [e0];exact stepG_cas_hit rfl rfl (by k_ne) rfl Try.func88 jg jh ji .i32 jk rfl rfl rfl hs.cellSt (hs.thaw 0),by simp,hs.setSt 20,Eff.set _ _ (.inl rfl),jY (C:=cfg Mu Wg ty N J ro Anch) (a:=muA Mu) (.inl rfl),?_⟩;replace hF:=hF.turn hb hs (hs.setSt 20) (Eff.set (muA Mu) _ (.inl rfl));generalize w.setCell (muA Mu) (.int .i32 20)=w₂ at hF ⊢;clear hs hm1 hm2 hnb;rw [e0];refine bL (n:=4) ?_
  walk_nrm;refine Goes.stop λw₃ h₃=>WB hne hi hb hT (KM.rely hz hF h₃) hws ?_ ?_ ?_ ?_
  all_goals simp only [LL,REST,iK,iN,jy,bY,bO,bW,bP,cu,bN,Try.f89,Option.getD_some,reduceIte,Nat.reduceEqDiff,reduceCtorEq]
 ·have hqi:((mu:Nat):Int)≠12:=by omega
  refine .inr ⟨by simp,⟨.r3,0,0,aw,sv,it,ws⟩,mu,ms,_,w,_,by simp [jO,hq],by rw [e0];exact stepG_cas_miss rfl rfl (by k_ne) rfl Try.func88 jg jh ji .i32 jk rfl rfl rfl hs.cellSt (hs.thaw 0) hqi,by simp,hs,Eff.refl _,vv (C:=cfg Mu Wg ty N J ro Anch) (a:=muA Mu) (.inl rfl),?_⟩;clear hs hm1 hm2 hnb;rw [e0];refine bL (n:=4) ?_
  walk_nrm;refine Goes.stop λw₃ h₃=>zP hne hi hb (KM.rely hz hF h₃) hws ?_ ?_ ?_ ?_
  all_goals simp only [LL,REST,iK,iN,jy,bY,bO,bW,bP,cu,bN,Try.f89,Option.getD_some,reduceIte,Nat.reduceEqDiff,reduceCtorEq]
end
end Go.Proofs.Try
