/- Part 28. -/
import Derived.Test.YtnemnkmojiljmaaF20
set_option maxRecDepth 100000
set_option maxHeartbeats 8000000
set_option linter.all false
namespace Go.Proofs.Try
open Go Go.Conc Go.ConcN Go.ConcM Go.RowKit Go.Conc.Lib Go.ConcR.Gen Par
open Go.ConcR (KK wgBlock WgAt stA smA rd wr mk AtMkS)
section
variable {Mu Wg:Nat} {ty:TypeId} {N:Nat->Nat} {J:Nat->Nat->(Nat->Prop)->World->Prop} {ro:Nat->Prop} {Anch:(Nat->Prop)->Goroutine->World->Prop}
variable {own:Nat->Prop} {W0:World} {i k c:Nat} {b₁:Frame} {a₁:Act} {bS:Array Oper} {i₁:Nat} {bU:List Nat} {k₁:List Item} {cs₁:List Frame}
abbrev cfg (Mu Wg:Nat) (ty:TypeId) (N:Nat->Nat) (J:Nat->Nat->(Nat->Prop)->World->Prop) (ro:Nat->Prop) (Anch:(Nat->Prop)->Goroutine->World->Prop):EX LT MS:=qY Mu Wg 80 ty N J ro Anch
def ja (Mu Wg:Nat) (ty:TypeId) (N:Nat->Nat) (J:Nat->Nat->(Nat->Prop)->World->Prop) (ro:Nat->Prop) (Anch:(Nat->Prop)->Goroutine->World->Prop) (own:Nat->Prop) (W0:World) (i k c:Nat) (g:Goroutine):Prop:=
 ∀(o:Nat) (Gu:Nat->Prop) (W1 w:World),bZ ((cfg Mu Wg ty N J ro Anch).Zw k) own W0 W1->(∀b,Gu b->¬own b)->Jk J k c o Gu W1->KM 80 Mu ((cfg Mu Wg ty N J ro Anch).Zw k) (λb=>own b∨Gu b) W1 w->
  Gw Try.prog (i==0) ((cfg Mu Wg ty N J ro Anch).Zw k) (At Try.prog (cfg Mu Wg ty N J ro Anch).sys i (.bd k ⟨lk .ur,c,o⟩)) (λb=>own b∨Gu b) g w
variable (Mu Wg ty N J ro Anch own W0 i k c b₁ a₁ bS i₁ bU k₁ cs₁) in
inductive HdX:jY (FT LT)
 |mk {old it n:Nat} {aw sv ws:Bool} {iZ:Int} {j1 j7 j8 j9 j10 j11 j12 j13 lU lV kz kC kD kE kF l6 l7 l8 kG kH kJ kK kL kM kN kP kQ kR nJ nK nL nM nN nO nP nQ nR nS nT nU nV nW nX nY nZ oh oo oq ou oz oC oD oF oG oH oI oJ oK oO oP oQ oU oV oW oZ pg pq pz pE pF pG uk um uo tF pI pJ pK pM pO pQ pR pU pV pW qL p8 p9 qa qj qb qc qd qf fC fD fE iC fF fG fH fI fJ fK fM fO fP fQ fT fU fV fZ gq gu gy gz gB gD gF gG gH gI gJ gK gL gM gN gP gQ gT gU gV gW:Value} {w:World} (hF:KM 80 Mu ((cfg Mu Wg ty N J ro Anch).Zw k) own W0 w) (hws:ws=decide (iZ≠0)):HdX i (.bd k ⟨⟨.hd,old,0,aw,sv,it,ws⟩,c,n⟩) own
   (G ((base 89).at ⟨#[.pointer (some ⟨Mu,0,none⟩),j1,.int .i64 iZ,.bool sv,.bool aw,.int .i64 (it:Nat),.int .i32 (old:Nat),j7,j8,j9,j10,j11,j12,j13,lU,lV,kz,kC,kD,kE,kF,l6,l7,l8,kG,kH,kJ,kK,kL,kM,kN,kP,kQ,kR,nJ,nK,nL,nM,nN,nO,nP,nQ,nR,nS,nT,nU,nV,nW,nX,nY,nZ,oh,oo,oq,ou,oz,oC,oD,oF,oG,oH,oI,oJ,oK,oO,oP,oQ,oU,oV,oW,oZ,pg,pq,pz,pE,pF,pG,uk,um,uo,tF,pI,pJ,pK,pM,pO,pQ,pR,pU,pV,pW,qL,p8,p9,qa,qj,qb,qc,qd,qf,fC,fD,fE,iC,fF,fG,fH,fI,fJ,fK,fM,fO,fP,fQ,fT,fU,fV,fZ,gq,gu,gy,gz,gB,gD,gF,gG,gH,gI,gJ,gK,gL,gM,gN,gP,gQ,gT,gU,gV,gW],[]⟩ [.code LL,.inLoop LL,.inBlock 0,.code REST]) (b₁.at a₁ (.inRegion bS (i₁::bU)::k₁)::cs₁)) w
variable (Mu Wg ty N J ro Anch own W0 i k c b₁ a₁ bS i₁ bU k₁ cs₁) in
abbrev HX:jY (FT LT):=F9 Try.prog (cfg Mu Wg ty N J ro Anch).sys λi' T own' g w=>HdX Mu Wg ty N J ro Anch own W0 i k c b₁ a₁ bS i₁ bU k₁ cs₁ i' T own' g w∨At Try.prog (cfg Mu Wg ty N J ro Anch).sys i' T own' g w
end
end Go.Proofs.Try
