/- Part 25. -/
import Derived.Test.YtnemnkmojiljmaaGreatB19
set_option maxRecDepth 100000
set_option maxHeartbeats 0
set_option linter.all false
namespace Go.Proofs.Tryz
open Go Go.Conc Go.ConcN Go.ConcM Go.RowKit Go.Conc.Lib Go.ConcR.Gen Par
open Go.ConcR (KK wgBlock WgAt stA smA rd wr mk AtMkS)
section
variable {Mu Wg:Nat} {ty:TypeId} {N:Nat->Nat} {J:Nat->Nat->(Nat->Prop)->World->Prop} {ro:Nat->Prop} {Anch:(Nat->Prop)->Goroutine->World->Prop}
variable {own:Nat->Prop} {W0:World} {i k c:Nat} {b₁:Frame} {a₁:Act} {dQ:Array Oper} {i₁:Nat} {dS:List Nat} {k₁:List Item} {cs₁:List Frame}
abbrev cfg (Mu Wg:Nat) (ty:TypeId) (N:Nat->Nat) (J:Nat->Nat->(Nat->Prop)->World->Prop) (ro:Nat->Prop) (Anch:(Nat->Prop)->Goroutine->World->Prop):Gq LT MS:=tu Mu Wg 97 ty N J ro Anch
def kC (Mu Wg:Nat) (ty:TypeId) (N:Nat->Nat) (J:Nat->Nat->(Nat->Prop)->World->Prop) (ro:Nat->Prop) (Anch:(Nat->Prop)->Goroutine->World->Prop) (own:Nat->Prop) (W0:World) (i k c:Nat) (g:Goroutine):Prop:=
 ∀(o:Nat) (Gu:Nat->Prop) (W1 w:World),dZ ((cfg Mu Wg ty N J ro Anch).Zw k) own W0 W1->(∀b,Gu b->¬own b)->Jk J k c o Gu W1->KM 97 Mu ((cfg Mu Wg ty N J ro Anch).Zw k) (λb=>own b∨Gu b) W1 w->
  Gw Tryz.prog (i==0) ((cfg Mu Wg ty N J ro Anch).Zw k) (At Tryz.prog (cfg Mu Wg ty N J ro Anch).sys i (.bd k ⟨lk .ur,c,o⟩)) (λb=>own b∨Gu b) g w
variable (Mu Wg ty N J ro Anch own W0 i k c b₁ a₁ dQ i₁ dS k₁ cs₁) in
inductive HdX:lW (FT LT)
 |mk {old it n:Nat} {aw sv ws:Bool} {kz:Int} {j1 j7 j8 j9 j10 j11 j12 j13 nJ nK l6 l7 l8 l9 mg nO nP nQ mh mo mq mD mE mF mG mH mJ mK pQ pR pU pV pW pX pY p8 p9 qa qb qc qd qf qg qh qi qj ql qm qx qy qz qA qB qC qD qE qF qG qH qI qJ qK qL qM qN qO qP qQ qR qU qV vM vN vO vg qW qX qY qZ rq ru ry rz rA rC sK rD rE rF rT rG rH rJ rM gW gX gY jA gZ ic ig iq iy iA iB iC iD iE iF iG iH iI iJ iK iL iM iN iO iP iQ iR iT iU iV iW iX iY iZ ja jc jd je jf:Value} {w:World} (hF:KM 97 Mu ((cfg Mu Wg ty N J ro Anch).Zw k) own W0 w) (hws:ws=decide (kz≠0)):HdX i (.bd k ⟨⟨.hd,old,0,aw,sv,it,ws⟩,c,n⟩) own
   (G ((base 128).at ⟨#[.pointer (some ⟨Mu,0,none⟩),j1,.int .i64 kz,.bool sv,.bool aw,.int .i64 (it:Nat),.int .i32 (old:Nat),j7,j8,j9,j10,j11,j12,j13,nJ,nK,l6,l7,l8,l9,mg,nO,nP,nQ,mh,mo,mq,mD,mE,mF,mG,mH,mJ,mK,pQ,pR,pU,pV,pW,pX,pY,p8,p9,qa,qb,qc,qd,qf,qg,qh,qi,qj,ql,qm,qx,qy,qz,qA,qB,qC,qD,qE,qF,qG,qH,qI,qJ,qK,qL,qM,qN,qO,qP,qQ,qR,qU,qV,vM,vN,vO,vg,qW,qX,qY,qZ,rq,ru,ry,rz,rA,rC,sK,rD,rE,rF,rT,rG,rH,rJ,rM,gW,gX,gY,jA,gZ,ic,ig,iq,iy,iA,iB,iC,iD,iE,iF,iG,iH,iI,iJ,iK,iL,iM,iN,iO,iP,iQ,iR,iT,iU,iV,iW,iX,iY,iZ,ja,jc,jd,je,jf],[]⟩ [.code LL,.inLoop LL,.inBlock 0,.code REST]) (b₁.at a₁ (.inRegion dQ (i₁::dS)::k₁)::cs₁)) w
variable (Mu Wg ty N J ro Anch own W0 i k c b₁ a₁ dQ i₁ dS k₁ cs₁) in
abbrev HX:lW (FT LT):=Il Tryz.prog (cfg Mu Wg ty N J ro Anch).sys λi' T dL g w=>HdX Mu Wg ty N J ro Anch own W0 i k c b₁ a₁ dQ i₁ dS k₁ cs₁ i' T dL g w∨At Tryz.prog (cfg Mu Wg ty N J ro Anch).sys i' T dL g w
end
end Go.Proofs.Tryz
