/- Part 35. -/
import Derived.Test.YtnemnkmojiljmaaF34
set_option maxRecDepth 100000
set_option maxHeartbeats 8000000
set_option linter.all false
namespace Go.Proofs.Try
open Go Go.Conc Go.ConcN Go.ConcM Go.RowKit Go.Conc.Lib Go.ConcR.Gen Par
open Go.ConcR (KK wgBlock WgAt stA smA rd wr mk AtMkS)
section
variable {Mu Wg:Nat} {ty:TypeId} {N:Nat->Nat} {J:Nat->Nat->(Nat->Prop)->World->Prop} {ro:Nat->Prop} {Anch:(Nat->Prop)->Goroutine->World->Prop}
variable {own:Nat->Prop} {W0:World} {i k c:Nat} {b₁:Frame} {a₁:Act} {bS:Array Oper} {i₁:Nat} {bU:List Nat} {k₁:List Item} {cs₁:List Frame}
variable {b₀:Frame} {a₀:Act} {ops₀:Array Oper} {i₀:Nat} {rest₀:List Nat} {k₀:List Item} {cs:List Frame}
theorem WG {X:jY (FT LT)} {old it n:Nat} {aw sv ws:Bool} {g:Goroutine} {w:World} (hne:Mu≠Wg) (hr:g.status= .running) (ho:g.offers=none) (h:TE old aw sv=false):
 rC Try.prog (cfg Mu Wg ty N J ro Anch).sys X i (.bd k ⟨⟨.hd,old,0,aw,sv,it,ws⟩,c,n⟩) own g w:=by
 refine dH hne (by simp) hr ho λs hs hm1 hm2 hnb=>?_
 have :=hnb _ (aB.2 rfl);simp [tu,h] at this;cases this
theorem Uk {old:Nat} {aw sv:Bool} (h:TE old aw sv≠false):(old=0∧aw=false∧sv=false)∨(old=1∧aw=false∧sv=false)∨(old=2∧aw=false∧sv=false)∨(old=2∧aw=true∧sv=false)∨(old=2∧aw=true∧sv=true)∨(old=3∧aw=true∧sv=false)∨(old=3∧aw=true∧sv=true)∨(old=12∧aw=false∧sv=false):=by
 unfold TE vo at h;split at h<;>simp_all
theorem ZU (hne:Mu≠Wg) (hi:i≠0) (hb:Beside (cfg Mu Wg ty N J ro Anch) ((cfg Mu Wg ty N J ro Anch).Zw k) own) (hT:ja Mu Wg ty N J ro Anch own W0 i k c (G (b₁.at (a₁.put ((bS[i₁]?).bind (·.dst)) (.tuple #[])) (.inRegion bS bU::k₁)) cs₁)) {Tt:FT LT} {own':Nat->Prop} {g:Goroutine} {w:World} (h:HdX Mu Wg ty N J ro Anch own W0 i k c b₁ a₁ bS i₁ bU k₁ cs₁ i Tt own' g w):At Try.prog (cfg Mu Wg ty N J ro Anch).sys i Tt own' g w:=by
 refine At.upto (X:=HdX Mu Wg ty N J ro Anch own W0 i k c b₁ a₁ bS i₁ bU k₁ cs₁) (λi' T' own' g' w' hx=>?_) h;cases hx with
 | @mk old it n aw sv ws iZ j1 j7 j8 j9 j10 j11 j12 j13 lU lV kz kC kD kE kF l6 l7 l8 kG kH kJ kK kL kM kN kP kQ kR nJ nK nL nM nN nO nP nQ nR nS nT nU nV nW nX nY nZ oh oo oq ou oz oC oD oF oG oH oI oJ oK oO oP oQ oU oV oW oZ pg pq pz pE pF pG uk um uo tF pI pJ pK pM pO pQ pR pU pV pW qL p8 p9 qa qj qb qc qd qf fC fD fE iC fF fG fH fI fJ fK fM fO fP fQ fT fU fV fZ gq gu gy gz gB gD gF gG gH gI gJ gK gL gM gN gP gQ gT gU gV gW w hF hws=>
   by_cases hk:TE old aw sv=false
   ·exact WG hne rfl rfl hk
   rcases Uk hk with ⟨rfl,rfl,rfl⟩|⟨rfl,rfl,rfl⟩|⟨rfl,rfl,rfl⟩|⟨rfl,rfl,rfl⟩|⟨rfl,rfl,rfl⟩|⟨rfl,rfl,rfl⟩|⟨rfl,rfl,rfl⟩|⟨rfl,rfl,rfl⟩
   ·exact Qy hne hi hb hT hF hws
   ·exact QC hne hi hb hT hF hws
   ·exact Qz hne hi hb hT hF hws
   ·exact QA hne hi hb hT hF hws
   ·exact QB hne hi hb hT hF hws
   ·exact QD hne hi hb hT hF hws
   ·exact QE hne hi hb hT hF hws
   ·exact Nc hne hi hb hT hF hws
theorem ZV (hne:Mu≠Wg) (hi:i≠0) (hb:Beside (cfg Mu Wg ty N J ro Anch) ((cfg Mu Wg ty N J ro Anch).Zw k) own) (hT:ja Mu Wg ty N J ro Anch own W0 i k c (G (b₁.at (a₁.put ((bS[i₁]?).bind (·.dst)) (.tuple #[])) (.inRegion bS bU::k₁)) cs₁)) {n:Nat} {w:World} (hF:KM 80 Mu ((cfg Mu Wg ty N J ro Anch).Zw k) own W0 w):
 Gw Try.prog false ((cfg Mu Wg ty N J ro Anch).Zw k) (At Try.prog (cfg Mu Wg ty N J ro Anch).sys i (.bd k ⟨lk .r0,c,n⟩)) own (G ((base 89).at ⟨#[.pointer (some ⟨Mu,0,none⟩),undef,undef,undef,undef,undef,undef,undef,undef,undef,undef,undef,undef,undef,undef,undef,undef,undef,undef,undef,undef,undef,undef,undef,undef,undef,undef,undef,undef,undef,undef,undef,undef,undef,undef,undef,undef,undef,undef,undef,undef,undef,undef,undef,undef,undef,undef,undef,undef,undef,undef,undef,undef,undef,undef,undef,undef,undef,undef,undef,undef,undef,undef,undef,undef,undef,undef,undef,undef,undef,undef,undef,undef,undef,undef,undef,undef,undef,undef,undef,undef,undef,undef,undef,undef,undef,undef,undef,undef,undef,undef,undef,undef,undef,undef,undef,undef,undef,undef,undef,undef,undef,undef,undef,undef,undef,undef,undef,undef,undef,undef,undef,undef,undef,undef,undef,undef,undef,undef,undef,undef,undef,undef,undef,undef,undef,undef,undef,undef,undef,undef,undef,undef,undef,undef,undef,undef,undef,undef],[]⟩ [.code bY]) (b₁.at a₁ (.inRegion bS (i₁::bU)::k₁)::cs₁)) w:=by
 have e0:(i==0)=false:=by simpa using hi
 have hz:((cfg Mu Wg ty N J ro Anch).Zw k).sy Mu:=.inl (.inl rfl);simp only [bY,Try.f89,Option.getD_some];refine bL (n:=60) ?_
 repeat w_go (KM.rely hz)
 refine Goes.stop (λw₁ h₁=>?_);replace hF:=KM.rely hz hF h₁;clear h₁;refine Gw.stop λw₁ h₁=>At.of_law (dH hne (by simp) rfl rfl λs hs hm1 hm2 hnb=>.inr ⟨by simp,_,_,_,_,w₁,#[],aB.2 rfl,by rw [e0];exact gZ rfl rfl (by k_ne) rfl rfl hs.cellSt iT,by simp,hs,Eff.refl _,(λe he=>by simp at he),?_⟩)
 replace hF:=KM.rely hz hF h₁;clear h₁;rw [e0];refine bL (n:=60) ?_
 walk_nrm
 repeat w_but "code.loop" (KM.rely hz)
 u_c stepG_loop (KM.rely hz) hF
 exact Goes.stop λw₃ h₃=>.stop λw₄ h₄=>ZU hne hi hb hT (.mk (iZ:=0) (KM.rely hz (KM.rely hz hF h₃) h₄) rfl)
noncomputable def Oy:Code:=Try.f40.body.getD .skip
theorem ZX (hne:Mu≠Wg) (hi:i≠0) (hb:Beside (cfg Mu Wg ty N J ro Anch) ((cfg Mu Wg ty N J ro Anch).Zw k) own) (hT:ja Mu Wg ty N J ro Anch own W0 i k c (G (b₀.at (a₀.put ((ops₀[i₀]?).bind (·.dst)) (.tuple #[])) (.inRegion ops₀ rest₀::k₀)) cs)) {n:Nat} {w:World} (hF:KM 80 Mu ((cfg Mu Wg ty N J ro Anch).Zw k) own W0 w):
 Gw Try.prog false ((cfg Mu Wg ty N J ro Anch).Zw k) (At Try.prog (cfg Mu Wg ty N J ro Anch).sys i (.bd k ⟨lk .ld,c,n⟩)) own (G ((base 40).at ⟨#[.pointer (some ⟨Mu,0,none⟩),undef,undef,undef,undef,undef],[]⟩ [.code Oy]) (b₀.at a₀ (.inRegion ops₀ (i₀::rest₀)::k₀)::cs)) w:=by
 have e0:(i==0)=false:=by simpa using hi
 have hz:((cfg Mu Wg ty N J ro Anch).Zw k).sy Mu:=.inl (.inl rfl);simp only [Oy,Try.f40,Option.getD_some];refine bL (n:=40) ?_
 repeat w_go (KM.rely hz)
 u_call Try.func70 TM Try.f70 (KM.rely hz) hF
 repeat w_go (KM.rely hz)
 refine Goes.stop (λw₁ h₁=>?_);replace hF:=KM.rely hz hF h₁;clear h₁;refine Gw.stop λw₁ h₁=>At.of_law (dH hne (by simp) rfl rfl λs hs hm1 hm2 hnb=>.inr ⟨by simp,_,_,_,_,w₁,_,aB.2 rfl,by rw [e0];exact stepG_mark0 .disable (by simp) rfl rfl (by k_ne) rfl Try.iB.f_disable (x_disable_n Try.link) (x_disable_b Try.link) (x_disable_x Try.link) (x_disable_f Try.link),by simp,hs,Eff.refl _,rfl,?_⟩)
 replace hF:=KM.rely hz hF h₁;clear h₁;clear hs hm1 hm2 hnb s;rw [e0];refine bL (n:=30) ?_
 walk_nrm
 repeat w_go (KM.rely hz)
 refine Goes.stop (λw₁ h₁=>?_);replace hF:=KM.rely hz hF h₁;clear h₁;refine Gw.stop λw₁ h₁=>At.of_law (dH hne (by simp) rfl rfl λs hs hm1 hm2 hnb=>?_)
 replace hF:=KM.rely hz hF h₁;clear h₁;obtain ⟨v,wt,sm,jn,dn,⟨mu,ms,c0,c1,ow⟩⟩:=s;simp only at hs hm1 hm2 hnb ⊢
 by_cases hq:mu=0
 ·subst hq;have hs:MuAt 80 Mu w₁ 0 ms:=hs;refine .inr ⟨by simp,lk .le,1,ms,_,w₁.setCell (muA Mu) (.int .i32 1),_,by simp [jO],by rw [e0];exact stepG_cas_hit rfl rfl (by k_ne) rfl Try.func88 jf jg jh .i32 ji rfl rfl rfl hs.cellSt (hs.thaw 0),by simp,hs.setSt 1,Eff.set _ _ (.inl rfl),jZ (C:=cfg Mu Wg ty N J ro Anch) (a:=muA Mu) (.inl rfl),?_⟩;replace hF:=hF.turn hb hs (hs.setSt 1) (Eff.set (muA Mu) _ (.inl rfl));generalize w₁.setCell (muA Mu) (.int .i32 1)=w₂ at hF ⊢;clear hs hm1 hm2 hnb;rw [e0];refine bL (n:=30) ?_
  walk_nrm
  repeat w_go (KM.rely hz)
  refine Goes.stop (λw₁ h₁=>?_);replace hF:=KM.rely hz hF h₁;clear h₁;refine Gw.stop λw₁ h₁=>At.of_law (dH hne (by simp) rfl rfl λs hs hm1 hm2 hnb=>.inr ⟨by simp,_,_,_,_,w₁,_,aB.2 rfl,by rw [e0];exact stepG_mark0 .enable (by simp) rfl rfl (by k_ne) rfl Try.iB.f_enable (x_enable_n Try.link) (x_enable_b Try.link) (x_enable_x Try.link) (x_enable_f Try.link),by simp,hs,Eff.refl _,rfl,?_⟩)
  replace hF:=KM.rely hz hF h₁;clear h₁;clear hs hm1 hm2 hnb s;rw [e0];refine bL (n:=30) ?_
  walk_nrm
  repeat w_go (KM.rely hz)
  m_convG Try.prog Try.iB.underlying_tUP xV CR hF.mu.choose_spec (KM.rely hz) hF
  refine Goes.stop (λw₁ h₁=>?_);replace hF:=KM.rely hz hF h₁;clear h₁;refine Gw.stop λw₁ h₁=>At.of_law (MX hne rfl rfl rfl λs hs hc=>⟨_,by rw [e0];exact stepG_markAt .acquire (by simp) rfl rfl (by k_ne) rfl Try.iB.f_acquire (x_acquire_n Try.link) (x_acquire_b Try.link) (x_acquire_x Try.link) (x_acquire_f Try.link) (by simp [Act.eval,muA]), λGu Hg hJ=>?_⟩)
  replace hF:=KM.rely hz hF h₁;clear h₁;have Qv:=hF.1;replace hF:KM 80 Mu ((cfg Mu Wg ty N J ro Anch).Zw k) (λb=>own b∨Gu b) w₁ w₁:=⟨bZ.refl _,hF.2⟩;rw [e0];refine bL (n:=30) ?_
  walk_nrm
  repeat w_go (KM.rely hz)
  u_leave0 Try.func70 (KM.rely hz) hF
  repeat w_go (KM.rely hz)
  u_leave0 Try.func40 (KM.rely hz) hF
  exact Goes.stop λw₃ h₃=>(e0 ▸ hT _ _ _ _ Qv Hg hJ (KM.rely hz hF h₃))
 ·have hqi:((mu:Nat):Int)≠0:=by omega
  refine .inr ⟨by simp,lk .r0,mu,ms,_,w₁,_,by simp [jO,hq],by rw [e0];exact stepG_cas_miss rfl rfl (by k_ne) rfl Try.func88 jf jg jh .i32 ji rfl rfl rfl hs.cellSt (hs.thaw 0) hqi,by simp,hs,Eff.refl _,vk (C:=cfg Mu Wg ty N J ro Anch) (a:=muA Mu) (.inl rfl),?_⟩;clear hs hm1 hm2 hnb;rw [e0];refine bL (n:=80) ?_
  walk_nrm
  repeat w_go (KM.rely hz)
  u_call Try.func89 KG Try.f89 (KM.rely hz) hF
  refine Goes.stop λw₃ h₃=>ZV hne hi hb ?_ (KM.rely hz hF h₃)
  intro o Gu W1 w h1 h2 h3 hF;rw [e0];refine bL (n:=40) ?_
  walk_nrm
  repeat w_go (KM.rely hz)
  u_leave0 Try.func70 (KM.rely hz) hF
  repeat w_go (KM.rely hz)
  u_leave0 Try.func40 (KM.rely hz) hF
  exact Goes.stop λw₄ h₄=>(e0 ▸ hT _ _ _ _ h1 h2 h3 (KM.rely hz hF h₄))
end
end Go.Proofs.Try
