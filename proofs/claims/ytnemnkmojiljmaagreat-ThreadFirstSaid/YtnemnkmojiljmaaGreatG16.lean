/- Part 16. -/
import Derived.Test.YtnemnkmojiljmaaGreatG08
set_option maxRecDepth 100000
set_option maxHeartbeats 0
set_option linter.all false
namespace Go.Proofs.Tryz
open Go Go.Conc Go.ConcN Go.ConcM Go.RowKit Go.Conc.Lib Go.ConcR.Gen Par
open Go.ConcR (KK wgBlock WgAt stA smA rd wr mk AtMkS)
section
variable {Mu Wg:Nat} {ty:TypeId} {N:Nat->Nat} {J:Nat->Nat->(Nat->Prop)->World->Prop} {ro:Nat->Prop} {Anch:(Nat->Prop)->Goroutine->World->Prop}
variable {own:Nat->Prop} {W0:World} {i k c:Nat} {b₀:Frame} {a₀:Act} {ops₀:Array Oper} {i₀:Nat} {rest₀:List Nat} {k₀:List Item} {cs:List Frame}
theorem Sk {Z:gG} {own dK:Nat->Prop} {a b:World} (h:dZ Z own a b) (hs:∀x,dK x->own x):dZ Z dK a b:=⟨h.tape,h.out,h.os,h.size, λx hx=>h.own x (hs x hx),h.ro,h.sy,h.cl⟩
noncomputable def Qn:Code:=Tryz.f68.body.getD .skip
theorem MN (hne:Mu≠Wg) (hi:i≠0) (hb:Beside (cfg Mu Wg ty N J ro Anch) ((cfg Mu Wg ty N J ro Anch).Zw k) own) {n:Nat} {Gu:Nat->Prop} (JH:∀b,Gu b->own b) (hJ:∀w,KM 97 Mu ((cfg Mu Wg ty N J ro Anch).Zw k) own W0 w->Jk J k (c+1) n Gu w)
 (hT:∀w,KM 97 Mu ((cfg Mu Wg ty N J ro Anch).Zw k) (λb=>own b∧¬Gu b) W0 w->Gw Tryz.prog (i==0) ((cfg Mu Wg ty N J ro Anch).Zw k) (At Tryz.prog (cfg Mu Wg ty N J ro Anch).sys i (vU N k (c+1) n)) (λb=>own b∧¬Gu b) (G (b₀.at (a₀.put ((ops₀[i₀]?).bind (·.dst)) (.tuple #[])) (.inRegion ops₀ rest₀::k₀)) cs) w) {w:World} (hF:KM 97 Mu ((cfg Mu Wg ty N J ro Anch).Zw k) own W0 w):
 Gw Tryz.prog false ((cfg Mu Wg ty N J ro Anch).Zw k) (At Tryz.prog (cfg Mu Wg ty N J ro Anch).sys i (.bd k ⟨lk .ur,c,n⟩)) own (G ((base 68).at ⟨#[.pointer (some ⟨Mu,0,none⟩),undef,undef,undef,undef,undef],[]⟩ [.code Qn]) (b₀.at a₀ (.inRegion ops₀ (i₀::rest₀)::k₀)::cs)) w:=by
 have e0:(i==0)=false:=by simpa using hi
 have hz:((cfg Mu Wg ty N J ro Anch).Zw k).sy Mu:=.inl (.inl rfl);simp only [Qn,Tryz.f68,ak];refine dG (n:=60) ?_
 repeat w_go (dD hz)
 u_call Tryz.func106 OB Tryz.f106 (dD hz) hF
 repeat w_go (dD hz)
 u_in (dD hz) hF
 obtain ⟨x0,hx0⟩:=hF.muI;rw [jv rfl rfl (by k_ne) rfl rfl hx0 R5];simp only [goes_go];refine ⟨⟨rfl,rfl⟩,?_⟩;clear hx0;walk_nrm
 repeat w_go (dD hz)
 m_convG Tryz.prog Tryz.jG.underlying_tUP zI ER hF.mu.choose_spec (dD hz) hF
 refine cZ (λw₁ h₁=>?_);replace hF:=dD hz hF h₁;clear h₁;refine Gw.stop λw₁ h₁=>At.of_law (?_)
 replace hF:=dD hz hF h₁;clear h₁;refine ax4 hne rfl rfl rfl JH (hJ _ hF) ⟨_,by rw [e0];exact stepG_markAt .releaseMerge (by simp) rfl rfl (by k_ne) rfl Tryz.jG.f_relMerge (x_relMerge_n Tryz.link) (x_relMerge_b Tryz.link) (x_relMerge_x Tryz.link) (x_relMerge_f Tryz.link) (by simp [Act.eval,muA]),?_⟩;replace hF:KM 97 Mu ((cfg Mu Wg ty N J ro Anch).Zw k) (λb=>own b∧¬Gu b) W0 w₁:=⟨Sk hF.1 λ_ h=>h.1,hF.2⟩;replace hb:Beside (cfg Mu Wg ty N J ro Anch) ((cfg Mu Wg ty N J ro Anch).Zw k) (λb=>own b∧¬Gu b):=⟨λb h=>hb.own b h.1,hb.ro,hb.cl⟩;clear hJ;rw [e0];refine dG (n:=30) ?_
 walk_nrm
 repeat w_go (dD hz)
 refine cZ (λw₁ h₁=>?_);replace hF:=dD hz hF h₁;clear h₁;refine Gw.stop λw₁ h₁=>At.of_law (fI hne (by simp) rfl rfl λs hs hm1 hm2 hnb=>.inr ⟨by simp,_,_,_,_,w₁,_,aS.2 rfl,by rw [e0];exact stepG_mark0 .disable (by simp) rfl rfl (by k_ne) rfl Tryz.jG.f_disable (x_disable_n Tryz.link) (x_disable_b Tryz.link) (x_disable_x Tryz.link) (x_disable_f Tryz.link),by simp,hs,Eff.refl _,rfl,?_⟩)
 replace hF:=dD hz hF h₁;clear h₁;clear hs hm1 hm2 hnb s;rw [e0];refine dG (n:=30) ?_
 walk_nrm
 repeat w_go (dD hz)
 refine cZ (λw₁ h₁=>?_);replace hF:=dD hz hF h₁;clear h₁;refine Gw.stop λw₁ h₁=>At.of_law (fI hne (by simp) rfl rfl λs hs hm1 hm2 hnb=>?_)
 replace hF:=dD hz hF h₁;clear h₁;obtain ⟨v,wt,sm,jn,dn,⟨mu,ms,c0,c1,ow⟩⟩:=s;simp only at hs hm1 hm2 hnb ⊢
 by_cases hq:mu=1
 ·subst hq;have hs:MuAt 97 Mu w₁ 1 ms:=hs;have ew:IntKind.i32.wrap (1+ -1)=0:=by decide
  refine .inr ⟨by simp,lk .ue,0,ms,_,w₁.setCell (muA Mu) (.int .i32 0),_,by simp [lT],by rw [e0];exact (stepG_add_atomic rfl rfl (by k_ne) rfl Tryz.func129 vY vZ wh .i32 wm rfl rfl hs.cellSt (hs.thaw 0)).trans (by rw [ew];first |done|rfl),by simp,hs.setSt 0,Eff.set _ _ (.inl rfl),mo (C:=cfg Mu Wg ty N J ro Anch) (a:=muA Mu) (.inl rfl),?_⟩;replace hF:=hF.turn hb hs (hs.setSt 0) (Eff.set (muA Mu) _ (.inl rfl));generalize w₁.setCell (muA Mu) (.int .i32 0)=w₂ at hF ⊢;clear hs hm1 hm2 hnb ew;rw [e0];refine dG (n:=100) ?_
  walk_nrm
  repeat w_go (dD hz)
  refine cZ (λw₁ h₁=>?_);replace hF:=dD hz hF h₁;clear h₁;refine Gw.stop λw₁ h₁=>At.of_law (Yq hne rfl rfl rfl ⟨_,by rw [e0];exact stepG_mark0 .enable (by simp) rfl rfl (by k_ne) rfl Tryz.jG.f_enable (x_enable_n Tryz.link) (x_enable_b Tryz.link) (x_enable_x Tryz.link) (x_enable_f Tryz.link),?_⟩)
  replace hF:=dD hz hF h₁;clear h₁;rw [e0];refine dG (n:=30) ?_
  walk_nrm
  repeat w_go (dD hz)
  u_leave0 Tryz.func106 (dD hz) hF
  repeat w_go (dD hz)
  u_leave0 Tryz.func68 (dD hz) hF
  exact cZ λw₃ h₃=>(e0 ▸ hT _ (dD hz hF h₃))
 by_cases hq:mu=3
 ·subst hq;have hs:MuAt 97 Mu w₁ 3 ms:=hs;have ew:IntKind.i32.wrap (3+ -1)=2:=by decide
  refine .inr ⟨by simp,lk .ue,2,ms,_,w₁.setCell (muA Mu) (.int .i32 2),_,by simp [lT],by rw [e0];exact (stepG_add_atomic rfl rfl (by k_ne) rfl Tryz.func129 vY vZ wh .i32 wm rfl rfl hs.cellSt (hs.thaw 0)).trans (by rw [ew];first |done|rfl),by simp,hs.setSt 2,Eff.set _ _ (.inl rfl),mo (C:=cfg Mu Wg ty N J ro Anch) (a:=muA Mu) (.inl rfl),?_⟩;replace hF:=hF.turn hb hs (hs.setSt 2) (Eff.set (muA Mu) _ (.inl rfl));generalize w₁.setCell (muA Mu) (.int .i32 2)=w₂ at hF ⊢;clear hs hm1 hm2 hnb ew;rw [e0];refine dG (n:=100) ?_
  walk_nrm
  repeat w_go (dD hz)
  u_call Tryz.func130 wO Tryz.f130 (dD hz) hF
  repeat w_go (dD hz)
  u_leave0 Tryz.func130 (dD hz) hF
  repeat w_go (dD hz)
  refine cZ (λw₁ h₁=>?_);replace hF:=dD hz hF h₁;clear h₁;refine Gw.stop λw₁ h₁=>At.of_law (Yq hne rfl rfl rfl ⟨_,by rw [e0];exact stepG_mark0 .enable (by simp) rfl rfl (by k_ne) rfl Tryz.jG.f_enable (x_enable_n Tryz.link) (x_enable_b Tryz.link) (x_enable_x Tryz.link) (x_enable_f Tryz.link),?_⟩)
  replace hF:=dD hz hF h₁;clear h₁;rw [e0];refine dG (n:=30) ?_
  walk_nrm
  repeat w_go (dD hz)
  u_leave0 Tryz.func106 (dD hz) hF
  repeat w_go (dD hz)
  u_leave0 Tryz.func68 (dD hz) hF
  exact cZ λw₃ h₃=>(e0 ▸ hT _ (dD hz hF h₃))
 by_cases hq:mu=9
 ·subst hq;have hs:MuAt 97 Mu w₁ 9 ms:=hs;have ew:IntKind.i32.wrap (9+ -1)=8:=by decide
  refine .inr ⟨by simp,⟨.uc,8,2,false,false,0,false⟩,8,ms,_,w₁.setCell (muA Mu) (.int .i32 8),_,by simp [lT],by rw [e0];exact (stepG_add_atomic rfl rfl (by k_ne) rfl Tryz.func129 vY vZ wh .i32 wm rfl rfl hs.cellSt (hs.thaw 0)).trans (by rw [ew];first |done|rfl),by simp,hs.setSt 8,Eff.set _ _ (.inl rfl),mo (C:=cfg Mu Wg ty N J ro Anch) (a:=muA Mu) (.inl rfl),?_⟩;replace hF:=hF.turn hb hs (hs.setSt 8) (Eff.set (muA Mu) _ (.inl rfl));generalize w₁.setCell (muA Mu) (.int .i32 8)=w₂ at hF ⊢;clear hs hm1 hm2 hnb ew;rw [e0];refine dG (n:=100) ?_
  walk_nrm
  repeat w_go (dD hz)
  u_call Tryz.func130 wO Tryz.f130 (dD hz) hF
  repeat w_go (dD hz)
  try m_num
  repeat w_go (dD hz)
  refine cZ (λw₁ h₁=>?_);replace hF:=dD hz hF h₁;clear h₁;refine Gw.stop λw₁ h₁=>At.of_law (fI hne (by simp) rfl rfl λs hs hm1 hm2 hnb=>?_)
  replace hF:=dD hz hF h₁;clear h₁;obtain ⟨v,wt,sm,jn,dn,⟨mu,ms,c0,c1,ow⟩⟩:=s;simp only at hs hm1 hm2 hnb ⊢
  by_cases hq:mu=8
  ·subst hq;have hs:MuAt 97 Mu w₁ 8 ms:=hs;refine .inr ⟨by simp,lk .us,2,ms,_,w₁.setCell (muA Mu) (.int .i32 2),_,by simp [lT],by rw [e0];exact stepG_cas_hit rfl rfl (by k_ne) rfl Tryz.func127 kM kN kP .i32 kQ rfl rfl rfl hs.cellSt (hs.thaw 0),by simp,hs.setSt 2,Eff.set _ _ (.inl rfl),mo (C:=cfg Mu Wg ty N J ro Anch) (a:=muA Mu) (.inl rfl),?_⟩;replace hF:=hF.turn hb hs (hs.setSt 2) (Eff.set (muA Mu) _ (.inl rfl));generalize w₁.setCell (muA Mu) (.int .i32 2)=w₂ at hF ⊢;clear hs hm1 hm2 hnb;rw [e0];refine dG (n:=40) ?_
   walk_nrm
   repeat w_go (dD hz)
   refine cZ (λw₁ h₁=>?_);replace hF:=dD hz hF h₁;clear h₁;refine Gw.stop λw₁ h₁=>At.of_law (fI hne (by simp) rfl rfl λs hs hm1 hm2 hnb=>?_)
   replace hF:=dD hz hF h₁;clear h₁;have hw1:IntKind.u32.wrap (((s.b.ms:Nat):Int)+1)=((s.b.ms+1:Nat):Int):=by rw [IntKind.wrap_u32];omega
   refine .inr ⟨by simp,lk .ue,s.b.mu,s.b.ms+1,_,w₁.setCell (msA Mu) (.int .u32 ((s.b.ms+1:Nat):Int)),_,by simp [lT],by rw [e0];exact (stepG_semrelease rfl rfl (by k_ne) rfl Tryz.func142 GZ yD G5 G6 (by simp [Act.eval,msA]) hs.cellSm (hs.thaw 1)).trans (by rw [hw1];first |done|rfl), λ_=>mayWake_entry rfl rfl Tryz.func142 yD,hs.setSm _,Eff.set _ _ (.inl rfl),⟨msA Mu,.inl rfl,rfl⟩,?_⟩;replace hF:=hF.turn hb hs (hs.setSm ((s.b.ms+1:Nat):Int)) (Eff.set (msA Mu) _ (.inl rfl));generalize w₁.setCell (msA Mu) (.int .u32 ((s.b.ms+1:Nat):Int))=w₂ at hF ⊢;clear hs hm1 hm2 hnb hw1 s;rw [e0];refine dG (n:=40) ?_
   walk_nrm
   repeat w_go (dD hz)
   u_leave0 Tryz.func130 (dD hz) hF
   repeat w_go (dD hz)
   refine cZ (λw₁ h₁=>?_);replace hF:=dD hz hF h₁;clear h₁;refine Gw.stop λw₁ h₁=>At.of_law (Yq hne rfl rfl rfl ⟨_,by rw [e0];exact stepG_mark0 .enable (by simp) rfl rfl (by k_ne) rfl Tryz.jG.f_enable (x_enable_n Tryz.link) (x_enable_b Tryz.link) (x_enable_x Tryz.link) (x_enable_f Tryz.link),?_⟩)
   replace hF:=dD hz hF h₁;clear h₁;rw [e0];refine dG (n:=30) ?_
   walk_nrm
   repeat w_go (dD hz)
   u_leave0 Tryz.func106 (dD hz) hF
   repeat w_go (dD hz)
   u_leave0 Tryz.func68 (dD hz) hF
   exact cZ λw₃ h₃=>(e0 ▸ hT _ (dD hz hF h₃))
  have :=hnb (lk .bad,mu,ms) (by simp [lT,hq]);cases this
 by_cases hq:mu=13
 ·subst hq;have hs:MuAt 97 Mu w₁ 13 ms:=hs;have ew:IntKind.i32.wrap (13+ -1)=12:=by decide
  refine .inr ⟨by simp,lk .us,12,ms,_,w₁.setCell (muA Mu) (.int .i32 12),_,by simp [lT],by rw [e0];exact (stepG_add_atomic rfl rfl (by k_ne) rfl Tryz.func129 vY vZ wh .i32 wm rfl rfl hs.cellSt (hs.thaw 0)).trans (by rw [ew];first |done|rfl),by simp,hs.setSt 12,Eff.set _ _ (.inl rfl),mo (C:=cfg Mu Wg ty N J ro Anch) (a:=muA Mu) (.inl rfl),?_⟩;replace hF:=hF.turn hb hs (hs.setSt 12) (Eff.set (muA Mu) _ (.inl rfl));generalize w₁.setCell (muA Mu) (.int .i32 12)=w₂ at hF ⊢;clear hs hm1 hm2 hnb ew;rw [e0];refine dG (n:=100) ?_
  walk_nrm
  repeat w_go (dD hz)
  u_call Tryz.func130 wO Tryz.f130 (dD hz) hF
  repeat w_go (dD hz)
  refine cZ (λw₁ h₁=>?_);replace hF:=dD hz hF h₁;clear h₁;refine Gw.stop λw₁ h₁=>At.of_law (fI hne (by simp) rfl rfl λs hs hm1 hm2 hnb=>?_)
  replace hF:=dD hz hF h₁;clear h₁;have hw1:IntKind.u32.wrap (((s.b.ms:Nat):Int)+1)=((s.b.ms+1:Nat):Int):=by rw [IntKind.wrap_u32];omega
  refine .inr ⟨by simp,lk .ue,s.b.mu,s.b.ms+1,_,w₁.setCell (msA Mu) (.int .u32 ((s.b.ms+1:Nat):Int)),_,by simp [lT],by rw [e0];exact (stepG_semrelease rfl rfl (by k_ne) rfl Tryz.func142 GZ yD G5 G6 (by simp [Act.eval,msA]) hs.cellSm (hs.thaw 1)).trans (by rw [hw1];first |done|rfl), λ_=>mayWake_entry rfl rfl Tryz.func142 yD,hs.setSm _,Eff.set _ _ (.inl rfl),⟨msA Mu,.inl rfl,rfl⟩,?_⟩;replace hF:=hF.turn hb hs (hs.setSm ((s.b.ms+1:Nat):Int)) (Eff.set (msA Mu) _ (.inl rfl));generalize w₁.setCell (msA Mu) (.int .u32 ((s.b.ms+1:Nat):Int))=w₂ at hF ⊢;clear hs hm1 hm2 hnb hw1 s;rw [e0];refine dG (n:=40) ?_
  walk_nrm
  repeat w_go (dD hz)
  u_leave0 Tryz.func130 (dD hz) hF
  repeat w_go (dD hz)
  refine cZ (λw₁ h₁=>?_);replace hF:=dD hz hF h₁;clear h₁;refine Gw.stop λw₁ h₁=>At.of_law (Yq hne rfl rfl rfl ⟨_,by rw [e0];exact stepG_mark0 .enable (by simp) rfl rfl (by k_ne) rfl Tryz.jG.f_enable (x_enable_n Tryz.link) (x_enable_b Tryz.link) (x_enable_x Tryz.link) (x_enable_f Tryz.link),?_⟩)
  replace hF:=dD hz hF h₁;clear h₁;rw [e0];refine dG (n:=30) ?_
  walk_nrm
  repeat w_go (dD hz)
  u_leave0 Tryz.func106 (dD hz) hF
  repeat w_go (dD hz)
  u_leave0 Tryz.func68 (dD hz) hF
  exact cZ λw₃ h₃=>(e0 ▸ hT _ (dD hz hF h₃))
 rename_i q1 q3 q9;have :=hnb (lk .bad,mu,ms) (by simp [lT, *]);cases this
end
end Go.Proofs.Tryz
