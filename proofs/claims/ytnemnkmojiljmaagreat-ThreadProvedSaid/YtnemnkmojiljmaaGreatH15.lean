/- Part 15. -/
import Derived.Test.YtnemnkmojiljmaaGreatH13
import Derived.Test.YtnemnkmojiljmaaGreatH14
set_option maxRecDepth 100000
set_option maxHeartbeats 0
set_option linter.all false
namespace Go.Proofs.Tryz
open Go Go.Conc Go.ConcN Go.ConcM Go.RowKit Go.Conc.Lib Go.ConcR.Gen Par
open Go.ConcR (KK wgBlock WgAt stA smA rd wr mk AtMkS)
set_option maxRecDepth 100000
set_option maxHeartbeats 16000000
variable {C:LC} {n it:Nat} {aw sv ws:Bool} {t:Array Value} {kk:List Item} {w:World}
theorem Vg {X:jE (FT LT)} {old:Nat} {g:Goroutine} (hr:g.status= .running) (ho:g.offers=none) (h:QV old aw sv=false):
 xI Tryz.prog C.cf.sys X C.i (.bd C.k ⟨⟨.hd,old,0,aw,sv,it,ws⟩,C.c,n⟩) C.own g w:=by
 refine iV C.hne (by simp) hr ho λs hs hm1 hm2 hnb=>?_
 have :=hnb _ (aR.2 rfl);simp [FQ,h] at this;cases this
theorem Rj {old:Nat} (h:QV old aw sv≠false):((old=0∧aw=false∧sv=false)∨(old=2∧aw=false∧sv=false)∨(old=2∧aw=true∧sv=false)∨(old=2∧aw=true∧sv=true)∨(old=12∧aw=false∧sv=false))∨(old=1∧aw=false∧sv=false)∨(old=3∧aw=true∧sv=false)∨(old=3∧aw=true∧sv=true):=by
 unfold QV Ml at h;split at h<;>simp_all
theorem Yq {Tt:FT LT} {dD:Nat->Prop} {g:Goroutine} (h:HdX C C.i Tt dD g w):At Tryz.prog C.cf.sys C.i Tt dD g w:=by
 refine At.upto (X:=HdX C) (λi' T' dD g' w' hx=>?_) h;cases hx with
 | @mk old it n aw sv ws t w hF hf h6=>
   by_cases hok:QV old aw sv=false
   ·exact Vg rfl rfl hok
   rcases Rj hok with h|h
   ·exact headA h hF hf h6 rfl
   ·exact af7 h hF hf h6 rfl
theorem Yr (hF:C.km w) (hs:t.size=139) (h0:t.getD 0 undef= .pointer (some ⟨C.Mu,0,none⟩)):
 Gw Tryz.prog false C.Z (At Tryz.prog C.cf.sys C.i (.bd C.k ⟨lk .r0,C.c,n⟩)) C.own (C.g t [.code kG]) w:=by
 have e0:=C.e0;have hz:=C.hz;revert h0;apply ng hs
 iterate 139 intro _
 rintro ⟨⟩;simp only [LC.g,kG,Tryz.f128,ak];refine dG (n:=60) ?_
 repeat w_go (dB hz)
 refine gI hz hF λw hF=>At.of_law (iV C.hne (by simp) rfl rfl λs hs hm1 hm2 hnb=>.inr ⟨by simp,_,_,_,_,w,#[],aR.2 rfl,by rw [e0];exact lI rfl rfl (by k_ne) rfl rfl hs.cellSt pR,by simp,hs,Eff.refl _,(λe he=>by simp at he),?_⟩)
 rw [e0];refine dG (n:=60) ?_
 walk_nrm
 repeat w_but "code.loop" (dB hz)
 u_c stepG_loop (dB hz) hF
 exact gI hz hF λw hF=>Yq (.mk hF ⟨0,rfl,rfl,rfl,rfl,rfl,rfl,rfl⟩ rfl)
section
variable {Mu Wg:Nat} {ty:TypeId} {N:Nat->Nat} {J:Nat->Nat->(Nat->Prop)->World->Prop} {ro:Nat->Prop} {Anch:(Nat->Prop)->Goroutine->World->Prop} {own:Nat->Prop} {W0:World} {i k c:Nat}
variable {b₀:Frame} {a₀:Act} {ops₀:Array Oper} {i₀:Nat} {rest₀:List Nat} {k₀:List Item} {cs:List Frame}
noncomputable def MF:Code:=Tryz.f67.body.getD .skip
theorem Yt (hne:Mu≠Wg) (hi:i≠0) (hb:Beside (cfg Mu Wg ty N J ro Anch) ((cfg Mu Wg ty N J ro Anch).Zw k) own) (hT:WN Mu Wg ty N J ro Anch own W0 i k c (G (b₀.at (a₀.put ((ops₀[i₀]?).bind (·.dst)) (.tuple #[])) (.inRegion ops₀ rest₀::k₀)) cs)) {n:Nat} {w:World} (hF:KM 97 Mu ((cfg Mu Wg ty N J ro Anch).Zw k) own W0 w):
 Gw Tryz.prog false ((cfg Mu Wg ty N J ro Anch).Zw k) (At Tryz.prog (cfg Mu Wg ty N J ro Anch).sys i (.bd k ⟨lk .ld,c,n⟩)) own (G ((base 67).at ⟨#[.pointer (some ⟨Mu,0,none⟩),undef,undef,undef,undef,undef],[]⟩ [.code MF]) (b₀.at a₀ (.inRegion ops₀ (i₀::rest₀)::k₀)::cs)) w:=by
 have e0:(i==0)=false:=by simpa using hi
 have hz:((cfg Mu Wg ty N J ro Anch).Zw k).sy Mu:=.inl (.inl rfl);simp only [MF,Tryz.f67,ak];refine dG (n:=40) ?_
 repeat w_go (dB hz)
 u_call Tryz.func105 Rf Tryz.f105 (dB hz) hF
 repeat w_go (dB hz)
 refine gI hz hF λw hF=>At.of_law (iV hne (by simp) rfl rfl λs hs hm1 hm2 hnb=>.inr ⟨by simp,_,_,_,_,w,_,aR.2 rfl,by rw [e0];exact stepG_mark0 .disable (by simp) rfl rfl (by k_ne) rfl Tryz.mK.f_disable (x_disable_n Tryz.link) (x_disable_b Tryz.link) (x_disable_x Tryz.link) (x_disable_f Tryz.link),by simp,hs,Eff.refl _,rfl,?_⟩)
 clear hs hm1 hm2 hnb s;rw [e0];refine dG (n:=30) ?_
 walk_nrm
 repeat w_go (dB hz)
 refine gI hz hF λw hF=>At.of_law (iV hne (by simp) rfl rfl λs hs hm1 hm2 hnb=>?_)
 obtain ⟨v,wt,sm,jn,dn,⟨mu,ms,c0,c1,ow⟩⟩:=s;simp only at hs hm1 hm2 hnb ⊢
 by_cases hq:mu=0
 ·subst hq;have hs:MuAt 97 Mu w 0 ms:=hs;refine .inr ⟨by simp,lk .le,1,ms,_,w.setCell (muA Mu) (.int .i32 1),_,by simp [qo],by rw [e0];exact stepG_cas_hit rfl rfl (by k_ne) rfl Tryz.func127 yE yF yG .i32 yH rfl rfl rfl hs.cellSt (hs.thaw 0),by simp,hs.setSt 1,Eff.set _ _ (.inl rfl),pQ (C:=cfg Mu Wg ty N J ro Anch) (a:=muA Mu) (.inl rfl),?_⟩;replace hF:=hF.turn hb hs (hs.setSt 1) (Eff.set (muA Mu) _ (.inl rfl));generalize w.setCell (muA Mu) (.int .i32 1)=w₂ at hF ⊢;clear hs hm1 hm2 hnb;rw [e0];refine dG (n:=30) ?_
  walk_nrm
  repeat w_go (dB hz)
  refine gI hz hF λw hF=>At.of_law (iV hne (by simp) rfl rfl λs hs hm1 hm2 hnb=>.inr ⟨by simp,_,_,_,_,w,_,aR.2 rfl,by rw [e0];exact stepG_mark0 .enable (by simp) rfl rfl (by k_ne) rfl Tryz.mK.f_enable (x_enable_n Tryz.link) (x_enable_b Tryz.link) (x_enable_x Tryz.link) (x_enable_f Tryz.link),by simp,hs,Eff.refl _,rfl,?_⟩)
  clear hs hm1 hm2 hnb s;rw [e0];refine dG (n:=30) ?_
  walk_nrm
  repeat w_go (dB hz)
  m_convG Tryz.prog Tryz.mK.underlying_tUP KE Rh hF.mu.choose_spec (dB hz) hF
  refine gI hz hF λw hF=>At.of_law (ae3 hne rfl rfl rfl λs hs hc=>⟨_,by rw [e0];exact stepG_markAt .acquire (by simp) rfl rfl (by k_ne) rfl Tryz.mK.f_acquire (x_acquire_n Tryz.link) (x_acquire_b Tryz.link) (x_acquire_x Tryz.link) (x_acquire_f Tryz.link) (by simp [Act.eval,muA]), λGu Uh hJ=>?_⟩)
  have Ui:=hF.1;replace hF:KM 97 Mu ((cfg Mu Wg ty N J ro Anch).Zw k) (λb=>own b∨Gu b) w w:=⟨dM.refl _,hF.2⟩;rw [e0];refine dG (n:=30) ?_
  walk_nrm
  repeat w_go (dB hz)
  u_leave0 Tryz.func105 (dB hz) hF
  repeat w_go (dB hz)
  u_leave0 Tryz.func67 (dB hz) hF
  exact cz λw₃ h₃=>(e0 ▸ hT _ _ _ _ Ui Uh hJ (dB hz hF h₃))
 ·have hqi:((mu:Nat):Int)≠0:=by omega
  refine .inr ⟨by simp,lk .r0,mu,ms,_,w,_,by simp [qo,hq],by rw [e0];exact stepG_cas_miss rfl rfl (by k_ne) rfl Tryz.func127 yE yF yG .i32 yH rfl rfl rfl hs.cellSt (hs.thaw 0) hqi,by simp,hs,Eff.refl _,Cw (C:=cfg Mu Wg ty N J ro Anch) (a:=muA Mu) (.inl rfl),?_⟩;clear hs hm1 hm2 hnb;rw [e0];refine dG (n:=80) ?_
  walk_nrm
  repeat w_go (dB hz)
  u_call Tryz.func128 IK Tryz.f128 (dB hz) hF
  refine cz λw₃ h₃=>Yr (C:=⟨Mu,Wg,ty,N,J,ro,Anch,own,W0,i,k,c,_,_,_,_,_,_,_,hne,hi,hb, λo Gu W1 w h1 h2 h3 hF=>?_⟩) (dB hz hF h₃) rfl rfl
  rw [e0];refine dG (n:=40) ?_
  walk_nrm
  repeat w_go (dB hz)
  u_leave0 Tryz.func105 (dB hz) hF
  repeat w_go (dB hz)
  u_leave0 Tryz.func67 (dB hz) hF
  exact cz λw₄ h₄=>(e0 ▸ hT _ _ _ _ h1 h2 h3 (dB hz hF h₄))
end
end Go.Proofs.Tryz
