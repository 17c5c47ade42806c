/- Part 9. -/
import Derived.Test.YtnemnkmojiljmaaGreatH08
set_option maxRecDepth 100000
set_option maxHeartbeats 0
set_option linter.all false
namespace Go.Proofs.Tryz
open Go Go.Conc Go.ConcN Go.ConcM Go.RowKit Go.Conc.Lib Go.ConcR.Gen Par
open Go.ConcR (KK wgBlock WgAt stA smA rd wr mk AtMkS)
set_option maxRecDepth 100000
set_option maxHeartbeats 16000000
variable {C:LC} {n it:Nat} {aw sv ws:Bool} {t:Array Value} {kk:List Item} {w:World}
theorem af4 (hF:C.km w) (hs:t.size=139) (h0:t.getD 0 undef= .pointer (some ⟨C.Mu,0,none⟩)) (hk:kk=KR):C.law (lk .le) n t kk w:=by
 have e0:=C.e0;have hz:=C.hz;subst hk;revert h0;apply ng hs
 iterate 139 intro _
 rintro ⟨⟩;simp only [LC.gw,LC.law,LC.g,KL,KR,LL,REST,KF,ME,MC,kG,fH,gG,fE,jF,gq,Tryz.f128,ak,reduceIte,Nat.reduceEqDiff,reduceCtorEq];refine iV C.hne (by simp) rfl rfl λs hs hm1 hm2 hnb=>.inr ⟨by simp,_,_,_,_,w,_,aR.2 rfl,by rw [e0];exact stepG_mark0 .enable (by simp) rfl rfl (by k_ne) rfl Tryz.mK.f_enable (x_enable_n Tryz.link) (x_enable_b Tryz.link) (x_enable_x Tryz.link) (x_enable_f Tryz.link),by simp,hs,Eff.refl _,rfl,?_⟩
 clear hs hm1 hm2 hnb s;rw [e0];refine dG (n:=30) ?_
 walk_nrm
 repeat w_go (dB hz)
 m_convG Tryz.prog Tryz.mK.underlying_tUP KE Rh hF.mu.choose_spec (dB hz) hF
 refine gI hz hF λw hF=>.step (ae3 C.hne rfl rfl rfl λs hs hc=>⟨_,by rw [e0];exact stepG_markAt .acquire (by simp) rfl rfl (by k_ne) rfl Tryz.mK.f_acquire (x_acquire_n Tryz.link) (x_acquire_b Tryz.link) (x_acquire_x Tryz.link) (x_acquire_f Tryz.link) (by simp [Act.eval,muA]), λGu Uh hJ=>?_⟩)
 have Ui:=hF.1;replace hF:KM 97 C.Mu C.Z (λb=>C.own b∨Gu b) w w:=⟨dM.refl _,hF.2⟩;rw [e0];refine dG (n:=30) ?_
 walk_nrm
 repeat w_go (dB hz)
 u_leave0 Tryz.func128 (dB hz) hF
 exact cz λw₃ h₃=>Gw.mono (λ_ _ _ h=>.base (.inr h)) (e0 ▸ C.hT _ _ _ _ Ui Uh hJ (dB hz hF h₃))
theorem Yo (hF:C.km w) (hf:C.fr t ws sv aw it) (h80:t.getD 80 undef= .bool false) (hk:kk=KL 22 []):C.gw ⟨.r3,0,0,aw,sv,it,ws⟩ n t kk w:=by
 obtain ⟨GX,hs,hws,f0,f2,f3,f4,f5⟩:=hf;have e0:=C.e0;have hz:=C.hz;subst hk;revert f0 f2 f3 f4 f5 h80;apply ng hs
 iterate 139 intro _
 rintro ⟨⟩ ⟨⟩ ⟨⟩ ⟨⟩ ⟨⟩ ⟨⟩;simp only [LC.gw,LC.law,LC.g,KL,KR,LL,REST,KF,ME,MC,kG,fH,gG,fE,jF,gq,Tryz.f128,ak,reduceIte,Nat.reduceEqDiff,reduceCtorEq];refine dG (n:=60) ?_
 repeat w_go (dB hz)
 refine gI hz hF λw hF=>.step (iV C.hne (by simp) rfl rfl λs hs hm1 hm2 hnb=>.inr ⟨by simp,_,_,_,_,w,#[],aR.2 rfl,by rw [e0];exact lI rfl rfl (by k_ne) rfl rfl hs.cellSt pR,by simp,hs,Eff.refl _,(λe he=>by simp at he),?_⟩)
 rw [e0];refine dG (n:=40) ?_
 walk_nrm
 repeat w_nl (dB hz)
 u_c stepG_inLoop (dB hz) hF
 exact gI hz hF λw hF=>.base (.inl (.mk hF ⟨_,rfl,hws,rfl,rfl,rfl,rfl,rfl⟩ rfl))
theorem Yp {o:Int} (hF:C.km w) (hf:C.fr t ws sv aw it) (h6:t.getD 6 undef= .int .i32 o) (h80:t.getD 80 undef= .bool true) (ho:o=0∨o=2) (hk:kk=KL 22 []):C.gw (lk .le) n t kk w:=by
 obtain ⟨GX,hs,hws,f0,f2,f3,f4,f5⟩:=hf;have e0:=C.e0;have hz:=C.hz;subst hk;revert f0 f2 f3 f4 f5 h6 h80;apply ng hs
 iterate 139 intro _
 rintro ⟨⟩ ⟨⟩ ⟨⟩ ⟨⟩ ⟨⟩ ⟨⟩ ⟨⟩;simp only [LC.gw,LC.law,LC.g,KL,KR,LL,REST,KF,ME,MC,kG,fH,gG,fE,jF,gq,Tryz.f128,ak,reduceIte,Nat.reduceEqDiff,reduceCtorEq];rcases ho with rfl|rfl
 all_goals
  refine dG (n:=80) ?_
  repeat w_go (dB hz)
  try m_num
  repeat w_go (dB hz)
  refine gI hz hF λw hF=>.step (af4 hF rfl rfl (by kernel_rfl))
end Go.Proofs.Tryz
