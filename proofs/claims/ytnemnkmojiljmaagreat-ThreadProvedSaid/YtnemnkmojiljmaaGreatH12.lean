/- Part 12. -/
import Derived.Test.YtnemnkmojiljmaaGreatH11
set_option maxRecDepth 100000
set_option maxHeartbeats 0
set_option linter.all false
namespace Go.Proofs.Tryz
open Go Go.Conc Go.ConcN Go.ConcM Go.RowKit Go.Conc.Lib Go.ConcR.Gen Par
open Go.ConcR (KK wgBlock WgAt stA smA rd wr mk AtMkS)
set_option maxRecDepth 100000
set_option maxHeartbeats 16000000
variable {C:LC} {n it:Nat} {aw sv ws:Bool} {t:Array Value} {kk:List Item} {w:World}
theorem Vf {o:Int} (hF:C.km w) (hf:C.fr t ws sv aw it) (h6:t.getD 6 undef= .int .i32 o) (h80:t.getD 80 undef= .bool true) (ho:o=1∨o=3∨o=12) (hk:kk=KL 22 []):C.gw ⟨if ws then .s1 else .t1,0,0,aw,sv,0,ws⟩ n t kk w:=by
 obtain ⟨GX,hs,hws,f0,f2,f3,f4,f5⟩:=hf;have e0:=C.e0;have hz:=C.hz;subst hk;revert f0 f2 f3 f4 f5 h6 h80;apply ng hs
 iterate 139 intro _
 rintro ⟨⟩ ⟨⟩ ⟨⟩ ⟨⟩ ⟨⟩ ⟨⟩ ⟨⟩;simp only [LC.gw,LC.law,LC.g,KL,KR,LL,REST,KF,ME,MC,kG,fH,gG,fE,jF,gq,Tryz.f128,ak,reduceIte,Nat.reduceEqDiff,reduceCtorEq];obtain ⟨d,hd,q⟩:∃d,bits .and .i32 o 5=d∧(d==0)=false:=⟨_,rfl,by rcases ho with rfl|rfl|rfl<;>decide⟩;cases ws
 ·have hw0:GX=0:=by simpa using hws
  clear hws;subst hw0;refine dG (n:=80) ?_
  repeat w_go (dB hz)
  try simp only [hd,q]
  repeat w_go (dB hz)
  exact gI hz hF λw hF=>.step (af6 hF ⟨0,rfl,rfl,rfl,rfl,rfl,rfl,rfl⟩ (by kernel_rfl))
 ·have hw0:GX≠0:=by simpa using hws.symm
  have q1:(GX==0)=false:=by simpa using hw0
  have q2:(GX !=0)=true:=by simpa using hw0
  replace hws:=hws.symm;refine dG (n:=80) ?_
  repeat w_go (dB hz)
  try simp only [hd,q]
  repeat w_go (dB hz)
  try simp only [q1,q2]
  repeat w_go (dB hz)
  exact gI hz hF λw hF=>.step (WQ hF ⟨_,rfl,hws.symm,rfl,rfl,rfl,rfl,rfl⟩ rfl (by kernel_rfl))
theorem Ri {o m:Nat} (hF:C.km w) (hf:C.fr t ws sv aw it) (h6:t.getD 6 undef= .int .i32 (o:Nat)) (h77:t.getD 77 undef= .pointer (some (muA C.Mu))) (h78:t.getD 78 undef= .int .i32 (o:Nat)) (h79:t.getD 79 undef= .int .i32 (m:Nat)) (ho:o=0∨o=1∨o=2∨o=3∨o=12) (hk:kk=KL 22 [5]):C.law ⟨.c2,o,m,aw,sv,it,ws⟩ n t kk w:=by
 obtain ⟨GX,hs,hws,f0,f2,f3,f4,f5⟩:=hf;have e0:=C.e0;have hz:=C.hz;subst hk;revert f0 f2 f3 f4 f5 h6 h77 h78 h79;apply ng hs
 iterate 139 intro _
 rintro ⟨⟩ ⟨⟩ ⟨⟩ ⟨⟩ ⟨⟩ ⟨⟩ ⟨⟩ ⟨⟩ ⟨⟩;simp only [LC.gw,LC.law,LC.g,KL,KR,LL,REST,KF,ME,MC,kG,fH,gG,fE,jF,gq,Tryz.f128,ak,reduceIte,Nat.reduceEqDiff,reduceCtorEq];refine iV C.hne (by simp) rfl rfl λs hs hm1 hm2 hnb=>?_
 obtain ⟨v,wt,sm,jn,dn,⟨mu,ms,c0,c1,ow⟩⟩:=s;simp only at hs hm1 hm2 hnb ⊢
 by_cases hq:mu=o
 ·subst hq;have hs:MuAt 97 C.Mu w mu ms:=hs;obtain ⟨l,hl⟩:∃l,(if mu=0∨mu=2 then lk .le else ⟨if ws then .s1 else .t1,0,0,aw,sv,0,ws⟩:LK)=l:=⟨_,rfl⟩;refine .inr ⟨by simp,l,m,ms,_,w.setCell (muA C.Mu) (.int .i32 m),_,by simp only [qo,if_true, <-hl];split<;>simp,by rw [e0];exact stepG_cas_hit rfl rfl (by k_ne) rfl Tryz.func127 yE yF yG .i32 yH rfl rfl rfl hs.cellSt (hs.thaw 0),by simp,hs.setSt m,Eff.set _ _ (.inl rfl),pQ (C:=C.cf) (a:=muA C.Mu) (.inl rfl),?_⟩;replace hF:=hF.turn C.hb hs (hs.setSt m) (Eff.set (muA C.Mu) _ (.inl rfl));generalize w.setCell (muA C.Mu) (.int .i32 m)=w₂ at hF ⊢;clear hs hm1 hm2 hnb;rw [e0];refine dG (n:=4) ?_
  walk_nrm;subst hl;refine cz λw₃ h₃=>?_
  replace hF:=dB hz hF h₃;split
  ·exact Yp hF ⟨_,rfl,hws,rfl,rfl,rfl,rfl,rfl⟩ rfl rfl (by omega) (by kernel_rfl)
  ·exact Vf hF ⟨_,rfl,hws,rfl,rfl,rfl,rfl,rfl⟩ rfl rfl (by omega) (by kernel_rfl)
 ·have hqi:((mu:Nat):Int)≠(o:Nat):=by omega
  refine .inr ⟨by simp,⟨.r3,0,0,aw,sv,it,ws⟩,mu,ms,_,w,_,by simp [qo,hq],by rw [e0];exact stepG_cas_miss rfl rfl (by k_ne) rfl Tryz.func127 yE yF yG .i32 yH rfl rfl rfl hs.cellSt (hs.thaw 0) hqi,by simp,hs,Eff.refl _,Cw (C:=C.cf) (a:=muA C.Mu) (.inl rfl),?_⟩;clear hs hm1 hm2 hnb;rw [e0];refine dG (n:=4) ?_
  walk_nrm;exact cz λw₃ h₃=>Yo (dB hz hF h₃) ⟨_,rfl,hws,rfl,rfl,rfl,rfl,rfl⟩ rfl (by kernel_rfl)
end Go.Proofs.Tryz
