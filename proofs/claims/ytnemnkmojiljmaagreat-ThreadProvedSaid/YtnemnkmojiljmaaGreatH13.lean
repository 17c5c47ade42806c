/- Part 13. -/
import Derived.Test.YtnemnkmojiljmaaGreatH12
set_option maxRecDepth 100000
set_option maxHeartbeats 0
set_option linter.all false
namespace Go.Proofs.Tryz
open Go Go.Conc Go.ConcN Go.ConcM Go.RowKit Go.Conc.Lib Go.ConcR.Gen Par
open Go.ConcR (KK wgBlock WgAt stA smA rd wr mk AtMkS)
set_option maxRecDepth 100000
set_option maxHeartbeats 16000000
variable {C:LC} {n it:Nat} {aw sv ws:Bool} {t:Array Value} {kk:List Item} {w:World}
theorem headA {old:Nat} (h:(old=0∧aw=false∧sv=false)∨(old=2∧aw=false∧sv=false)∨(old=2∧aw=true∧sv=false)∨(old=2∧aw=true∧sv=true)∨(old=12∧aw=false∧sv=false)) (hF:C.km w) (hf:C.fr t ws sv aw it) (h6:t.getD 6 undef= .int .i32 (old:Nat)) (hk:kk= [.code LL,.inLoop LL,.inBlock 0,.code REST]):C.law ⟨.hd,old,0,aw,sv,it,ws⟩ n t kk w:=by
 obtain ⟨GX,hs,hws,f0,f2,f3,f4,f5⟩:=hf;have e0:=C.e0;have hz:=C.hz;subst hk;revert f0 f2 f3 f4 f5 h6;apply ng hs
 iterate 139 intro _
 rintro ⟨⟩ ⟨⟩ ⟨⟩ ⟨⟩ ⟨⟩ ⟨⟩;simp only [LC.gw,LC.law,LC.g,KL,KR,LL,REST,KF,ME,MC,kG,fH,gG,fE,jF,gq,Tryz.f128,ak,reduceIte,Nat.reduceEqDiff,reduceCtorEq];refine iV C.hne (by simp) rfl rfl λs hs hm1 hm2 hnb=>.inr ⟨by simp,_,_,_,_,w,#[],aR.2 rfl,by rw [e0];exact stepG_block,by simp,hs,Eff.refl _,(λe he=>by simp at he),?_⟩
 clear hs hm1 hm2 hnb s;rw [e0];refine dG (n:=140) ?_
 rcases h with ⟨rfl,rfl,rfl⟩|⟨rfl,rfl,rfl⟩|⟨rfl,rfl,rfl⟩|⟨rfl,rfl,rfl⟩|⟨rfl,rfl,rfl⟩
 all_goals
  simp only [Int.cast_ofNat_Int]
  repeat w_go (dB hz)
  try m_num
  repeat w_go (dB hz)
  exact gI hz hF λw hF=>.step (Ri hF ⟨_,rfl,hws,rfl,rfl,rfl,rfl,rfl⟩ rfl rfl rfl rfl (by decide) (by kernel_rfl))
end Go.Proofs.Tryz
