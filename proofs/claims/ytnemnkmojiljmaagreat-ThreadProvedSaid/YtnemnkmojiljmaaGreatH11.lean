/- Part 11. -/
import Derived.Test.YtnemnkmojiljmaaGreatH10
set_option maxRecDepth 100000
set_option maxHeartbeats 0
set_option linter.all false
namespace Go.Proofs.Tryz
open Go Go.Conc Go.ConcN Go.ConcM Go.RowKit Go.Conc.Lib Go.ConcR.Gen Par
open Go.ConcR (KK wgBlock WgAt stA smA rd wr mk AtMkS)
set_option maxRecDepth 100000
set_option maxHeartbeats 16000000
variable {C:LC} {n it:Nat} {aw sv ws:Bool} {t:Array Value} {kk:List Item} {w:World}
theorem af5 (hF:C.km w) (hf:C.fr t ws false aw it) (h95:t.getD 95 undef= .bool false) (hk:kk=KL 28 [2,3,4,5,6,7]):C.law ⟨.t2,0,0,aw,false,0,ws⟩ n t kk w:=by
 obtain ⟨GX,hs,hws,f0,f2,f3,f4,f5⟩:=hf;have e0:=C.e0;have hz:=C.hz;subst hk;revert f0 f2 f3 f4 f5 h95;apply ng hs
 iterate 139 intro _
 rintro ⟨⟩ ⟨⟩ ⟨⟩ ⟨⟩ ⟨⟩ ⟨⟩;simp only [LC.gw,LC.law,LC.g,KL,KR,LL,REST,KF,ME,MC,kG,fH,gG,fE,jF,gq,Tryz.f128,ak,reduceIte,Nat.reduceEqDiff,reduceCtorEq];refine iV C.hne (by simp) rfl rfl λs hs hm1 hm2 hnb=>?_
 rcases hB:decide (1000000<IntKind.i64.wrap (((w.os.mono+w.tick:Nat):Int) - GX)) with _|_
 all_goals
  refine .inr ⟨by simp,⟨.r2,0,0,aw,decide (1000000<IntKind.i64.wrap (((w.os.mono+w.tick:Nat):Int) - GX)),0,ws⟩,s.b.mu,s.b.ms,_,w.later,#[],by simp only [hB,qo];simp,by rw [e0];exact stepG_nanotime rfl rfl (by k_ne) rfl Tryz.func139 IL IM IP IQ IU,by simp,hs,Eff.later _,(λe he=>by simp at he),?_⟩;replace hF:C.km w.later:=hF.turn C.hb hs hs (Eff.later w);clear hs hm1 hm2 hnb;rw [e0];generalize w.later=wl at hF ⊢;rw [hB];generalize ((w.os.mono+w.tick:Nat):Int)=tv at hB ⊢;refine dG (n:=60) ?_
  walk_nrm
  repeat w_go (dB hz)
  try simp only [hB]
  repeat w_go (dB hz)
  exact gI hz hF λw hF=>.step (WO hF ⟨_,rfl,hws,rfl,rfl,rfl,rfl,rfl⟩ rfl (by kernel_rfl))
theorem WQ (hF:C.km w) (hf:C.fr t ws sv aw it) (h91:t.getD 91 undef= .pointer (some (msA C.Mu))) (hk:kk=KL 27 [4]):C.law ⟨.s1,0,0,aw,sv,0,ws⟩ n t kk w:=by
 obtain ⟨GX,hs,hws,f0,f2,f3,f4,f5⟩:=hf;have e0:=C.e0;have hz:=C.hz;subst hk;revert f0 f2 f3 f4 f5 h91;apply ng hs
 iterate 139 intro _
 rintro ⟨⟩ ⟨⟩ ⟨⟩ ⟨⟩ ⟨⟩ ⟨⟩;simp only [LC.gw,LC.law,LC.g,KL,KR,LL,REST,KF,ME,MC,kG,fH,gG,fE,jF,gq,Tryz.f128,ak,reduceIte,Nat.reduceEqDiff,reduceCtorEq];refine iV C.hne (by simp) rfl rfl λs hs hm1 hm2 hnb=>?_
 obtain ⟨v,wt,sm,jn,dn,⟨mu,ms,c0,c1,ow⟩⟩:=s;simp only at hs hm1 hm2 hnb ⊢;rcases ms with _|_|ms
 ·exact .inl ⟨⟨by simp,by simp⟩,by rw [e0];exact stepG_semacquire_wait rfl rfl rfl Tryz.func140 CG CJ CK CL (by simp [Act.eval,msA]) hs.cellSm⟩
 ·have hs:MuAt 97 C.Mu w mu 1:=hs;refine .inr ⟨by simp,⟨if sv then .r2 else .t2,0,0,aw,sv,0,ws⟩,mu,0,_,w.setCell (msA C.Mu) (.int .u32 (1 - 1)),_,by simp [qo],by rw [e0];exact stepG_semacquire rfl rfl (by k_ne) rfl Tryz.func140 CG CJ CK CL (by simp [Act.eval,msA]) hs.cellSm (by decide) (hs.thaw 1),by simp,hs.setSm (1 - 1),Eff.set _ _ (.inl rfl),⟨msA C.Mu,.inl rfl,rfl⟩,?_⟩;replace hF:=hF.turn C.hb hs (hs.setSm (1 - 1)) (Eff.set (msA C.Mu) _ (.inl rfl));generalize w.setCell (msA C.Mu) (.int .u32 (1 - 1))=w₂ at hF ⊢;clear hs hm1 hm2 hnb;rw [e0];cases sv
  all_goals
   refine dG (n:=60) ?_
   walk_nrm
   repeat w_go (dB hz)
   refine gI hz hF λw hF=>.step ?_
   first |exact af5 hF ⟨_,rfl,hws,rfl,rfl,rfl,rfl,rfl⟩ rfl (by kernel_rfl)|exact WO hF ⟨_,rfl,hws,rfl,rfl,rfl,rfl,rfl⟩ rfl (by kernel_rfl)
 ·omega
theorem af6 (hF:C.km w) (hf:C.fr t false sv aw it) (hk:kk= [.inRegion (KF 26) [0,1],.code (MC 27),.inBlock 1,.inLoop LL,.inBlock 0,.code REST]):C.law ⟨.t1,0,0,aw,sv,0,false⟩ n t kk w:=by
 obtain ⟨GX,hs,hws,f0,f2,f3,f4,f5⟩:=hf;have e0:=C.e0;have hz:=C.hz;subst hk;revert f0 f2 f3 f4 f5;apply ng hs
 iterate 139 intro _
 rintro ⟨⟩ ⟨⟩ ⟨⟩ ⟨⟩ ⟨⟩;simp only [LC.gw,LC.law,LC.g,KL,KR,LL,REST,KF,ME,MC,kG,fH,gG,fE,jF,gq,Tryz.f128,ak,reduceIte,Nat.reduceEqDiff,reduceCtorEq];refine iV C.hne (by simp) rfl rfl λs hs hm1 hm2 hnb=>?_
 obtain ⟨b,hB⟩:∃b,decide (((w.os.mono+w.tick:Nat):Int)≠0)=b:=⟨_,rfl⟩;refine .inr ⟨by simp,⟨.s1,0,0,aw,sv,0,b⟩,s.b.mu,s.b.ms,_,w.later,#[],by cases b<;>simp [qo],by rw [e0];exact stepG_nanotime rfl rfl (by k_ne) rfl Tryz.func139 IL IM IP IQ IU,by simp,hs,Eff.later _,(λe he=>by simp at he),?_⟩;replace hF:C.km w.later:=hF.turn C.hb hs hs (Eff.later w);clear hs hm1 hm2 hnb;rw [e0];generalize w.later=wl at hF ⊢;generalize ((w.os.mono+w.tick:Nat):Int)=tv at hB ⊢;refine dG (n:=60) ?_
 walk_nrm
 repeat w_go (dB hz)
 have hws:=hB.symm;exact gI hz hF λw hF=>.step (WQ hF ⟨_,rfl,hws,rfl,rfl,rfl,rfl,rfl⟩ rfl (by kernel_rfl))
end Go.Proofs.Tryz
