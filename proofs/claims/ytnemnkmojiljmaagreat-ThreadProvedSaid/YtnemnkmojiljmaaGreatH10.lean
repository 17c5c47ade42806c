/- Part 10. -/
import Derived.Test.YtnemnkmojiljmaaGreatH09
set_option maxRecDepth 100000
set_option maxHeartbeats 0
set_option linter.all false
namespace Go.Proofs.Tryz
open Go Go.Conc Go.ConcN Go.ConcM Go.RowKit Go.Conc.Lib Go.ConcR.Gen Par
open Go.ConcR (KK wgBlock WgAt stA smA rd wr mk AtMkS)
set_option maxRecDepth 100000
set_option maxHeartbeats 16000000
variable {C:LC} {n it:Nat} {aw sv ws:Bool} {t:Array Value} {kk:List Item} {w:World}
theorem Ve {m:Nat} (h:Kn m=true):m<=20:=by
 simp [Kn] at h;omega
theorem ao2 {d:Nat} (hF:C.km w) (hs:t.size=139) (h0:t.getD 0 undef= .pointer (some ⟨C.Mu,0,none⟩)) (h1:t.getD 128 undef= .pointer (some (muA C.Mu))) (h2:t.getD 129 undef= .int .i32 (-(d:Nat))) (hd:d=7∨d=11) (hk:kk= [.inRegion (KF 36) [4],.code (ME 36),.code (MC 37),.inBlock 1,.inLoop LL,.inBlock 0,.code REST]):C.law ⟨.a1,0,d,false,false,0,false⟩ n t kk w:=by
 have e0:=C.e0;have hz:=C.hz;subst hk;revert h0 h1 h2;apply ng hs
 iterate 139 intro _
 rintro ⟨⟩ ⟨⟩ ⟨⟩;simp only [LC.gw,LC.law,LC.g,KL,KR,LL,REST,KF,ME,MC,kG,fH,gG,fE,jF,gq,Tryz.f128,ak,reduceIte,Nat.reduceEqDiff,reduceCtorEq];refine iV C.hne (by simp) rfl rfl λs hs hm1 hm2 hnb=>?_
 have hle:d<=s.b.mu:=by
  rcases bq s.b.mu d with h|h
  ·have :=hnb (lk .bad,s.b.mu,s.b.ms) (by simp [qo,Nat.not_le.2 h]);cases this
  ·exact h
 have hmx:=Ve hm1;have ew:IntKind.i32.wrap (((s.b.mu:Nat):Int)+(-(d:Nat)))=((s.b.mu - d:Nat):Int):=by rw [IntKind.wrap_i32];omega
 refine .inr ⟨by simp,lk .le,s.b.mu - d,s.b.ms,_,w.setCell (muA C.Mu) (.int .i32 ((s.b.mu - d:Nat):Int)),_,by simp [qo,hle],by rw [e0];exact (stepG_add_atomic rfl rfl (by k_ne) rfl Tryz.func129 yI yJ yK .i32 yL rfl rfl hs.cellSt (hs.thaw 0)).trans (by rw [ew];first |done|rfl),by simp,hs.setSt _,Eff.set _ _ (.inl rfl),pQ (C:=C.cf) (a:=muA C.Mu) (.inl rfl),?_⟩;replace hF:=hF.turn C.hb hs (hs.setSt ((s.b.mu - d:Nat):Int)) (Eff.set (muA C.Mu) _ (.inl rfl));generalize w.setCell (muA C.Mu) (.int .i32 ((s.b.mu - d:Nat):Int))=w₂ at hF ⊢;generalize ((s.b.mu - d:Nat):Int)=mn;rw [e0];refine dG (n:=80) ?_
 walk_nrm
 repeat w_go (dB hz)
 exact gI hz hF λw hF=>.step (af4 hF rfl rfl (by kernel_rfl))
theorem WO (hF:C.km w) (hf:C.fr t ws sv aw it) (ao3:t.getD 103 undef= .pointer (some (muA C.Mu))) (hk:kk=KL 29 [3,4]):C.law ⟨.r2,0,0,aw,sv,0,ws⟩ n t kk w:=by
 obtain ⟨GX,hs,hws,f0,f2,f3,f4,f5⟩:=hf;have e0:=C.e0;have hz:=C.hz;subst hk;revert f0 f2 f3 f4 f5 ao3;apply ng hs
 iterate 139 intro _
 rintro ⟨⟩ ⟨⟩ ⟨⟩ ⟨⟩ ⟨⟩ ⟨⟩;simp only [LC.gw,LC.law,LC.g,KL,KR,LL,REST,KF,ME,MC,kG,fH,gG,fE,jF,gq,Tryz.f128,ak,reduceIte,Nat.reduceEqDiff,reduceCtorEq];refine iV C.hne (by simp) rfl rfl λs hs hm1 hm2 hnb=>?_
 obtain ⟨v,wt,sm,jn,dn,⟨mu,ms,c0,c1,ow⟩⟩:=s;simp only at hs hm1 hm2 hnb ⊢
 by_cases hq:mu=12∨mu=20
 ·rcases hq with rfl|rfl<;>cases sv
  all_goals
   refine .inr ⟨by simp,_,_,ms,_,w,#[],by simp only [qo];exact aR.2 rfl,by rw [e0];exact lI rfl rfl (by k_ne) rfl rfl hs.cellSt pR,by simp,hs,Eff.refl _,(λe he=>by simp at he),?_⟩;clear hs hm1 hm2 hnb;rw [e0];refine dG (n:=120) ?_
   walk_nrm
   repeat w_go (dB hz)
   exact gI hz hF λw hF=>.step (ao2 hF rfl rfl rfl rfl (by decide) (by kernel_rfl))
 have h13:mu≠13:= λe=>by
  subst e;have :=hnb (lk .bad,13,ms) (by simp [qo]);cases this
 have hq4:bits .and .i32 ((mu:Nat):Int) 4=0:=by
  have :mu=0∨mu=1∨mu=2∨mu=3∨mu=8∨mu=9:=by simp [Kn] at hm1;omega
  rcases this with rfl|rfl|rfl|rfl|rfl|rfl<;>decide
 refine .inr ⟨by simp,⟨.hd,mu,0,true,sv,0,ws⟩,mu,ms,_,w,#[],by simp [qo,h13,show mu≠12 by omega,show mu≠20 by omega],by rw [e0];exact lI rfl rfl (by k_ne) rfl rfl hs.cellSt pR,by simp,hs,Eff.refl _,(λe he=>by simp at he),?_⟩;clear hs hm1 hm2 hnb;rw [e0];refine dG (n:=120) ?_
 walk_nrm
 repeat w_nl (dB hz)
 u_c stepG_inLoop (dB hz) hF
 exact gI hz hF λw hF=>.base (.inl (.mk hF ⟨_,rfl,hws,rfl,rfl,rfl,rfl,rfl⟩ rfl))
end Go.Proofs.Tryz
