/- Part 14. -/
import Derived.Test.YtnemnkmojiljmaaGreatH12
set_option maxRecDepth 100000
set_option maxHeartbeats 0
set_option linter.all false
namespace Go.Proofs.Tryz
open Go Go.Conc Go.ConcN Go.ConcM Go.RowKit Go.Conc.Lib Go.ConcR.Gen Par
open Go.ConcR (KK wgBlock WgAt stA smA rd wr mk AtMkS)
set_option maxRecDepth 100000
set_option maxHeartbeats 16000000
variable {C:LC} {n it:Nat} {aw sv ws:Bool} {t:Array Value} {kk:List Item} {w:World}
theorem af7 {old:Nat} (h:(old=1∧aw=false∧sv=false)∨(old=3∧aw=true∧sv=false)∨(old=3∧aw=true∧sv=true)) (hF:C.km w) (hf:C.fr t ws sv aw it) (h6:t.getD 6 undef= .int .i32 (old:Nat)) (hk:kk= [.code LL,.inLoop LL,.inBlock 0,.code REST]):C.law ⟨.hd,old,0,aw,sv,it,ws⟩ n t kk w:=by
 have e:FQ old aw sv it ws=⟨.sq,old,0,aw,sv,it,ws⟩:=by rcases h with ⟨rfl,rfl,rfl⟩|⟨rfl,rfl,rfl⟩|⟨rfl,rfl,rfl⟩<;>rfl
 obtain ⟨GX,hs,hws,f0,f2,f3,f4,f5⟩:=hf;have e0:=C.e0;have hz:=C.hz;subst hk;revert f0 f2 f3 f4 f5 h6;apply ng hs
 iterate 139 intro _
 rintro ⟨⟩ ⟨⟩ ⟨⟩ ⟨⟩ ⟨⟩ ⟨⟩;simp only [LC.gw,LC.law,LC.g,KL,KR,LL,REST,KF,ME,MC,kG,fH,gG,fE,jF,gq,Tryz.f128,ak,reduceIte,Nat.reduceEqDiff,reduceCtorEq];refine iV C.hne (by simp) rfl rfl λs hs hm1 hm2 hnb=>.inr ⟨by simp,_,_,_,_,w,#[],aR.2 rfl,by rw [e0];exact stepG_block,by simp,hs,Eff.refl _,(λe he=>by simp at he),?_⟩
 clear hs hm1 hm2 hnb s;rw [e0,e];clear e;refine dG (n:=140) ?_
 rcases h with ⟨rfl,rfl,rfl⟩|⟨rfl,rfl,rfl⟩|⟨rfl,rfl,rfl⟩
 all_goals
  simp only [Int.cast_ofNat_Int]
  repeat w_go (dB hz)
  refine gI hz hF λw hF=>.step (iV C.hne (by simp) rfl rfl λs hs hm1 hm2 hnb=>?_)
  by_cases h4:it<4
  ·rcases hsp:w.spins with _|_
   ·refine .inr ⟨by simp,_,s.b.mu,s.b.ms,_,w.asked,#[],by simp only [qo,aj h4];exact aP,by rw [e0];exact stepG_canSpin_ask rfl rfl (by k_ne) rfl Tryz.func136 uI uJ uK uL (k:=.i64) (n:=((it:Nat):Int)) (by simp [Act.eval]) (by omega),by simp,hs,Eff.asked _,(λe he=>by simp at he),?_⟩;replace hF:=hF.turn (W':=w.asked) C.hb hs hs (Eff.asked w);rw [hsp];generalize w.asked=wl at hF ⊢;clear hs hm1 hm2 hnb hsp;rw [e0];refine dG (n:=140) ?_
    walk_nrm
    repeat w_go (dB hz)
    try m_num
    repeat w_go (dB hz)
    exact gI hz hF λw hF=>.step (Ri hF ⟨_,rfl,hws,rfl,rfl,rfl,rfl,rfl⟩ rfl rfl rfl rfl (by decide) (by kernel_rfl))
   ·refine .inr ⟨by simp,_,s.b.mu,s.b.ms,_,w.asked,#[],by simp only [qo,aj h4];exact aQ _ aP,by rw [e0];exact stepG_canSpin_ask rfl rfl (by k_ne) rfl Tryz.func136 uI uJ uK uL (k:=.i64) (n:=((it:Nat):Int)) (by simp [Act.eval]) (by omega),by simp,hs,Eff.asked _,(λe he=>by simp at he),?_⟩;replace hF:=hF.turn (W':=w.asked) C.hb hs hs (Eff.asked w);rw [hsp];generalize w.asked=wl at hF ⊢;clear hs hm1 hm2 hnb hsp;rw [e0];refine dG (n:=140) ?_
    walk_nrm
    repeat w_go (dB hz)
    u_in (dB hz) hF
    rw [stepG_entry_pure (.tuple #[]) rfl rfl (by k_ne) rfl Tryz.func137 Kv Kw Ky Kz];simp only [goes_go];refine ⟨⟨rfl,rfl⟩,?_⟩;walk_nrm
    repeat w_go (dB hz)
    have ew:IntKind.i64.wrap (((it:Nat):Int)+1)=((it+1:Nat):Int):=by rw [IntKind.wrap_i64];omega
    try simp only [ew]
    refine gI hz hF λw hF=>.step (iV C.hne (by simp) rfl rfl λs hs hm1 hm2 hnb=>.inr ⟨by simp,_,_,_,_,w,#[],aR.2 rfl,by rw [e0];exact lI rfl rfl (by k_ne) rfl rfl hs.cellSt pR,by simp,hs,Eff.refl _,(λe he=>by simp at he),?_⟩)
    rw [e0];refine dG (n:=40) ?_
    walk_nrm
    repeat w_nl (dB hz)
    u_c stepG_inLoop (dB hz) hF
    exact gI hz hF λw hF=>.base (.inl (.mk hF ⟨_,rfl,hws,rfl,rfl,rfl,rfl,rfl⟩ rfl))
  ·refine .inr ⟨by simp,_,s.b.mu,s.b.ms,_,w,#[],by simp only [qo];exact aP,by rw [e0];exact stepG_canSpin_no rfl rfl (by k_ne) rfl Tryz.func136 uI uJ uK uL (k:=.i64) (n:=((it:Nat):Int)) (by simp [Act.eval]) (by omega),by simp,hs,Eff.refl _,(λe he=>by simp at he),?_⟩;clear hs hm1 hm2 hnb;rw [e0];refine dG (n:=140) ?_
   walk_nrm
   repeat w_go (dB hz)
   try m_num
   repeat w_go (dB hz)
   exact gI hz hF λw hF=>.step (Ri hF ⟨_,rfl,hws,rfl,rfl,rfl,rfl,rfl⟩ rfl rfl rfl rfl (by decide) (by kernel_rfl))
end Go.Proofs.Tryz
