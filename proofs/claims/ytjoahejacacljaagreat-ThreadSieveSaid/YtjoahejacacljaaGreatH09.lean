/- Part 9. -/
import Derived.Test.YtjoahejacacljaaGreatH08
set_option maxRecDepth 100000
set_option maxHeartbeats 0
set_option linter.all false
namespace Go.Proofs.Tryz
open Go Go.Conc Go.ConcN Go.ConcM Go.RowKit Go.Conc.Lib Go.ConcR.Gen cS
open Go.ConcR (KK wgBlock WgAt stA smA rd wr mk AtMkS)
variable {C:LC} {n it:Nat} {aw sv ws:Bool} {t:Array Value} {kk:List Item} {w:World}
def sr(hF:C.km w)(hs:t.size=139)(h0:t.getD 0 undef=.pointer (some ⟨C.Mu,0,none⟩))(hk:kk=KR):C.law (lk .le) n t kk w:=by
 have e0:=C.e0;have hz:=C.hz;subst hk;revert h0;apply ng hs
 iterate 139 intro _
 rintro⟨⟩;simp only[LC.gw,LC.law,LC.g,KL,KR,LL,REST,KF,ME,MC,kG,fH,gG,fE,jF,gq,Tryz.f101,ak,reduceIte,Nat.reduceEqDiff,reduceCtorEq];refine iV C.hne (by simp) rfl rfl λs hs hm1 hm2 hnb=>.inr ⟨by simp,_,_,_,_,w,_,aR.2 rfl,by rw[e0];exact stepG_mark0 .enable (by simp) rfl rfl (by k_ne) rfl Tryz.mK.f_enable (x_enable_n Tryz.link) (x_enable_b Tryz.link) (x_enable_x Tryz.link) (x_enable_f Tryz.link),by simp,hs,Eff.refl _,rfl,?_⟩
 clear hs hm1 hm2 hnb s;rw[e0];refine dG (n:=30) ?_
 walk_nrm
 repeat w_go (dB hz)
 m_convG Tryz.prog Tryz.mK.underlying_tUP KE Rh hF.mu.choose_spec (dB hz) hF
 refine gI hz hF λw hF=>.step (cr C.hne rfl rfl rfl λs hs hc=>⟨_,by rw[e0];exact stepG_markAt .acquire (by simp) rfl rfl (by k_ne) rfl Tryz.mK.f_acquire (x_acquire_n Tryz.link) (x_acquire_b Tryz.link) (x_acquire_x Tryz.link) (x_acquire_f Tryz.link) (by simp[Act.eval,muA]), λGu Uh hJ=>?_⟩)
 have Ui:=hF.1;replace hF:KM 83 C.Mu C.Z (λb=>C.own b∨Gu b) w w:=⟨dM.refl _,hF.2⟩;rw[e0];refine dG (n:=30) ?_
 walk_nrm
 repeat w_go (dB hz)
 u_leave0 Tryz.func101 (dB hz) hF
 exact cz λqa3 qa7=>Gw.mono (λ_ _ _ h=>.base (.inr h)) (e0 ▸ C.hT _ _ _ _ Ui Uh hJ (dB hz hF qa7))
def Yo(hF:C.km w)(hf:C.fr t ws sv aw it)(h80:t.getD 80 undef=.bool false)(hk:kk=KL 22 []):C.gw ⟨.r3,0,0,aw,sv,it,ws⟩ n t kk w:=by
 obtain⟨GX,hs,hws,f0,f2,f3,f4,f5⟩:=hf;have e0:=C.e0;have hz:=C.hz;subst hk;revert f0 f2 f3 f4 f5 h80;apply ng hs
 iterate 139 intro _
 rintro⟨⟩⟨⟩⟨⟩⟨⟩⟨⟩⟨⟩;simp only[LC.gw,LC.law,LC.g,KL,KR,LL,REST,KF,ME,MC,kG,fH,gG,fE,jF,gq,Tryz.f101,ak,reduceIte,Nat.reduceEqDiff,reduceCtorEq];refine dG (n:=60) ?_
 repeat w_go (dB hz)
 refine gI hz hF λw hF=>.step (iV C.hne (by simp) rfl rfl λs hs hm1 hm2 hnb=>.inr ⟨by simp,_,_,_,_,w,#[],aR.2 rfl,by rw[e0];exact lI rfl rfl (by k_ne) rfl rfl hs.cellSt pR,by simp,hs,Eff.refl _,(λe he=>by simp at he),?_⟩)
 rw[e0];refine dG (n:=40) ?_
 walk_nrm
 repeat w_nl (dB hz)
 u_c stepG_inLoop (dB hz) hF
 exact gI hz hF λw hF=>.base (.inl (.mk hF ⟨_,rfl,hws,rfl,rfl,rfl,rfl,rfl⟩ rfl))
def Yp{o:Int}(hF:C.km w)(hf:C.fr t ws sv aw it)(h6:t.getD 6 undef=.int .i32 o)(h80:t.getD 80 undef=.bool true)(ho:o=0∨o=2)(hk:kk=KL 22 []):C.gw (lk .le) n t kk w:=by
 obtain⟨GX,hs,hws,f0,f2,f3,f4,f5⟩:=hf;have e0:=C.e0;have hz:=C.hz;subst hk;revert f0 f2 f3 f4 f5 h6 h80;apply ng hs
 iterate 139 intro _
 rintro⟨⟩⟨⟩⟨⟩⟨⟩⟨⟩⟨⟩⟨⟩;simp only[LC.gw,LC.law,LC.g,KL,KR,LL,REST,KF,ME,MC,kG,fH,gG,fE,jF,gq,Tryz.f101,ak,reduceIte,Nat.reduceEqDiff,reduceCtorEq];rcases ho with rfl|rfl
 all_goals
  refine dG (n:=80) ?_
  repeat w_go (dB hz)
  try m_num
  repeat w_go (dB hz)
  refine gI hz hF λw hF=>.step (sr hF rfl rfl (by kernel_rfl))
def Ve{m:Nat}(h:Kn m=true):m<=20:=by simp[Kn]at h;omega
def ao2{d:Nat}(hF:C.km w)(hs:t.size=139)(h0:t.getD 0 undef=.pointer (some ⟨C.Mu,0,none⟩))(h1:t.getD 128 undef=.pointer (some (muA C.Mu)))(h2:t.getD 129 undef=.int .i32 (-(d:Nat)))(hd:d=7∨d=11)(hk:kk= [.inRegion (KF 36) [4],.code (ME 36),.code (MC 37),.inBlock 1,.inLoop LL,.inBlock 0,.code REST]):C.law ⟨.a1,0,d,false,false,0,false⟩ n t kk w:=by
 have e0:=C.e0;have hz:=C.hz;subst hk;revert h0 h1 h2;apply ng hs
 iterate 139 intro _
 rintro⟨⟩⟨⟩⟨⟩;simp only[LC.gw,LC.law,LC.g,KL,KR,LL,REST,KF,ME,MC,kG,fH,gG,fE,jF,gq,Tryz.f101,ak,reduceIte,Nat.reduceEqDiff,reduceCtorEq];refine iV C.hne (by simp) rfl rfl λs hs hm1 hm2 hnb=>?_
 have hle:d<=s.b.mu:=by
  rcases bq s.b.mu d with h|h
  .have :=hnb (lk .bad,s.b.mu,s.b.ms) (by simp[qo,Nat.not_le.2 h]);cases this
  .exact h
 have hmx:=Ve hm1;have ew:IntKind.i32.wrap (((s.b.mu:Nat):Int)+(-(d:Nat)))=((s.b.mu-d:Nat):Int):=by rw[IntKind.wrap_i32];omega
 refine .inr ⟨by simp,lk .le,s.b.mu-d,s.b.ms,_,w.setCell (muA C.Mu) (.int .i32 ((s.b.mu-d:Nat):Int)),_,by simp[qo,hle],by rw[e0];exact(stepG_add_atomic rfl rfl (by k_ne) rfl Tryz.func102 yI yJ yK .i32 yL rfl rfl hs.cellSt (hs.thaw 0)).trans (by rw[ew];first|done|rfl),by simp,hs.setSt _,Eff.set _ _ (.inl rfl),pQ (C:=C.cf) (a:=muA C.Mu) (.inl rfl),?_⟩;replace hF:=hF.turn C.hb hs (hs.setSt ((s.b.mu-d:Nat):Int)) (Eff.set (muA C.Mu) _ (.inl rfl));generalize w.setCell (muA C.Mu) (.int .i32 ((s.b.mu-d:Nat):Int))=qa4 at hF⊢;generalize((s.b.mu-d:Nat):Int)=mn;rw[e0];refine dG (n:=80) ?_
 walk_nrm
 repeat w_go (dB hz)
 exact gI hz hF λw hF=>.step (sr hF rfl rfl (by kernel_rfl))
def WO(hF:C.km w)(hf:C.fr t ws sv aw it)(ao3:t.getD 103 undef=.pointer (some (muA C.Mu)))(hk:kk=KL 29 [3,4]):C.law ⟨.r2,0,0,aw,sv,0,ws⟩ n t kk w:=by
 obtain⟨GX,hs,hws,f0,f2,f3,f4,f5⟩:=hf;have e0:=C.e0;have hz:=C.hz;subst hk;revert f0 f2 f3 f4 f5 ao3;apply ng hs
 iterate 139 intro _
 rintro⟨⟩⟨⟩⟨⟩⟨⟩⟨⟩⟨⟩;simp only[LC.gw,LC.law,LC.g,KL,KR,LL,REST,KF,ME,MC,kG,fH,gG,fE,jF,gq,Tryz.f101,ak,reduceIte,Nat.reduceEqDiff,reduceCtorEq];refine iV C.hne (by simp) rfl rfl λs hs hm1 hm2 hnb=>?_
 obtain⟨v,wt,sm,jn,dn,⟨mu,ms,c0,c1,ow⟩⟩:=s;simp only at hs hm1 hm2 hnb⊢
 by_cases hq:mu=12∨mu=20
 .rcases hq with rfl|rfl<;>cases sv
  all_goals
   refine .inr ⟨by simp,_,_,ms,_,w,#[],by simp only[qo];exact aR.2 rfl,by rw[e0];exact lI rfl rfl (by k_ne) rfl rfl hs.cellSt pR,by simp,hs,Eff.refl _,(λe he=>by simp at he),?_⟩;clear hs hm1 hm2 hnb;rw[e0];refine dG (n:=120) ?_
   walk_nrm
   repeat w_go (dB hz)
   exact gI hz hF λw hF=>.step (ao2 hF rfl rfl rfl rfl (by decide) (by kernel_rfl))
 have gc:mu≠13:= λe=>by subst e;have :=hnb (lk .bad,13,ms) (by simp[qo]);cases this
 have hq4:bits .and .i32 ((mu:Nat):Int) 4=0:=by
  have:mu=0∨mu=1∨mu=2∨mu=3∨mu=8∨mu=9:=by simp[Kn]at hm1;omega
  rcases this with rfl|rfl|rfl|rfl|rfl|rfl<;>decide
 refine .inr ⟨by simp,⟨.hd,mu,0,true,sv,0,ws⟩,mu,ms,_,w,#[],by simp[qo,gc,show mu≠12 by omega,show mu≠20 by omega],by rw[e0];exact lI rfl rfl (by k_ne) rfl rfl hs.cellSt pR,by simp,hs,Eff.refl _,(λe he=>by simp at he),?_⟩;clear hs hm1 hm2 hnb;rw[e0];refine dG (n:=120) ?_
 walk_nrm
 repeat w_nl (dB hz)
 u_c stepG_inLoop (dB hz) hF
 exact gI hz hF λw hF=>.base (.inl (.mk hF ⟨_,rfl,hws,rfl,rfl,rfl,rfl,rfl⟩ rfl))
def af5(hF:C.km w)(hf:C.fr t ws false aw it)(h95:t.getD 95 undef=.bool false)(hk:kk=KL 28 [2,3,4,5,6,7]):C.law ⟨.t2,0,0,aw,false,0,ws⟩ n t kk w:=by
 obtain⟨GX,hs,hws,f0,f2,f3,f4,f5⟩:=hf;have e0:=C.e0;have hz:=C.hz;subst hk;revert f0 f2 f3 f4 f5 h95;apply ng hs
 iterate 139 intro _
 rintro⟨⟩⟨⟩⟨⟩⟨⟩⟨⟩⟨⟩;simp only[LC.gw,LC.law,LC.g,KL,KR,LL,REST,KF,ME,MC,kG,fH,gG,fE,jF,gq,Tryz.f101,ak,reduceIte,Nat.reduceEqDiff,reduceCtorEq];refine iV C.hne (by simp) rfl rfl λs hs hm1 hm2 hnb=>?_
 rcases hB:decide (1000000<IntKind.i64.wrap (((w.os.mono+w.tick:Nat):Int)-GX))with _|_
 all_goals
  refine .inr ⟨by simp,⟨.r2,0,0,aw,decide (1000000<IntKind.i64.wrap (((w.os.mono+w.tick:Nat):Int)-GX)),0,ws⟩,s.b.mu,s.b.ms,_,w.later,#[],by simp only[hB,qo];simp,by rw[e0];exact stepG_nanotime rfl rfl (by k_ne) rfl Tryz.func113 IL IM IP IQ IU,by simp,hs,Eff.later _,(λe he=>by simp at he),?_⟩;replace hF:C.km w.later:=hF.turn C.hb hs hs (Eff.later w);clear hs hm1 hm2 hnb;rw[e0];generalize w.later=wl at hF⊢;rw[hB];generalize((w.os.mono+w.tick:Nat):Int)=tv at hB⊢;refine dG (n:=60) ?_
  walk_nrm
  repeat w_go (dB hz)
  try simp only[hB]
  repeat w_go (dB hz)
  exact gI hz hF λw hF=>.step (WO hF ⟨_,rfl,hws,rfl,rfl,rfl,rfl,rfl⟩ rfl (by kernel_rfl))
def WQ(hF:C.km w)(hf:C.fr t ws sv aw it)(h91:t.getD 91 undef=.pointer (some (msA C.Mu)))(hk:kk=KL 27 [4]):C.law ⟨.s1,0,0,aw,sv,0,ws⟩ n t kk w:=by
 obtain⟨GX,hs,hws,f0,f2,f3,f4,f5⟩:=hf;have e0:=C.e0;have hz:=C.hz;subst hk;revert f0 f2 f3 f4 f5 h91;apply ng hs
 iterate 139 intro _
 rintro⟨⟩⟨⟩⟨⟩⟨⟩⟨⟩⟨⟩;simp only[LC.gw,LC.law,LC.g,KL,KR,LL,REST,KF,ME,MC,kG,fH,gG,fE,jF,gq,Tryz.f101,ak,reduceIte,Nat.reduceEqDiff,reduceCtorEq];refine iV C.hne (by simp) rfl rfl λs hs hm1 hm2 hnb=>?_
 obtain⟨v,wt,sm,jn,dn,⟨mu,ms,c0,c1,ow⟩⟩:=s;simp only at hs hm1 hm2 hnb⊢;rcases ms with _|_|ms
 .exact .inl ⟨⟨by simp,by simp⟩,by rw[e0];exact stepG_semacquire_wait rfl rfl rfl Tryz.func114 CG CJ CK CL (by simp[Act.eval,msA]) hs.cellSm⟩
 .have hs:MuAt 83 C.Mu w mu 1:=hs;refine .inr ⟨by simp,⟨if sv then .r2 else .t2,0,0,aw,sv,0,ws⟩,mu,0,_,w.setCell (msA C.Mu) (.int .u32 (1-1)),_,by simp[qo],by rw[e0];exact stepG_semacquire rfl rfl (by k_ne) rfl Tryz.func114 CG CJ CK CL (by simp[Act.eval,msA]) hs.cellSm (by decide) (hs.thaw 1),by simp,hs.setSm (1-1),Eff.set _ _ (.inl rfl),⟨msA C.Mu,.inl rfl,rfl⟩,?_⟩;replace hF:=hF.turn C.hb hs (hs.setSm (1-1)) (Eff.set (msA C.Mu) _ (.inl rfl));generalize w.setCell (msA C.Mu) (.int .u32 (1-1))=qa4 at hF⊢;clear hs hm1 hm2 hnb;rw[e0];cases sv
  all_goals
   refine dG (n:=60) ?_
   walk_nrm
   repeat w_go (dB hz)
   refine gI hz hF λw hF=>.step ?_
   first|exact af5 hF ⟨_,rfl,hws,rfl,rfl,rfl,rfl,rfl⟩ rfl (by kernel_rfl)|exact WO hF ⟨_,rfl,hws,rfl,rfl,rfl,rfl,rfl⟩ rfl (by kernel_rfl)
 .omega
def af6(hF:C.km w)(hf:C.fr t false sv aw it)(hk:kk= [.inRegion (KF 26) [0,1],.code (MC 27),.inBlock 1,.inLoop LL,.inBlock 0,.code REST]):C.law ⟨.t1,0,0,aw,sv,0,false⟩ n t kk w:=by
 obtain⟨GX,hs,hws,f0,f2,f3,f4,f5⟩:=hf;have e0:=C.e0;have hz:=C.hz;subst hk;revert f0 f2 f3 f4 f5;apply ng hs
 iterate 139 intro _
 rintro⟨⟩⟨⟩⟨⟩⟨⟩⟨⟩;simp only[LC.gw,LC.law,LC.g,KL,KR,LL,REST,KF,ME,MC,kG,fH,gG,fE,jF,gq,Tryz.f101,ak,reduceIte,Nat.reduceEqDiff,reduceCtorEq];refine iV C.hne (by simp) rfl rfl λs hs hm1 hm2 hnb=>?_
 obtain⟨b,hB⟩:∃b,decide (((w.os.mono+w.tick:Nat):Int)≠0)=b:=⟨_,rfl⟩;refine .inr ⟨by simp,⟨.s1,0,0,aw,sv,0,b⟩,s.b.mu,s.b.ms,_,w.later,#[],by cases b<;>simp[qo],by rw[e0];exact stepG_nanotime rfl rfl (by k_ne) rfl Tryz.func113 IL IM IP IQ IU,by simp,hs,Eff.later _,(λe he=>by simp at he),?_⟩;replace hF:C.km w.later:=hF.turn C.hb hs hs (Eff.later w);clear hs hm1 hm2 hnb;rw[e0];generalize w.later=wl at hF⊢;generalize((w.os.mono+w.tick:Nat):Int)=tv at hB⊢;refine dG (n:=60) ?_
 walk_nrm
 repeat w_go (dB hz)
 have hws:=hB.symm;exact gI hz hF λw hF=>.step (WQ hF ⟨_,rfl,hws,rfl,rfl,rfl,rfl,rfl⟩ rfl (by kernel_rfl))
def Vf{o:Int}(hF:C.km w)(hf:C.fr t ws sv aw it)(h6:t.getD 6 undef=.int .i32 o)(h80:t.getD 80 undef=.bool true)(ho:o=1∨o=3∨o=12)(hk:kk=KL 22 []):C.gw ⟨if ws then .s1 else .t1,0,0,aw,sv,0,ws⟩ n t kk w:=by
 obtain⟨GX,hs,hws,f0,f2,f3,f4,f5⟩:=hf;have e0:=C.e0;have hz:=C.hz;subst hk;revert f0 f2 f3 f4 f5 h6 h80;apply ng hs
 iterate 139 intro _
 rintro⟨⟩⟨⟩⟨⟩⟨⟩⟨⟩⟨⟩⟨⟩;simp only[LC.gw,LC.law,LC.g,KL,KR,LL,REST,KF,ME,MC,kG,fH,gG,fE,jF,gq,Tryz.f101,ak,reduceIte,Nat.reduceEqDiff,reduceCtorEq];obtain⟨d,hd,q⟩:∃d,bits .and .i32 o 5=d∧(d==0)=false:=⟨_,rfl,by rcases ho with rfl|rfl|rfl<;>decide⟩;cases ws
 .have hw0:GX=0:=by simpa using hws
  clear hws;subst hw0;refine dG (n:=80) ?_
  repeat w_go (dB hz)
  try simp only[hd,q]
  repeat w_go (dB hz)
  exact gI hz hF λw hF=>.step (af6 hF ⟨0,rfl,rfl,rfl,rfl,rfl,rfl,rfl⟩ (by kernel_rfl))
 .have hw0:GX≠0:=by simpa using hws.symm
  have q1:(GX==0)=false:=by simpa using hw0
  have q2:(GX !=0)=true:=by simpa using hw0
  replace hws:=hws.symm;refine dG (n:=80) ?_
  repeat w_go (dB hz)
  try simp only[hd,q]
  repeat w_go (dB hz)
  try simp only[q1,q2]
  repeat w_go (dB hz)
  exact gI hz hF λw hF=>.step (WQ hF ⟨_,rfl,hws.symm,rfl,rfl,rfl,rfl,rfl⟩ rfl (by kernel_rfl))
def Ri{o m:Nat}(hF:C.km w)(hf:C.fr t ws sv aw it)(h6:t.getD 6 undef=.int .i32 (o:Nat))(h77:t.getD 77 undef=.pointer (some (muA C.Mu)))(h78:t.getD 78 undef=.int .i32 (o:Nat))(h79:t.getD 79 undef=.int .i32 (m:Nat))(ho:o=0∨o=1∨o=2∨o=3∨o=12)(hk:kk=KL 22 [5]):C.law ⟨.c2,o,m,aw,sv,it,ws⟩ n t kk w:=by
 obtain⟨GX,hs,hws,f0,f2,f3,f4,f5⟩:=hf;have e0:=C.e0;have hz:=C.hz;subst hk;revert f0 f2 f3 f4 f5 h6 h77 h78 h79;apply ng hs
 iterate 139 intro _
 rintro⟨⟩⟨⟩⟨⟩⟨⟩⟨⟩⟨⟩⟨⟩⟨⟩⟨⟩;simp only[LC.gw,LC.law,LC.g,KL,KR,LL,REST,KF,ME,MC,kG,fH,gG,fE,jF,gq,Tryz.f101,ak,reduceIte,Nat.reduceEqDiff,reduceCtorEq];refine iV C.hne (by simp) rfl rfl λs hs hm1 hm2 hnb=>?_
 obtain⟨v,wt,sm,jn,dn,⟨mu,ms,c0,c1,ow⟩⟩:=s;simp only at hs hm1 hm2 hnb⊢
 by_cases hq:mu=o
 .subst hq;have hs:MuAt 83 C.Mu w mu ms:=hs;obtain⟨l,hl⟩:∃l,(if mu=0∨mu=2 then lk .le else⟨if ws then .s1 else .t1,0,0,aw,sv,0,ws⟩:LK)=l:=⟨_,rfl⟩;refine .inr ⟨by simp,l,m,ms,_,w.setCell (muA C.Mu) (.int .i32 m),_,by simp only[qo,if_true, <-hl];split<;>simp,by rw[e0];exact stepG_cas_hit rfl rfl (by k_ne) rfl Tryz.func100 yE yF yG .i32 yH rfl rfl rfl hs.cellSt (hs.thaw 0),by simp,hs.setSt m,Eff.set _ _ (.inl rfl),pQ (C:=C.cf) (a:=muA C.Mu) (.inl rfl),?_⟩;replace hF:=hF.turn C.hb hs (hs.setSt m) (Eff.set (muA C.Mu) _ (.inl rfl));generalize w.setCell (muA C.Mu) (.int .i32 m)=qa4 at hF⊢;clear hs hm1 hm2 hnb;rw[e0];refine dG (n:=4) ?_
  walk_nrm;subst hl;refine cz λqa3 qa7=>?_
  replace hF:=dB hz hF qa7;split
  .exact Yp hF ⟨_,rfl,hws,rfl,rfl,rfl,rfl,rfl⟩ rfl rfl (by omega) (by kernel_rfl)
  .exact Vf hF ⟨_,rfl,hws,rfl,rfl,rfl,rfl,rfl⟩ rfl rfl (by omega) (by kernel_rfl)
 .have hqi:((mu:Nat):Int)≠(o:Nat):=by omega
  refine .inr ⟨by simp,⟨.r3,0,0,aw,sv,it,ws⟩,mu,ms,_,w,_,by simp[qo,hq],by rw[e0];exact stepG_cas_miss rfl rfl (by k_ne) rfl Tryz.func100 yE yF yG .i32 yH rfl rfl rfl hs.cellSt (hs.thaw 0) hqi,by simp,hs,Eff.refl _,Cw (C:=C.cf) (a:=muA C.Mu) (.inl rfl),?_⟩;clear hs hm1 hm2 hnb;rw[e0];refine dG (n:=4) ?_
  walk_nrm;exact cz λqa3 qa7=>Yo (dB hz hF qa7) ⟨_,rfl,hws,rfl,rfl,rfl,rfl,rfl⟩ rfl (by kernel_rfl)
def headA{old:Nat}(h:(old=0∧aw=false∧sv=false)∨(old=2∧aw=false∧sv=false)∨(old=2∧aw=true∧sv=false)∨(old=2∧aw=true∧sv=true)∨(old=12∧aw=false∧sv=false))(hF:C.km w)(hf:C.fr t ws sv aw it)(h6:t.getD 6 undef=.int .i32 (old:Nat))(hk:kk= [.code LL,.inLoop LL,.inBlock 0,.code REST]):C.law ⟨.hd,old,0,aw,sv,it,ws⟩ n t kk w:=by
 obtain⟨GX,hs,hws,f0,f2,f3,f4,f5⟩:=hf;have e0:=C.e0;have hz:=C.hz;subst hk;revert f0 f2 f3 f4 f5 h6;apply ng hs
 iterate 139 intro _
 rintro⟨⟩⟨⟩⟨⟩⟨⟩⟨⟩⟨⟩;simp only[LC.gw,LC.law,LC.g,KL,KR,LL,REST,KF,ME,MC,kG,fH,gG,fE,jF,gq,Tryz.f101,ak,reduceIte,Nat.reduceEqDiff,reduceCtorEq];refine iV C.hne (by simp) rfl rfl λs hs hm1 hm2 hnb=>.inr ⟨by simp,_,_,_,_,w,#[],aR.2 rfl,by rw[e0];exact stepG_block,by simp,hs,Eff.refl _,(λe he=>by simp at he),?_⟩
 clear hs hm1 hm2 hnb s;rw[e0];refine dG (n:=140) ?_
 rcases h with⟨rfl,rfl,rfl⟩|⟨rfl,rfl,rfl⟩|⟨rfl,rfl,rfl⟩|⟨rfl,rfl,rfl⟩|⟨rfl,rfl,rfl⟩
 all_goals
  simp only[Int.cast_ofNat_Int]
  repeat w_go (dB hz)
  try m_num
  repeat w_go (dB hz)
  exact gI hz hF λw hF=>.step (Ri hF ⟨_,rfl,hws,rfl,rfl,rfl,rfl,rfl⟩ rfl rfl rfl rfl (by decide) (by kernel_rfl))
def af7{old:Nat}(h:(old=1∧aw=false∧sv=false)∨(old=3∧aw=true∧sv=false)∨(old=3∧aw=true∧sv=true))(hF:C.km w)(hf:C.fr t ws sv aw it)(h6:t.getD 6 undef=.int .i32 (old:Nat))(hk:kk= [.code LL,.inLoop LL,.inBlock 0,.code REST]):C.law ⟨.hd,old,0,aw,sv,it,ws⟩ n t kk w:=by
 have e:FQ old aw sv it ws=⟨.sq,old,0,aw,sv,it,ws⟩:=by rcases h with⟨rfl,rfl,rfl⟩|⟨rfl,rfl,rfl⟩|⟨rfl,rfl,rfl⟩<;>rfl
 obtain⟨GX,hs,hws,f0,f2,f3,f4,f5⟩:=hf;have e0:=C.e0;have hz:=C.hz;subst hk;revert f0 f2 f3 f4 f5 h6;apply ng hs
 iterate 139 intro _
 rintro⟨⟩⟨⟩⟨⟩⟨⟩⟨⟩⟨⟩;simp only[LC.gw,LC.law,LC.g,KL,KR,LL,REST,KF,ME,MC,kG,fH,gG,fE,jF,gq,Tryz.f101,ak,reduceIte,Nat.reduceEqDiff,reduceCtorEq];refine iV C.hne (by simp) rfl rfl λs hs hm1 hm2 hnb=>.inr ⟨by simp,_,_,_,_,w,#[],aR.2 rfl,by rw[e0];exact stepG_block,by simp,hs,Eff.refl _,(λe he=>by simp at he),?_⟩
 clear hs hm1 hm2 hnb s;rw[e0,e];clear e;refine dG (n:=140) ?_
 rcases h with⟨rfl,rfl,rfl⟩|⟨rfl,rfl,rfl⟩|⟨rfl,rfl,rfl⟩
 all_goals
  simp only[Int.cast_ofNat_Int]
  repeat w_go (dB hz)
  refine gI hz hF λw hF=>.step (iV C.hne (by simp) rfl rfl λs hs hm1 hm2 hnb=>?_)
  by_cases h4:it<4
  .rcases hsp:w.spins with _|_
   .refine .inr ⟨by simp,_,s.b.mu,s.b.ms,_,w.asked,#[],by simp only[qo,aj h4];exact aP,by rw[e0];exact stepG_canSpin_ask rfl rfl (by k_ne) rfl Tryz.func110 uI uJ uK uL (k:=.i64) (n:=((it:Nat):Int)) (by simp[Act.eval]) (by omega),by simp,hs,Eff.asked _,(λe he=>by simp at he),?_⟩;replace hF:=hF.turn (W':=w.asked) C.hb hs hs (Eff.asked w);rw[hsp];generalize w.asked=wl at hF⊢;clear hs hm1 hm2 hnb hsp;rw[e0];refine dG (n:=140) ?_
    walk_nrm
    repeat w_go (dB hz)
    try m_num
    repeat w_go (dB hz)
    exact gI hz hF λw hF=>.step (Ri hF ⟨_,rfl,hws,rfl,rfl,rfl,rfl,rfl⟩ rfl rfl rfl rfl (by decide) (by kernel_rfl))
   .refine .inr ⟨by simp,_,s.b.mu,s.b.ms,_,w.asked,#[],by simp only[qo,aj h4];exact aQ _ aP,by rw[e0];exact stepG_canSpin_ask rfl rfl (by k_ne) rfl Tryz.func110 uI uJ uK uL (k:=.i64) (n:=((it:Nat):Int)) (by simp[Act.eval]) (by omega),by simp,hs,Eff.asked _,(λe he=>by simp at he),?_⟩;replace hF:=hF.turn (W':=w.asked) C.hb hs hs (Eff.asked w);rw[hsp];generalize w.asked=wl at hF⊢;clear hs hm1 hm2 hnb hsp;rw[e0];refine dG (n:=140) ?_
    walk_nrm
    repeat w_go (dB hz)
    u_in (dB hz) hF
    rw[stepG_entry_pure (.tuple #[]) rfl rfl (by k_ne) rfl Tryz.func111 Kv Kw Ky Kz];simp only[goes_go];refine⟨⟨rfl,rfl⟩,?_⟩;walk_nrm
    repeat w_go (dB hz)
    have ew:IntKind.i64.wrap (((it:Nat):Int)+1)=((it+1:Nat):Int):=by rw[IntKind.wrap_i64];omega
    try simp only[ew]
    refine gI hz hF λw hF=>.step (iV C.hne (by simp) rfl rfl λs hs hm1 hm2 hnb=>.inr ⟨by simp,_,_,_,_,w,#[],aR.2 rfl,by rw[e0];exact lI rfl rfl (by k_ne) rfl rfl hs.cellSt pR,by simp,hs,Eff.refl _,(λe he=>by simp at he),?_⟩)
    rw[e0];refine dG (n:=40) ?_
    walk_nrm
    repeat w_nl (dB hz)
    u_c stepG_inLoop (dB hz) hF
    exact gI hz hF λw hF=>.base (.inl (.mk hF ⟨_,rfl,hws,rfl,rfl,rfl,rfl,rfl⟩ rfl))
  .refine .inr ⟨by simp,_,s.b.mu,s.b.ms,_,w,#[],by simp only[qo];exact aP,by rw[e0];exact stepG_canSpin_no rfl rfl (by k_ne) rfl Tryz.func110 uI uJ uK uL (k:=.i64) (n:=((it:Nat):Int)) (by simp[Act.eval]) (by omega),by simp,hs,Eff.refl _,(λe he=>by simp at he),?_⟩;clear hs hm1 hm2 hnb;rw[e0];refine dG (n:=140) ?_
   walk_nrm
   repeat w_go (dB hz)
   try m_num
   repeat w_go (dB hz)
   exact gI hz hF λw hF=>.step (Ri hF ⟨_,rfl,hws,rfl,rfl,rfl,rfl,rfl⟩ rfl rfl rfl rfl (by decide) (by kernel_rfl))
def Vg{X:jE (FT LT)}{old:Nat}{g:Goroutine}(hr:g.status=.running)(ho:g.offers=none)(h:QV old aw sv=false):
 xI Tryz.prog C.cf.sys X C.i (.bd C.k ⟨⟨.hd,old,0,aw,sv,it,ws⟩,C.c,n⟩) C.own g w:=by
 refine iV C.hne (by simp) hr ho λs hs hm1 hm2 hnb=>?_
 have :=hnb _ (aR.2 rfl);simp[FQ,h]at this;cases this
def Rj{old:Nat}(h:QV old aw sv≠false):((old=0∧aw=false∧sv=false)∨(old=2∧aw=false∧sv=false)∨(old=2∧aw=true∧sv=false)∨(old=2∧aw=true∧sv=true)∨(old=12∧aw=false∧sv=false))∨(old=1∧aw=false∧sv=false)∨(old=3∧aw=true∧sv=false)∨(old=3∧aw=true∧sv=true):=by unfold QV Ml at h;split at h<;>simp_all
def Yq{Tt:FT LT}{dD:Nat->Prop}{g:Goroutine}(h:fg C C.i Tt dD g w):At Tryz.prog C.cf.sys C.i Tt dD g w:=by
 refine At.upto (X:=fg C) (λi' T' dD g' w' hx=>?_) h;cases hx with
 | @mk old it n aw sv ws t w hF hf h6=>
   by_cases hok:QV old aw sv=false
   .exact Vg rfl rfl hok
   rcases Rj hok with h|h
   .exact headA h hF hf h6 rfl
   .exact af7 h hF hf h6 rfl
def Yr(hF:C.km w)(hs:t.size=139)(h0:t.getD 0 undef=.pointer (some ⟨C.Mu,0,none⟩)):
 Gw Tryz.prog false C.Z (At Tryz.prog C.cf.sys C.i (.bd C.k ⟨lk .r0,C.c,n⟩)) C.own (C.g t [.code kG]) w:=by
 have e0:=C.e0;have hz:=C.hz;revert h0;apply ng hs
 iterate 139 intro _
 rintro⟨⟩;simp only[LC.g,kG,Tryz.f101,ak];refine dG (n:=60) ?_
 repeat w_go (dB hz)
 refine gI hz hF λw hF=>At.of_law (iV C.hne (by simp) rfl rfl λs hs hm1 hm2 hnb=>.inr ⟨by simp,_,_,_,_,w,#[],aR.2 rfl,by rw[e0];exact lI rfl rfl (by k_ne) rfl rfl hs.cellSt pR,by simp,hs,Eff.refl _,(λe he=>by simp at he),?_⟩)
 rw[e0];refine dG (n:=60) ?_
 walk_nrm
 repeat w_but "code.loop" (dB hz)
 u_c stepG_loop (dB hz) hF
 exact gI hz hF λw hF=>Yq (.mk hF ⟨0,rfl,rfl,rfl,rfl,rfl,rfl,rfl⟩ rfl)
section
variable {Mu Wg:Nat} {ty:TypeId} {N:Nat->Nat} {J:Nat->Nat->(Nat->Prop)->World->Prop} {ro:Nat->Prop} {Anch:(Nat->Prop)->Goroutine->World->Prop} {own:Nat->Prop} {W0:World} {i k c:Nat}
variable {qa9:Frame} {qaa:Act} {qa5:Array Oper} {qab:Nat} {qa6:List Nat} {qac:List Item} {cs:List Frame}
noncomputable def MF:Code:=Tryz.f44.body.getD .skip
def Yt(hne:Mu≠Wg)(hi:i≠0)(hb:Beside (cfg Mu Wg ty N J ro Anch) ((cfg Mu Wg ty N J ro Anch).Zw k) own)(hT:WN Mu Wg ty N J ro Anch own W0 i k c (G (qa9.at (qaa.put ((qa5[qab]?).bind (·.dst)) (.tuple #[])) (.inRegion qa5 qa6::qac)) cs)){n:Nat}{w:World}(hF:KM 83 Mu ((cfg Mu Wg ty N J ro Anch).Zw k) own W0 w):
 Gw Tryz.prog false ((cfg Mu Wg ty N J ro Anch).Zw k) (At Tryz.prog (cfg Mu Wg ty N J ro Anch).sys i (.bd k ⟨lk .ld,c,n⟩)) own (G ((base 44).at ⟨#[.pointer (some ⟨Mu,0,none⟩),undef,undef,undef,undef,undef],[]⟩ [.code MF]) (qa9.at qaa (.inRegion qa5 (qab::qa6)::qac)::cs)) w:=by
 have e0:(i==0)=false:=by simpa using hi
 have hz:((cfg Mu Wg ty N J ro Anch).Zw k).sy Mu:=.inl (.inl rfl);simp only[MF,Tryz.f44,ak];refine dG (n:=40) ?_
 repeat w_go (dB hz)
 u_call Tryz.func79 Rf Tryz.f79 (dB hz) hF
 repeat w_go (dB hz)
 refine gI hz hF λw hF=>At.of_law (iV hne (by simp) rfl rfl λs hs hm1 hm2 hnb=>.inr ⟨by simp,_,_,_,_,w,_,aR.2 rfl,by rw[e0];exact stepG_mark0 .disable (by simp) rfl rfl (by k_ne) rfl Tryz.mK.f_disable (x_disable_n Tryz.link) (x_disable_b Tryz.link) (x_disable_x Tryz.link) (x_disable_f Tryz.link),by simp,hs,Eff.refl _,rfl,?_⟩)
 clear hs hm1 hm2 hnb s;rw[e0];refine dG (n:=30) ?_
 walk_nrm
 repeat w_go (dB hz)
 refine gI hz hF λw hF=>At.of_law (iV hne (by simp) rfl rfl λs hs hm1 hm2 hnb=>?_)
 obtain⟨v,wt,sm,jn,dn,⟨mu,ms,c0,c1,ow⟩⟩:=s;simp only at hs hm1 hm2 hnb⊢
 by_cases hq:mu=0
 .subst hq;have hs:MuAt 83 Mu w 0 ms:=hs;refine .inr ⟨by simp,lk .le,1,ms,_,w.setCell (muA Mu) (.int .i32 1),_,by simp[qo],by rw[e0];exact stepG_cas_hit rfl rfl (by k_ne) rfl Tryz.func100 yE yF yG .i32 yH rfl rfl rfl hs.cellSt (hs.thaw 0),by simp,hs.setSt 1,Eff.set _ _ (.inl rfl),pQ (C:=cfg Mu Wg ty N J ro Anch) (a:=muA Mu) (.inl rfl),?_⟩;replace hF:=hF.turn hb hs (hs.setSt 1) (Eff.set (muA Mu) _ (.inl rfl));generalize w.setCell (muA Mu) (.int .i32 1)=qa4 at hF⊢;clear hs hm1 hm2 hnb;rw[e0];refine dG (n:=30) ?_
  walk_nrm
  repeat w_go (dB hz)
  refine gI hz hF λw hF=>At.of_law (iV hne (by simp) rfl rfl λs hs hm1 hm2 hnb=>.inr ⟨by simp,_,_,_,_,w,_,aR.2 rfl,by rw[e0];exact stepG_mark0 .enable (by simp) rfl rfl (by k_ne) rfl Tryz.mK.f_enable (x_enable_n Tryz.link) (x_enable_b Tryz.link) (x_enable_x Tryz.link) (x_enable_f Tryz.link),by simp,hs,Eff.refl _,rfl,?_⟩)
  clear hs hm1 hm2 hnb s;rw[e0];refine dG (n:=30) ?_
  walk_nrm
  repeat w_go (dB hz)
  m_convG Tryz.prog Tryz.mK.underlying_tUP KE Rh hF.mu.choose_spec (dB hz) hF
  refine gI hz hF λw hF=>At.of_law (cr hne rfl rfl rfl λs hs hc=>⟨_,by rw[e0];exact stepG_markAt .acquire (by simp) rfl rfl (by k_ne) rfl Tryz.mK.f_acquire (x_acquire_n Tryz.link) (x_acquire_b Tryz.link) (x_acquire_x Tryz.link) (x_acquire_f Tryz.link) (by simp[Act.eval,muA]), λGu Uh hJ=>?_⟩)
  have Ui:=hF.1;replace hF:KM 83 Mu ((cfg Mu Wg ty N J ro Anch).Zw k) (λb=>own b∨Gu b) w w:=⟨dM.refl _,hF.2⟩;rw[e0];refine dG (n:=30) ?_
  walk_nrm
  repeat w_go (dB hz)
  u_leave0 Tryz.func79 (dB hz) hF
  repeat w_go (dB hz)
  u_leave0 Tryz.func44 (dB hz) hF
  exact cz λqa3 qa7=>(e0 ▸ hT _ _ _ _ Ui Uh hJ (dB hz hF qa7))
 .have hqi:((mu:Nat):Int)≠0:=by omega
  refine .inr ⟨by simp,lk .r0,mu,ms,_,w,_,by simp[qo,hq],by rw[e0];exact stepG_cas_miss rfl rfl (by k_ne) rfl Tryz.func100 yE yF yG .i32 yH rfl rfl rfl hs.cellSt (hs.thaw 0) hqi,by simp,hs,Eff.refl _,Cw (C:=cfg Mu Wg ty N J ro Anch) (a:=muA Mu) (.inl rfl),?_⟩;clear hs hm1 hm2 hnb;rw[e0];refine dG (n:=80) ?_
  walk_nrm
  repeat w_go (dB hz)
  u_call Tryz.func101 IK Tryz.f101 (dB hz) hF
  refine cz λqa3 qa7=>Yr (C:=⟨Mu,Wg,ty,N,J,ro,Anch,own,W0,i,k,c,_,_,_,_,_,_,_,hne,hi,hb, λo Gu W1 w h1 h2 h3 hF=>?_⟩) (dB hz hF qa7) rfl rfl
  rw[e0];refine dG (n:=40) ?_
  walk_nrm
  repeat w_go (dB hz)
  u_leave0 Tryz.func79 (dB hz) hF
  repeat w_go (dB hz)
  u_leave0 Tryz.func44 (dB hz) hF
  exact cz λqa8 qad=>(e0 ▸ hT _ _ _ _ h1 h2 h3 (dB hz hF qad))
end
end Go.Proofs.Tryz
