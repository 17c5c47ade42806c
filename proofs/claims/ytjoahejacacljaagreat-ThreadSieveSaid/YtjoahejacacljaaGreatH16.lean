/- Part 16. -/
import Derived.Test.YtjoahejacacljaaGreatH08
set_option maxRecDepth 100000
set_option maxHeartbeats 0
set_option linter.all false
namespace Go.Proofs.Tryz
open Go Go.Conc Go.ConcN Go.ConcM Go.RowKit Go.Conc.Lib Go.ConcR.Gen cS
open Go.ConcR (KK wgBlock WgAt stA smA rd wr mk AtMkS)
section
variable {Mu Wg:Nat} {ty:TypeId} {N:Nat->Nat} {J:Nat->Nat->(Nat->Prop)->World->Prop} {ro:Nat->Prop} {Anch:(Nat->Prop)->Goroutine->World->Prop}
variable {own:Nat->Prop} {W0:World} {i k c:Nat} {qa9:Frame} {qaa:Act} {qa5:Array Oper} {qab:Nat} {qa6:List Nat} {qac:List Item} {cs:List Frame}
def OH{Z:fO}{own dD:Nat->Prop}{a b:World}(h:dM Z own a b)(hs:∀x,dD x->own x):dM Z dD a b:=⟨h.tape,h.out,h.os,h.size, λx hx=>h.own x (hs x hx),h.ro,h.sy,h.cl⟩
noncomputable def MG:Code:=Tryz.f45.body.getD .skip
def IV(hne:Mu≠Wg)(hi:i≠0)(hb:Beside (cfg Mu Wg ty N J ro Anch) ((cfg Mu Wg ty N J ro Anch).Zw k) own){n:Nat}{Gu:Nat->Prop}(Uh:∀b,Gu b->own b)(hJ:∀w,KM 83 Mu ((cfg Mu Wg ty N J ro Anch).Zw k) own W0 w->Jk J k (c+1) n Gu w)
 (hT:∀w,KM 83 Mu ((cfg Mu Wg ty N J ro Anch).Zw k) (λb=>own b∧¬Gu b) W0 w->Gw Tryz.prog (i==0) ((cfg Mu Wg ty N J ro Anch).Zw k) (At Tryz.prog (cfg Mu Wg ty N J ro Anch).sys i (qx N k (c+1) n)) (λb=>own b∧¬Gu b) (G (qa9.at (qaa.put ((qa5[qab]?).bind (·.dst)) (.tuple #[])) (.inRegion qa5 qa6::qac)) cs) w) {w:World} (hF:KM 83 Mu ((cfg Mu Wg ty N J ro Anch).Zw k) own W0 w):
 Gw Tryz.prog false ((cfg Mu Wg ty N J ro Anch).Zw k) (At Tryz.prog (cfg Mu Wg ty N J ro Anch).sys i (.bd k ⟨lk .ur,c,n⟩)) own (G ((base 45).at ⟨#[.pointer (some ⟨Mu,0,none⟩),undef,undef,undef,undef,undef],[]⟩ [.code MG]) (qa9.at qaa (.inRegion qa5 (qab::qa6)::qac)::cs)) w:=by
 have e0:(i==0)=false:=by simpa using hi
 have hz:((cfg Mu Wg ty N J ro Anch).Zw k).sy Mu:=.inl (.inl rfl);simp only[MG,Tryz.f45,ak];refine dG (n:=60) ?_
 repeat w_go (dB hz)
 u_call Tryz.func80 Ku Tryz.f80 (dB hz) hF
 repeat w_go (dB hz)
 u_in (dB hz) hF
 obtain⟨x0,hx0⟩:=hF.muI;rw[lI rfl rfl (by k_ne) rfl rfl hx0 OG];simp only[goes_go];refine⟨⟨rfl,rfl⟩,?_⟩;clear hx0;walk_nrm
 repeat w_go (dB hz)
 m_convG Tryz.prog Tryz.mK.underlying_tUP KE Rh hF.mu.choose_spec (dB hz) hF
 refine gI hz hF λw hF=>At.of_law (?_)
 refine an6 hne rfl rfl rfl Uh (hJ _ hF) ⟨_,by rw[e0];exact stepG_markAt .releaseMerge (by simp) rfl rfl (by k_ne) rfl Tryz.mK.f_relMerge (x_relMerge_n Tryz.link) (x_relMerge_b Tryz.link) (x_relMerge_x Tryz.link) (x_relMerge_f Tryz.link) (by simp[Act.eval,muA]),?_⟩;replace hF:KM 83 Mu ((cfg Mu Wg ty N J ro Anch).Zw k) (λb=>own b∧¬Gu b) W0 w:=⟨OH hF.1 λ_ h=>h.1,hF.2⟩;replace hb:Beside (cfg Mu Wg ty N J ro Anch) ((cfg Mu Wg ty N J ro Anch).Zw k) (λb=>own b∧¬Gu b):=⟨λb h=>hb.own b h.1,hb.ro,hb.cl⟩;clear hJ;rw[e0];refine dG (n:=30) ?_
 walk_nrm
 repeat w_go (dB hz)
 refine gI hz hF λw hF=>At.of_law (iV hne (by simp) rfl rfl λs hs hm1 hm2 hnb=>.inr ⟨by simp,_,_,_,_,w,_,aR.2 rfl,by rw[e0];exact stepG_mark0 .disable (by simp) rfl rfl (by k_ne) rfl Tryz.mK.f_disable (x_disable_n Tryz.link) (x_disable_b Tryz.link) (x_disable_x Tryz.link) (x_disable_f Tryz.link),by simp,hs,Eff.refl _,rfl,?_⟩)
 clear hs hm1 hm2 hnb s;rw[e0];refine dG (n:=30) ?_
 walk_nrm
 repeat w_go (dB hz)
 refine gI hz hF λw hF=>At.of_law (iV hne (by simp) rfl rfl λs hs hm1 hm2 hnb=>?_)
 obtain⟨v,wt,sm,jn,dn,⟨mu,ms,c0,c1,ow⟩⟩:=s;simp only at hs hm1 hm2 hnb⊢
 have hm:mu=1∨mu=3∨mu=9∨mu=13:=bn λhq=>by simp only[not_or]at hq;have :=hnb (lk .bad,mu,ms) (by simp[qo,hq]);cases this
 rcases hm with rfl|rfl|rfl|rfl
 case' inl=>
  have hs:MuAt 83 Mu w 1 ms:=hs;have ew:IntKind.i32.wrap (1+ -1)=0:=by decide
  refine .inr ⟨by simp,lk .ue,0,ms,_,w.setCell (muA Mu) (.int .i32 0),_,by simp[qo],by rw[e0];exact(stepG_add_atomic rfl rfl (by k_ne) rfl Tryz.func102 yI yJ yK .i32 yL rfl rfl hs.cellSt (hs.thaw 0)).trans (by rw[ew];first|done|rfl),by simp,hs.setSt 0,Eff.set _ _ (.inl rfl),pQ (C:=cfg Mu Wg ty N J ro Anch) (a:=muA Mu) (.inl rfl),?_⟩;replace hF:=hF.turn hb hs (hs.setSt 0) (Eff.set (muA Mu) _ (.inl rfl));generalize w.setCell (muA Mu) (.int .i32 0)=qa4 at hF⊢;clear hs hm1 hm2 hnb;rw[e0];refine dG (n:=100) ?_
  walk_nrm
  repeat w_go (dB hz)
 case' inr.inl=>
  have hs:MuAt 83 Mu w 3 ms:=hs;have ew:IntKind.i32.wrap (3+ -1)=2:=by decide
  refine .inr ⟨by simp,lk .ue,2,ms,_,w.setCell (muA Mu) (.int .i32 2),_,by simp[qo],by rw[e0];exact(stepG_add_atomic rfl rfl (by k_ne) rfl Tryz.func102 yI yJ yK .i32 yL rfl rfl hs.cellSt (hs.thaw 0)).trans (by rw[ew];first|done|rfl),by simp,hs.setSt 2,Eff.set _ _ (.inl rfl),pQ (C:=cfg Mu Wg ty N J ro Anch) (a:=muA Mu) (.inl rfl),?_⟩;replace hF:=hF.turn hb hs (hs.setSt 2) (Eff.set (muA Mu) _ (.inl rfl));generalize w.setCell (muA Mu) (.int .i32 2)=qa4 at hF⊢;clear hs hm1 hm2 hnb;rw[e0];refine dG (n:=100) ?_
  walk_nrm
  repeat w_go (dB hz)
  u_call Tryz.func103 qM Tryz.f103 (dB hz) hF
  repeat w_go (dB hz)
  u_leave0 Tryz.func103 (dB hz) hF
  repeat w_go (dB hz)
 case' inr.inr.inl=>
  have hs:MuAt 83 Mu w 9 ms:=hs;have ew:IntKind.i32.wrap (9+ -1)=8:=by decide
  refine .inr ⟨by simp,⟨.uc,8,2,false,false,0,false⟩,8,ms,_,w.setCell (muA Mu) (.int .i32 8),_,by simp[qo],by rw[e0];exact(stepG_add_atomic rfl rfl (by k_ne) rfl Tryz.func102 yI yJ yK .i32 yL rfl rfl hs.cellSt (hs.thaw 0)).trans (by rw[ew];first|done|rfl),by simp,hs.setSt 8,Eff.set _ _ (.inl rfl),pQ (C:=cfg Mu Wg ty N J ro Anch) (a:=muA Mu) (.inl rfl),?_⟩;replace hF:=hF.turn hb hs (hs.setSt 8) (Eff.set (muA Mu) _ (.inl rfl));generalize w.setCell (muA Mu) (.int .i32 8)=qa4 at hF⊢;clear hs hm1 hm2 hnb;rw[e0];refine dG (n:=100) ?_
  walk_nrm
  repeat w_go (dB hz)
  u_call Tryz.func103 qM Tryz.f103 (dB hz) hF
  repeat w_go (dB hz)
  try m_num
  repeat w_go (dB hz)
  refine gI hz hF λw hF=>At.of_law (iV hne (by simp) rfl rfl λs hs hm1 hm2 hnb=>?_)
  obtain⟨v,wt,sm,jn,dn,⟨mu,ms,c0,c1,ow⟩⟩:=s;simp only at hs hm1 hm2 hnb⊢
  have hq:mu=8:=bn λhq=>by have :=hnb (lk .bad,mu,ms) (by simp[qo,hq]);cases this
  subst hq;have hs:MuAt 83 Mu w 8 ms:=hs;refine .inr ⟨by simp,lk .us,2,ms,_,w.setCell (muA Mu) (.int .i32 2),_,by simp[qo],by rw[e0];exact stepG_cas_hit rfl rfl (by k_ne) rfl Tryz.func100 yE yF yG .i32 yH rfl rfl rfl hs.cellSt (hs.thaw 0),by simp,hs.setSt 2,Eff.set _ _ (.inl rfl),pQ (C:=cfg Mu Wg ty N J ro Anch) (a:=muA Mu) (.inl rfl),?_⟩;replace hF:=hF.turn hb hs (hs.setSt 2) (Eff.set (muA Mu) _ (.inl rfl));generalize w.setCell (muA Mu) (.int .i32 2)=qa4 at hF⊢;clear hs hm1 hm2 hnb;rw[e0];refine dG (n:=40) ?_
  walk_nrm
  repeat w_go (dB hz)
 case' inr.inr.inr=>
  have hs:MuAt 83 Mu w 13 ms:=hs;have ew:IntKind.i32.wrap (13+ -1)=12:=by decide
  refine .inr ⟨by simp,lk .us,12,ms,_,w.setCell (muA Mu) (.int .i32 12),_,by simp[qo],by rw[e0];exact(stepG_add_atomic rfl rfl (by k_ne) rfl Tryz.func102 yI yJ yK .i32 yL rfl rfl hs.cellSt (hs.thaw 0)).trans (by rw[ew];first|done|rfl),by simp,hs.setSt 12,Eff.set _ _ (.inl rfl),pQ (C:=cfg Mu Wg ty N J ro Anch) (a:=muA Mu) (.inl rfl),?_⟩;replace hF:=hF.turn hb hs (hs.setSt 12) (Eff.set (muA Mu) _ (.inl rfl));generalize w.setCell (muA Mu) (.int .i32 12)=qa4 at hF⊢;clear hs hm1 hm2 hnb;rw[e0];refine dG (n:=100) ?_
  walk_nrm
  repeat w_go (dB hz)
  u_call Tryz.func103 qM Tryz.f103 (dB hz) hF
  repeat w_go (dB hz)
 all_goals try(
  refine gI hz hF λw hF=>At.of_law (iV hne (by simp) rfl rfl λs hs hm1 hm2 hnb=>?_)
  have hw1:IntKind.u32.wrap (((s.b.ms:Nat):Int)+1)=((s.b.ms+1:Nat):Int):=by rw[IntKind.wrap_u32];omega
  refine .inr ⟨by simp,lk .ue,s.b.mu,s.b.ms+1,_,w.setCell (msA Mu) (.int .u32 ((s.b.ms+1:Nat):Int)),_,by simp[qo],by rw[e0];exact(stepG_semrelease rfl rfl (by k_ne) rfl Tryz.func116 KA CO KC KD (by simp[Act.eval,msA]) hs.cellSm (hs.thaw 1)).trans (by rw[hw1];first|done|rfl), λ_=>mayWake_entry rfl rfl Tryz.func116 CO,hs.setSm _,Eff.set _ _ (.inl rfl),⟨msA Mu,.inl rfl,rfl⟩,?_⟩;replace hF:=hF.turn hb hs (hs.setSm ((s.b.ms+1:Nat):Int)) (Eff.set (msA Mu) _ (.inl rfl));generalize w.setCell (msA Mu) (.int .u32 ((s.b.ms+1:Nat):Int))=qa4 at hF⊢;clear hs hm1 hm2 hnb hw1 s;rw[e0];refine dG (n:=40) ?_
  walk_nrm
  repeat w_go (dB hz)
  u_leave0 Tryz.func103 (dB hz) hF
  repeat w_go (dB hz))
 all_goals
  refine gI hz hF λw hF=>At.of_law (an7 hne rfl rfl rfl ⟨_,by rw[e0];exact stepG_mark0 .enable (by simp) rfl rfl (by k_ne) rfl Tryz.mK.f_enable (x_enable_n Tryz.link) (x_enable_b Tryz.link) (x_enable_x Tryz.link) (x_enable_f Tryz.link),?_⟩)
  rw[e0];refine dG (n:=30) ?_
  walk_nrm
  repeat w_go (dB hz)
  u_leave0 Tryz.func80 (dB hz) hF
  repeat w_go (dB hz)
  u_leave0 Tryz.func45 (dB hz) hF
  exact cz λqa3 qa7=>(e0 ▸ hT _ (dB hz hF qa7))
end
end Go.Proofs.Tryz
