/- Part 43. -/
import Derived.Test.YtnemnkmojiljmaaF41
import Derived.Test.YtnemnkmojiljmaaF42
set_option maxRecDepth 100000
set_option maxHeartbeats 8000000
set_option linter.all false
section
namespace Go.Proofs.Try
open Go Go.Conc Go.ConcN Go.ConcM Go.RowKit Go.Conc.Lib Go.ConcR.Gen Par
attribute [local instance] noSh ig
def Nk (Post:Value->World->Prop) (b:dz) (cK:Nat->Prop) (W0:World) (eF:Frame) (K':List Frame):Prop:=
 ∀(qi own':Nat->Prop) (W':World) (A:Option Addr) (cap:Nat) (st:List Int) (much found:Bool),mE (eH (dP b (-1)) b.steps.length (iP (dP b (-1)) b.steps.length false).length (iP (dP b (-1)) b.steps.length true).length) st much found->Sl own' W' A st->st.length<=16->
  W'.tape=W0.tape->W'.output=W0.output->OsLater W0.os W'.os->W0.heap.size<=W'.heap.size->(∀b,cK b->W'.heap[b]?=W0.heap[b]?)->(∀b,cK b->own' b)->(∀b,own' b->cK b∨W0.heap.size<=b)->(∀b,own' b->b<W'.heap.size)->
   iL Try.prog Post qi own' (G (eF.finish (.tuple #[.slice A st.length cap,.bool much,.bool found,.int .i64 0])) K') W'
section
variable {cK own:Nat->Prop} {W0 W:World} {b:dz} {v:iQ} {eF:Frame} {K':List Frame} {Post:Value->World->Prop} {dead:Nat->Prop}
theorem UK {bs bm bf:Nat} {ss:List dL} {g:Goroutine} (hss:ss=dP b (-1)) (hk:Nk Post b cK W0 eF K') (hA:FE eF K' bs bm bf ss b.steps.length cK W0 own g W) (hlt:∀b,own b->b<W.heap.size) (hup:∀b,own b->cK b∨W0.heap.size<=b):iL Try.prog Post dead own g W:=by
 obtain ⟨⟨A,cap,st,much,found,hf,dS⟩,hbs,T,h2,h3,h4,h5,hsz,rfl⟩:=hA;subst hss;refine iL.walk (as6 h2 h3 h4 h5 hsz ⟨hf.gs,hf.gm,hf.gf,hf.vs,hf.vm,hf.vf⟩ λW' hs=>.stop λW2 hr=>?_) rfl rfl;replace hs:=hs.rely hr;have hr':bZ Z0 own W W2:=⟨hs.tape,hs.out,hs.os,hs.size,hs.kept, λ_ h=>False.elim h, λ_ h=>False.elim h, λ_ _ h=>False.elim h⟩;exact hk dead own W2 A cap st much found dS (hf.sl.rely hr') hf.len (hs.tape.trans hbs.tape) (hs.out.trans hbs.out) (hbs.os.trans hs.os) (aC hbs.size hs.size) (λx hx=>(hs.kept x (hbs.sub x hx)).trans (hbs.kept x hx)) hbs.sub hup λx hx=>ak (hlt x hx) hs.size
theorem ab8 {bx bs bm bf cw Mu Wg cb sb bw:Nat} {A:Option Addr} {cap:Nat} {e:TypeId} {fr:Nat×Nat} {sL:List (Nat×Obj)} (hlt:∀a,cK a->a<W0.heap.size) (jy:Try.prog.globals.size<W0.heap.size) (hn:b.steps.length<=15) (hnd:dw b (-1)=b.steps.length+1) (hk:Nk Post b cK W0 eF K')
 (S:Sn cK W0 (l9 b v bx bs bm bf cw Mu Wg cb sb bw A cap e fr sL) own W) (hat:jX W W.heap.size bw (dP b (-1)) b.steps.length (dw b (-1)) A cap) (hsL:∀a,A=some a->∃cur e fr,(a.block,.cells cur e fr)∈sL∧∀x∈cur,dJ x=true) {w:World} (hw:bZ Z0 own W w):
 zS eF K' bs bm bf cw Mu Wg cb sb 0 λg=>iL Try.prog Post dead own g w:=by
 intro j0 j1 j6 j11 j12 j13 lU lV kz kC kD kE kF kG kH kJ kK kL kM kN kP kQ kR;obtain ⟨ss,hss⟩:∃ss,ss=dP b (-1):=⟨_,rfl⟩;obtain ⟨n,hnn⟩:∃n,n=b.steps.length:=⟨_,rfl⟩
 replace hat:jX w w.heap.size bw ss n (n+1) A cap:=by
  rw [hss,hnn, <-hnd];refine vJ hat (hw.own _ (S.has (bw,.cells #[.slice A (dP b (-1)).length cap,.int .i64 (b.steps.length:Int),.int .i64 (dw b (-1):Int)] e fr) (by simp [l9])).1) (λa ha _=>?_) hw.size;obtain ⟨cur,e2,S9,k1,_⟩:=hsL a ha;exact hw.own _ (S.has (a.block,.cells cur e2 S9) (by simp [l9,k1])).1
 replace S:=S.rely hw;clear hw
 have hne:Mu≠Wg:=by
  have :=S.nd;simp [l9] at this;omega
 obtain ⟨ro,hro⟩:∃ro:Nat->Prop,ro= λx=>x=cw∨x=cb∨x=bw∨∃a,A=some a∧x=a.block:=⟨_,rfl⟩
 obtain ⟨Gl,hGl⟩:∃Gl:Nat->Prop,Gl= λx=>x=bs∨x=bm∨x=bf:=⟨_,rfl⟩
 refine iL.phase (S:=(cfg Mu Wg 87 (λk=>(iP ss n (decide (k=1))).length) (JW Mu Wg bs bm bf ro ss n) ro (FE eF K' bs bm bf ss n cK W0)).sys) (aq0 (I7 hne) (TL (.inl rfl) λc0 c1 G w w' h hk=>JW.keep h hk)) (λh1 h2 h3 h4=>ai0 h1 h2 h3 h4) rfl rfl (λW1 hr hd ho=>?_)
 replace hat:jX W1 W1.heap.size bw ss n (n+1) A cap:=by
  refine vJ hat (hr.own _ (S.has (bw,.cells #[.slice A (dP b (-1)).length cap,.int .i64 (b.steps.length:Int),.int .i64 (dw b (-1):Int)] e fr) (by simp [l9])).1) (λa ha _=>?_) hr.size;obtain ⟨cur,e2,S9,k1,_⟩:=hsL a ha;exact hr.own _ (S.has (a.block,.cells cur e2 S9) (by simp [l9,k1])).1
 replace S:=S.rely hr;clear hr;have nd:=S.nd;simp [l9] at nd;obtain ⟨⟨s1,s2,s3,s4,s5,s6,s7,s8,s9,s10⟩,⟨c1,c2,c3,c4,c5,c6,c7,c8,c9⟩,⟨g1,g2,g3,g4,g5,g6,g7,g8⟩,⟨u1,u2,u3,u4,u5,u6,u7⟩,⟨w1,w2,w3,w4,w5,w6⟩,⟨x1,x2,x3,x4,x5⟩,nd2⟩:=nd;rw [List.nodup_append] at nd2;obtain ⟨_,n1,n2⟩:=nd2;simp at n1;have mSb:=S.has (sb,.cells #[.bool false,.bool true] 4) (by simp [l9]);have mCb:=S.has (cb,.cells #[.func (.func 31) #[] #[.pointer (some ⟨bs,0,none⟩),.pointer (some ⟨bf,0,none⟩),.pointer (some ⟨bm,0,none⟩)]] 90) (by simp [l9]);have mWg:=S.has (Wg,.cells #[.int .u64 0,.int .u32 0] 87) (by simp [l9]);have mMu:=S.has (Mu,.cells #[.int .i32 0,.int .u32 0] 80) (by simp [l9]);have mCw:=S.has (cw,.cells #[.pointer (some ⟨bw,0,none⟩)] 72) (by simp [l9]);have mBw:=S.has (bw,.cells #[.slice A (dP b (-1)).length cap,.int .i64 (b.steps.length:Int),.int .i64 (dw b (-1):Int)] e fr) (by simp [l9]);have mBf:=S.has (bf,.cells #[.bool false] 4) (by simp [l9]);have mBm:=S.has (bm,.cells #[.bool false] 4) (by simp [l9]);have mBs:=S.has (bs,.cells #[.slice none 0 0] 25) (by simp [l9]);have Ul:=S.cell (b:=cw) (v:=.pointer (some ⟨bw,0,none⟩)) (e:=72) (by simp [l9]);have WJ:=S.cell (b:=cb) (v:=.func (.func 31) #[] #[.pointer (some ⟨bs,0,none⟩),.pointer (some ⟨bf,0,none⟩),.pointer (some ⟨bm,0,none⟩)]) (e:=90) (by simp [l9]);dsimp only at mSb mCb mWg mMu mCw mBw mBf mBm mBs
 have hA:∀a,A=some a->own a.block∧W0.heap.size<=a.block∧(∃cur e fr,W1.heap[a.block]?=some (.cells cur e fr)∧∀x∈cur,dJ x=true)∧a.block≠Mu∧a.block≠Wg∧a.block≠bs∧a.block≠bm∧a.block≠bf∧a.block≠sb:= λa ha=>by
  obtain ⟨cur,e2,S9,k1,k2⟩:=hsL a ha;have m:=S.has (a.block,.cells cur e2 S9) (by simp [l9,k1]);have k3:a.block∈List.map Prod.fst sL:=List.mem_map.2 ⟨_,k1,rfl⟩;exact ⟨m.1,m.2.1,⟨cur,e2,S9,m.2.2,k2⟩, λh=>u3 _ (h ▸ k1), λh=>g4 _ (h ▸ k1),n2 _ k3 bs (by simp),n2 _ k3 bm (by simp),n2 _ k3 bf (by simp), λh=>s6 _ (h ▸ k1)⟩
 have hroF:∀x,ro x->own x∧W0.heap.size<=x∧x≠Mu∧x≠Wg∧x≠bs∧x≠bm∧x≠bf∧x≠sb:= λx hx=>by
  rw [hro] at hx;rcases hx with rfl|rfl|rfl|⟨a,ha,rfl⟩
  ·exact ⟨mCw.1,mCw.2.1,Ne.symm u1,Ne.symm g2,w5,w4,w3,Ne.symm s4⟩
  ·exact ⟨mCb.1,mCb.2.1,c2,c1,c8,c7,c6,Ne.symm s1⟩
  ·exact ⟨mBw.1,mBw.2.1,Ne.symm u2,Ne.symm g3,x4,x3,x2,Ne.symm s5⟩
  ·obtain ⟨h1,h2,_,h3⟩:=hA a ha;exact ⟨h1,h2,h3⟩
 have KZ:∀x,Gl x->own x∧W0.heap.size<=x∧x≠Mu∧x≠Wg∧x≠sb:= λx hx=>by
  rw [hGl] at hx;rcases hx with rfl|rfl|rfl
  ·exact ⟨mBs.1,mBs.2.1,Ne.symm u6,Ne.symm g7,Ne.symm s9⟩
  ·exact ⟨mBm.1,mBm.2.1,Ne.symm u5,Ne.symm g6,Ne.symm s8⟩
  ·exact ⟨mBf.1,mBf.2.1,Ne.symm u4,Ne.symm g5,Ne.symm s7⟩
 have am0:∀x,ro x->¬Gl x:= λx hx hg=>by
  obtain ⟨_,_,_,_,h1,h2,h3,_⟩:=hroF x hx;rw [hGl] at hg;rcases hg with h|h|h
  ·exact h1 h
  ·exact h2 h
  ·exact h3 h
 have hltW:=S.lt;have hup:=S.kept.new;obtain ⟨nG,hown1⟩:∃nG:Nat->Prop,nG= λx=>own x∧¬(x=Mu∨x=Wg)∧¬ro x∧¬Gl x:=⟨_,rfl⟩
 have ho1:∀x,nG x->own x∧¬(x=Mu∨x=Wg)∧¬ro x∧¬Gl x:= λx hx=>by rw [hown1] at hx;exact hx
 have ho0:∀x,cK x->nG x:= λx hx=>by
  have hx':=hlt x hx;rw [hown1];refine ⟨S.kept.sub x hx, λh=>?_, λh=>?_, λh=>?_⟩
  ·rcases h with rfl|rfl
   ·have :=mMu.2.1;omega
   ·have :=mWg.2.1;omega
  ·have :=(hroF x h).2.1;omega
  ·have :=(KZ x h).2.1;omega
 have as7:nG sb:=by
  rw [hown1];exact ⟨mSb.1, λh=>h.elim s3 s2, λh=>(hroF sb h).2.2.2.2.2.2.2 rfl, λh=>(KZ sb h).2.2.2.2 rfl⟩
 have hp:HP cK W0 Mu Wg cw cb bs bm bf bw sb ss n nG ro W1:=by
  refine ⟨by rw [hro];exact .inl rfl,by rw [hro];exact .inr (.inl rfl),by rw [hro];exact .inr (.inr (.inl rfl)),Ul,WJ,⟨A,cap,e,fr,?_,hat, λa ha=>⟨by rw [hro];exact .inr (.inr (.inr ⟨a,ha,rfl⟩)),(hA a ha).2.2.1⟩⟩,as7, λj hj=>?_,
   ⟨λx hx=>⟨(hroF x hx).2.2.1,(hroF x hx).2.2.2.1⟩, λx hx=>?_, λx hx=>hltW x (hroF x hx).1,hltW _ mMu.1,hltW _ mWg.1,ak jy S.kept.rely.size,⟨0,0,mWg.2.2⟩⟩,⟨0,0,mMu.2.2⟩,⟨S.kept.rely.tape,S.kept.rely.out,S.kept.rely.os,S.kept.rely.size,S.kept.rely.own,ho0⟩⟩
  ·rw [hss,hnn, <-hnd];exact mBw.2.2
  ·have hc:∀j,W1.cell? ⟨sb,j,none⟩=(#[.bool false,.bool true]:Array Value)[j]?:= λj=>by
    unfold World.cell?;simp only [mSb.2.2];cases (#[.bool false,.bool true]:Array Value)[j]?<;>rfl
   rw [hc]
   match j,hj with
   |0,_=>rfl
   |1,_=>rfl
  ·obtain ⟨h1,h2,h3,_⟩:=ho1 x hx;exact ⟨hltW x h1, λh=>h2 (.inl h), λh=>h2 (.inr h),h3⟩
 have xR:bs≠bm∧bs≠bf∧bm≠bf:=by
  refine ⟨λh=>?_, λh=>?_, λh=>?_⟩<;>(subst h;simp at n1)
 have hn':n<=15:=hnn ▸ hn;clear n1 n2 s1 s2 s3 s4 s5 s6 s7 s8 s9 s10 c1 c2 c3 c4 c5 c6 c7 c8 c9 g1 g2 g3 g4 g5 g6 g7 g8 u1 u2 u3 u4 u5 u6 u7 w1 w2 w3 w4 w5 w6 x1 x2 x3 x4 x5;refine ⟨nG,.st .P9 0,⟨0,0,0,false, λ_=>false,⟨0,0,0,0,false⟩⟩,ro,Gl, λ_=>False, λx=>x<W1.heap.size∧¬(x=Mu∨x=Wg)∧¬own x,⟨λx hx=>?_, λx hx=>?_, λx hx=>?_, λx hx=>?_, λx hx=>?_, λx hx=>?_, λx hx=>False.elim hx, λx hx=>hx, λx hx=>hx, λx k hx=>?_, λm hm=>Xe Xf (by show 0<2;omega) hm,rfl,rfl,⟨mWg.2.2,mMu.2.2⟩, λ_=>?_,.inr trivial, λh=>?_,?_⟩, λTt zP g W2 hret hanch hlt2=>?_⟩
 ·by_cases h:x=Mu∨x=Wg
  ·exact .inl h
  ·exact .inr ⟨hd x hx,h, λh2=>(ho x h2).2 hx⟩
 ·obtain ⟨h1,h2,h3⟩:=hx;exact ⟨h1,h2, λh=>h3 (ho1 x h).1, λh=>h3 (hroF x h).1, λh=>h3 (KZ x h).1, λh=>h⟩
 ·rcases hx with rfl|rfl
  ·exact hltW _ mMu.1
  ·exact hltW _ mWg.1
 ·obtain ⟨h1,h2,h3,h4⟩:=ho1 x hx;exact ⟨hltW x h1,h2,h3,h4, λh=>h⟩
 ·exact ⟨hltW x (hroF x hx).1, λh=>h.elim (hroF x hx).2.2.1 (hroF x hx).2.2.2.1⟩
 ·exact ⟨hltW x (KZ x hx).1, λh=>h.elim (KZ x hx).2.2.1 (KZ x hx).2.2.2.1, λh=>am0 x h hx⟩
 ·obtain ⟨_,_,_,h⟩:=hx;exact False.elim h
 ·show JW Mu Wg bs bm bf ro ss n 0 0 Gl W1;refine ⟨λx hx=>⟨?_,(KZ x hx).2.2.1,(KZ x hx).2.2.2.1, λh=>am0 x h hx⟩,none,0,[],false,false,⟨by rw [hGl];exact .inl rfl,by rw [hGl];exact .inr (.inl rfl),by rw [hGl];exact .inr (.inr rfl),⟨25,mBs.2.2⟩,⟨4,mBm.2.2⟩,⟨4,mBf.2.2⟩,⟨λa h=>(by cases h), λh=>absurd h (by simp)⟩,by simp⟩,.inl ⟨rfl,rfl,rfl,rfl⟩⟩;rw [hGl] at hx;rcases hx with rfl|rfl|rfl
  ·exact ⟨_,mBs.2.2⟩
  ·exact ⟨_,mBm.2.2⟩
  ·exact ⟨_,mBf.2.2⟩
 ·cases h
 ·unfold On;rw [if_neg (by show ¬(false=true);simp)];have h2:= λown W hp=>al9 (eF:=eF) (K':=K') (iV:=cK) (zU:=W0) (own:=own) (W:=W) (Mu:=Mu) (Wg:=Wg) (cw:=cw) (cb:=cb) (bs:=bs) (bm:=bm) (bf:=bf) (bw:=bw) (sb:=sb) (N:= λk=>(iP ss n (decide (k=1))).length) (J:=JW Mu Wg bs bm bf ro ss n) (ro:=ro) (Anch:=FE eF K' bs bm bf ss n cK W0) hne rfl (λ_ _=>rfl) rfl hp
  have h1:= λown W hp=>UJ (eF:=eF) (K':=K') (iV:=cK) (zU:=W0) (own:=own) (W:=W) (j:=1) (Mu:=Mu) (Wg:=Wg) (cw:=cw) (cb:=cb) (bs:=bs) (bm:=bm) (bf:=bf) (bw:=bw) (sb:=sb) (N:= λk=>(iP ss n (decide (k=1))).length) (J:=JW Mu Wg bs bm bf ro ss n) (ro:=ro) (Anch:=FE eF K' bs bm bf ss n cK W0) hne xR rfl (by omega) (λ_ _=>rfl) hn' h2 hp
  exact UJ (eF:=eF) (K':=K') (iV:=cK) (zU:=W0) (j:=0) (Mu:=Mu) (Wg:=Wg) (cw:=cw) (cb:=cb) (bs:=bs) (bm:=bm) (bf:=bf) (bw:=bw) (sb:=sb) (N:= λk=>(iP ss n (decide (k=1))).length) (J:=JW Mu Wg bs bm bf ro ss n) (ro:=ro) (Anch:=FE eF K' bs bm bf ss n cK W0) hne xR rfl (by omega) (λ_ _=>rfl) hn' h1 hp _ _ _ _ _ _ _ _ _ _ _ _ _ _ _ _ _ _ _ _ _ _ _
 ·have hanch:FE eF K' bs bm bf ss n cK W0 zP g W2:=hanch;subst hnn;refine UK hss hk hanch (λx hx=>(hlt2 x hx).1) λx hx=>?_
  obtain ⟨h1,h2⟩:=hlt2 x hx
  by_cases h3:x<W1.heap.size
  ·by_cases h4:own x
   ·exact (hup x h4).imp (λh=>h) λh=>h.1
   ·exact absurd (.inr ⟨h3, λh=>h2 (.inl h),h4⟩) h2
  ·right;have :=S.kept.rely.size;omega
end
end Go.Proofs.Try
end
section
namespace Go.Proofs.Try
open Go Go.Conc Go.ConcN Go.ConcM Go.RowKit Go.Conc.Lib Go.ConcR.Gen Par
attribute [local instance] noSh ig
section
variable {As cK:Nat->Prop} {W0:World} {b:dz} {v:iQ} {eF:Frame} {K':List Frame} {Post:Value->World->Prop} {dead:Nat->Prop}
theorem ab9 (hb:vK As cK W0 b v) (jy:Try.prog.globals.size<W0.heap.size) (hs:b.small) (hc0:eX b=0) (hk:Nk Post b cK W0 eF K'):
 iL Try.prog Post dead cK (G (Frame.enter Try.prog 16 #[dN b v] .normal) (eF::K')) W0:=by
 refine iL.lt rfl rfl λho=>iL.walk (as3 hb (λa ha=>(ho a ha).1) jy hs hc0 ?_) rfl rfl
 intro bx bs bm bf cw Mu Wg cb sb bw A cap e fr sL own W S hat hsL w hw j0 j1 j6 j11 j12 j13 lU lV kz kC kD kE kF kG kH kJ kK kL kM kN kP kQ kR;exact .stop λW1 hr=>ab8 (λa ha=>(ho a ha).1) jy (by have :=(mH hs hc0).n8;omega) (if_neg (by omega)) hk S hat hsL (hw.trans hr) _ _ _ _ _ _ _ _ _ _ _ _ _ _ _ _ _ _ _ _ _ _ _
end
end Go.Proofs.Try
end
