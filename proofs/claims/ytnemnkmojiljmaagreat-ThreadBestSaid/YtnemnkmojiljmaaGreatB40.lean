/- Part 40. -/
import Derived.Test.YtnemnkmojiljmaaGreatB38
import Derived.Test.YtnemnkmojiljmaaGreatB39
set_option maxRecDepth 100000
set_option maxHeartbeats 0
set_option linter.all false
namespace Go.Proofs.Tryz
open Go Go.Conc Go.ConcN Go.ConcM Go.RowKit Go.Conc.Lib Go.ConcR.Gen Par
section
attribute [local instance] noSh jm
def Om (Post:Value->World->Prop) (b:fe) (eG:Nat->Prop) (W0:World) (gz:Frame) (K':List Frame):Prop:=
 ∀(rR dL:Nat->Prop) (W':World) (A:Option Addr) (cap:Nat) (st:List Int) (fu found:Bool),nZ (gD (fM b (-1)) b.steps.length (jP (fM b (-1)) b.steps.length false).length (jP (fM b (-1)) b.steps.length true).length) st fu found->Sl dL W' A st->st.length<=16->
  W'.tape=W0.tape->W'.output=W0.output->OsLater W0.os W'.os->W0.heap.size<=W'.heap.size->(∀b,eG b->W'.heap[b]?=W0.heap[b]?)->(∀b,eG b->dL b)->(∀b,dL b->eG b∨W0.heap.size<=b)->(∀b,dL b->b<W'.heap.size)->
   jK Tryz.prog Post rR dL (G (gz.finish (.tuple #[.slice A st.length cap,.bool fu,.bool found,.int .i64 0])) K') W'
section
variable {eG own:Nat->Prop} {W0 W:World} {b:fe} {v:jR} {gz:Frame} {K':List Frame} {Post:Value->World->Prop} {dead:Nat->Prop}
theorem Vy {bs bm bf:Nat} {ss:List fI} {g:Goroutine} (hss:ss=fM b (-1)) (hk:Om Post b eG W0 gz K') (hA:GZ gz K' bs bm bf ss b.steps.length eG W0 own g W) (hlt:∀b,own b->b<W.heap.size) (hup:∀b,own b->eG b∨W0.heap.size<=b):jK Tryz.prog Post dead own g W:=by
 obtain ⟨⟨A,cap,st,fu,found,hf,ji⟩,hbs,T,h2,h3,h4,h5,hsz,rfl⟩:=hA;subst hss;refine jK.walk (ax1 h2 h3 h4 h5 hsz ⟨hf.gs,hf.gm,hf.gf,hf.vs,hf.vm,hf.vf⟩ λW' hs=>.stop λW2 hr=>?_) rfl rfl;replace hs:=hs.rely hr;have hr':dZ Z0 own W W2:=⟨hs.tape,hs.out,hs.os,hs.size,hs.kept, λ_ h=>az h, λ_ h=>az h, λ_ _ h=>az h⟩;exact hk dead own W2 A cap st fu found ji (hf.sl.rely hr') hf.len (hs.tape.trans hbs.tape) (hs.out.trans hbs.out) (hbs.os.trans hs.os) (aT hbs.size hs.size) (λx hx=>(hs.kept x (hbs.sub x hx)).trans (hbs.kept x hx)) hbs.sub hup λx hx=>aK (hlt x hx) hs.size
theorem ag7 {bx bs bm bf cw Mu Wg cb sb bw:Nat} {A:Option Addr} {cap:Nat} {e:TypeId} {fr:Nat×Nat} {sL:List (Nat×Obj)} (hlt:∀a,eG a->a<W0.heap.size) (kU:Tryz.prog.globals.size<W0.heap.size) (hn:b.steps.length<=15) (hnd:eY b (-1)=b.steps.length+1) (hk:Om Post b eG W0 gz K')
 (S:Sn eG W0 (nR b v bx bs bm bf cw Mu Wg cb sb bw A cap e fr sL) own W) (hat:lV W W.heap.size bw (fM b (-1)) b.steps.length (eY b (-1)) A cap) (hsL:∀a,A=some a->∃cur e fr,(a.block,.cells cur e fr)∈sL∧∀x∈cur,fA x=true) {w:World} (hw:dZ Z0 own W w):
 Bu gz K' bs bm bf cw Mu Wg cb sb 0 λg=>jK Tryz.prog Post dead own g w:=by
 intro j0 j1 j6 j11 j12 j13 nJ nK l6 l7 l8 l9 mg mh mo mq mD mE mF mG mH mJ mK;obtain ⟨ss,hss⟩:∃ss,ss=fM b (-1):=⟨_,rfl⟩;obtain ⟨n,hnn⟩:∃n,n=b.steps.length:=⟨_,rfl⟩
 replace hat:lV w w.heap.size bw ss n (n+1) A cap:=by
  rw [hss,hnn, <-hnd];refine xu hat (hw.own _ (S.has (bw,.cells #[.slice A (fM b (-1)).length cap,.int .i64 (b.steps.length:Int),.int .i64 (eY b (-1):Int)] e fr) (by simp [nR])).1) (λa ha _=>?_) hw.size;obtain ⟨cur,e2,Ub,k1,_⟩:=hsL a ha;exact hw.own _ (S.has (a.block,.cells cur e2 Ub) (by simp [nR,k1])).1
 replace S:=S.rely hw;clear hw
 have hne:Mu≠Wg:=by
  have :=S.nd;simp [nR] at this;omega
 obtain ⟨ro,hro⟩:∃ro:Nat->Prop,ro= λx=>x=cw∨x=cb∨x=bw∨∃a,A=some a∧x=a.block:=⟨_,rfl⟩
 obtain ⟨Gl,hGl⟩:∃Gl:Nat->Prop,Gl= λx=>x=bs∨x=bm∨x=bf:=⟨_,rfl⟩
 refine jK.phase (S:=(cfg Mu Wg 104 (λk=>(jP ss n (decide (k=1))).length) (JW Mu Wg bs bm bf ro ss n) ro (GZ gz K' bs bm bf ss n eG W0)).sys) (au9 (Ka hne) (UF (.inl rfl) λc0 c1 G w w' h hk=>JW.keep h hk)) (λh1 h2 h3 h4=>am9 h1 h2 h3 h4) rfl rfl (λW1 hr hd ho=>?_)
 replace hat:lV W1 W1.heap.size bw ss n (n+1) A cap:=by
  refine xu hat (hr.own _ (S.has (bw,.cells #[.slice A (fM b (-1)).length cap,.int .i64 (b.steps.length:Int),.int .i64 (eY b (-1):Int)] e fr) (by simp [nR])).1) (λa ha _=>?_) hr.size;obtain ⟨cur,e2,Ub,k1,_⟩:=hsL a ha;exact hr.own _ (S.has (a.block,.cells cur e2 Ub) (by simp [nR,k1])).1
 replace S:=S.rely hr;clear hr;have nd:=S.nd;simp [nR] at nd;obtain ⟨⟨s1,s2,s3,s4,s5,s6,s7,s8,s9,s10⟩,⟨c1,c2,c3,c4,c5,c6,c7,c8,c9⟩,⟨g1,g2,g3,g4,g5,g6,g7,g8⟩,⟨u1,u2,u3,u4,u5,u6,u7⟩,⟨w1,w2,w3,w4,w5,w6⟩,⟨x1,x2,x3,x4,x5⟩,nd2⟩:=nd;rw [List.nodup_append] at nd2;obtain ⟨_,n1,n2⟩:=nd2;simp at n1;have mSb:=S.has (sb,.cells #[.bool false,.bool true] 4) (by simp [nR]);have mCb:=S.has (cb,.cells #[.func (.func 58) #[] #[.pointer (some ⟨bs,0,none⟩),.pointer (some ⟨bf,0,none⟩),.pointer (some ⟨bm,0,none⟩)]] 108) (by simp [nR]);have mWg:=S.has (Wg,.cells #[.int .u64 0,.int .u32 0] 104) (by simp [nR]);have mMu:=S.has (Mu,.cells #[.int .i32 0,.int .u32 0] 97) (by simp [nR]);have mCw:=S.has (cw,.cells #[.pointer (some ⟨bw,0,none⟩)] 89) (by simp [nR]);have mBw:=S.has (bw,.cells #[.slice A (fM b (-1)).length cap,.int .i64 (b.steps.length:Int),.int .i64 (eY b (-1):Int)] e fr) (by simp [nR]);have mBf:=S.has (bf,.cells #[.bool false] 4) (by simp [nR]);have mBm:=S.has (bm,.cells #[.bool false] 4) (by simp [nR]);have mBs:=S.has (bs,.cells #[.slice none 0 0] 44) (by simp [nR]);have Va:=S.cell (b:=cw) (v:=.pointer (some ⟨bw,0,none⟩)) (e:=89) (by simp [nR]);have XP:=S.cell (b:=cb) (v:=.func (.func 58) #[] #[.pointer (some ⟨bs,0,none⟩),.pointer (some ⟨bf,0,none⟩),.pointer (some ⟨bm,0,none⟩)]) (e:=108) (by simp [nR]);dsimp only at mSb mCb mWg mMu mCw mBw mBf mBm mBs
 have hA:∀a,A=some a->own a.block∧W0.heap.size<=a.block∧(∃cur e fr,W1.heap[a.block]?=some (.cells cur e fr)∧∀x∈cur,fA x=true)∧a.block≠Mu∧a.block≠Wg∧a.block≠bs∧a.block≠bm∧a.block≠bf∧a.block≠sb:= λa ha=>by
  obtain ⟨cur,e2,Ub,k1,k2⟩:=hsL a ha;have m:=S.has (a.block,.cells cur e2 Ub) (by simp [nR,k1]);have k3:a.block∈List.map Prod.fst sL:=List.mem_map.2 ⟨_,k1,rfl⟩;exact ⟨m.1,m.2.1,⟨cur,e2,Ub,m.2.2,k2⟩, λh=>u3 _ (h ▸ k1), λh=>g4 _ (h ▸ k1),n2 _ k3 bs (by simp),n2 _ k3 bm (by simp),n2 _ k3 bf (by simp), λh=>s6 _ (h ▸ k1)⟩
 have hroF:∀x,ro x->own x∧W0.heap.size<=x∧x≠Mu∧x≠Wg∧x≠bs∧x≠bm∧x≠bf∧x≠sb:= λx hx=>by
  rw [hro] at hx;rcases hx with rfl|rfl|rfl|⟨a,ha,rfl⟩
  ·exact ⟨mCw.1,mCw.2.1,Ne.symm u1,Ne.symm g2,w5,w4,w3,Ne.symm s4⟩
  ·exact ⟨mCb.1,mCb.2.1,c2,c1,c8,c7,c6,Ne.symm s1⟩
  ·exact ⟨mBw.1,mBw.2.1,Ne.symm u2,Ne.symm g3,x4,x3,x2,Ne.symm s5⟩
  ·obtain ⟨h1,h2,_,h3⟩:=hA a ha;exact ⟨h1,h2,h3⟩
 have Mt:∀x,Gl x->own x∧W0.heap.size<=x∧x≠Mu∧x≠Wg∧x≠sb:= λx hx=>by
  rw [hGl] at hx;rcases hx with rfl|rfl|rfl
  ·exact ⟨mBs.1,mBs.2.1,Ne.symm u6,Ne.symm g7,Ne.symm s9⟩
  ·exact ⟨mBm.1,mBm.2.1,Ne.symm u5,Ne.symm g6,Ne.symm s8⟩
  ·exact ⟨mBf.1,mBf.2.1,Ne.symm u4,Ne.symm g5,Ne.symm s7⟩
 have aq2:∀x,ro x->¬Gl x:= λx hx hg=>by
  obtain ⟨_,_,_,_,h1,h2,h3,_⟩:=hroF x hx;rw [hGl] at hg;rcases hg with h|h|h
  ·exact h1 h
  ·exact h2 h
  ·exact h3 h
 have hltW:=S.lt;have hup:=S.kept.new;obtain ⟨pI,hown1⟩:∃pI:Nat->Prop,pI= λx=>own x∧¬(x=Mu∨x=Wg)∧¬ro x∧¬Gl x:=⟨_,rfl⟩
 have ho1:∀x,pI x->own x∧¬(x=Mu∨x=Wg)∧¬ro x∧¬Gl x:= λx hx=>by rw [hown1] at hx;exact hx
 have ho0:∀x,eG x->pI x:= λx hx=>by
  have hx':=hlt x hx;rw [hown1];refine ⟨S.kept.sub x hx, λh=>?_, λh=>?_, λh=>?_⟩
  ·rcases h with rfl|rfl
   ·have :=mMu.2.1;omega
   ·have :=mWg.2.1;omega
  ·have :=(hroF x h).2.1;omega
  ·have :=(Mt x h).2.1;omega
 have ax2:pI sb:=by
  rw [hown1];exact ⟨mSb.1, λh=>h.elim s3 s2, λh=>(hroF sb h).2.2.2.2.2.2.2 rfl, λh=>(Mt sb h).2.2.2.2 rfl⟩
 have hp:HP eG W0 Mu Wg cw cb bs bm bf bw sb ss n pI ro W1:=by
  refine ⟨by rw [hro];exact .inl rfl,by rw [hro];exact .inr (.inl rfl),by rw [hro];exact .inr (.inr (.inl rfl)),Va,XP,⟨A,cap,e,fr,?_,hat, λa ha=>⟨by rw [hro];exact .inr (.inr (.inr ⟨a,ha,rfl⟩)),(hA a ha).2.2.1⟩⟩,ax2, λj hj=>?_,
   ⟨λx hx=>⟨(hroF x hx).2.2.1,(hroF x hx).2.2.2.1⟩, λx hx=>?_, λx hx=>hltW x (hroF x hx).1,hltW _ mMu.1,hltW _ mWg.1,aK kU S.kept.rely.size,⟨0,0,mWg.2.2⟩⟩,⟨0,0,mMu.2.2⟩,⟨S.kept.rely.tape,S.kept.rely.out,S.kept.rely.os,S.kept.rely.size,S.kept.rely.own,ho0⟩⟩
  ·rw [hss,hnn, <-hnd];exact mBw.2.2
  ·have hc:∀j,W1.cell? ⟨sb,j,none⟩=(#[.bool false,.bool true]:Array Value)[j]?:= λj=>by
    unfold World.cell?;simp only [mSb.2.2];cases (#[.bool false,.bool true]:Array Value)[j]?<;>rfl
   rw [hc]
   match j,hj with
   |0,_=>rfl
   |1,_=>rfl
  ·obtain ⟨h1,h2,h3,_⟩:=ho1 x hx;exact ⟨hltW x h1, λh=>h2 (.inl h), λh=>h2 (.inr h),h3⟩
 have zi:bs≠bm∧bs≠bf∧bm≠bf:=by
  refine ⟨λh=>?_, λh=>?_, λh=>?_⟩<;>(subst h;simp at n1)
 have hn':n<=15:=hnn ▸ hn;clear n1 n2 s1 s2 s3 s4 s5 s6 s7 s8 s9 s10 c1 c2 c3 c4 c5 c6 c7 c8 c9 g1 g2 g3 g4 g5 g6 g7 g8 u1 u2 u3 u4 u5 u6 u7 w1 w2 w3 w4 w5 w6 x1 x2 x3 x4 x5;refine ⟨pI,.st .QX 0,⟨0,0,0,false, λ_=>false,⟨0,0,0,0,false⟩⟩,ro,Gl, λ_=>False, λx=>x<W1.heap.size∧¬(x=Mu∨x=Wg)∧¬own x,⟨λx hx=>?_, λx hx=>?_, λx hx=>?_, λx hx=>?_, λx hx=>?_, λx hx=>?_, λx hx=>az hx, λx hx=>hx, λx hx=>hx, λx k hx=>?_, λm hm=>Yg Yh (by show 0<2;omega) hm,rfl,rfl,⟨mWg.2.2,mMu.2.2⟩, λ_=>?_,.inr trivial, λh=>?_,?_⟩, λTt Bq g W2 oO hanch hlt2=>?_⟩
 ·by_cases h:x=Mu∨x=Wg
  ·exact .inl h
  ·exact .inr ⟨hd x hx,h, λh2=>(ho x h2).2 hx⟩
 ·obtain ⟨h1,h2,h3⟩:=hx;exact ⟨h1,h2, λh=>h3 (ho1 x h).1, λh=>h3 (hroF x h).1, λh=>h3 (Mt x h).1, λh=>h⟩
 ·rcases hx with rfl|rfl
  ·exact hltW _ mMu.1
  ·exact hltW _ mWg.1
 ·obtain ⟨h1,h2,h3,h4⟩:=ho1 x hx;exact ⟨hltW x h1,h2,h3,h4, λh=>h⟩
 ·exact ⟨hltW x (hroF x hx).1, λh=>h.elim (hroF x hx).2.2.1 (hroF x hx).2.2.2.1⟩
 ·exact ⟨hltW x (Mt x hx).1, λh=>h.elim (Mt x hx).2.2.1 (Mt x hx).2.2.2.1, λh=>aq2 x h hx⟩
 ·obtain ⟨_,_,_,h⟩:=hx;exact az h
 ·show JW Mu Wg bs bm bf ro ss n 0 0 Gl W1;refine ⟨λx hx=>⟨?_,(Mt x hx).2.2.1,(Mt x hx).2.2.2.1, λh=>aq2 x h hx⟩,none,0,[],false,false,⟨by rw [hGl];exact .inl rfl,by rw [hGl];exact .inr (.inl rfl),by rw [hGl];exact .inr (.inr rfl),⟨44,mBs.2.2⟩,⟨4,mBm.2.2⟩,⟨4,mBf.2.2⟩,⟨λa h=>(by cases h), λh=>absurd h (by simp)⟩,by simp⟩,.inl ⟨rfl,rfl,rfl,rfl⟩⟩;rw [hGl] at hx;rcases hx with rfl|rfl|rfl
  ·exact ⟨_,mBs.2.2⟩
  ·exact ⟨_,mBm.2.2⟩
  ·exact ⟨_,mBf.2.2⟩
 ·cases h
 ·unfold On;rw [aa (by show ¬(false=true);simp)];have h2:= λown W hp=>aq1 (gz:=gz) (K':=K') (jY:=eG) (Bz:=W0) (own:=own) (W:=W) (Mu:=Mu) (Wg:=Wg) (cw:=cw) (cb:=cb) (bs:=bs) (bm:=bm) (bf:=bf) (bw:=bw) (sb:=sb) (N:= λk=>(jP ss n (decide (k=1))).length) (J:=JW Mu Wg bs bm bf ro ss n) (ro:=ro) (Anch:=GZ gz K' bs bm bf ss n eG W0) hne rfl (λ_ _=>rfl) rfl hp
  have h1:= λown W hp=>Vx (gz:=gz) (K':=K') (jY:=eG) (Bz:=W0) (own:=own) (W:=W) (j:=1) (Mu:=Mu) (Wg:=Wg) (cw:=cw) (cb:=cb) (bs:=bs) (bm:=bm) (bf:=bf) (bw:=bw) (sb:=sb) (N:= λk=>(jP ss n (decide (k=1))).length) (J:=JW Mu Wg bs bm bf ro ss n) (ro:=ro) (Anch:=GZ gz K' bs bm bf ss n eG W0) hne zi rfl (by omega) (λ_ _=>rfl) hn' h2 hp
  exact Vx (gz:=gz) (K':=K') (jY:=eG) (Bz:=W0) (j:=0) (Mu:=Mu) (Wg:=Wg) (cw:=cw) (cb:=cb) (bs:=bs) (bm:=bm) (bf:=bf) (bw:=bw) (sb:=sb) (N:= λk=>(jP ss n (decide (k=1))).length) (J:=JW Mu Wg bs bm bf ro ss n) (ro:=ro) (Anch:=GZ gz K' bs bm bf ss n eG W0) hne zi rfl (by omega) (λ_ _=>rfl) hn' h1 hp _ _ _ _ _ _ _ _ _ _ _ _ _ _ _ _ _ _ _ _ _ _ _
 ·have hanch:GZ gz K' bs bm bf ss n eG W0 Bq g W2:=hanch;subst hnn;refine Vy hss hk hanch (λx hx=>(hlt2 x hx).1) λx hx=>?_
  obtain ⟨h1,h2⟩:=hlt2 x hx
  by_cases h3:x<W1.heap.size
  ·by_cases h4:own x
   ·exact (hup x h4).imp (λh=>h) λh=>h.1
   ·exact absurd (.inr ⟨h3, λh=>h2 (.inl h),h4⟩) h2
  ·right;have :=S.kept.rely.size;omega
end
end
section
attribute [local instance] noSh jm
section
variable {As eG:Nat->Prop} {W0:World} {b:fe} {v:jR} {gz:Frame} {K':List Frame} {Post:Value->World->Prop} {dead:Nat->Prop}
theorem ag8 (hb:xw As eG W0 b v) (kU:Tryz.prog.globals.size<W0.heap.size) (hs:b.small) (hc0:gL b=0) (hk:Om Post b eG W0 gz K'):
 jK Tryz.prog Post dead eG (G (Frame.enter Tryz.prog 28 #[fJ b v] .normal) (gz::K')) W0:=by
 refine jK.lt rfl rfl λho=>jK.walk (aw8 hb (λa ha=>(ho a ha).1) kU hs hc0 ?_) rfl rfl
 intro bx bs bm bf cw Mu Wg cb sb bw A cap e fr sL own W S hat hsL w hw j0 j1 j6 j11 j12 j13 nJ nK l6 l7 l8 l9 mg mh mo mq mD mE mF mG mH mJ mK;exact .stop λW1 hr=>ag7 (λa ha=>(ho a ha).1) kU (by have :=(oz hs hc0).n8;omega) (aa (by omega)) hk S hat hsL (hw.trans hr) _ _ _ _ _ _ _ _ _ _ _ _ _ _ _ _ _ _ _ _ _ _ _
end
end
end Go.Proofs.Tryz
