/- Part 47. -/
import Derived.Test.YtnemnkmojiljmaaF45
import Derived.Test.YtnemnkmojiljmaaF46
set_option maxRecDepth 100000
set_option maxHeartbeats 8000000
set_option linter.all false
namespace Go.Proofs.Try
open Go Go.Conc Go.ConcN Go.ConcM Go.RowKit Go.Conc.Lib Go.ConcR.Gen Par
attribute [local instance] noSh ig
theorem ac2:Frame.enter Try.prog 5 #[] .normal=(base 5).at ⟨Array.replicate 160 undef,[]⟩ [.code xg]:=by
 have h:Try.prog.funcs[5]?=some Try.f5:=Try.func5
 have hb:Try.f5.body=some xg:=by unfold xg Try.f5;rfl
 have hn:Try.f5.ntmps=160:=by unfold Try.f5;rfl
 simp [Frame.enter,h,hb,hn,Frame.at,base]
theorem FH {W W2:World} {k n b o:Nat} {F:Nat->Nat->Value} (h:Rd W W.heap.size k (some ⟨b,o,none⟩) n F) (hb:W2.heap[b]?=W.heap[b]?) (hz:W.heap.size<=W2.heap.size):Rd W2 W2.heap.size k (some ⟨b,o,none⟩) n F:= λhn=>by
 obtain ⟨b',o',e,h1,h2⟩:=h hn;cases e;exact ⟨b,o,rfl,ak h1 hz, λi j hi hj=>(dW hb _).trans (h2 i j hi hj)⟩
theorem jE {f:Nat->Nat} {T:Array Value} {i:Nat} {v:Value} (h:T[i]?=some v):(T.map (rv f)).getD i undef=rv f v:=by
 rw [Array.getD_eq_getD_getElem?,Array.getElem?_map,h];rfl
theorem Nq:Flat Try.prog 5 (.bool true):=by
 intro Post dead own W c K hcm hgl hk;refine iL.lt rfl rfl λho=>iL.walk ?_ rfl rfl
 rw [ac2];refine QO (P:=jH) (Q:=Try.prog) (S:=S5) (Z:=Z0) (own:=own) (W:=W) (T:=ak0 W.heap.size) (z:=W8) Uy (Uz S5) UL UA hgl (λb hb=>⟨(ho b hb).1, λh=>h, λh=>h⟩) (λb h=>h.elim) (λb h=>h.elim) (λb i h=>h.elim) (λh=>h) am4 am2 rfl (λx hx=>?_) (λa w h=>?_) (λw hz=>?_) λa' w' f' own' W' hT hvs hkp hmd=>?_
 ·have :x=undef:=(Array.mem_replicate.1 hx).2;rw [this];exact rX
 ·obtain ⟨_,_,_,_,_,_,_,_,_,_,_,_,_,h,_⟩:=h;exact h.1
 ·have h:=@Lo.ar0 OD w W8 rfl;rw [hz,Ux] at h;exact h
 obtain ⟨L,bo,g,q,m2,o2,q2,m4,o4,q4,m6,o6,q6,⟨hd,hsz,hvl⟩,hcl,⟨e2,e3,e4,e5,e6,e7,e8,e9,e10⟩,⟨lbo,lg,lm2,lm4,lm6,lk,lge⟩,hbx,hq4,Wo,hgc,r2,r4,r6⟩:=hT;have hlt:∀b,own' b->b<W'.heap.size:= λb hb=>(hkp.new b hb).elim (λh=>ak (ho b h).1 hkp.rely.size) λh=>h.2
 have fresh:∀{i b o l cp:Nat},a'.tmps[i]?=some (.slice (some ⟨b,o,none⟩) l cp)->W.heap.size<=b:= λ{i b o l cp} h=>by
  have h1:=hvs _ (aK h);rw [qM,lW] at h1;exact (qH.1 (fB.1 h1).1).elim False.elim id
 have UO:∀b∈L,W.heap.size<=b:= λb hb=>by
  rcases lge b hb with h|rfl|rfl|rfl
  ·exact h
  ·exact fresh e2
  ·exact fresh e4
  ·exact fresh e6
 have hbC:=QT (g:=g) (q:=q) (L:=L) hmd hlt hcl UO lk lg Wo hgc hq4;obtain ⟨fr',at1⟩:=hmd.blk bo _ _ _ (UO bo lbo) hbx
 have at6:W'.heap[f' bo]?=some (.cells #[.slice (Df f' W.heap.size g q).ah 2 (Df f' W.heap.size g q).ch,.slice (Df f' W.heap.size g q).ap 5 (Df f' W.heap.size g q).cp,.slice (Df f' W.heap.size g q).jU 4 (Df f' W.heap.size g q).cs,.slice (Df f' W.heap.size g q).ac 4 (Df f' W.heap.size g q).cc] 43 fr'):=by
  rw [at1];simp only [List.map_toArray,List.map_cons,List.map_nil,dY];rfl
 have Xj:∀b∈L,own' (f' b):= λb hb=>OL hmd hcl UO _ ⟨b,hb,rfl⟩
 have hsz':(a'.tmps.map (rv f')).size=160:=by simpa using hsz
 rw [ac1 _ hsz'];refine as9 (v:=Df f' W.heap.size g q) (bo:=f' bo) (fr:=fr') hbC hlt (ak hgl hkp.rely.size) (Xj bo lbo) at6 _ _ _ _ _ _ _ _ _ _ _ _ _ _ _ _ _ _ _ _ _ _ _ _ _ _ _ _ _ _ _ _ _ _ _ _ _ _ _ _ _ _ _ _ _ _ _ _ _ _ _ _ _ _ _ _ _ _ _ _ _ _ _ _ _ _ _ _ _ _ _ _ _ _ _ _ _ _ _ _ _ _ _ _ _ _ _ _ _ _ _ _ _ _ _ _ _ _ _ _ _ _ _ _ _ _ _ _ _ _ _ _ _ _ _ _ _ _ _ _ _ _ _ _ _ _ _ _ _ _ _ _ _ _ _ _ _ _ _ _ _ _ _ _ _ _ _ _ _ _ _ _ _ _ _ _ _ _ _ _ ((jE e8).trans (by first |(rw [dY];rfl)|(rw [dm];rfl))) ?_
 intro qi zP W2 A cap hsl b1 b2 b3 b4 b5 b6 b7 b8;have same:∀b∈L,W2.heap[f' b]?=W'.heap[f' b]?:= λb hb=>b5 _ (Xj b hb)
 refine am5 (As:= λx=>As5 L f' x∨∃a,A=some a∧x=a.block) (v:=Df f' W.heap.size g q) (A:=A) (cap:=cap) b8 (ak hgl (aC hkp.rely.size b4)) (λb hb=>?_) (λa ha=>?_) (λa ha=>.inr ⟨a,ha,rfl⟩) (λi=>(a'.tmps.map (rv f')).getD i undef) (λi=>?_) (λp hp=>.inl (hbC.top p hp))
  ((jE e2).trans (by first |(rw [dY];rfl)|(rw [dm];rfl))) ((jE e3).trans (by simp)) ((jE e4).trans (by first |(rw [dY];rfl)|(rw [dm];rfl))) ((jE e5).trans (by simp)) ((jE e6).trans (by first |(rw [dY];rfl)|(rw [dm];rfl))) ((jE e7).trans (by simp)) ((jE e9).trans (by simp)) ((jE e10).trans (by simp))
  (FH (Np hmd (UO _ lm2) hlt r2 λi j=>by simp) (same _ lm2) b4) (FH (Np hmd (UO _ lm4) hlt r4 λi j=>by simp) (same _ lm4) b4) (FH (Np hmd (UO _ lm6) hlt r6 λi j=>by simp) (same _ lm6) b4) hsl.rd ?_
 ·rcases hb with ⟨x,hx,rfl⟩|⟨a,ha,rfl⟩
  ·exact b6 _ (Xj x hx)
  ·exact (hsl.blk a ha).1
 ·rcases ha with h|⟨p,hp,rfl⟩
  ·obtain ⟨cc,e,fr,h1,h2⟩:=OJ hmd hcl UO a h;obtain ⟨x,hx,rfl⟩:=h;refine ⟨cc,e,fr,(same x hx).trans h1, λy hy=>(h2 y hy).imp id λ⟨p,l,cp,h3,h4⟩=>⟨p,l,cp,h3, λq hq=>.inl (h4 q hq)⟩⟩
  ·obtain ⟨_,cur,e,fr,h2,h3⟩:=hsl.blk p hp;exact ⟨cur,e,fr,h2, λy hy=>.inl (h3 y hy)⟩
 ·by_cases hi:i<a'.tmps.size
  ·rw [jE (aH hi)];refine Nl (F:=FA S5 S5 (dM jH S5 S5) λb=>decide (b∈L)) ?_ (λb hb=>?_) _ (hvl S5 (dM jH S5 S5) _ (Array.getElem_mem hi))
   ·rfl
   have hb:b∈L:=of_decide_eq_true hb;exact fB.2 ⟨qH.2 (.inl (.inl ⟨b,hb,rfl⟩)),b8 _ (b6 _ (Xj b hb))⟩
  ·rw [Array.getD_eq_getD_getElem?,Array.getElem?_eq_none (by simpa using hi)];exact rX
 ·intro am9 at7 W3 k1 k2 k3 k4 k5 k6 k7 k8;have hz:=hkp.rely.size
  exact hk am9 at7 W3 (k1.trans (b1.trans hkp.rely.tape)) (k2.trans (b2.trans hkp.rely.out)) ((hkp.rely.os.trans b3).trans k3) (aC hz (aC b4 k4)) (λb hb=>(k5 b (b6 b (hkp.sub b hb))).trans ((b5 b (hkp.sub b hb)).trans (hkp.rely.own b hb))) (λb hb=>k6 b (b6 b (hkp.sub b hb))) (λb hb=>by
   rcases k7 b hb with h|h
   ·rcases b7 b h with h|h
    ·exact (hkp.new b h).imp id λh=>h.1
    ·exact .inr (by omega)
   ·exact .inr (by omega)) k8
end Go.Proofs.Try
