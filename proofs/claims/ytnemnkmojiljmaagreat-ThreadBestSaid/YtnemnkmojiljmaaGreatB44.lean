/- Part 44. -/
import Derived.Test.YtnemnkmojiljmaaGreatB42
import Derived.Test.YtnemnkmojiljmaaGreatB43
set_option maxRecDepth 100000
set_option maxHeartbeats 0
set_option linter.all false
namespace Go.Proofs.Tryz
open Go Go.Conc Go.ConcN Go.ConcM Go.RowKit Go.Conc.Lib Go.ConcR.Gen Par
attribute [local instance] noSh jm
theorem ah1:Frame.enter Tryz.prog 14 #[] .normal=(base 14).at ⟨Array.replicate 160 undef,[]⟩ [.code yF]:=by
 have h:Tryz.prog.funcs[14]?=some Tryz.f14:=Tryz.func14
 have hb:Tryz.f14.body=some yF:=by unfold yF Tryz.f14;rfl
 have hn:Tryz.f14.ntmps=160:=by unfold Tryz.f14;rfl
 simp [Frame.enter,h,hb,hn,Frame.at,base]
theorem G5 {W W2:World} {k n b o:Nat} {F:Nat->Nat->Value} (h:Rd W W.heap.size k (some ⟨b,o,none⟩) n F) (hb:W2.heap[b]?=W.heap[b]?) (hz:W.heap.size<=W2.heap.size):Rd W2 W2.heap.size k (some ⟨b,o,none⟩) n F:= λhn=>by
 obtain ⟨b',o',e,h1,h2⟩:=h hn;cases e;exact ⟨b,o,rfl,aK h1 hz, λi j hi hj=>(fV hb _).trans (h2 i j hi hj)⟩
theorem kY {f:Nat->Nat} {T:Array Value} {i:Nat} {v:Value} (h:T[i]?=some v):(T.map (rv f)).getD i undef=rv f v:=by
 rw [aA,aG,h];rfl
theorem Ou:Flat Tryz.prog 14 (.bool true):=by
 intro Post dead own W c K hcm hgl hk;refine jK.lt rfl rfl λho=>jK.walk ?_ rfl rfl
 rw [ah1];refine RG (P:=lC) (Q:=Tryz.prog) (S:=S5) (Z:=Z0) (own:=own) (W:=W) (T:=ao3 W.heap.size) (z:=W8) Vm (Vn S5) Vz Vo hgl (λb hb=>⟨(ho b hb).1, λh=>h, λh=>h⟩) (λb h=>h.elim) (λb h=>h.elim) (λb i h=>h.elim) (λh=>h) aq6 aq4 rfl (λx hx=>?_) (λa w h=>?_) (λw hz=>?_) λa' w' f' dL W' hT hvs hkp hmd=>?_
 ·have :x=undef:=(Array.mem_replicate.1 hx).2;rw [this];exact uy
 ·obtain ⟨_,_,_,_,_,_,_,_,_,_,_,_,_,h,_⟩:=h;exact h.1
 ·have h:=@Lo.av5 PI w W8 rfl;rw [hz,Vl] at h;exact h
 obtain ⟨L,bo,g,q,m2,o2,q2,m4,o4,q4,m6,o6,q6,⟨hd,hsz,hvl⟩,hcl,⟨e2,e3,e4,e5,e6,e7,e8,e9,e10⟩,⟨lbo,lg,lm2,lm4,lm6,lk,lge⟩,hbx,hq4,Yl,hgc,r2,r4,r6⟩:=hT;have hlt:∀b,dL b->b<W'.heap.size:= λb hb=>(hkp.new b hb).elim (λh=>aK (ho b h).1 hkp.rely.size) λh=>h.2
 have fresh:∀{i b o l cp:Nat},a'.tmps[i]?=some (.slice (some ⟨b,o,none⟩) l cp)->W.heap.size<=b:= λ{i b o l cp} h=>by
  have h1:=hvs _ (bg h);rw [jo,yK] at h1;exact (sG.1 (gN.1 h1).1).elim az id
 have VC:∀b∈L,W.heap.size<=b:= λb hb=>by
  rcases lge b hb with h|rfl|rfl|rfl
  ·exact h
  ·exact fresh e2
  ·exact fresh e4
  ·exact fresh e6
 have hbC:=RI (g:=g) (q:=q) (L:=L) hmd hlt hcl VC lk lg Yl hgc hq4;obtain ⟨fr',ax6⟩:=hmd.blk bo _ _ _ (VC bo lbo) hbx
 have ax7:W'.heap[f' bo]?=some (.cells #[.slice (EA f' W.heap.size g q).ah 2 (EA f' W.heap.size g q).ch,.slice (EA f' W.heap.size g q).ap 5 (EA f' W.heap.size g q).cp,.slice (EA f' W.heap.size g q).lT 4 (EA f' W.heap.size g q).cs,.slice (EA f' W.heap.size g q).ac 4 (EA f' W.heap.size g q).cc] 26 fr'):=by
  rw [ax6];simp only [List.map_toArray,aC,List.map_nil,fT];rfl
 have Ym:∀b∈L,dL (f' b):= λb hb=>PR hmd hcl VC _ ⟨b,hb,rfl⟩
 have hsz':(a'.tmps.map (rv f')).size=160:=by simpa using hsz
 rw [ah0 _ hsz'];refine ax4 (v:=EA f' W.heap.size g q) (bo:=f' bo) (fr:=fr') hbC hlt (aK hgl hkp.rely.size) (Ym bo lbo) ax7 _ _ _ _ _ _ _ _ _ _ _ _ _ _ _ _ _ _ _ _ _ _ _ _ _ _ _ _ _ _ _ _ _ _ _ _ _ _ _ _ _ _ _ _ _ _ _ _ _ _ _ _ _ _ _ _ _ _ _ _ _ _ _ _ _ _ _ _ _ _ _ _ _ _ _ _ _ _ _ _ _ _ _ _ _ _ _ _ _ _ _ _ _ _ _ _ _ _ _ _ _ _ _ _ _ _ _ _ _ _ _ _ _ _ _ _ _ _ _ _ _ _ _ _ _ _ _ _ _ _ _ _ _ _ _ _ _ _ _ _ _ _ _ _ _ _ _ _ _ _ _ _ _ _ _ _ _ _ _ _ ((kY e8).trans (by first |(rw [fT];rfl)|(rw [eX];rfl))) ?_
 intro rR Bq W2 A cap hsl b1 b2 b3 b4 b5 b6 b7 b8;have same:∀b∈L,W2.heap[f' b]?=W'.heap[f' b]?:= λb hb=>b5 _ (Ym b hb)
 refine aq7 (As:= λx=>As5 L f' x∨∃a,A=some a∧x=a.block) (v:=EA f' W.heap.size g q) (A:=A) (cap:=cap) b8 (aK hgl (aT hkp.rely.size b4)) (λb hb=>?_) (λa ha=>?_) (λa ha=>.inr ⟨a,ha,rfl⟩) (λi=>(a'.tmps.map (rv f')).getD i undef) (λi=>?_) (λp hp=>.inl (hbC.top p hp))
  ((kY e2).trans (by first |(rw [fT];rfl)|(rw [eX];rfl))) ((kY e3).trans (by simp)) ((kY e4).trans (by first |(rw [fT];rfl)|(rw [eX];rfl))) ((kY e5).trans (by simp)) ((kY e6).trans (by first |(rw [fT];rfl)|(rw [eX];rfl))) ((kY e7).trans (by simp)) ((kY e9).trans (by simp)) ((kY e10).trans (by simp))
  (G5 (Ot hmd (VC _ lm2) hlt r2 λi j=>by simp) (same _ lm2) b4) (G5 (Ot hmd (VC _ lm4) hlt r4 λi j=>by simp) (same _ lm4) b4) (G5 (Ot hmd (VC _ lm6) hlt r6 λi j=>by simp) (same _ lm6) b4) hsl.rd ?_
 ·rcases hb with ⟨x,hx,rfl⟩|⟨a,ha,rfl⟩
  ·exact b6 _ (Ym x hx)
  ·exact (hsl.blk a ha).1
 ·rcases ha with h|⟨p,hp,rfl⟩
  ·obtain ⟨cc,e,fr,h1,h2⟩:=PO hmd hcl VC a h;obtain ⟨x,hx,rfl⟩:=h;refine ⟨cc,e,fr,(same x hx).trans h1, λy hy=>(h2 y hy).imp id λ⟨p,l,cp,h3,h4⟩=>⟨p,l,cp,h3, λq hq=>.inl (h4 q hq)⟩⟩
  ·obtain ⟨_,cur,e,fr,h2,h3⟩:=hsl.blk p hp;exact ⟨cur,e,fr,h2, λy hy=>.inl (h3 y hy)⟩
 ·by_cases hi:i<a'.tmps.size
  ·rw [kY (aX hi)];refine Oo (F:=FA S5 S5 (fH lC S5 S5) λb=>decide (b∈L)) ?_ (λb hb=>?_) _ (hvl S5 (fH lC S5 S5) _ (Array.getElem_mem hi))
   ·rfl
   have hb:b∈L:=of_decide_eq_true hb;exact gN.2 ⟨sG.2 (.inl (.inl ⟨b,hb,rfl⟩)),b8 _ (b6 _ (Ym b hb))⟩
  ·rw [aA,Array.getElem?_eq_none (by simpa using hi)];exact uy
 ·intro ar1 ax8 W3 k1 k2 k3 k4 k5 k6 k7 k8;have hz:=hkp.rely.size
  exact hk ar1 ax8 W3 (k1.trans (b1.trans hkp.rely.tape)) (k2.trans (b2.trans hkp.rely.out)) ((hkp.rely.os.trans b3).trans k3) (aT hz (aT b4 k4)) (λb hb=>(k5 b (b6 b (hkp.sub b hb))).trans ((b5 b (hkp.sub b hb)).trans (hkp.rely.own b hb))) (λb hb=>k6 b (b6 b (hkp.sub b hb))) (λb hb=>by
   rcases k7 b hb with h|h
   ·rcases b7 b h with h|h
    ·exact (hkp.new b h).imp id λh=>h.1
    ·exact .inr (by omega)
   ·exact .inr (by omega)) k8
end Go.Proofs.Tryz
