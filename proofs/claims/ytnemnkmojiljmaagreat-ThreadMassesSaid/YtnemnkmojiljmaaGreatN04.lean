/- Part 4. -/
import Derived.Test.YtnemnkmojiljmaaGreatH22
import Derived.Test.YtnemnkmojiljmaaGreatN03
set_option maxRecDepth 100000
set_option maxHeartbeats 0
set_option linter.all false
section
namespace Go.Proofs
open Go Go.RowKit
theorem firstHas_neg' (p:Int):∀(L:List (List Int)) (k:Nat),decide (gT p L k<0)=!(L.any λl=>l.contains p)
 | [],k=>by simp [gT]
 |l::r,k=>by
  unfold gT
  by_cases h:l.contains p=true
  ·rw [if_pos h,List.any_cons,h,Bool.true_or];exact decide_eq_false (by omega)
  ·rw [if_neg h,firstHas_neg' p r,List.any_cons,show l.contains p=false by simpa using h,Bool.false_or]
end Go.Proofs
end
section
namespace Go.Proofs
open Go Go.RowKit Go.Maps
variable [Lo.St]
theorem lastOf_map {p i:Int}:∀(m:List Int) (l:List (Int×Int)),qg (l++m.map λq=>(q,i)) p=if m.contains p=true then some i else qg l p
 | [],l=>by simp
 |q::r,l=>by
  have e:l++(q::r).map (λq=>(q,i))=(l++ [(q,i)])++r.map λq=>(q,i):=by simp
  rw [e,lastOf_map r,uO]
  by_cases h:r.contains p=true
  ·rw [if_pos h,if_pos (by rw [List.contains_cons,h];simp)]
  ·rw [if_neg h]
   by_cases h2:q=p
   ·rw [if_pos h2,if_pos (by rw [List.contains_cons,h2];simp)]
   ·rw [if_neg h2,if_neg (λhh=>by
     rw [List.contains_cons,Bool.or_eq_true] at hh;rcases hh with hh|hh
     ·exact h2 (eq_of_beq hh).symm
     ·exact h hh)]
theorem firstHas_snoc (p:Int) (l:List Int):∀(L:List (List Int)) (k:Nat),gT p (L++ [l]) k=if gT p L k<0 then (if l.contains p=true then ((k+L.length:Nat):Int) else -1) else gT p L k
 | [],k=>by
   show (if l.contains p=true then (k:Int) else -1)=_;rw [if_pos (show gT p [] k<0 from (by decide:(-1:Int)<0))];rfl
 |a::L,k=>by
  show (if a.contains p=true then (k:Int) else gT p (L++ [l]) (k+1))=if (if a.contains p=true then (k:Int) else gT p L (k+1))<0 then _ else (if a.contains p=true then (k:Int) else gT p L (k+1))
  by_cases h:a.contains p=true
  ·rw [if_pos h,if_pos h,if_neg (by omega)]
  ·rw [if_neg h,if_neg h,firstHas_snoc p l L (k+1),List.length_cons,show k+1+L.length=k+(L.length+1) by omega]
theorem putsTo_one {f:dW->List Int} {ss:List dW} {k:Nat} (h:k<ss.length):fP f ss (k+1)=fP f ss k++(f ss[k]).map λq=>(q,(k:Int)):=by
 rw [fP,List.getElem?_eq_getElem h]
theorem first_last {f:dW->List Int} {ss:List dW} (hn:(ss.flatMap f).Nodup) (p:Int):∀k,k<=ss.length->qg (fP f ss k) p=if gT p ((ss.take k).map f) 0<0 then none else some (gT p ((ss.take k).map f) 0)
 |0,_=>by simp [fP,qg,gT]
 |k+1,hk=>by
  have ih:=first_last hn p k (by omega);rw [putsTo_one (by omega),lastOf_map,ih,List.take_succ_eq_append_getElem (by omega),List.map_append,List.map_cons,List.map_nil,firstHas_snoc];have hl:((ss.take k).map f).length=k:=by simp;omega
  rw [hl,Nat.zero_add]
  by_cases h:(f ss[k]).contains p=true
  ·rw [if_pos h,if_pos h]
   have hneg:gT p ((ss.take k).map f) 0<0:=by
    have :=firstHas_neg' p ((ss.take k).map f) 0
    by_cases q:gT p ((ss.take k).map f) 0<0
    ·exact q
    ·rw [decide_eq_false q] at this;exfalso
     have h2:(((ss.take k).map f).any λl=>l.contains p)=true:=by
      cases e:((ss.take k).map f).any λl=>l.contains p with
      |true=>rfl
      |false=>rw [e] at this;cases this
     obtain ⟨l,hl1,hl2⟩:=List.any_eq_true.1 h2;obtain ⟨s,hs1,rfl⟩:=List.mem_map.1 hl1;have hd:((ss.take k).flatMap f++(ss.drop k).flatMap f).Nodup:=by rw [<-List.flatMap_append,List.take_append_drop];exact hn
     refine (List.nodup_append.1 hd).2.2 p (List.mem_flatMap.2 ⟨s,hs1,by simpa using hl2⟩) p (List.mem_flatMap.2 ⟨ss[k],?_,by simpa using h⟩) rfl;rw [List.drop_eq_getElem_cons (by omega)];exact List.mem_cons_self ..
   rw [if_pos hneg,if_neg (by omega)]
  ·rw [if_neg h,if_neg h]
   by_cases q:gT p ((ss.take k).map f) 0<0
   ·rw [if_pos q,if_pos q,if_pos (by decide)]
   ·rw [if_neg q,if_neg q,if_neg q]
theorem ok_all {b:dO} (h:(jr b.dJ.length b.dz.length b.steps [] []).1=0):∀k,k<=b.steps.length->Ju b k
 |0,_=> λj _ h=>absurd h (Nat.not_lt_zero _)
 |k+1,hk=>by
  have ih:=ok_all h k (by omega);refine Pg ih (by omega) ?_
  by_cases q:mq b k b.steps[k]=0
  ·exact q
  ·have e:=Pd (show k<b.steps.length by omega) q;rw [<-tK ih (by omega),xA,h] at e;exact absurd e.symm q
theorem insF_nodup {np:Nat} {M:List Int}:∀{l U:List Int},U.Nodup->(oD np M l U).1=0->(U++l).Nodup
 | [],U,h,_=>by simpa using h
 |p::r,U,h,h2=>by
  unfold oD at h2
  by_cases q1:kH p 0 ((np:Int) - 1)=false
  ·rw [if_pos q1] at h2;cases h2
  rw [if_neg q1] at h2
  by_cases q2:M.contains p=false
  ·rw [if_pos q2] at h2;cases h2
  rw [if_neg q2] at h2
  by_cases q3:U.contains p=true
  ·rw [if_pos q3] at h2;cases h2
  rw [if_neg q3] at h2
  have hU:(U++ [p]).Nodup:=List.nodup_append.2 ⟨h,by simp, λa ha c hc=>by
   obtain rfl:=List.mem_singleton.1 hc;rintro rfl;exact q3 (by simpa using ha)⟩
  have :=insF_nodup hU h2
  rwa [List.append_assoc] at this
theorem usedL_good {b:dO} (h:Ju b b.steps.length):∀k,k<=b.steps.length->(mM b k).Nodup
 |0,_=>by unfold mM;simp
 |k+1,hk=>by
  have ih:=usedL_good h k (by omega);have hf:=h k (by omega) (by omega);rw [Ll b (by omega)];refine insF_nodup (np:=b.dz.length) (M:=gB b k) ih ?_
  unfold mq at hf
  by_cases q1:kH b.steps[k].hand 0 ((b.dJ.length:Int) - 1)=false
  ·rw [if_pos q1] at hf;cases hf
  rw [if_neg q1] at hf
  by_cases q2:(oD b.dz.length (gB b k) b.steps[k].ins (mM b k)).1=0
  ·exact q2
  ·rw [if_pos q2] at hf;exact absurd hf q2
theorem maker_first {b:dO} (hc:fG b=0) {p:Nat} (hp:p<b.dz.length):gT p (b.steps.map dW.outs) 0=((tq b.steps p).toNat:Int)∧0<=gT p (b.steps.map dW.outs) 0:=by
 obtain ⟨-,h2,h3⟩:=CX (EP hc).2.2.1;have hok:=ok_all h2 _ (Nat.le_refl _);obtain ⟨n1,n2⟩:=Dw hok (Nat.le_refl _);have e2:(jr b.dJ.length b.dz.length b.steps [] []).2=gB b b.steps.length:=by rw [<-xA,tK hok (Nat.le_refl _),E9]
 have hm:(gB b b.steps.length).contains (p:Int)=true:=by
  cases e:(gB b b.steps.length).contains (p:Int) with
  |true=>rfl
  |false=>rw [e2] at h3;exact absurd (Pf n1 n2 hp e) h3
 have hfl:gB b b.steps.length=b.steps.flatMap dW.outs:=by unfold gB;rw [List.take_length]
 rw [hfl] at n1 hm;have hl:=first_last n1 (p:Int) b.steps.length (Nat.le_refl _);rw [List.take_length] at hl
 have hge:¬gT p (b.steps.map dW.outs) 0<0:= λq=>by
  have :=firstHas_neg' p (b.steps.map dW.outs) 0;rw [decide_eq_true q] at this
  have e:((b.steps.map dW.outs).any λl=>l.contains (p:Int))=true:=by
   rw [<-nJ, <-List.flatMap_def];exact hm
  rw [e] at this;cases this
 rw [if_neg hge] at hl;unfold tq;rw [hl];exact ⟨by show _=((gT p (b.steps.map dW.outs) 0).toNat:Int);omega,by omega⟩
theorem user_first {b:dO} (hc:fG b=0) (p:Nat):qO b.steps p=if gT p (b.steps.map dW.ins) 0<0 then none else some (gT p (b.steps.map dW.ins) 0):=by
 obtain ⟨-,h2,h3⟩:=CX (EP hc).2.2.1;have hok:=ok_all h2 _ (Nat.le_refl _);have n1:=usedL_good hok _ (Nat.le_refl _);have hfl:mM b b.steps.length=b.steps.flatMap dW.ins:=by unfold mM;rw [List.take_length]
 rw [hfl] at n1;have hl:=first_last n1 (p:Int) b.steps.length (Nat.le_refl _)
 rwa [List.take_length] at hl
end Go.Proofs
end
