/- Part 42. -/
import Derived.Test.YtnemnkmojiljmaaF17
import Derived.Test.YtnemnkmojiljmaaF19
set_option maxRecDepth 100000
set_option maxHeartbeats 8000000
set_option linter.all false
namespace Par
open Go Go.Conc Go.ConcM Go.ConcN
theorem Xe {B Sb:Type} {C:EX B Sb} {inv:Nat->(Nat->Option B)->Sb->Prop} {sb:Sb} (h:inv 0 (λ_=>none) sb) (hN:0<C.N) {n:Nat} (hn:0<n):Kw C inv n (λi=>if i=0 then some (.st .P9 0) else none) ⟨0,0,0,false, λ_=>false,sb⟩:=by
 refine ⟨.P9,0, λ_=>0, λ_=>none,rfl,hn, λk hk=>absurd hk (Nat.not_lt_zero _), λk l hk=>absurd hk (Nat.not_lt_zero _), λk hk=>absurd hk (Nat.not_lt_zero _), λk T hk=>absurd hk (Nat.not_lt_zero _), λi hi _=>if_neg hi,rfl, λ_=>⟨rfl,rfl,rfl,rfl⟩, λh=>(by cases h), λh=>(by cases h),
  λv h=>(by cases h), λv h=>(by cases h), λ_=>hN, λh=>(by cases h),aL _, λk hk=>absurd hk (Nat.not_lt_zero _), λ_ _=>rfl,⟨λh=>(by cases h), λh=>(by cases h)⟩,?_⟩
 have :(λk:Nat=>if k<0 then iR (none:Option (FT B)) else none)= λ_=>none:=funext λk=>if_neg (Nat.not_lt_zero _)
 rw [this];exact h
theorem Xf {N:Nat->Nat}:MInv N 0 (λ_=>none) ⟨0,0,0,0,false⟩:=
 ⟨by omega,KC, λk b _ h=>(by cases h), λk hk _=>⟨λh=>absurd h (Nat.not_lt_zero _), λ_=>by unfold MS.c;split<;>rfl⟩,⟨λh=>(by cases h), λ⟨_,_,_,h,_⟩=>(by cases h)⟩⟩
theorem iL.lt {P:Program} {Post:Value->World->Prop} {dead own:Nat->Prop} {g:Goroutine} {W:World} (hg:g.status= .running) (hoff:g.offers=none) (h:(∀b,own b->b<W.heap.size∧¬dead b)->iL P Post dead own g W):iL P Post dead own g W:=
 ⟨hg,hoff, λho W1 hr gs t sl hq=>(h ho).2.2 ho W1 hr gs t sl hq⟩
end Par
