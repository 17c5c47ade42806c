/- Part 39. -/
import Derived.Test.YtnemnkmojiljmaaGreatB16
import Derived.Test.YtnemnkmojiljmaaGreatB18
set_option maxRecDepth 100000
set_option maxHeartbeats 0
set_option linter.all false
namespace Par
open Go Go.Conc Go.ConcM Go.ConcN
theorem Yg {B Sb:Type} {C:Gq B Sb} {inv:Nat->(Nat->Option B)->Sb->Prop} {sb:Sb} (h:inv 0 (λ_=>none) sb) (hN:0<C.N) {n:Nat} (hn:0<n):LZ C inv n (λi=>if i=0 then some (.st .QX 0) else none) ⟨0,0,0,false, λ_=>false,sb⟩:=by
 refine ⟨.QX,0, λ_=>0, λ_=>none,rfl,hn, λk hk=>absurd hk (Nat.not_lt_zero _), λk l hk=>absurd hk (Nat.not_lt_zero _), λk hk=>absurd hk (Nat.not_lt_zero _), λk T hk=>absurd hk (Nat.not_lt_zero _), λi hi _=>aa hi,rfl, λ_=>⟨rfl,rfl,rfl,rfl⟩, λh=>(by cases h), λh=>(by cases h),
  λv h=>(by cases h), λv h=>(by cases h), λ_=>hN, λh=>(by cases h),bn _, λk hk=>absurd hk (Nat.not_lt_zero _), λ_ _=>rfl,⟨λh=>(by cases h), λh=>(by cases h)⟩,?_⟩
 have :(λk:Nat=>if k<0 then jU (none:Option (FT B)) else none)= λ_=>none:=funext λk=>aa (Nat.not_lt_zero _)
 rw [this];exact h
theorem Yh {N:Nat->Nat}:MInv N 0 (λ_=>none) ⟨0,0,0,0,false⟩:=
 ⟨by omega,Ma, λk b _ h=>(by cases h), λk hk _=>⟨λh=>absurd h (Nat.not_lt_zero _), λ_=>by unfold MS.c;split<;>rfl⟩,⟨λh=>(by cases h), λ⟨_,_,_,h,_⟩=>(by cases h)⟩⟩
theorem jK.lt {P:Program} {Post:Value->World->Prop} {dead own:Nat->Prop} {g:Goroutine} {W:World} (hg:g.status= .running) (hoff:g.offers=none) (h:(∀b,own b->b<W.heap.size∧¬dead b)->jK P Post dead own g W):jK P Post dead own g W:=
 ⟨hg,hoff, λho W1 hr gs t sl hq=>(h ho).2.2 ho W1 hr gs t sl hq⟩
end Par
