/- Part 9. -/
import Derived.Test.YtnemnkmojiljmaaF06
import Derived.Test.YtnemnkmojiljmaaF07
import Derived.Test.YtnemnkmojiljmaaF08
set_option maxRecDepth 100000
set_option maxHeartbeats 8000000
set_option linter.all false
section
namespace Go.Proofs
open Go Go.RowKit Go.Maps
variable [Lo.St]
def zi:List ByteArray->List ByteArray->Int
 | [],_=>0
 |s::r,seen=>if lG s=false then 4 else if JB s seen=true then 5 else zi r (seen++ [s])
def dV (l:List ByteArray) (most:Nat):Int:=if most<l.length then 2 else zi l []
def Aj (np:Nat) (M:List Int):List Int->List Int->Int×List Int
 | [],U=>(0,U)
 |p::r,U=>if qg p 0 ((np:Int) - 1)=false then (6,U) else if M.contains p=false then (7,U) else if U.contains p=true then (5,U) else Aj np M r (U++ [p])
def qP (np:Nat):List Int->List Int->Int×List Int
 | [],M=>(0,M)
 |p::r,M=>if qg p 0 ((np:Int) - 1)=false then (6,M) else if M.contains p=true then (5,M) else qP np r (M++ [p])
def ng (nh np:Nat):List dK->List Int->List Int->Int×List Int
 | [],M,_=>(0,M)
 |s::r,M,U=>
  if qg s.hand 0 ((nh:Int) - 1)=false then (6,M) else
  if (Aj np M s.ins U).1≠0 then ((Aj np M s.ins U).1,M) else
  if (qP np s.outs M).1≠0 then ((qP np s.outs M).1,M) else
  if dQ s.g0 s.g1 0 1000000=false then (1,M) else
  if dQ s.l0 s.l1 0 1000000=false then (1,M) else
  ng nh np r (qP np s.outs M).2 (Aj np M s.ins U).2
def iO (b:dz):Int:=
 if 8<b.steps.length then 2 else
 if (ng b.hands.length b.bP.length b.steps [] []).1≠0 then (ng b.hands.length b.bP.length b.steps [] []).1 else
 if (ng b.hands.length b.bP.length b.steps [] []).2.length<b.bP.length then 6 else 0
def rF (np:Nat):List rz->Int
 | []=>0
 |s::r=>if qg s.pile 0 ((np:Int) - 1)=false then 6 else if dQ s.lo s.hi 0 1000000=false then 1 else rF np r
def eX (b:dz):Int:=
 if dV b.hands 4≠0 then dV b.hands 4 else
 if dV b.bP 12≠0 then dV b.bP 12 else
 if iO b≠0 then iO b else
 if 10<b.bT.length then 2 else rF b.bP.length b.bT
theorem RI {np:Nat} {M:List Int}:∀{l U:List Int},(Aj np M l U).1=0->∀p∈l,0<=p∧p<=(np:Int) - 1
 | [],_,_=> λp hp=>by simp at hp
 |q::r,U,h=> λp hp=>by
  unfold Aj at h
  by_cases h1:qg q 0 ((np:Int) - 1)=false
  ·rw [if_pos h1] at h;cases h
  ·rw [if_neg h1] at h
   by_cases h2:M.contains q=false
   ·rw [if_pos h2] at h;cases h
   ·rw [if_neg h2] at h
    by_cases h3:U.contains q=true
    ·rw [if_pos h3] at h;cases h
    ·rw [if_neg h3] at h;rcases aT.1 hp with rfl|hp
     ·simp [qg] at h1;omega
     ·exact RI h p hp
theorem NM {np:Nat}:∀{l M:List Int},(qP np l M).1=0->∀p∈l,0<=p∧p<=(np:Int) - 1
 | [],_,_=> λp hp=>by simp at hp
 |q::r,M,h=> λp hp=>by
  unfold qP at h
  by_cases h1:qg q 0 ((np:Int) - 1)=false
  ·rw [if_pos h1] at h;cases h
  ·rw [if_neg h1] at h
   by_cases h3:M.contains q=true
   ·rw [if_pos h3] at h;cases h
   ·rw [if_neg h3] at h;rcases aT.1 hp with rfl|hp
    ·simp [qg] at h1;omega
    ·exact NM h p hp
theorem x9 {nh np:Nat}:∀{l:List dK} {M U:List Int},(ng nh np l M U).1=0->∀s∈l,
 qg s.hand 0 ((nh:Int) - 1)=true∧(∀p∈s.ins,0<=p∧p<=(np:Int) - 1)∧(∀p∈s.outs,0<=p∧p<=(np:Int) - 1)∧dQ s.g0 s.g1 0 1000000=true∧dQ s.l0 s.l1 0 1000000=true
 | [],_,_,_=> λs hs=>by simp at hs
 |t::r,M,U,h=> λs hs=>by
  unfold ng at h
  by_cases h1:qg t.hand 0 ((nh:Int) - 1)=false
  ·rw [if_pos h1] at h;cases h
  rw [if_neg h1] at h
  by_cases h2:(Aj np M t.ins U).1≠0
  ·rw [if_pos h2] at h;exact absurd h h2
  rw [if_neg h2] at h
  by_cases h3:(qP np t.outs M).1≠0
  ·rw [if_pos h3] at h;exact absurd h h3
  rw [if_neg h3] at h
  by_cases h4:dQ t.g0 t.g1 0 1000000=false
  ·rw [if_pos h4] at h;cases h
  rw [if_neg h4] at h
  by_cases h5:dQ t.l0 t.l1 0 1000000=false
  ·rw [if_pos h5] at h;cases h
  rw [if_neg h5] at h;rcases aT.1 hs with rfl|hs
  ·exact ⟨by simpa using h1,RI (by simpa using h2),NM (by simpa using h3),by simpa using h4,by simpa using h5⟩
  ·exact x9 h s hs
theorem tK {lo hi a b:Int}:dQ lo hi a b=true↔a<=lo∧lo<=hi∧hi<=b:=by
 unfold dQ;simp [and_assoc]
theorem D9 {np:Nat}:∀{l:List rz},rF np l=0->∀s∈l,(0<=s.pile∧s.pile<=(np:Int) - 1)∧dQ s.lo s.hi 0 1000000=true
 | [],_=> λs hs=>by simp at hs
 |t::r,h=> λs hs=>by
  unfold rF at h
  by_cases h1:qg t.pile 0 ((np:Int) - 1)=false
  ·rw [if_pos h1] at h;cases h
  rw [if_neg h1] at h
  by_cases h2:dQ t.lo t.hi 0 1000000=false
  ·rw [if_pos h2] at h;cases h
  rw [if_neg h2] at h;rcases aT.1 hs with rfl|hs
  ·refine ⟨?_,by simpa using h2⟩;simp [qg] at h1;omega
  ·exact D9 h s hs
theorem Gi {b:dz} (h:eX b=0):dV b.hands 4=0∧dV b.bP 12=0∧iO b=0∧b.bT.length<=10∧rF b.bP.length b.bT=0:=by
 unfold eX at h
 by_cases h1:dV b.hands 4≠0
 ·rw [if_pos h1] at h;exact absurd h h1
 rw [if_neg h1] at h
 by_cases h2:dV b.bP 12≠0
 ·rw [if_pos h2] at h;exact absurd h h2
 rw [if_neg h2] at h
 by_cases h3:iO b≠0
 ·rw [if_pos h3] at h;exact absurd h h3
 rw [if_neg h3] at h
 by_cases h4:10<b.bT.length
 ·rw [if_pos h4] at h;cases h
 rw [if_neg h4] at h;exact ⟨by simpa using h1,by simpa using h2,by simpa using h3,by omega,h⟩
theorem Ea {b:dz} (h:iO b=0):b.steps.length<=8∧(ng b.hands.length b.bP.length b.steps [] []).1=0∧¬(ng b.hands.length b.bP.length b.steps [] []).2.length<b.bP.length:=by
 unfold iO at h
 by_cases h1:8<b.steps.length
 ·rw [if_pos h1] at h;cases h
 rw [if_neg h1] at h
 by_cases h2:(ng b.hands.length b.bP.length b.steps [] []).1≠0
 ·rw [if_pos h2] at h;exact absurd h h2
 rw [if_neg h2] at h
 by_cases h3:(ng b.hands.length b.bP.length b.steps [] []).2.length<b.bP.length
 ·rw [if_pos h3] at h;cases h
 exact ⟨by omega,by simpa using h2,h3⟩
theorem wV {l:List ByteArray} {m:Nat} (h:dV l m=0):l.length<=m:=by
 unfold dV at h;split at h
 ·cases h
 ·omega
theorem mH {b:dz} (hs:b.small) (h:eX b=0):b.good:=by
 obtain ⟨h1,h2,h3,h4,h5⟩:=Gi h;obtain ⟨k1,k2,_⟩:=Ea h3;have l2:=wV h2;refine ⟨hs,k1,l2, λs hx=>?_, λs hx=>?_, λs hx p hp=>?_, λs hx p hp=>?_⟩
 ·obtain ⟨_,x⟩:=D9 h5 s hx;rw [tK] at x;omega
 ·obtain ⟨_,_,_,x,y⟩:=x9 k2 s hx;rw [tK] at x y;omega
 ·obtain ⟨_,x,_⟩:=x9 k2 s hx;have :=x p hp;omega
 ·obtain ⟨_,_,x,_⟩:=x9 k2 s hx;have :=x p hp;omega
end Go.Proofs
end
section
namespace Go.Proofs
open Go Go.RowKit
variable [Lo.St]
theorem Lo.zk (s:ByteArray) (w:World):Calls Lo.prog 79 #[.string s] w λe w'=>e= .returned (.bool (lG s))∧Below w.heap.size w w':=by
 cases h:qg s.size 1 14 with
 |true=>exact Lo.LQ s w h
 |false=>
  have e:lG s=false:=by unfold lG;rw [h];rfl
  rw [e];exact Lo.O9 s w h
theorem NF.take {w:World} {B:Nat} {A:Option Addr} {l:List ByteArray} (h:NF w B A l) (k:Nat) (hk:k<=l.length):NF w B A (l.take k):= λhn=>by
 have e:(l.take k).length=k:=by rw [List.length_take];omega
 rw [e] at hn;obtain ⟨b,off,e1,hb,hc⟩:=h (by omega);refine ⟨b,off,e1,hb, λi j hi hj=>?_⟩;rw [e] at hi;rw [hc i j (by omega) hj];simp only;rw [List.getElem?_take_of_lt hi]
theorem Lo.RJ {w:World} {B n:Nat} {A:Option Addr} {l:List ByteArray} {c:Nat} {s:ByteArray} (hn:n=l.length) (h1:NF w B A l) (hl:l.length<=64):
 Calls Lo.prog 80 #[.slice A n c,.string s] w λe w'=>e= .returned (.bool (JB s l))∧w'=w:=hn ▸ Lo.Rs h1 hl
theorem JL (l:List ByteArray) (k:Nat) (h:k<l.length):zi (l.drop k) (l.take k)=if lG l[k]=false then 4 else if JB l[k] (l.take k)=true then 5 else zi (l.drop (k+1)) (l.take (k+1)):=by
 rw [aG h,aP h];rfl
theorem Lo.fu {w:World} {B:Nat} {A:Option Addr} {l:List ByteArray} {c most:Nat} (h1:NF w B A l) (hl:l.length<=64) (hcap:l.length<=c) (hB:B<=w.heap.size) (hm:most<=64):
 Calls Lo.prog 49 #[.slice A l.length c,.int .i64 (most:Int)] w λe w'=>e= .returned (.int .i64 (dV l most))∧Below w.heap.size w w':=by
 obtain ⟨U,U2,U3,U4,U5,U6⟩:=@Lo.facts inferInstance;have C:=(@Lo.call79 inferInstance);have C2:=(@Lo.call80 inferInstance)
 by_cases hgt:most<l.length
 ·have RL:(most:Int)<(l.length:Int):=by omega
  have e:dV l most=2:=by unfold dV;rw [if_pos hgt]
  rw [e];go_enter Lo.func49,Try.ntmps49
  go_wp2_with fail
  go_ret;exact ⟨rfl,Below.refl _ _⟩
 ·have RL:¬(most:Int)<(l.length:Int):=by omega
  have e:dV l most=zi l []:=by unfold dV;rw [if_neg hgt]
  rw [e];clear e;generalize hF:zi l []=F;have HF:=Lib.hid hF;clear hF;go_enter Lo.func49,Try.ntmps49
  go_wp2_with fail
  go_loopw [13] (λi wr=>∃k:Nat,k<=l.length∧i= .int .i64 (k:Int)∧zi (l.drop k) (l.take k)=F∧Below w.heap.size w wr) (λi _=>l.length - (intOf i).toNat)
  case atStart=>exact ⟨0,aL _,rfl,by rw [List.drop_zero,List.take_zero];exact HF.out,Below.refl _ _⟩
  case round=>
   obtain ⟨k,hk,rfl,hx,hb⟩:=hrel
   by_cases hlt:k<l.length
   ·have hlt':(k:Int)<(l.length:Int):=by omega
    have hkc:k<=c:=by omega
    have h1k:NF wr B A l:=h1.keep λb o h=>bV hb b o (by omega)
    obtain ⟨bb,off,rfl,hbb,hc⟩:=h1k (by omega);have r1:=LB hc hlt;have ht:NF wr B (some ⟨bb,off,none⟩) (l.take k):=NF.take (λ_=>⟨bb,off,rfl,hbb,hc⟩) k (by omega);have hd:=JL l k hlt;rw [hx] at hd;have htl:k=(l.take k).length:=by rw [List.length_take];omega
    generalize l[k]=s at r1 hd;have HT:=Lib.hid ht;have HD:=Lib.hid hd;have HB:=Lib.hid hb;have HTL:=Lib.hid htl;clear ht hd hb hc hx h1k h1 htl;cases hnm:lG s with
    |false=>
     have HN:=Lib.hid hnm;clear hnm
     go_wp2_with (go_at_call 79;refine (Lo.zk _ _).mono ?_;rintro e w1 ⟨rfl,hb1⟩;rw [HN.out])
     go_ret;exact ⟨by rw [HD.out,if_pos HN.out];rfl,HB.out.trans (hb1.mono HB.out.size)⟩
    |true=>
     have HN:=Lib.hid hnm;clear hnm;cases hhs:JB s (l.take k) with
     |true=>
      have HH:=Lib.hid hhs;clear hhs
      go_wp2_with (first
       |(go_at_call 79;refine (Lo.zk _ _).mono ?_;rintro e w1 ⟨rfl,hb1⟩;rw [HN.out])
       |(go_at_call 80;refine (Lo.RJ HTL.out (HT.out.keep λb o h=>bV hb1 b o (by have :=HB.out.size;omega)) (by rw [List.length_take];omega)).mono ?_;rintro e w2 ⟨rfl,rfl⟩;rw [HH.out]))
      go_ret;exact ⟨by rw [HD.out,if_neg (by rw [HN.out];simp),if_pos HH.out];rfl,HB.out.trans (hb1.mono HB.out.size)⟩
     |false=>
      have HH:=Lib.hid hhs;clear hhs
      go_wp2_with (first
       |(go_at_call 79;refine (Lo.zk _ _).mono ?_;rintro e w1 ⟨rfl,hb1⟩;rw [HN.out])
       |(go_at_call 80;refine (Lo.RJ HTL.out (HT.out.keep λb o h=>bV hb1 b o (by have :=HB.out.size;omega)) (by rw [List.length_take];omega)).mono ?_;rintro e w2 ⟨rfl,rfl⟩;rw [HH.out]))
      go_roundw
      case rel=>exact ⟨k+1,by omega,by go_num,by rw [HD.out,if_neg (by rw [HN.out];simp),if_neg (by rw [HH.out];simp)],HB.out.trans (hb1.mono HB.out.size)⟩
      case measure=>simp [intOf];omega
   ·obtain rfl:k=l.length:=by omega
    rw [List.drop_length] at hx;have HX:=Lib.hid hx;clear hx
    go_wp2_with fail
    go_ret;exact ⟨by rw [<-HX.out];rfl,hb⟩
end Go.Proofs
end
section
namespace Go.Proofs
open Go Go.RowKit Go.Maps
variable [Lo.St]
abbrev vT:DataW Unit:=.lit (.bool true)
def CW (l:List Int):DataW Unit:=setOf vT (l.map kI)
theorem Gj (l:List Int) (p:Int):CW (l++ [p])=(CW l).put (kI p) vT:=by
 unfold CW;rw [List.map_append];exact setOf_snoc _ _ _
theorem NN (l:List Int):∀x∈l.map kI,WideAt.IsKeyLit x:= λx hx=>by
 obtain ⟨p,_,rfl⟩:=List.mem_map.1 hx;exact Iu p
theorem LU (p q:Int):(kI p).sameKey (kI q)=decide (p=q):=by
 by_cases h:p=q
 ·subst h;simp [Lit.sameKey]
 ·rw [sameKey_ne (Iw h)];simp [h]
theorem vV (l:List Int) (q:Int):(CW l).atKey (kI q) (.lit (.bool false))= .lit (.bool (l.contains q)):=by
 induction l using xA with
 |h0=>rfl
 |h1 l p ih=>
  have hm:IsMap (CW l):=(tidy_setOf vT _ (NN l)).isMap;rw [Gj]
  by_cases h:p=q
  ·subst h;rw [atKey_put_same hm (Iu p)];simp
  ·rw [atKey_put_other (Iw (Ne.symm h)),ih];simp [Ne.symm h]
theorem Pb (l:List Int) (h:l.Nodup):Maps.size (CW l)=l.length:=by
 unfold CW;rw [size_setOf _ _ (NN l)]
 have :∀(l acc:List Int),l.Nodup->(∀x∈l,x ∉ acc)->(l.map kI).foldl addKey (acc.map kI)=(acc++l).map kI:=by
  intro l
  induction l with
  |nil=>intro acc _ _;simp
  |cons p l ih=>
   intro acc hn ha;simp only [List.map_cons,List.foldl_cons]
   have e:addKey (acc.map kI) (kI p)=(acc++ [p]).map kI:=by
    unfold addKey;rw [if_neg]
    ·simp
    ·simp only [List.any_map,List.any_eq_true,Function.comp];rintro ⟨x,hx,h2⟩;rw [LU] at h2;have :=of_decide_eq_true h2;subst this;exact ha _ (by simp) hx
   rw [e,ih (acc++ [p]) (List.nodup_cons.1 hn).2 (λx hx hm=>by
    rcases List.mem_append.1 hm with hm|hm
    ·exact ha x (by simp [hx]) hm
    ·simp at hm;subst hm;exact (List.nodup_cons.1 hn).1 hx)]
   simp
 have :=this l [] h (λ_ _ h=>by cases h);simp only [List.map_nil,List.nil_append] at this;rw [this,List.length_map]
section
variable {H:Type} {P:Program} (w:World) {ops:Array Oper} {rest:List Oper} {o:Oper} {a:Act} {Q:Exit->Act->World->Prop}
theorem zl {e:TypeId} (he:P.underlying e=some .bool) {v:Value} {z:DataW H×List MemPlace} (h:plainElem P e v=some z):∃x,v= .bool x∧z=(.lit (.bool x),[]):=by
 unfold plainElem at h;rw [he] at h;cases v<;>simp at h;rename_i x;exact ⟨x,rfl,h.symm⟩
theorem dX (hg:o.guard=none) (m x:Operand) (t:TypeId) (hop:o.op=Op.lookup t m x false)
 (k e:TypeId) (K:Keyed P k) (ht:P.underlying t=some (.map k e)) (he:P.underlying e=some .bool) (hz:(zeroValue e).run P w= .ok (.bool false) w) (b n:Nat) (D:DataW H)
 (hm:a.eval m= .map (some b)) (hown:w.ownsMap P k (plainElem P e) b n D) (key:Value) (kl:Lit) (hx:a.eval x=key) (hkey:keyOf P k key=some kl)
 (r:Bool) (hr:D.atKey kl (.lit (.bool false))= .lit (.bool r))
 (hK:wpList P ops Q rest (a.put o.dst (.bool r)) w):
 wpList P ops Q (o::rest) a w:=by
 refine wpList_plain hg λK' hK'=>?_
 obtain ⟨v,ps,hrun,hv⟩:=hown.lookup K ht hz (plainElem_bool he false) hkey;obtain ⟨c,rfl,hc⟩:=zl he hv;have e1:=congrArg Prod.fst hc;simp only at e1;rw [hr] at e1;have e2:r=c:=by cases e1;rfl
 subst e2;unfold Oper.wp;simp [execOp,hop,hm,hx,hrun,Result.andThen];exact hK' _ _ hK
end
theorem Lo.sw:Lo.prog.underlying 136=some (.map 3 4):=(Lo.underlying 136).trans (by kernel_rfl)
theorem Lo.IA:Lo.prog.underlying 4=some .bool:=(Lo.underlying 4).trans (by kernel_rfl)
theorem Lo.XB:Lo.prog.underlying 3=some (.int .i64):=(Lo.underlying 3).trans (by kernel_rfl)
theorem Lo.Ak:Keyed Lo.prog 3:=int_keyed Lo.XB
theorem Lo.Eb (w:World):(Go.zeroValue 4).run Lo.prog w= .ok (.bool false) w:=(Lo.zeroValue 4 w).trans (by kernel_rfl)
abbrev mB (w:World) (b n:Nat) (l:List Int):Prop:=w.ownsMap Lo.prog 3 (plainElem Lo.prog 4) b n (CW l)
theorem XC {w1:World} {b n:Nat} {l:List Int} {p:Int} (h:w1.ownsMap Lo.prog 3 (plainElem Lo.prog 4) b (n+1) ((CW l).put (kI p) vT)):mB w1 b (n+1) (l++ [p]):=by
 show w1.ownsMap _ _ _ _ _ (CW _);rw [Gj];exact h
theorem Pd (np:Nat) (M l:List Int) (U:List Int) (k:Nat) (h:k<l.length):Aj np M (l.drop k) U=if qg l[k] 0 ((np:Int) - 1)=false then (6,U) else if M.contains l[k]=false then (7,U) else if U.contains l[k]=true then (5,U) else Aj np M (l.drop (k+1)) (U++ [l[k]]):=by
 rw [aG h];rfl
theorem LV (np:Nat) (l:List Int) (M:List Int) (k:Nat) (h:k<l.length):qP np (l.drop k) M=if qg l[k] 0 ((np:Int) - 1)=false then (6,M) else if M.contains l[k]=true then (5,M) else qP np (l.drop (k+1)) (M++ [l[k]]):=by
 rw [aG h];rfl
theorem JM (nh np:Nat) (l:List dK) (M U:List Int) (k:Nat) (h:k<l.length):ng nh np (l.drop k) M U=
 if qg l[k].hand 0 ((nh:Int) - 1)=false then (6,M) else
 if (Aj np M l[k].ins U).1≠0 then ((Aj np M l[k].ins U).1,M) else
 if (qP np l[k].outs M).1≠0 then ((qP np l[k].outs M).1,M) else
 if dQ l[k].g0 l[k].g1 0 1000000=false then (1,M) else
 if dQ l[k].l0 l[k].l1 0 1000000=false then (1,M) else
 ng nh np (l.drop (k+1)) (qP np l[k].outs M).2 (Aj np M l[k].ins U).2:=by
 rw [aG h];rfl
theorem Cz {np:Nat}:∀{l M:List Int},M.Nodup->(qP np l M).1=0->(qP np l M).2.Nodup
 | [],M,hM,_=>hM
 |q::r,M,hM,h=>by
  unfold qP at h ⊢
  by_cases h1:qg q 0 ((np:Int) - 1)=false
  ·rw [if_pos h1] at h;cases h
  ·rw [if_neg h1] at h ⊢
   by_cases h3:M.contains q=true
   ·rw [if_pos h3] at h;cases h
   ·rw [if_neg h3] at h ⊢;refine Cz ?_ h
    rw [List.nodup_append];refine ⟨hM,by simp, λa ha b hb=>?_⟩;simp at hb;subst hb
    intro e;subst e
    exact h3 (by simpa using ha)
theorem ae7 (p:Int) (h: -9223372036854775808<=p∧p<=9223372036854775807):keyOf Lo.prog 3 (.int .i64 p)=some (kI p):=keyOf_int_mk Lo.XB (wfI h.1 h.2)
theorem Lo.Ec {w:World} {B:Nat} {b:dz} {v:iQ} (hb:eT w B b v) (hB:B<=w.heap.size) (hg:b.small):
 Calls Lo.prog 50 #[dN b v] w λe w'=>e= .returned (.int .i64 (iO b))∧Below w.heap.size w w':=by
 obtain ⟨U,U2,U3,U4,U5,U6⟩:=@Lo.facts inferInstance;have C:=(@Lo.call28 inferInstance);have C2:=(@Lo.call45 inferInstance);have hmm:=@run_makeMap Lo.prog;have hl1:=hg.hands;have hl2:=hg.bP;have hl3:=hg.steps;obtain ⟨h1,h2,h3,h4,h5,h6,_⟩:=hb;unfold dN;generalize v.ah=ah at h1 ⊢;generalize v.ch=ch;generalize v.ap=ap at h2 ⊢;generalize v.cp=cp;generalize v.jU=jU at h3 ⊢;generalize v.cs=cs;generalize v.ac=ac at h6 ⊢;generalize v.cc=cc;generalize v.sv=sv at h3 h4 h5;unfold iO
 by_cases hgt:8<b.steps.length
 ·have RL:(8:Int)<(b.steps.length:Int):=by omega
  rw [if_pos hgt];go_enter Lo.func50,Try.ntmps50
  go_wp2_with fail
  go_ret;exact ⟨rfl,(Below.refl _ _).alloc (aj _) _⟩
 ·have RL:¬(8:Int)<(b.steps.length:Int):=by omega
  rw [if_neg hgt];generalize hF:ng b.hands.length b.bP.length b.steps [] []=F;have HF:=Lib.hid hF;clear hF;generalize hR:(if F.1≠0 then F.1 else if F.2.length<b.bP.length then (6:Int) else 0)=R;have HR:=Lib.hid hR;clear hR;go_enter Lo.func50,Try.ntmps50
  go_wp2_with fail
  generalize hW3:(((w.alloc (.cells #[.slice ah b.hands.length ch,.slice ap b.bP.length cp,.slice jU b.steps.length cs,.slice ac b.bT.length cc] 43)).alloc (.map #[] 0)).alloc (.map #[] 0))=W3;have sz3:W3.heap.size=w.heap.size+3:=by subst hW3;simp
  have LX:Below w.heap.size w W3:=by
   subst hW3;exact ((((Below.refl _ _).alloc (aj _) _).alloc (by simp) _).alloc (by simp;omega) _)
  have mk3:mB W3 (w.heap.size+1) 0 []:=by
   subst hW3;have :=(World.ownsMap_made (H:=Unit) (w.alloc (.cells #[.slice ah b.hands.length ch,.slice ap b.bP.length cp,.slice jU b.steps.length cs,.slice ac b.bT.length cc] 43)) Lo.prog 3 (plainElem Lo.prog 4)).alloc (.map #[] 0);simpa [mB,CW,setOf] using this
  have us3:mB W3 (w.heap.size+1+1) 0 []:=by
   subst hW3;have :=World.ownsMap_made (H:=Unit) ((w.alloc (.cells #[.slice ah b.hands.length ch,.slice ap b.bP.length cp,.slice jU b.steps.length cs,.slice ac b.bT.length cc] 43)).alloc (.map #[] 0)) Lo.prog 3 (plainElem Lo.prog 4);simpa [mB,CW,setOf] using this
  have bk3:∀wq,Below (w.heap.size+1) W3 wq->∀j:Nat,wq.cell? ⟨w.heap.size,j,none⟩=(#[Value.slice ah b.hands.length ch,.slice ap b.bP.length cp,.slice jU b.steps.length cs,.slice ac b.bT.length cc]:Array Value)[j]?:=by
   intro wq hx j;rw [bV hx _ _ (by omega)];subst hW3;rw [World.cell?_alloc_past _ _ _ (by simp;omega),World.cell?_alloc_past _ _ _ (by simp),World.cell?_alloc_at _ _ _ _ rfl]
  have hkeep:∀wr,Below (w.heap.size+1) W3 wr->∀b o,b<B->wr.cell? ⟨b,o,none⟩=w.cell? ⟨b,o,none⟩:= λwr hx b o hb=>(bV hx b o (by omega)).trans (bV LX b o (by omega))
  clear hW3;have HK:=Lib.hid hkeep;have x8:=Lib.hid bk3;have HB3:=Lib.hid LX;clear hkeep bk3 LX
  go_loopw [20] (λi wr=>∃k:Nat,∃M Us:List Int,k<=b.steps.length∧i= .int .i64 (k:Int)∧mB wr (w.heap.size+1) (64*k) M∧mB wr (w.heap.size+1+1) (64*k) Us∧Below (w.heap.size+1) W3 wr∧ng b.hands.length b.bP.length (b.steps.drop k) M Us=F∧M.Nodup) (λi _=>b.steps.length - (intOf i).toNat)
  case atStart=>exact ⟨0,[],[],aL _,rfl,mk3,us3,Below.refl _ _,HF.out,List.nodup_nil⟩
  case round=>
   obtain ⟨k,M,Us,hk,rfl,hmk,Rz,hbl,hrest,hnd⟩:=hrel;clear mk3 us3
   by_cases hlt:k<b.steps.length
   ·have hlt':(k:Int)<(b.steps.length:Int):=by omega
    have hkp:=HK.out wr hbl;obtain ⟨bb,off,rfl,hbb,hc⟩:=h3.keep hkp (by omega);obtain ⟨k0,k1,k2,k3,k4,k5,k6⟩:=Ir hc hlt;have hd:=JM b.hands.length b.bP.length b.steps M Us k hlt;rw [hrest] at hd;have hsi:=hg.ins _ (aI hlt);have hso:=hg.outs _ (aI hlt);have Yw:=h4 k _ (ax hlt);have hro:=h5 k _ (ax hlt);generalize b.steps[k]=s at *;obtain ⟨hand,li,lo,g0,g1,l0,l1⟩:=s;dsimp only at *;generalize (sv k).a1=a1 at *;generalize (sv k).a2=a2 at *;have c0:∀o,(wr.alloc o).cell? ⟨w.heap.size,0,none⟩=some (.slice ah b.hands.length ch):= λo=>(World.cell?_alloc_past _ _ _ (by have :=hbl.size;show w.heap.size<wr.heap.size;omega)).trans (x8.out wr hbl 0)
    have sz:=hbl.size;have HD:=Lib.hid hd;have HM:=Lib.hid hmk;have HU:=Lib.hid Rz;have Bw:=Lib.hid hbl;clear hkp hmk Rz hbl hc h3 h4 h5 h6 h1 h2 hd hrest HF;cases hbt:qg hand 0 ((b.hands.length:Int) - 1) with
    |false=>
     have Bo:=Lib.hid hbt;clear hbt
     go_wp2_with (go_at_call 28;refine (Lo.dx _ _ _ _).mono ?_;rintro e w1 ⟨rfl,rfl⟩;rw [Bo.out])
     go_ret;have e:=HD.out;rw [if_pos Bo.out] at e;exact ⟨by rw [<-HR.out,e];rfl,HB3.out.trans ((Bw.out.alloc (by omega) _).mono (by omega))⟩
    |true=>
     have Bo:=Lib.hid hbt;clear hbt
     go_wp2_with (go_at_call 28;refine (Lo.dx _ _ _ _).mono ?_;rintro e w1 ⟨rfl,rfl⟩;rw [Bo.out])
     generalize uQ:wr.alloc (.cells #[.int .i64 hand,.slice a1 li.length (sv k).c1,.slice a2 lo.length (sv k).c2,.int .i64 g0,.int .i64 g1,.int .i64 l0,.int .i64 l1] 69)=NL;have sz1:NL.heap.size=wr.heap.size+1:=by subst uQ;simp
     have a9:∀j:Nat,NL.cell? ⟨wr.heap.size,j,none⟩=(#[Value.int .i64 hand,.slice a1 li.length (sv k).c1,.slice a2 lo.length (sv k).c2,.int .i64 g0,.int .i64 g1,.int .i64 l0,.int .i64 l1]:Array Value)[j]?:=by subst uQ;intro j;rw [World.cell?_alloc_at _ _ _ _ rfl]
     have hm1:mB NL (w.heap.size+1) (64*k) M:=by subst uQ;exact HM.out.alloc _
     have hu1:mB NL (w.heap.size+1+1) (64*k) Us:=by subst uQ;exact HU.out.alloc _
     have hb1:Below (w.heap.size+1) W3 NL:=by subst uQ;exact Bw.out.alloc (by omega) _
     clear uQ HM HU Bw k0 k1 k2 k3 k4 k5 k6 c0;generalize wr.heap.size=n1 at *;have A9:=Lib.hid a9;have HM:=Lib.hid hm1;have HB1:=Lib.hid hb1;clear a9 hm1 hb1;generalize hFI:Aj b.bP.length M li Us=FI at HD;have HFI:=Lib.hid hFI;clear hFI
     go_loopw [35] (λi wr=>∃j:Nat,∃U':List Int,j<=li.length∧i= .int .i64 (j:Int)∧mB wr (w.heap.size+1+1) (64*k+j) U'∧NL.grownBy wr (some (w.heap.size+1+1))∧Aj b.bP.length M (li.drop j) U'=FI) (λi _=>li.length - (intOf i).toNat)
     case atStart=>exact ⟨0,Us,aL _,rfl,hu1,su _ _,HFI.out⟩
     case round=>
      obtain ⟨j,U',hj,rfl,hu,hgr,hfi⟩:=hrel;clear hu1;have hbq:Below (w.heap.size+1) W3 wr:=HB1.out.grown hgr (by omega) (λj hj=>by simp at hj;omega)
      by_cases hjl:j<li.length
      ·have Rp:(j:Int)<(li.length:Int):=by omega
       obtain ⟨bc,of,rfl,hbc,hcc⟩:=Yw.keep (HK.out wr hbq) (by omega);have r1:=DY hcc hjl;have hdd:=Pd b.bP.length M li U' j hjl;rw [hfi] at hdd;have c01:wr.cell? ⟨w.heap.size,1,none⟩=some (.slice ap b.bP.length cp):=x8.out wr hbq 1;have hmk:mB wr (w.heap.size+1) (64*k) M:=HM.out.kept hgr (by simp);generalize li[j]=p at *;have RA:=Lib.hid hbq;have HG:=Lib.hid hgr;have XD:=Lib.hid hdd;clear hcc hbq hgr hdd hfi Yw HFI;cases hb2:qg p 0 ((b.bP.length:Int) - 1) with
       |false=>
        have xD:=Lib.hid hb2;clear hb2
        go_wp2_with (go_at_call 28;refine (Lo.dx _ _ _ _).mono ?_;rintro e w1 ⟨rfl,rfl⟩;rw [xD.out])
        go_ret;have e1:=XD.out;rw [if_pos xD.out] at e1;have e:=HD.out;rw [if_neg (by rw [Bo.out];simp),e1,if_pos (by simp)] at e;exact ⟨by rw [<-HR.out,e];rfl,HB3.out.trans (RA.out.mono (by omega))⟩
       |true=>
        have hkey:keyOf Lo.prog 3 (.int .i64 p)=some (kI p):=ae7 p (by simp [qg] at hb2;omega);have xD:=Lib.hid hb2;clear hb2;cases hcm:M.contains p with
        |false=>
         have HCM:=Lib.hid hcm;clear hcm
         go_wp2_with (first
          |(go_at_call 28;refine (Lo.dx _ _ _ _).mono ?_;rintro e w1 ⟨rfl,rfl⟩;rw [xD.out])
          |(at_lookup;refine dX _ rfl _ _ 136 rfl 3 4 Lo.Ak Lo.sw Lo.IA (Lo.Eb _) (w.heap.size+1) _ _ rfl hmk _ _ rfl hkey false (by rw [vV,HCM.out]) ?_)
          |go_in)
         go_ret;have e1:=XD.out;rw [if_neg (by rw [xD.out];simp),if_pos HCM.out] at e1;have e:=HD.out;rw [if_neg (by rw [Bo.out];simp),e1,if_pos (by simp)] at e;exact ⟨by rw [<-HR.out,e];rfl,HB3.out.trans (RA.out.mono (by omega))⟩
        |true=>
         have HCM:=Lib.hid hcm;clear hcm;cases U7:U'.contains p with
         |true=>
          have Yz:=Lib.hid U7;clear U7
          go_wp2_with (first
           |(go_at_call 28;refine (Lo.dx _ _ _ _).mono ?_;rintro e w1 ⟨rfl,rfl⟩;rw [xD.out])
           |(at_lookup;refine dX _ rfl _ _ 136 rfl 3 4 Lo.Ak Lo.sw Lo.IA (Lo.Eb _) (w.heap.size+1) _ _ rfl hmk _ _ rfl hkey true (by rw [vV,HCM.out]) ?_)
           |(at_lookup;refine dX _ rfl _ _ 136 rfl 3 4 Lo.Ak Lo.sw Lo.IA (Lo.Eb _) (w.heap.size+1+1) _ _ rfl hu _ _ rfl hkey true (by rw [vV,Yz.out]) ?_)
           |go_in)
          go_ret;have e1:=XD.out;rw [if_neg (by rw [xD.out];simp),if_neg (by rw [HCM.out];simp),if_pos Yz.out] at e1;have e:=HD.out;rw [if_neg (by rw [Bo.out];simp),e1,if_pos (by simp)] at e;exact ⟨by rw [<-HR.out,e];rfl,HB3.out.trans (RA.out.mono (by omega))⟩
         |false=>
          have Yz:=Lib.hid U7;clear U7
          go_wp2_with (first
           |(go_at_call 28;refine (Lo.dx _ _ _ _).mono ?_;rintro e w1 ⟨rfl,rfl⟩;rw [xD.out])
           |(at_lookup;refine dX _ rfl _ _ 136 rfl 3 4 Lo.Ak Lo.sw Lo.IA (Lo.Eb _) (w.heap.size+1) _ _ rfl hmk _ _ rfl hkey true (by rw [vV,HCM.out]) ?_)
           |(at_lookup;refine dX _ rfl _ _ 136 rfl 3 4 Lo.Ak Lo.sw Lo.IA (Lo.Eb _) (w.heap.size+1+1) _ _ rfl hu _ _ rfl hkey false (by rw [vV,Yz.out]) ?_)
           |(at_mapUpdate;refine wpList_mapUpdate_own _ rfl _ _ _ 136 rfl 3 4 Lo.Ak Lo.sw _ (w.heap.size+1+1) _ _ rfl hu (by unfold maxLen;omega) _ _ _ rfl rfl hkey _ [] (plainElem_bool Lo.IA true) ?_;intro w1 hown1 hgrow1)
           |go_in)
          have HO:=Lib.hid hown1;have Yx:=Lib.hid hgrow1;clear hown1 hgrow1 hu hmk;go_roundw
          case rel=>exact ⟨j+1,U'++ [p],by omega,by go_num,XC HO.out,HG.out.trans Yx.out,by
           have e1:=XD.out;rw [if_neg (by rw [xD.out];simp),if_neg (by rw [HCM.out];simp),if_neg (by rw [Yz.out];simp)] at e1;exact e1.symm⟩
          case measure=>simp [intOf];omega
      ·obtain rfl:j=li.length:=by omega
       rw [List.drop_length] at hfi;have hfi:FI=(0,U'):=hfi.symm;have RN:=Lib.hid hfi
       have c2:wr.cell? ⟨n1,2,none⟩=some (.slice a2 lo.length (sv k).c2):=by
        rw [World.cell?_of_block (hgr.block n1 (by omega) (by simp;omega))];exact A9.out 2
       have hmk:mB wr (w.heap.size+1) (64*k) M:=HM.out.kept hgr (by simp);have HU2:=Lib.hid (show mB wr (w.heap.size+1+1) (64*(k+1)) U' from World.ownsMap.mono hu (by omega));have RA:=Lib.hid hbq;have HGA:=Lib.hid hgr;have szr:=hgr.size;generalize hFO:qP b.bP.length lo M=FO at HD;have HFO:=Lib.hid hFO;clear hFO hfi hu hgr hbq HM HB1 Yw HFI
       go_wp2_with fail
       generalize wr=wr2 at *
       go_loopw [62] (λi wr=>∃j:Nat,∃M':List Int,j<=lo.length∧i= .int .i64 (j:Int)∧mB wr (w.heap.size+1) (64*k+j) M'∧wr2.grownBy wr (some (w.heap.size+1))∧qP b.bP.length (lo.drop j) M'=FO) (λi _=>lo.length - (intOf i).toNat)
       case atStart=>exact ⟨0,M,aL _,rfl,hmk,su _ _,HFO.out⟩
       case round=>
        obtain ⟨j,M',hj,rfl,hm,hgr,hfo⟩:=hrel;clear hmk;have hbq:Below (w.heap.size+1) W3 wr:=RA.out.grown hgr (by omega) (λj hj=>by simp at hj;omega)
        by_cases hjl:j<lo.length
        ·have Rp:(j:Int)<(lo.length:Int):=by omega
         obtain ⟨bc,of,rfl,hbc,hcc⟩:=hro.keep (HK.out wr hbq) (by omega);have r1:=DY hcc hjl;have hdd:=LV b.bP.length lo M' j hjl;rw [hfo] at hdd;have c01:wr.cell? ⟨w.heap.size,1,none⟩=some (.slice ap b.bP.length cp):=x8.out wr hbq 1;generalize lo[j]=p at *;have yC:=Lib.hid hbq;have HG:=Lib.hid hgr;have XD:=Lib.hid hdd;clear hcc hbq hgr hdd hfo hro HFO c2;cases hb2:qg p 0 ((b.bP.length:Int) - 1) with
         |false=>
          have xD:=Lib.hid hb2;clear hb2
          go_wp2_with (go_at_call 28;refine (Lo.dx _ _ _ _).mono ?_;rintro e w1 ⟨rfl,rfl⟩;rw [xD.out])
          go_ret;have e1:=XD.out;rw [if_pos xD.out] at e1;have e:=HD.out;rw [if_neg (by rw [Bo.out];simp),RN.out,if_neg (by simp),e1,if_pos (by simp)] at e;exact ⟨by rw [<-HR.out,e];rfl,HB3.out.trans (yC.out.mono (by omega))⟩
         |true=>
          have hkey:keyOf Lo.prog 3 (.int .i64 p)=some (kI p):=ae7 p (by simp [qg] at hb2;omega);have xD:=Lib.hid hb2;clear hb2;cases hcm:M'.contains p with
          |true=>
           have HCM:=Lib.hid hcm;clear hcm
           go_wp2_with (first
            |(go_at_call 28;refine (Lo.dx _ _ _ _).mono ?_;rintro e w1 ⟨rfl,rfl⟩;rw [xD.out])
            |(at_lookup;refine dX _ rfl _ _ 136 rfl 3 4 Lo.Ak Lo.sw Lo.IA (Lo.Eb _) (w.heap.size+1) _ _ rfl hm _ _ rfl hkey true (by rw [vV,HCM.out]) ?_)
            |go_in)
           go_ret;have e1:=XD.out;rw [if_neg (by rw [xD.out];simp),if_pos HCM.out] at e1;have e:=HD.out;rw [if_neg (by rw [Bo.out];simp),RN.out,if_neg (by simp),e1,if_pos (by simp)] at e;exact ⟨by rw [<-HR.out,e];rfl,HB3.out.trans (yC.out.mono (by omega))⟩
          |false=>
           have HCM:=Lib.hid hcm;clear hcm
           go_wp2_with (first
            |(go_at_call 28;refine (Lo.dx _ _ _ _).mono ?_;rintro e w1 ⟨rfl,rfl⟩;rw [xD.out])
            |(at_lookup;refine dX _ rfl _ _ 136 rfl 3 4 Lo.Ak Lo.sw Lo.IA (Lo.Eb _) (w.heap.size+1) _ _ rfl hm _ _ rfl hkey false (by rw [vV,HCM.out]) ?_)
            |(at_mapUpdate;refine wpList_mapUpdate_own _ rfl _ _ _ 136 rfl 3 4 Lo.Ak Lo.sw _ (w.heap.size+1) _ _ rfl hm (by unfold maxLen;omega) _ _ _ rfl rfl hkey _ [] (plainElem_bool Lo.IA true) ?_;intro w1 hown1 hgrow1)
            |go_in)
           have HO:=Lib.hid hown1;have Yx:=Lib.hid hgrow1;clear hown1 hgrow1 hm;go_roundw
           case rel=>exact ⟨j+1,M'++ [p],by omega,by go_num,XC HO.out,HG.out.trans Yx.out,by
            have e1:=XD.out;rw [if_neg (by rw [xD.out];simp),if_neg (by rw [HCM.out];simp)] at e1;exact e1.symm⟩
           case measure=>simp [intOf];omega
        ·obtain rfl:j=lo.length:=by omega
         rw [List.drop_length] at hfo;have hfo:FO=(0,M'):=hfo.symm;have YD:=Lib.hid hfo
         have ae8:M'.Nodup:=by
          have :=Cz (np:=b.bP.length) (l:=lo) (M:=M) hnd (by rw [HFO.out,hfo]);rw [HFO.out,hfo] at this;exact this
         have cc:∀j:Nat,wr.cell? ⟨n1,j,none⟩=wr2.cell? ⟨n1,j,none⟩:= λj=>World.cell?_of_block (hgr.block n1 (by omega) (by simp;omega))
         have cd:∀j:Nat,wr2.cell? ⟨n1,j,none⟩=NL.cell? ⟨n1,j,none⟩:= λj=>World.cell?_of_block (HGA.out.block n1 (by omega) (by simp;omega))
         have c3:wr.cell? ⟨n1,3,none⟩=some (.int .i64 g0):=(cc 3).trans ((cd 3).trans (A9.out 3));have c4:wr.cell? ⟨n1,3+1,none⟩=some (.int .i64 g1):=(cc 4).trans ((cd 4).trans (A9.out 4));have c5:wr.cell? ⟨n1,5,none⟩=some (.int .i64 l0):=(cc 5).trans ((cd 5).trans (A9.out 5));have c6:wr.cell? ⟨n1,5+1,none⟩=some (.int .i64 l1):=(cc 6).trans ((cd 6).trans (A9.out 6));have hgs:=hgr.size;have yC:=Lib.hid hbq;have HMM:=Lib.hid (show mB wr (w.heap.size+1) (64*(k+1)) M' from World.ownsMap.mono hm (by omega));have HUU:=Lib.hid (show mB wr (w.heap.size+1+1) (64*(k+1)) U' from HU2.out.kept hgr (by simp));have HND:=Lib.hid ae8;clear hfo hm hgr hbq HFO cc cd HU2 RA HGA hro hnd ae8;have szq:=yC.out.size;have szg:=hgs;cases hi1:dQ g0 g1 0 1000000 with
         |false=>
          have HI1:=Lib.hid hi1;clear hi1
          go_wp2_with (go_at_call 45;refine (Lo.jK _ _ _ _ _).mono ?_;rintro e w1 ⟨rfl,hb1⟩;rw [HI1.out])
          go_ret;have e:=HD.out;rw [if_neg (by rw [Bo.out];simp),RN.out,if_neg (by simp),YD.out,if_neg (by simp),if_pos HI1.out] at e;exact ⟨by rw [<-HR.out,e];rfl,HB3.out.trans ((yC.out.trans (hb1.mono (by omega))).mono (by omega))⟩
         |true=>
          have HI1:=Lib.hid hi1;clear hi1;cases hi2:dQ l0 l1 0 1000000 with
          |false=>
           have HI2:=Lib.hid hi2;clear hi2
           go_wp2_with (first
            |(go_at_call 45;refine (Lo.jK _ _ _ _ _).mono ?_;rintro e w1 ⟨rfl,hb1⟩;rw [HI1.out];have d5:=(bV hb1 n1 5 (by omega)).trans c5;have d6:=(bV hb1 n1 (5+1) (by omega)).trans c6)
            |(go_at_call 45;refine (Lo.jK _ _ _ _ _).mono ?_;rintro e w2 ⟨rfl,hb2⟩;rw [HI2.out]))
           go_ret;have e:=HD.out;rw [if_neg (by rw [Bo.out];simp),RN.out,if_neg (by simp),YD.out,if_neg (by simp),if_neg (by rw [HI1.out];simp),if_pos HI2.out] at e;exact ⟨by rw [<-HR.out,e];rfl,HB3.out.trans (((yC.out.trans (hb1.mono (by omega))).trans (hb2.mono (by have :=hb1.size;omega))).mono (by omega))⟩
          |true=>
           have HI2:=Lib.hid hi2;clear hi2
           go_wp2_with (first
            |(go_at_call 45;refine (Lo.jK _ _ _ _ _).mono ?_;rintro e w1 ⟨rfl,hb1⟩;rw [HI1.out];have d5:=(bV hb1 n1 5 (by omega)).trans c5;have d6:=(bV hb1 n1 (5+1) (by omega)).trans c6)
            |(go_at_call 45;refine (Lo.jK _ _ _ _ _).mono ?_;rintro e w2 ⟨rfl,hb2⟩;rw [HI2.out]))
           have hzz:=hb1.size;have ao3:=Lib.hid ((HMM.out.kept (below_grown hb1 rfl none) (by simp)).kept (below_grown hb2 rfl none) (by simp));have ao4:=Lib.hid ((HUU.out.kept (below_grown hb1 rfl none) (by simp)).kept (below_grown hb2 rfl none) (by simp));have FM:=Lib.hid ((yC.out.trans (hb1.mono (by omega))).trans (hb2.mono (by omega)));clear hb1 hb2 HMM HUU yC;go_roundw
           case rel=>exact ⟨k+1,M',U',by omega,by go_num,ao3.out,ao4.out,FM.out,by
            have e:=HD.out;rw [if_neg (by rw [Bo.out];simp),RN.out,if_neg (by simp),YD.out,if_neg (by simp),if_neg (by rw [HI1.out];simp),if_neg (by rw [HI2.out];simp)] at e;exact e.symm,HND.out⟩
           case measure=>simp [intOf];omega
   ·obtain rfl:k=b.steps.length:=by omega
    rw [List.drop_length] at hrest;have hF:F=(0,M):=hrest.symm;have c01:wr.cell? ⟨w.heap.size,1,none⟩=some (.slice ap b.bP.length cp):=x8.out wr hbl 1;have hsz:=Pb M hnd;have HF2:=Lib.hid hF;have HS:=Lib.hid hsz;have Bw:=Lib.hid hbl;clear hF hrest hsz hbl HF
    by_cases hlp:M.length<b.bP.length
    ·have ae9:(M.length:Int)<(b.bP.length:Int):=by omega
     go_wp2_with (first
      |(at_len;refine wpList_len_own _ rfl _ 136 rfl 3 4 Lo.sw _ (w.heap.size+1) _ _ rfl hmk ?_;rw [HS.out])
      |go_in)
     go_ret;have e:=HR.out;rw [HF2.out,if_neg (by simp),if_pos hlp] at e;exact ⟨by rw [<-e];rfl,HB3.out.trans (Bw.out.mono (by omega))⟩
    ·have ae9:¬(M.length:Int)<(b.bP.length:Int):=by omega
     go_wp2_with (first
      |(at_len;refine wpList_len_own _ rfl _ 136 rfl 3 4 Lo.sw _ (w.heap.size+1) _ _ rfl hmk ?_;rw [HS.out])
      |go_in)
     go_ret;have e:=HR.out;rw [HF2.out,if_neg (by simp),if_neg (by simpa using ae9)] at e;exact ⟨by rw [<-e];rfl,HB3.out.trans (Bw.out.mono (by omega))⟩
end Go.Proofs
end
section
namespace Go.Proofs
open Go Go.RowKit Go.Maps
variable [Lo.St]
theorem IB (np:Nat) (l:List rz) (k:Nat) (h:k<l.length):rF np (l.drop k)=if qg l[k].pile 0 ((np:Int) - 1)=false then 6 else if dQ l[k].lo l[k].hi 0 1000000=false then 1 else rF np (l.drop (k+1)):=by
 rw [aG h];rfl
theorem Lo.vW {w:World} {B:Nat} {b:dz} {v:iQ} {x:Value} (hx:x=dN b v) (hb:eT w B b v) (hB:B<=w.heap.size) (hg:b.small):
 Calls Lo.prog 50 #[x] w λe w'=>e= .returned (.int .i64 (iO b))∧Below w.heap.size w w':=hx ▸ Lo.Ec hb hB hg
theorem Lo.yI {w:World} {B:Nat} {b:dz} {v:iQ} (hb:eT w B b v) (hB:B<=w.heap.size) (hg:b.small):
 Calls Lo.prog 26 #[dN b v] w λe w'=>e= .returned (.int .i64 (eX b))∧Below w.heap.size w w':=by
 obtain ⟨U,U2,U3,U4,U5,U6⟩:=@Lo.facts inferInstance;have C:=(@Lo.call28 inferInstance);have C2:=(@Lo.call45 inferInstance);have C3:=(@Lo.call49 inferInstance);have C4:=(@Lo.call50 inferInstance);have hl1:=hg.hands;have hl2:=hg.bP;have hl4:=hg.bT;have HBA:=Lib.hid hb;have h1:=hb.hands;have h2:=hb.bP;have h6:=hb.bT;have q1:=hb.lh;have q2:=hb.lp;clear hb;have hbv:Value.agg #[.slice v.ah b.hands.length v.ch,.slice v.ap b.bP.length v.cp,.slice v.jU b.steps.length v.cs,.slice v.ac b.bT.length v.cc]=dN b v:=rfl;generalize hR:eX b=R;unfold eX at hR;have HR:=Lib.hid hR;clear hR;rw [<-hbv];have jr:=Lib.hid hbv;clear hbv;generalize v.ah=ah at h1 q1 jr ⊢;generalize v.ch=ch at q1 jr ⊢;generalize v.ap=ap at h2 q2 jr ⊢;generalize v.cp=cp at q2 jr ⊢;generalize v.jU=jU at jr ⊢;generalize v.cs=cs at jr ⊢;generalize v.ac=ac at h6 jr ⊢;generalize v.cc=cc at jr ⊢;have bA:Below w.heap.size w (w.alloc (.cells #[.slice ah b.hands.length ch,.slice ap b.bP.length cp,.slice jU b.steps.length cs,.slice ac b.bT.length cc] 43)):=(Below.refl _ _).alloc (aj _) _;have cA:∀j:Nat,(w.alloc (.cells #[.slice ah b.hands.length ch,.slice ap b.bP.length cp,.slice jU b.steps.length cs,.slice ac b.bT.length cc] 43)).cell? ⟨w.heap.size,j,none⟩=(#[Value.slice ah b.hands.length ch,.slice ap b.bP.length cp,.slice jU b.steps.length cs,.slice ac b.bT.length cc]:Array Value)[j]?:= λj=>by rw [World.cell?_alloc_at _ _ _ _ rfl]
 have a1:NF (w.alloc (.cells #[.slice ah b.hands.length ch,.slice ap b.bP.length cp,.slice jU b.steps.length cs,.slice ac b.bT.length cc] 43)) B ah b.hands:=h1.keep λb o h=>bV bA b o (by omega)
 have a2:NF (w.alloc (.cells #[.slice ah b.hands.length ch,.slice ap b.bP.length cp,.slice jU b.steps.length cs,.slice ac b.bT.length cc] 43)) B ap b.bP:=h2.keep λb o h=>bV bA b o (by omega)
 have a3:eT (w.alloc (.cells #[.slice ah b.hands.length ch,.slice ap b.bP.length cp,.slice jU b.steps.length cs,.slice ac b.bT.length cc] 43)) B b v:=HBA.out.keep λb o h=>bV bA b o (by omega)
 have HC:=Lib.hid cA;have HA1:=Lib.hid a1;have HA2:=Lib.hid a2;have HA3:=Lib.hid a3;have JA:=Lib.hid bA;clear cA a1 a2 a3 bA h1 h2 HBA;generalize hx1:dV b.hands 4=x1 at HR;have X1:=Lib.hid hx1;generalize hx2:dV b.bP 12=x2 at HR;have X2:=Lib.hid hx2;generalize hx3:iO b=x3 at HR;have X3:=Lib.hid hx3;clear hx1 hx2 hx3
 by_cases z1:x1=0
 ·subst z1;have e1:=HR.out;rw [if_neg (by simp)] at e1;clear HR;have HR:=Lib.hid e1;clear e1
  by_cases z2:x2=0
  ·subst z2;have e1:=HR.out;rw [if_neg (by simp)] at e1;clear HR;have HR:=Lib.hid e1;clear e1
   by_cases z3:x3=0
   ·subst z3;have e1:=HR.out;rw [if_neg (by simp)] at e1;clear HR;have HR:=Lib.hid e1;clear e1
    by_cases hgt:10<b.bT.length
    ·have RL:(10:Int)<(b.bT.length:Int):=by omega
     go_enter Lo.func26,Try.ntmps26
     go_wp2_with (first
      |(go_at_call 50;refine (Lo.vW jr.out (HA3.out.keep λb o h=>bV HB2.out b o (by simp;omega)) (by have :=HB2.out.size;simp at this;omega) hg).mono ?_;rintro e w3 ⟨rfl,hb3⟩;rw [X3.out];have HB3:=Lib.hid (HB2.out.trans (hb3.mono HB2.out.size));clear hb3;have g1:=(bV HB3.out w.heap.size 1 (by simp)).trans (HC.out 1);have g3:=(bV HB3.out w.heap.size 3 (by simp)).trans (HC.out 3))
      |(go_at_call 49;refine (Lo.fu (most:=12) (HA2.out.keep λb o h=>bV HB1.out b o (by simp;omega)) hl2 q2 (by have :=HB1.out.size;simp at this;omega) (by omega)).mono ?_;rintro e w2 ⟨rfl,hb2⟩;rw [X2.out];have HB2:=Lib.hid (HB1.out.trans (hb2.mono HB1.out.size));clear hb2;have f0:=(bV HB2.out w.heap.size 0 (by simp)).trans (HC.out 0);have f1:=(bV HB2.out w.heap.size 1 (by simp)).trans (HC.out 1);have f2:=(bV HB2.out w.heap.size 2 (by simp)).trans (HC.out 2);have f3:=(bV HB2.out w.heap.size 3 (by simp)).trans (HC.out 3))
      |(go_at_call 49;refine (Lo.fu (most:=4) (HA1.out) hl1 q1 (by simp;omega) (by omega)).mono ?_;rintro e w1 ⟨rfl,hb1⟩;rw [X1.out];have d1:=(bV hb1 w.heap.size 1 (by simp)).trans (HC.out 1);have HB1:=Lib.hid hb1;clear hb1))
     go_ret;exact ⟨by rw [<-HR.out,if_pos hgt];rfl,(JA.out.trans (HB3.out.mono (by simp)))⟩
    ·have RL:¬(10:Int)<(b.bT.length:Int):=by omega
     have e1:=HR.out;rw [if_neg hgt] at e1;clear HR;have HR:=Lib.hid e1;clear e1;go_enter Lo.func26,Try.ntmps26
     go_wp2_with (first
      |(go_at_call 50;refine (Lo.vW jr.out (HA3.out.keep λb o h=>bV HB2.out b o (by simp;omega)) (by have :=HB2.out.size;simp at this;omega) hg).mono ?_;rintro e w3 ⟨rfl,hb3⟩;rw [X3.out];have HB3:=Lib.hid (HB2.out.trans (hb3.mono HB2.out.size));clear hb3;have g1:=(bV HB3.out w.heap.size 1 (by simp)).trans (HC.out 1);have g3:=(bV HB3.out w.heap.size 3 (by simp)).trans (HC.out 3))
      |(go_at_call 49;refine (Lo.fu (most:=12) (HA2.out.keep λb o h=>bV HB1.out b o (by simp;omega)) hl2 q2 (by have :=HB1.out.size;simp at this;omega) (by omega)).mono ?_;rintro e w2 ⟨rfl,hb2⟩;rw [X2.out];have HB2:=Lib.hid (HB1.out.trans (hb2.mono HB1.out.size));clear hb2;have f0:=(bV HB2.out w.heap.size 0 (by simp)).trans (HC.out 0);have f1:=(bV HB2.out w.heap.size 1 (by simp)).trans (HC.out 1);have f2:=(bV HB2.out w.heap.size 2 (by simp)).trans (HC.out 2);have f3:=(bV HB2.out w.heap.size 3 (by simp)).trans (HC.out 3))
      |(go_at_call 49;refine (Lo.fu (most:=4) (HA1.out) hl1 q1 (by simp;omega) (by omega)).mono ?_;rintro e w1 ⟨rfl,hb1⟩;rw [X1.out];have d1:=(bV hb1 w.heap.size 1 (by simp)).trans (HC.out 1);have HB1:=Lib.hid hb1;clear hb1))
     have H6:=Lib.hid (h6.keep λb o h=>(bV (JA.out.trans (HB3.out.mono (by simp))) b o (by omega)));have Xx:=Lib.hid (JA.out.trans (HB3.out.mono (by simp)));have sz3:=HB3.out.size;simp at sz3;clear h6;generalize w3=w9 at *;have HX:Hid (rF b.bP.length b.bT=R):=HR;clear HR HB3 HB2 HB1 HA1 HA2 HA3 HC JA f0 f1 f2 f3 d1 X1 X2 X3 jr
     go_loopw [32] (λi wr=>∃k:Nat,k<=b.bT.length∧i= .int .i64 (k:Int)∧rF b.bP.length (b.bT.drop k)=R∧Below w9.heap.size w9 wr) (λi _=>b.bT.length - (intOf i).toNat)
     case atStart=>exact ⟨0,aL _,rfl,HX.out,Below.refl _ _⟩
     case round=>
      obtain ⟨k,hk,rfl,hx,hb⟩:=hrel
      by_cases hlt:k<b.bT.length
      ·have hlt':(k:Int)<(b.bT.length:Int):=by omega
       have h6k:=H6.out.keep λb o h=>bV hb b o (by omega)
       obtain ⟨bb,off,rfl,hbb,hc⟩:=h6k (by omega);obtain ⟨r0,r1,r2⟩:=JC hc hlt;have hd:=IB b.bP.length b.bT k hlt;rw [hx] at hd;have c1:∀o,(wr.alloc o).cell? ⟨w.heap.size,1,none⟩=some (.slice ap b.bP.length cp):= λo=>(World.cell?_alloc_past _ _ _ (by have :=hb.size;show w.heap.size<wr.heap.size;omega)).trans ((bV hb _ _ (by omega)).trans g1)
       have szr:=hb.size;generalize b.bT[k]=sc at *;have HD:=Lib.hid hd;have HB:=Lib.hid hb;clear hx hd hb hc h6k HX;cases hbt:qg sc.pile 0 ((b.bP.length:Int) - 1) with
       |false=>
        have Bo:=Lib.hid hbt;clear hbt
        go_wp2_with (go_at_call 28;refine (Lo.dx _ _ _ _).mono ?_;rintro e w1 ⟨rfl,rfl⟩;rw [Bo.out])
        go_ret;exact ⟨by rw [HD.out,if_pos Bo.out];rfl,Xx.out.trans ((HB.out.alloc (by omega) _).mono (by omega))⟩
       |true=>
        have Bo:=Lib.hid hbt;clear hbt;have s1:∀o,(wr.alloc o).heap[wr.heap.size]?=some o:= λo=>heap_alloc_new wr o
        clear s1;cases hin:dQ sc.lo sc.hi 0 1000000 with
        |false=>
         have HI:=Lib.hid hin;clear hin
         go_wp2_with (first
          |(go_at_call 28;refine (Lo.dx _ _ _ _).mono ?_;rintro e w1 ⟨rfl,rfl⟩;rw [Bo.out])
          |(go_at_call 45;refine (Lo.jK _ _ _ _ _).mono ?_;rintro e w1 ⟨rfl,hb1⟩;rw [HI.out]))
         go_ret;exact ⟨by rw [HD.out,if_neg (by rw [Bo.out];simp),if_pos HI.out];rfl,Xx.out.trans (((HB.out.alloc (by omega) _).trans (hb1.mono (by simp;omega))).mono (by omega))⟩
        |true=>
         have HI:=Lib.hid hin;clear hin
         go_wp2_with (first
          |(go_at_call 28;refine (Lo.dx _ _ _ _).mono ?_;rintro e w1 ⟨rfl,rfl⟩;rw [Bo.out])
          |(go_at_call 45;refine (Lo.jK _ _ _ _ _).mono ?_;rintro e w1 ⟨rfl,hb1⟩;rw [HI.out]))
         have HB9:=Lib.hid ((HB.out.alloc (by omega) _).trans (hb1.mono (by simp;omega)));clear hb1 HB c1;go_roundw
         case rel=>exact ⟨k+1,by omega,by go_num,by rw [HD.out,if_neg (by rw [Bo.out];simp),if_neg (by rw [HI.out];simp)],HB9.out⟩
         case measure=>simp [intOf];omega
      ·obtain rfl:k=b.bT.length:=by omega
       rw [List.drop_length] at hx;have Xy:=Lib.hid hx;clear hx HX
       go_wp2_with fail
       go_ret;exact ⟨by rw [<-Xy.out];rfl,Xx.out.trans (hb.mono (by omega))⟩
   ·go_enter Lo.func26,Try.ntmps26
    go_wp2_with (first
     |(go_at_call 50;refine (Lo.vW jr.out (HA3.out.keep λb o h=>bV HB2.out b o (by simp;omega)) (by have :=HB2.out.size;simp at this;omega) hg).mono ?_;rintro e w3 ⟨rfl,hb3⟩;rw [X3.out];have HB3:=Lib.hid (HB2.out.trans (hb3.mono HB2.out.size));clear hb3;have g1:=(bV HB3.out w.heap.size 1 (by simp)).trans (HC.out 1);have g3:=(bV HB3.out w.heap.size 3 (by simp)).trans (HC.out 3))
     |(go_at_call 49;refine (Lo.fu (most:=12) (HA2.out.keep λb o h=>bV HB1.out b o (by simp;omega)) hl2 q2 (by have :=HB1.out.size;simp at this;omega) (by omega)).mono ?_;rintro e w2 ⟨rfl,hb2⟩;rw [X2.out];have HB2:=Lib.hid (HB1.out.trans (hb2.mono HB1.out.size));clear hb2;have f0:=(bV HB2.out w.heap.size 0 (by simp)).trans (HC.out 0);have f1:=(bV HB2.out w.heap.size 1 (by simp)).trans (HC.out 1);have f2:=(bV HB2.out w.heap.size 2 (by simp)).trans (HC.out 2);have f3:=(bV HB2.out w.heap.size 3 (by simp)).trans (HC.out 3))
     |(go_at_call 49;refine (Lo.fu (most:=4) (HA1.out) hl1 q1 (by simp;omega) (by omega)).mono ?_;rintro e w1 ⟨rfl,hb1⟩;rw [X1.out];have d1:=(bV hb1 w.heap.size 1 (by simp)).trans (HC.out 1);have HB1:=Lib.hid hb1;clear hb1))
    go_ret;exact ⟨by rw [<-HR.out,if_pos z3];rfl,(JA.out.trans (HB3.out.mono (by simp)))⟩
  ·go_enter Lo.func26,Try.ntmps26
   go_wp2_with (first
    |(go_at_call 49;refine (Lo.fu (most:=12) (HA2.out.keep λb o h=>bV HB1.out b o (by simp;omega)) hl2 q2 (by have :=HB1.out.size;simp at this;omega) (by omega)).mono ?_;rintro e w2 ⟨rfl,hb2⟩;rw [X2.out];have HB2:=Lib.hid (HB1.out.trans (hb2.mono HB1.out.size));clear hb2;have f0:=(bV HB2.out w.heap.size 0 (by simp)).trans (HC.out 0);have f1:=(bV HB2.out w.heap.size 1 (by simp)).trans (HC.out 1);have f2:=(bV HB2.out w.heap.size 2 (by simp)).trans (HC.out 2);have f3:=(bV HB2.out w.heap.size 3 (by simp)).trans (HC.out 3))
    |(go_at_call 49;refine (Lo.fu (most:=4) (HA1.out) hl1 q1 (by simp;omega) (by omega)).mono ?_;rintro e w1 ⟨rfl,hb1⟩;rw [X1.out];have d1:=(bV hb1 w.heap.size 1 (by simp)).trans (HC.out 1);have HB1:=Lib.hid hb1;clear hb1))
   go_ret;exact ⟨by rw [<-HR.out,if_pos z2];rfl,(JA.out.trans (HB2.out.mono (by simp)))⟩
 ·go_enter Lo.func26,Try.ntmps26
  go_wp2_with (go_at_call 49;refine (Lo.fu (most:=4) (HA1.out) hl1 q1 (by simp;omega) (by omega)).mono ?_;rintro e w1 ⟨rfl,hb1⟩;rw [X1.out];have d1:=(bV hb1 w.heap.size 1 (by simp)).trans (HC.out 1);have HB1:=Lib.hid hb1;clear hb1)
  go_ret;exact ⟨by rw [<-HR.out,if_pos z1];rfl,(JA.out.trans (HB1.out.mono (by simp)))⟩
end Go.Proofs
end
section
namespace Go.Proofs
open Go Go.RowKit Go.Maps
variable [Lo.St]
theorem Ed:∀(ss:List dL) (i j:Nat),i<ss.length->j<4->(cellsS ss)[i*4+j]?=some (vP ss i j)
 | [],i,j,hi,_=>absurd hi (by simp)
 |x::ss,0,j,_,hj=>by
  match j,hj with
  |0,_=>rfl
  |1,_=>rfl
  |2,_=>rfl
  |3,_=>rfl
 |x::ss,i+1,j,hi,hj=>by
  have ih:=Ed ss i j (by simpa using hi) hj;have e:cellsS (x::ss)= [.int .i64 x.lo,.int .i64 x.hi,.int .i64 (x.fr:Int),.int .i64 (x.to:Int)]++cellsS ss:=rfl;rw [e,List.getElem?_append_right (by simp;omega)];rw [show (i+1)*4+j - [Value.int .i64 x.lo,.int .i64 x.hi,.int .i64 (x.fr:Int),.int .i64 (x.to:Int)].length=i*4+j by simp;omega,ih];rfl
theorem ownsRow.rd {w:World} {base e size n B:Nat} {v:Value} {xs:List Value} {f:Nat->Nat->Value} (h:w.ownsRow base e size v n xs) (hf:∀i j,i<n->j<size->xs[i*size+j]?=some (f i j)):∃A cap,v= .slice A n cap∧n<=cap∧∀m,m<=n->(w.heap.size<=B->Rd w B size A m f):=by
 obtain ⟨hl,h⟩:=h;rcases h with ⟨rfl,rfl⟩|⟨g,cap,cur,rfl,hb,hg,h1,h2,h3,h4⟩
 ·exact ⟨none,0,rfl,aj _, λm hm _ h=>absurd h (by omega)⟩
 ·refine ⟨_,cap,rfl,h1, λm hm hB _=>⟨g,0,rfl,ak (aa.1 hg).1 hB, λi j hi hj=>?_⟩⟩;have hx:=hf i j (by omega) hj;rw [<-h4] at hx;unfold World.cell?;simp only [hg];rw [List.getElem?_take] at hx;split at hx
  ·rw [Nat.zero_add];simpa using hx
  ·cases hx
theorem eB.at {w:World} {b base st nd:Nat} {ss:List dL} {v:Value} (h:eB w b base st nd ss v) (hok:∀x∈ss,x.ok) (hlen:ss.length<=64):∃A cap,v= .slice A ss.length cap∧jX w w.heap.size b ss st nd A cap:=by
 obtain ⟨A,cap,rfl,_,hr⟩:=ownsRow.rd (B:=w.heap.size) (f:=vP ss) h.row (λi j hi hj=>Ed ss i j hi hj);obtain ⟨a,b,c,_⟩:=iK h.blk;exact ⟨A,cap,rfl,(aa.1 h.blk).1,a,b,c,hr _ (aj _) (aj _),hok,hlen⟩
theorem NP (b:dz) (hand:Int) (hg:b.good):(dP b hand).length<=64:=by
 have :=hg.n8;have :=hg.p12;rw [Ae];split<;>omega
theorem Ee (b:dz) (hand:Int) (hg:b.good):dw b hand<=16:=by
 have :=hg.n8;unfold dw;split<;>omega
theorem Lo.yc {w:World} {B:Nat} {b:dz} {v:iQ} {x:Value} (hx:x=dN b v) (hb:eT w B b v) (hB:B<=w.heap.size) (hg:b.good) (hand:Int) (hh: -1<=hand∧hand<=64):
 Calls Lo.prog 29 #[x,.int .i64 hand] w λe w'=>∃bw A cap,e= .returned (.pointer (some ⟨bw,0,none⟩))∧jX w' w'.heap.size bw (dP b hand) b.steps.length (dw b hand) A cap∧Below w.heap.size w w':=by
 subst hx;refine (Lo.Gg hb hB hg hand hh).mono λe w' h=>?_
 obtain ⟨bw,v,e1,_,_,hw,hbe⟩:=h;obtain ⟨A,cap,_,hwa⟩:=hw.at (NJ b hand hg) (NP b hand hg);exact ⟨bw,A,cap,e1,hwa,hbe⟩
def tL (w:World) (b:dz) (hand:Int) (e:Ending) (w':World):Prop:=
 if iE (dP b hand) (dw b hand)=true then ∃v,e= .returned (.tuple #[v,.int .i64 0])∧w'.ownsRow w.heap.size 32 2 v (dP b hand).length (ic (spansOf (dP b hand) (dw b hand)))∧Par.dh w' v∧Below w.heap.size w w'
 else e= .returned (.tuple #[.slice none 0 0,.int .i64 9])∧Below w.heap.size w w'
theorem Lo.Bz {w:World} {B:Nat} {b:dz} {v:iQ} {x:Value} (hx:x=dN b v) (hb:eT w B b v) (hB:B<=w.heap.size) (hg:b.good) (hand:Int) (hh: -1<=hand∧hand<=64):
 Calls Lo.prog 27 #[x,.int .i64 hand] w (tL w b hand):=by
 obtain ⟨U,U2,U3,U4,U5,U6⟩:=@Lo.facts inferInstance;have C:=(@Lo.call29 inferInstance);have C2:=(@Lo.call30 inferInstance);have C3:=(@Lo.call51 inferInstance);subst hx;have hbv:Value.agg #[.slice v.ah b.hands.length v.ch,.slice v.ap b.bP.length v.cp,.slice v.jU b.steps.length v.cs,.slice v.ac b.bT.length v.cc]=dN b v:=rfl;rw [<-hbv];have hb1:eT (w.alloc (.cells #[.slice v.ah b.hands.length v.ch,.slice v.ap b.bP.length v.cp,.slice v.jU b.steps.length v.cs,.slice v.ac b.bT.length v.cc] 43)) B b v:=hb.keep λb o h=>World.cell?_alloc_past _ _ _ (by show b<w.heap.size;omega)
 have jr:=Lib.hid hbv;have HB1:=Lib.hid hb1;have hnd:=Ee b hand hg;clear hbv hb1 hb;generalize v.ah=ah at jr HB1 ⊢;generalize v.ch=ch at jr HB1 ⊢;generalize v.ap=ap at jr HB1 ⊢;generalize v.cp=cp at jr HB1 ⊢;generalize v.jU=jU at jr HB1 ⊢;generalize v.cs=cs at jr HB1 ⊢;generalize v.ac=ac at jr HB1 ⊢;generalize v.cc=cc at jr HB1 ⊢;cases hho:iE (dP b hand) (dw b hand) with
 |false=>
  have HH:=Lib.hid hho;clear hho;go_enter Lo.func27,Try.ntmps27
  go_wp2_with (first
   |(go_at_call 29;refine (Lo.yc jr.out HB1.out (by simp;omega) hg _ hh).mono ?_;rintro e w1 ⟨bw,A,cap,rfl,hw,hb1⟩;have HW:=Lib.hid hw;have HB2:=Lib.hid hb1;clear hw hb1)
   |(go_at_call 30;refine (Lo.rT HW.out (aj _) hnd).mono ?_;rintro e w2 ⟨rfl,hb2⟩;rw [HH.out]))
  go_ret2
  show tL _ _ _ _ _;unfold tL;rw [if_neg (by rw [HH.out];simp)];exact ⟨rfl,(((Below.refl _ _).alloc (aj _) _).trans (HB2.out.mono (by simp))).trans (hb2.mono (by have :=HB2.out.size;simp at this;omega))⟩
 |true=>
  have HH:=Lib.hid hho;clear hho;go_enter Lo.func27,Try.ntmps27
  go_wp2_with (first
   |(go_at_call 29;refine (Lo.yc jr.out HB1.out (by simp;omega) hg _ hh).mono ?_;rintro e w1 ⟨bw,A,cap,rfl,hw,hb1⟩;have HW:=Lib.hid hw;have HB2:=Lib.hid hb1;clear hw hb1)
   |(go_at_call 30;refine (Lo.rT HW.out (aj _) hnd).mono ?_;rintro e w2 ⟨rfl,hb2⟩;rw [HH.out];have HB3:=Lib.hid hb2;clear hb2)
   |(go_at_call 51;refine (Lo.O6 (HW.out.keep λb o h=>bV HB3.out b o h) HB3.out.size hnd).mono ?_;rintro e w3 ⟨v,rfl,hown,hpl,hb3⟩;have HO:=Lib.hid hown;have HP:=Lib.hid hpl;have yC:=Lib.hid hb3;clear hown hpl hb3))
  go_ret2
  show tL _ _ _ _ _;unfold tL;rw [if_pos HH.out];have s2:=HB2.out.size;have s3:=HB3.out.size;simp at s2;exact ⟨_,rfl,ownsRow.base HO.out (by omega),HP.out,((((Below.refl _ _).alloc (aj _) _).trans (HB2.out.mono (by simp))).trans (HB3.out.mono (by omega))).trans (yC.out.mono (by omega))⟩
end Go.Proofs
end
section
namespace Go.Proofs
open Go Go.RowKit Go.Maps
variable [Lo.St]
def kS (w:World) (A:Option Addr) (n:Nat) (o:List Int):Prop:=Rd w w.heap.size 2 A n λi j=>.int .i64 ((o[2*i+j]?).getD 0)
theorem kS.below {w w':World} {A:Option Addr} {n:Nat} {o:List Int} (h:kS w A n o) (hb:Below w.heap.size w w'):kS w' A n o:= λhn=>by
 obtain ⟨b,off,e,h1,h2⟩:=h hn;exact ⟨b,off,e,ak h1 hb.size, λi j hi hj=>(bV hb _ _ h1).trans (h2 i j hi hj)⟩
theorem xE (o:List Int) {n i j:Nat} (hl:o.length=2*n) (hi:i<n) (hj:j<2):(ic o)[i*2+j]?=some (.int .i64 ((o[2*i+j]?).getD 0)):=by
 rw [show i*2+j=2*i+j from by omega];exact vR o (by omega)
theorem Lo.yf {w:World} {B:Nat} {b:dz} {v:iQ} {x:Value} (hx:x=dN b v) (hb:eT w B b v) (hB:B<=w.heap.size) (hg:b.good) (hand:Int) (hh: -1<=hand∧hand<=64) (hho:iE (dP b hand) (dw b hand)=true):
 Calls Lo.prog 27 #[x,.int .i64 hand] w λe w'=>∃A cap,e= .returned (.tuple #[.slice A (dP b hand).length cap,.int .i64 0])∧(dP b hand).length<=cap∧(∀m,m<=(dP b hand).length->kS w' A m (spansOf (dP b hand) (dw b hand)))∧Below w.heap.size w w':=by
 refine (Lo.Bz hx hb hB hg hand hh).mono λe w' h=>?_
 unfold tL at h;rw [if_pos hho] at h;obtain ⟨v,rfl,hown,_,hbe⟩:=h;obtain ⟨A,cap,rfl,hc,hr⟩:=ownsRow.rd (B:=w'.heap.size) (f:= λi j=>.int .i64 (((spansOf (dP b hand) (dw b hand))[2*i+j]?).getD 0)) hown (λi j hi hj=>xE _ (si _ _) hi hj);exact ⟨A,cap,rfl,hc, λm hm=>hr m hm (aj _),hbe⟩
theorem Lo.LY {w:World} {B:Nat} {b:dz} {v:iQ} {x:Value} (hx:x=dN b v) (hb:eT w B b v) (hB:B<=w.heap.size) (hg:b.good) (hand:Int) (hh: -1<=hand∧hand<=64) (hho:iE (dP b hand) (dw b hand)=true):
 Calls Lo.prog 27 #[x,.int .i64 hand] w λe w'=>∃A cap,e= .returned (.tuple #[.slice A (dP b hand).length cap,.int .i64 0])∧(dP b hand).length<=cap∧(∀m,m<=(dP b hand).length->kS w' A m (spansOf (dP b hand) (dw b hand)))∧Below w.heap.size w w'∧∀m c,Par.dh w' (.slice A m c):=by
 refine (Lo.Bz hx hb hB hg hand hh).mono λe w' h=>?_
 unfold tL at h;rw [if_pos hho] at h;obtain ⟨v,rfl,hown,hpl,hbe⟩:=h;obtain ⟨A,cap,rfl,hc,hr⟩:=ownsRow.rd (B:=w'.heap.size) (f:= λi j=>.int .i64 (((spansOf (dP b hand) (dw b hand))[2*i+j]?).getD 0)) hown (λi j hi hj=>xE _ (si _ _) hi hj);exact ⟨A,cap,rfl,hc, λm hm=>hr m hm (aj _),hbe, λ_ _ g hg=>hpl g (by cases A<;>exact hg)⟩
theorem Lo.JN {w:World} {B:Nat} {b:dz} {v:iQ} {x:Value} (hx:x=dN b v) (hb:eT w B b v) (hB:B<=w.heap.size) (hg:b.good) (hand:Int) (hh: -1<=hand∧hand<=64) (hho:iE (dP b hand) (dw b hand)=false):
 Calls Lo.prog 27 #[x,.int .i64 hand] w λe w'=>e= .returned (.tuple #[.slice none 0 0,.int .i64 9])∧Below w.heap.size w w':=by
 refine (Lo.Bz hx hb hB hg hand hh).mono λe w' h=>?_
 unfold tL at h;rw [if_neg (by rw [hho];simp)] at h;exact h
theorem Lo.gY {w:World} {B:Nat} {b:dz} {v:iQ} {x:Value} (hx:x=dN b v) (hb:eT w B b v) (hB:B<=w.heap.size) (hg:b.small):
 Calls Lo.prog 26 #[x] w λe w'=>e= .returned (.int .i64 (eX b))∧Below w.heap.size w w':=hx ▸ Lo.yI hb hB hg
abbrev uy (b:dz):Bool:=iE (dP b (-1)) (dw b (-1))
abbrev sD (b:dz):List Int:=spansOf (dP b (-1)) (dw b (-1))
def sF (w:World) (b:dz) (e:Ending) (w':World):Prop:=
 Below w.heap.size w w'∧
 if eX b≠0 then e= .returned (.tuple #[.slice none 0 0,.int .i64 (eX b)])
 else if uy b=true then ∃A cap,e= .returned (.tuple #[.slice A b.bP.length cap,.int .i64 0])∧kS w' A b.bP.length (sD b)∧Par.dh w' (.slice A b.bP.length cap)
 else e= .returned (.tuple #[.slice none 0 0,.int .i64 9])
theorem Lo.LZ {w:World} {B:Nat} {b:dz} {v:iQ} {x:Value} (hx:x=dN b v) (hb:eT w B b v) (hB:B<=w.heap.size) (hs:b.small):
 Calls Lo.prog 12 #[x] w (sF w b):=by
 obtain ⟨U,U2,U3,U4,U5,U6⟩:=@Lo.facts inferInstance;subst hx;have hbv:Value.agg #[.slice v.ah b.hands.length v.ch,.slice v.ap b.bP.length v.cp,.slice v.jU b.steps.length v.cs,.slice v.ac b.bT.length v.cc]=dN b v:=rfl;rw [<-hbv];have hb1:eT (w.alloc (.cells #[.slice v.ah b.hands.length v.ch,.slice v.ap b.bP.length v.cp,.slice v.jU b.steps.length v.cs,.slice v.ac b.bT.length v.cc] 43)) B b v:=hb.keep λb o h=>World.cell?_alloc_past _ _ _ (by show b<w.heap.size;omega)
 have hcb:∀j:Nat,(w.alloc (.cells #[.slice v.ah b.hands.length v.ch,.slice v.ap b.bP.length v.cp,.slice v.jU b.steps.length v.cs,.slice v.ac b.bT.length v.cc] 43)).cell? ⟨w.heap.size,j,none⟩=(#[Value.slice v.ah b.hands.length v.ch,.slice v.ap b.bP.length v.cp,.slice v.jU b.steps.length v.cs,.slice v.ac b.bT.length v.cc]:Array Value)[j]?:= λj=>by rw [World.cell?_alloc_at _ _ _ _ rfl]
 have jr:=Lib.hid hbv;have HB1:=Lib.hid hb1;have lJ:=Lib.hid hcb;clear hbv hb1 hb hcb;generalize v.ah=ah at jr HB1 lJ ⊢;generalize v.ch=ch at jr HB1 lJ ⊢;generalize v.ap=ap at jr HB1 lJ ⊢;generalize v.cp=cp at jr HB1 lJ ⊢;generalize v.jU=jU at jr HB1 lJ ⊢;generalize v.cs=cs at jr HB1 lJ ⊢;generalize v.ac=ac at jr HB1 lJ ⊢;generalize v.cc=cc at jr HB1 lJ ⊢;have C:=(@Lo.call26 inferInstance);have C2:=(@Lo.call27 inferInstance)
 by_cases hcf:eX b=0
 ·have hg:=mH hs hcf;have hw1:=Ae b (-1);have yJ:=Lib.hid hcf;clear hcf;cases hho:uy b with
  |false=>
   have HH:=Lib.hid hho;clear hho;go_enter Lo.func12,Try.ntmps12
   go_wp2_with (first
    |(go_at_call 26;refine (Lo.gY jr.out HB1.out (by simp;omega) hs).mono ?_;rintro e w1 ⟨rfl,hb1⟩;rw [yJ.out];have HB2:=Lib.hid hb1;clear hb1;have c0:=(bV HB2.out w.heap.size 0 (by simp)).trans (lJ.out 0);have c1:=(bV HB2.out w.heap.size 1 (by simp)).trans (lJ.out 1);have c2:=(bV HB2.out w.heap.size 2 (by simp)).trans (lJ.out 2);have c3:=(bV HB2.out w.heap.size 3 (by simp)).trans (lJ.out 3))
    |(go_at_call 27;refine (Lo.JN jr.out (HB1.out.keep λb o h=>bV HB2.out b o (by simp;omega)) (by have :=HB2.out.size;simp at this;omega) hg (-1) (by omega) HH.out).mono ?_;rintro e w2 ⟨rfl,hb2⟩))
   go_ret2
   show sF _ _ _ _;unfold sF;rw [if_neg (by rw [yJ.out];simp),if_neg (by rw [HH.out];simp)];exact ⟨(((Below.refl _ _).alloc (aj _) _).trans (HB2.out.mono (by simp))).trans (hb2.mono (by have :=HB2.out.size;simp at this;omega)),rfl⟩
  |true=>
   have HH:=Lib.hid hho;clear hho;rw [if_neg (by omega)] at hw1;have hwl:b.bP.length<=(dP b (-1)).length:=by omega
   go_enter Lo.func12,Try.ntmps12
   go_wp2_with (first
    |(go_at_call 26;refine (Lo.gY jr.out HB1.out (by simp;omega) hs).mono ?_;rintro e w1 ⟨rfl,hb1⟩;rw [yJ.out];have HB2:=Lib.hid hb1;clear hb1;have c0:=(bV HB2.out w.heap.size 0 (by simp)).trans (lJ.out 0);have c1:=(bV HB2.out w.heap.size 1 (by simp)).trans (lJ.out 1);have c2:=(bV HB2.out w.heap.size 2 (by simp)).trans (lJ.out 2);have c3:=(bV HB2.out w.heap.size 3 (by simp)).trans (lJ.out 3))
    |(go_at_call 27;refine (Lo.LY jr.out (HB1.out.keep λb o h=>bV HB2.out b o (by simp;omega)) (by have :=HB2.out.size;simp at this;omega) hg (-1) (by omega) HH.out).mono ?_;rintro e w2 ⟨A,cap,rfl,hcap,hr,hb2,hpl⟩;have RD:=Lib.hid hpl;clear hpl;have hpc:b.bP.length<=cap:=aC hwl hcap;have HR:=Lib.hid (hr _ hwl);have HB3:=Lib.hid hb2;clear hr;have k1:=(bV hb2 w.heap.size 1 (by have :=HB2.out.size;simp at this;omega)).trans c1;clear hb2))
   go_ret2
   show sF _ _ _ _;unfold sF;rw [if_neg (by rw [yJ.out];simp),if_pos HH.out];have hbe:Below w.heap.size w w2:=(((Below.refl _ _).alloc (aj _) _).trans (HB2.out.mono (by simp))).trans (HB3.out.mono (by have :=HB2.out.size;simp at this;omega));refine ⟨hbe,?_⟩;exact ⟨_,_,rfl,HR.out,RD.out _ _⟩
 ·have yJ:=Lib.hid hcf;clear hcf;generalize hcx:eX b=cx at yJ;have RQ:=Lib.hid hcx;have hne:¬cx=0:=yJ.out;clear hcx;go_enter Lo.func12,Try.ntmps12
  go_wp2_with (go_at_call 26;refine (Lo.gY jr.out HB1.out (by simp;omega) hs).mono ?_;rintro e w1 ⟨rfl,hb1⟩;rw [RQ.out];have HB2:=Lib.hid hb1;clear hb1)
  go_ret2
  show sF _ _ _ _;unfold sF;rw [RQ.out,if_pos hne];exact ⟨((Below.refl _ _).alloc (aj _) _).trans (HB2.out.mono (by simp)),rfl⟩
end Go.Proofs
end
section
namespace Go.Proofs
open Go Go.RowKit Go.Maps
variable [Lo.St]
def uz (o:List Int) (np:Nat):Nat->List Int
 |0=>[]
 |k+1=>uz o np k++ [(o[2*(np+2*k+1)]?).getD 0,(o[2*(np+2*k+1)+1]?).getD 0]
theorem Ef (o:List Int) (np:Nat):∀k,(uz o np k).length=2*k
 |0=>rfl
 |k+1=>by unfold uz;rw [List.length_append,Ef o np k];simp;omega
abbrev Al (b:dz):List Int:=uz (sD b) b.bP.length b.steps.length
def sG (w:World) (b:dz) (e:Ending) (w':World):Prop:=
 Below w.heap.size w w'∧
 if eX b≠0 then e= .returned (.tuple #[.slice none 0 0,.int .i64 (eX b)])
 else if uy b=true then ∃A cap,e= .returned (.tuple #[.slice A b.steps.length cap,.int .i64 0])∧kS w' A b.steps.length (Al b)∧Par.dh w' (.slice A b.steps.length cap)
 else e= .returned (.tuple #[.slice none 0 0,.int .i64 9])
theorem Lo.L6 {w:World} {B:Nat} {b:dz} {v:iQ} {x:Value} (hx:x=dN b v) (hb:eT w B b v) (hB:B<=w.heap.size) (hs:b.small):
 Calls Lo.prog 13 #[x] w (sG w b):=by
 obtain ⟨U,U2,U3,U4,U5,U6⟩:=@Lo.facts inferInstance;subst hx;have hbv:Value.agg #[.slice v.ah b.hands.length v.ch,.slice v.ap b.bP.length v.cp,.slice v.jU b.steps.length v.cs,.slice v.ac b.bT.length v.cc]=dN b v:=rfl;rw [<-hbv];have hb1:eT (w.alloc (.cells #[.slice v.ah b.hands.length v.ch,.slice v.ap b.bP.length v.cp,.slice v.jU b.steps.length v.cs,.slice v.ac b.bT.length v.cc] 43)) B b v:=hb.keep λb o h=>World.cell?_alloc_past _ _ _ (by show b<w.heap.size;omega)
 have hcb:∀j:Nat,(w.alloc (.cells #[.slice v.ah b.hands.length v.ch,.slice v.ap b.bP.length v.cp,.slice v.jU b.steps.length v.cs,.slice v.ac b.bT.length v.cc] 43)).cell? ⟨w.heap.size,j,none⟩=(#[Value.slice v.ah b.hands.length v.ch,.slice v.ap b.bP.length v.cp,.slice v.jU b.steps.length v.cs,.slice v.ac b.bT.length v.cc]:Array Value)[j]?:= λj=>by rw [World.cell?_alloc_at _ _ _ _ rfl]
 have jr:=Lib.hid hbv;have HB1:=Lib.hid hb1;have lJ:=Lib.hid hcb;clear hbv hb1 hb hcb;generalize v.ah=ah at jr HB1 lJ ⊢;generalize v.ch=ch at jr HB1 lJ ⊢;generalize v.ap=ap at jr HB1 lJ ⊢;generalize v.cp=cp at jr HB1 lJ ⊢;generalize v.jU=jU at jr HB1 lJ ⊢;generalize v.cs=cs at jr HB1 lJ ⊢;generalize v.ac=ac at jr HB1 lJ ⊢;generalize v.cc=cc at jr HB1 lJ ⊢;have C:=(@Lo.call26 inferInstance);have C2:=(@Lo.call27 inferInstance);obtain ⟨i0,hi,hz0,hz1,hz2⟩:=info_parts Lo.Rk
 by_cases hcf:eX b=0
 ·have hg:=mH hs hcf;have hw1:=Ae b (-1);have yJ:=Lib.hid hcf;clear hcf;cases hho:uy b with
  |false=>
   have HH:=Lib.hid hho;clear hho;go_enter Lo.func13,Try.ntmps13
   go_wp2_with (first
    |(go_at_call 26;refine (Lo.gY jr.out HB1.out (by simp;omega) hs).mono ?_;rintro e w1 ⟨rfl,hb1⟩;rw [yJ.out];have HB2:=Lib.hid hb1;clear hb1;have c0:=(bV HB2.out w.heap.size 0 (by simp)).trans (lJ.out 0);have c1:=(bV HB2.out w.heap.size 1 (by simp)).trans (lJ.out 1);have c2:=(bV HB2.out w.heap.size 2 (by simp)).trans (lJ.out 2);have c3:=(bV HB2.out w.heap.size 3 (by simp)).trans (lJ.out 3))
    |(go_at_call 27;refine (Lo.JN jr.out (HB1.out.keep λb o h=>bV HB2.out b o (by simp;omega)) (by have :=HB2.out.size;simp at this;omega) hg (-1) (by omega) HH.out).mono ?_;rintro e w2 ⟨rfl,hb2⟩))
   go_ret2
   show sG _ _ _ _;unfold sG;rw [if_neg (by rw [yJ.out];simp),if_neg (by rw [HH.out];simp)];exact ⟨(((Below.refl _ _).alloc (aj _) _).trans (HB2.out.mono (by simp))).trans (hb2.mono (by have :=HB2.out.size;simp at this;omega)),rfl⟩
  |true=>
   have HH:=Lib.hid hho;clear hho;rw [if_neg (by omega),Nat.add_zero] at hw1;have hn8:=hg.n8;have ae4:=hg.p12;go_enter Lo.func13,Try.ntmps13
   go_wp2_with (first
    |(go_at_call 26;refine (Lo.gY jr.out HB1.out (by simp;omega) hs).mono ?_;rintro e w1 ⟨rfl,hb1⟩;rw [yJ.out];have HB2:=Lib.hid hb1;clear hb1;have c0:=(bV HB2.out w.heap.size 0 (by simp)).trans (lJ.out 0);have c1:=(bV HB2.out w.heap.size 1 (by simp)).trans (lJ.out 1);have c2:=(bV HB2.out w.heap.size 2 (by simp)).trans (lJ.out 2);have c3:=(bV HB2.out w.heap.size 3 (by simp)).trans (lJ.out 3))
    |(go_at_call 27;refine (Lo.yf jr.out (HB1.out.keep λb o h=>bV HB2.out b o (by simp;omega)) (by have :=HB2.out.size;simp at this;omega) hg (-1) (by omega) HH.out).mono ?_;rintro e w2 ⟨A,cap,rfl,hcap,hr,hb2⟩;rw [hw1];rw [hw1] at hcap hr;have HR:=Lib.hid (hr _ (aj _));have HB3:=Lib.hid hb2;clear hr;have k1:=(bV hb2 w.heap.size 1 (by have :=HB2.out.size;simp at this;omega)).trans c1;have k2:=(bV hb2 w.heap.size 2 (by have :=HB2.out.size;simp at this;omega)).trans c2;clear hb2))
   have hbe:Below w.heap.size w w2:=(((Below.refl _ _).alloc (aj _) _).trans (HB2.out.mono (by simp))).trans (HB3.out.mono (by have :=HB2.out.size;simp at this;omega));have szw:w.heap.size+1<=w2.heap.size:=by have :=HB2.out.size;have :=HB3.out.size;simp at *;omega
   have JA:=Lib.hid hbe;have hol:(sD b).length=2*(b.bP.length+2*b.steps.length):=(si _ _).trans (by rw [hw1]);generalize hos:spansOf (dP b (-1)) (dw b (-1))=os at HR hol;have HOS:=Lib.hid hos;clear hbe HB3 HB2 HB1 lJ c0 c1 c2 c3 hos
   go_loopw [7,25] (λv i wr=>∃k:Nat,k<=b.steps.length∧i= .int .i64 (k:Int)∧wr.ownsRow w2.heap.size 32 2 v k (ic (uz os b.bP.length k))∧Par.dh wr v∧Below w2.heap.size w2 wr) (λ_ i _=>b.steps.length - (intOf i).toNat)
   case atStart=>exact ⟨0,aL _,rfl,by simpa [uz,ic] using World.ownsRow_nil w2 w2.heap.size 32 2,Par.dh.nil _,Below.refl _ _⟩
   case round=>
    obtain ⟨k,hk,rfl,hown,hpl,hb⟩:=hrel;have HP:=Lib.hid hpl;clear hpl
    by_cases hlt:k<b.steps.length
    ·have hlt':(k:Int)<(b.steps.length:Int):=by omega
     obtain ⟨bb,off,rfl,hbb,hc⟩:=(HR.out.below hb) (by omega);have g0:wr.cell? ⟨bb,off+(b.bP.length+2*k+1)*2,none⟩=some (.int .i64 ((os[2*(b.bP.length+2*k+1)+0]?).getD 0)):=hc (b.bP.length+2*k+1) 0 (by omega) (by omega);have g1:wr.cell? ⟨bb,off+(b.bP.length+2*k+1)*2+1,none⟩=some (.int .i64 ((os[2*(b.bP.length+2*k+1)+1]?).getD 0)):=hc (b.bP.length+2*k+1) 1 (by omega) (by omega);have hin:uz os b.bP.length (k+1)=uz os b.bP.length k++ [(os[2*(b.bP.length+2*k+1)+0]?).getD 0,(os[2*(b.bP.length+2*k+1)+1]?).getD 0]:=rfl;generalize (os[2*(b.bP.length+2*k+1)+0]?).getD 0=y0 at g0 hin;generalize (os[2*(b.bP.length+2*k+1)+1]?).getD 0=y1 at g1 hin;have e0:wr.cell? ⟨bb,off+(b.bP.length+2*k+1)*2,none⟩=some (.int .i64 y0):=g0;have e1:wr.cell? ⟨bb,off+(b.bP.length+2*k+1)*2+1,none⟩=some (.int .i64 y1):=g1;have d1:wr.cell? ⟨w.heap.size,1,none⟩=some (.slice ap b.bP.length cp):=(bV hb _ _ (by omega)).trans k1;have Yq:=hb.size;have HB:=Lib.hid hb;have HI:=Lib.hid hin;clear hb hc hin g0 g1
     go_wp2_with (first
      |(at_builtin;refine Par.eP rfl _ _ 22 rfl w2.heap.size 32 i0 (.agg #[.int .i64 0,.int .i64 0]) 2 16 Lo.Xv hi hz0 hz1 hz2 rfl (by decide) _ _ _ rfl (hown.alloc _) ⟨wr.heap.size,0,none⟩ 1 1 [.int .i64 y0,.int .i64 y1] rfl rfl ?c1 ?c2 ?c3 ?c4 ?c5 (HP.out.alloc _) ?c6 ?c7 ?_)
      |go_in)
     case c1=>
      intro j u hj
      match j,hj with
      |0,hj=>simp at hj;subst hj;simp [Addr.add]
      |1,hj=>simp at hj;subst hj;simp [Addr.add]
     case c2=>intro u hu;simp at hu;rcases hu with rfl|rfl<;>rfl
     case c3=>unfold maxLen;omega
     case c4=>omega
     case c5=>simp;omega
     case c6=>intro u hu;simp at hu;rcases hu with rfl|rfl<;>rfl
     case c7=>intro u hu;simp [Value.cells] at hu;subst hu;rfl
     intro v' w3 hown' hgrow _ hp';have Rj:=Lib.hid hp';clear hp';have R:=Lib.hid ((HB.out.alloc Yq _).grown hgrow (by simp;omega) (λj hj=>(hown.lt j hj).1));have RO:=Lib.hid hown';clear hown' hgrow hown HB;go_wp2;go_roundw
     case rel=>exact ⟨k+1,by omega,by go_num,by rw [HI.out];simpa [ic] using RO.out,Rj.out,R.out⟩
     case measure=>simp [intOf];omega
    ·obtain rfl:k=b.steps.length:=by omega
     obtain ⟨A2,cap2,rfl,_,hr2⟩:=ownsRow.rd (B:=wr.heap.size) (f:= λi j=>.int .i64 (((uz os b.bP.length b.steps.length)[2*i+j]?).getD 0)) hown (λi j hi hj=>xE _ (Ef _ _ _) hi hj);have HR2:=Lib.hid (hr2 _ (aj _) (aj _));clear hr2 hown;go_wp2
     go_ret2
     show sG _ _ _ _;unfold sG;rw [if_neg (by rw [yJ.out];simp),if_pos HH.out];refine ⟨JA.out.trans (hb.mono (by omega)),_,_,rfl,?_,HP.out⟩;show kS wr _ _ (uz (spansOf (dP b (-1)) (dw b (-1))) _ _);rw [HOS.out];exact HR2.out
 ·have yJ:=Lib.hid hcf;clear hcf;generalize hcx:eX b=cx at yJ;have RQ:=Lib.hid hcx;have hne:¬cx=0:=yJ.out;clear hcx;go_enter Lo.func13,Try.ntmps13
  go_wp2_with (go_at_call 26;refine (Lo.gY jr.out HB1.out (by simp;omega) hs).mono ?_;rintro e w1 ⟨rfl,hb1⟩;rw [RQ.out];have HB2:=Lib.hid hb1;clear hb1)
  go_ret2
  show sG _ _ _ _;unfold sG;rw [RQ.out,if_pos hne];exact ⟨((Below.refl _ _).alloc (aj _) _).trans (HB2.out.mono (by simp)),rfl⟩
end Go.Proofs
end
section
namespace Go.Proofs
open Go Go.RowKit Go.Maps
variable [Lo.St]
theorem Lo.RS:Lo.prog.underlying 47=some (.slice 56):=(Lo.underlying 47).trans (by kernel_rfl)
theorem Lo.YE:(Lo.prog.info? 56).map (λi=>(i.zero,i.size,i.bytes))=some (some (.int .i64 0),1,8):=by
 rw [Lo.info];kernel_rfl
def qQ (lo hi limit:Int):Int:=if limit<lo then 1 else if hi<=limit then 2 else 0
abbrev BB (b:dz) (h:Nat):List Int:=spansOf (dP b h) (dw b h)
def rG (b:dz) (limit:Int):Nat->List Int
 |0=>[]
 |h+1=>rG b limit h++ [qQ (((BB b h)[2*(b.bP.length+2*b.steps.length)+0]?).getD 0) (((BB b h)[2*(b.bP.length+2*b.steps.length)+1]?).getD 0) limit]
theorem xG (b:dz) (limit:Int):∀h,(rG b limit h).length=h
 |0=>rfl
 |h+1=>by unfold rG;rw [List.length_append,xG b limit h];rfl
abbrev BC (b:dz) (limit:Int):List Int:=rG b limit b.hands.length
def lH (w:World) (b:dz) (limit:Int) (e:Ending) (w':World):Prop:=
 Below w.heap.size w w'∧
 if eX b≠0 then e= .returned (.tuple #[.slice none 0 0,.int .i64 (eX b)])
 else if qg limit 0 1000000=false then e= .returned (.tuple #[.slice none 0 0,.int .i64 1])
 else if uy b=true then ∃A cap,e= .returned (.tuple #[.slice A b.hands.length cap,.int .i64 0])∧zT w' w'.heap.size A (BC b limit)∧Par.dh w' (.slice A b.hands.length cap)
 else e= .returned (.tuple #[.slice none 0 0,.int .i64 9])
theorem JO (o:List Int) {i:Nat} (hi:i<o.length):(ic o)[i*1+0]?=some (.int .i64 ((o[i]?).getD 0)):=by
 rw [Nat.mul_one,Nat.add_zero];exact vR o hi
theorem IC {b:dz} (h:eX b=0):b.hands.length<=4:=wV (Gi h).1
theorem Lo.Pe {w:World} {B:Nat} {b:dz} {v:iQ} {x:Value} (hx:x=dN b v) (hb:eT w B b v) (hB:B<=w.heap.size) (hs:b.small) (limit:Int) (YF:eX b=0->uy b=true->∀h:Nat,h<b.hands.length->iE (dP b h) (dw b h)=true):
 Calls Lo.prog 14 #[x,.int .i64 limit] w (lH w b limit):=by
 obtain ⟨U,U2,U3,U4,U5,U6⟩:=@Lo.facts inferInstance;subst hx;have hbv:Value.agg #[.slice v.ah b.hands.length v.ch,.slice v.ap b.bP.length v.cp,.slice v.jU b.steps.length v.cs,.slice v.ac b.bT.length v.cc]=dN b v:=rfl;rw [<-hbv];have hb1:eT (w.alloc (.cells #[.slice v.ah b.hands.length v.ch,.slice v.ap b.bP.length v.cp,.slice v.jU b.steps.length v.cs,.slice v.ac b.bT.length v.cc] 43)) B b v:=hb.keep λb o h=>World.cell?_alloc_past _ _ _ (by show b<w.heap.size;omega)
 have hcb:∀j:Nat,(w.alloc (.cells #[.slice v.ah b.hands.length v.ch,.slice v.ap b.bP.length v.cp,.slice v.jU b.steps.length v.cs,.slice v.ac b.bT.length v.cc] 43)).cell? ⟨w.heap.size,j,none⟩=(#[Value.slice v.ah b.hands.length v.ch,.slice v.ap b.bP.length v.cp,.slice v.jU b.steps.length v.cs,.slice v.ac b.bT.length v.cc]:Array Value)[j]?:= λj=>by rw [World.cell?_alloc_at _ _ _ _ rfl]
 have jr:=Lib.hid hbv;have HB1:=Lib.hid hb1;have lJ:=Lib.hid hcb;clear hbv hb1 hb hcb;generalize v.ah=ah at jr HB1 lJ ⊢;generalize v.ch=ch at jr HB1 lJ ⊢;generalize v.ap=ap at jr HB1 lJ ⊢;generalize v.cp=cp at jr HB1 lJ ⊢;generalize v.jU=jU at jr HB1 lJ ⊢;generalize v.cs=cs at jr HB1 lJ ⊢;generalize v.ac=ac at jr HB1 lJ ⊢;generalize v.cc=cc at jr HB1 lJ ⊢;have C:=(@Lo.call26 inferInstance);have C2:=(@Lo.call27 inferInstance);have C3:=(@Lo.call28 inferInstance);have C4:=(@Lo.call29 inferInstance);have C5:=(@Lo.call30 inferInstance);obtain ⟨i0,hi,hz0,hz1,hz2⟩:=info_parts Lo.YE
 by_cases hcf:eX b=0
 ·have hg:=mH hs hcf;have hnh:=IC hcf;have af0:=YF hcf;clear YF;have HH2:=Lib.hid af0;have yJ:=Lib.hid hcf;clear hcf af0;cases hbt:qg limit 0 1000000 with
  |false=>
   have Bo:=Lib.hid hbt;clear hbt;go_enter Lo.func14,Try.ntmps14
   go_wp2_with (first
    |(go_at_call 26;refine (Lo.gY jr.out HB1.out (by simp;omega) hs).mono ?_;rintro e w1 ⟨rfl,hb1⟩;rw [yJ.out];have HB2:=Lib.hid hb1;clear hb1)
    |(go_at_call 28;refine (Lo.dx _ _ _ _).mono ?_;rintro e w2 ⟨rfl,rfl⟩;rw [Bo.out]))
   go_ret2
   show lH _ _ _ _ _;unfold lH;rw [if_neg (by rw [yJ.out];simp),if_pos Bo.out];exact ⟨((Below.refl _ _).alloc (aj _) _).trans (HB2.out.mono (by simp)),rfl⟩
  |true=>
   have Bo:=Lib.hid hbt;clear hbt;have hnd:=Ee b (-1) hg;cases hho:uy b with
   |false=>
    have HH:=Lib.hid (show iE (dP b (-1)) (dw b (-1))=false from hho);clear hho;go_enter Lo.func14,Try.ntmps14
    go_wp2_with (first
     |(go_at_call 26;refine (Lo.gY jr.out HB1.out (by simp;omega) hs).mono ?_;rintro e w1 ⟨rfl,hb1⟩;rw [yJ.out];have HB2:=Lib.hid hb1;clear hb1;have c0:=(bV HB2.out w.heap.size 0 (by simp)).trans (lJ.out 0);have c1:=(bV HB2.out w.heap.size 1 (by simp)).trans (lJ.out 1);have c2:=(bV HB2.out w.heap.size 2 (by simp)).trans (lJ.out 2);have c3:=(bV HB2.out w.heap.size 3 (by simp)).trans (lJ.out 3))
     |(go_at_call 28;refine (Lo.dx _ _ _ _).mono ?_;rintro e w2 ⟨rfl,rfl⟩;rw [Bo.out])
     |(go_at_call 29;refine (Lo.yc jr.out (HB1.out.keep λb o h=>bV HB2.out b o (by simp;omega)) (by have :=HB2.out.size;simp at this;omega) hg (-1) (by omega)).mono ?_;rintro e w3 ⟨bw,A,cap,rfl,hw,hb3⟩;have HW:=Lib.hid hw;have HB3:=Lib.hid hb3;clear hw hb3)
     |(go_at_call 30;refine (Lo.rT HW.out (aj _) hnd).mono ?_;rintro e w4 ⟨rfl,hb4⟩;rw [HH.out]))
    go_ret2
    show lH _ _ _ _ _;unfold lH;rw [if_neg (by rw [yJ.out];simp),if_neg (by rw [Bo.out];simp),if_neg (by show ¬iE (dP b (-1)) (dw b (-1))=true;rw [HH.out];simp)];have s2:=HB2.out.size;have s3:=HB3.out.size;simp at s2;exact ⟨((((Below.refl _ _).alloc (aj _) _).trans (HB2.out.mono (by simp))).trans (HB3.out.mono (by omega))).trans (hb4.mono (by omega)),rfl⟩
   |true=>
    have HH:=Lib.hid (show iE (dP b (-1)) (dw b (-1))=true from hho);clear hho;have hn8:=hg.n8;have ae4:=hg.p12;go_enter Lo.func14,Try.ntmps14
    go_wp2_with (first
     |(go_at_call 26;refine (Lo.gY jr.out HB1.out (by simp;omega) hs).mono ?_;rintro e w1 ⟨rfl,hb1⟩;rw [yJ.out];have HB2:=Lib.hid hb1;clear hb1;have c0:=(bV HB2.out w.heap.size 0 (by simp)).trans (lJ.out 0);have c1:=(bV HB2.out w.heap.size 1 (by simp)).trans (lJ.out 1);have c2:=(bV HB2.out w.heap.size 2 (by simp)).trans (lJ.out 2);have c3:=(bV HB2.out w.heap.size 3 (by simp)).trans (lJ.out 3))
     |(go_at_call 28;refine (Lo.dx _ _ _ _).mono ?_;rintro e w2 ⟨rfl,rfl⟩;rw [Bo.out])
     |(go_at_call 29;refine (Lo.yc jr.out (HB1.out.keep λb o h=>bV HB2.out b o (by simp;omega)) (by have :=HB2.out.size;simp at this;omega) hg (-1) (by omega)).mono ?_;rintro e w3 ⟨bw,A,cap,rfl,hw,hb3⟩;have HW:=Lib.hid hw;have HB3:=Lib.hid hb3;clear hw hb3)
     |(go_at_call 30;refine (Lo.rT HW.out (aj _) hnd).mono ?_;rintro e w4 ⟨rfl,hb4⟩;rw [HH.out];have yC:=Lib.hid (HB2.out.trans ((HB3.out.mono HB2.out.size).trans (hb4.mono (aC HB2.out.size HB3.out.size))));clear hb4;have d0:=(bV yC.out w.heap.size 0 (by simp)).trans (lJ.out 0)))
    have hbe:Below w.heap.size w w4:=((Below.refl _ _).alloc (aj _) _).trans (yC.out.mono (by simp));have szw:w.heap.size+1<=w4.heap.size:=by have :=yC.out.size;simp at this;omega
    have hbk:eT w4 B b v:=HB1.out.keep λb o h=>bV yC.out b o (by simp;omega)
    have hcb:∀j:Nat,w4.cell? ⟨w.heap.size,j,none⟩=(#[Value.slice ah b.hands.length ch,.slice ap b.bP.length cp,.slice jU b.steps.length cs,.slice ac b.bT.length cc]:Array Value)[j]?:= λj=>(bV yC.out w.heap.size j (by simp)).trans (lJ.out j)
    have JA:=Lib.hid hbe;have x8:=Lib.hid hbk;have HCK:=Lib.hid hcb;clear hbe HB2 HB1 lJ HB3 yC HW c0 c1 c2 c3 hbk hcb
    go_loopw [7,28] (λu i wr=>∃k:Nat,k<=b.hands.length∧i= .int .i64 (k:Int)∧wr.ownsRow w4.heap.size 56 1 u k (ic (rG b limit k))∧Par.dh wr u∧Below w4.heap.size w4 wr) (λ_ i _=>b.hands.length - (intOf i).toNat)
    case atStart=>exact ⟨0,aL _,rfl,by simpa [rG,ic] using World.ownsRow_nil w4 w4.heap.size 56 1,Par.dh.nil _,Below.refl _ _⟩
    case round=>
     obtain ⟨k,hk,rfl,hown,hpl,hb⟩:=hrel;have HP:=Lib.hid hpl;have HO:=Lib.hid hown;have HB:=Lib.hid hb;clear hpl hown hb
     by_cases hlt:k<b.hands.length
     ·have hlt':(k:Int)<(b.hands.length:Int):=by omega
      have hwl:=Ae b k;rw [if_pos (by omega)] at hwl;have e0:=(bV HB.out w.heap.size 0 (by omega)).trans (HCK.out 0);have e1:=(bV HB.out w.heap.size 1 (by omega)).trans (HCK.out 1);have e2:=(bV HB.out w.heap.size 2 (by omega)).trans (HCK.out 2);have e3:=(bV HB.out w.heap.size 3 (by omega)).trans (HCK.out 3);have Yq:=HB.out.size;have hj:rG b limit (k+1)=rG b limit k++ [qQ (((BB b k)[2*(b.bP.length+2*b.steps.length)+0]?).getD 0) (((BB b k)[2*(b.bP.length+2*b.steps.length)+1]?).getD 0) limit]:=rfl;generalize hy0:((BB b k)[2*(b.bP.length+2*b.steps.length)+0]?).getD 0=y0 at hj;generalize hy1:((BB b k)[2*(b.bP.length+2*b.steps.length)+1]?).getD 0=y1 at hj;have Y0:=Lib.hid hy0;have Y1:=Lib.hid hy1;have HJ:=Lib.hid hj;clear hj hy0 hy1
      by_cases q0:limit<y0
      ·have hq:qQ y0 y1 limit=1:=by unfold qQ;rw [if_pos q0]
       have HQ:=Lib.hid hq;clear hq
       go_wp2_with (first
        |(go_at_call 27;refine (Lo.yf jr.out (x8.out.keep λb o h=>bV HB.out b o (by omega)) (by omega) hg k (by omega) (HH2.out HH.out k hlt)).mono ?_;rintro e w5 ⟨A5,cap5,rfl,hcap,hr,hb5⟩;rw [hwl];rw [hwl] at hr;have hr:=hr _ (aj _);obtain ⟨bb,off,rfl,hbb,hc⟩:=hr (by omega);have g0:w5.cell? ⟨bb,off+(b.bP.length+2*b.steps.length)*2,none⟩=some (.int .i64 y0):=by rw [<-Y0.out];exact hc (b.bP.length+2*b.steps.length) 0 (by omega) (by omega)
          have g1:w5.cell? ⟨bb,off+(b.bP.length+2*b.steps.length)*2+1,none⟩=some (.int .i64 y1):=by rw [<-Y1.out];exact hc (b.bP.length+2*b.steps.length) 1 (by omega) (by omega)
          have s5:wr.heap.size<=w5.heap.size:=hb5.size;have FM:=Lib.hid hb5;clear hb5 hc hr)
        |(at_builtin;refine Par.eP rfl _ _ 47 rfl w4.heap.size 56 i0 (.int .i64 0) 1 8 Lo.RS hi hz0 hz1 hz2 rfl (by decide) _ _ _ rfl (((ownsRow.below HO.out FM.out).alloc _).alloc _) ⟨w5.heap.size+1,0,none⟩ 1 1 [.int .i64 1] rfl rfl (by intro j u hj;match j,hj with |0,hj=>simp at hj;subst hj;simp [Addr.add]) (by intro u hu;simp at hu;subst hu;rfl) (by unfold maxLen;omega) (by omega) (by simp;omega) (((HP.out.keep λg hg=>FM.out.block g (HO.out.lt g hg).2).alloc _).alloc _) (by intro u hu;simp at hu;subst hu;rfl) (by intro u hu;simp [Value.cells] at hu;subst hu;rfl) ?_
          intro v' w6 hown' hgrow _ hp';have Rj:=Lib.hid hp';have Vo:=Lib.hid hown';have HG:=Lib.hid hgrow;clear hp' hown' hgrow)
        |go_in)
       go_roundw
       case rel=>exact ⟨k+1,by omega,by go_num,by rw [HJ.out,HQ.out];simpa [ic] using Vo.out,Rj.out,(((HB.out.trans (FM.out.mono (by omega))).alloc (by omega) _).alloc (by simp;omega) _).grown HG.out (by simp;omega) (λj hj=>(HO.out.lt j hj).1)⟩
       case measure=>simp [intOf];omega
      ·by_cases q1:y1<=limit
       ·have hq:qQ y0 y1 limit=2:=by unfold qQ;rw [if_neg q0,if_pos q1]
        have HQ:=Lib.hid hq;clear hq
        go_wp2_with (first
         |(go_at_call 27;refine (Lo.yf jr.out (x8.out.keep λb o h=>bV HB.out b o (by omega)) (by omega) hg k (by omega) (HH2.out HH.out k hlt)).mono ?_;rintro e w5 ⟨A5,cap5,rfl,hcap,hr,hb5⟩;rw [hwl];rw [hwl] at hr;have hr:=hr _ (aj _);obtain ⟨bb,off,rfl,hbb,hc⟩:=hr (by omega);have g0:w5.cell? ⟨bb,off+(b.bP.length+2*b.steps.length)*2,none⟩=some (.int .i64 y0):=by rw [<-Y0.out];exact hc (b.bP.length+2*b.steps.length) 0 (by omega) (by omega)
           have g1:w5.cell? ⟨bb,off+(b.bP.length+2*b.steps.length)*2+1,none⟩=some (.int .i64 y1):=by rw [<-Y1.out];exact hc (b.bP.length+2*b.steps.length) 1 (by omega) (by omega)
           have s5:wr.heap.size<=w5.heap.size:=hb5.size;have FM:=Lib.hid hb5;clear hb5 hc hr)
         |(at_builtin;refine Par.eP rfl _ _ 47 rfl w4.heap.size 56 i0 (.int .i64 0) 1 8 Lo.RS hi hz0 hz1 hz2 rfl (by decide) _ _ _ rfl (((ownsRow.below HO.out FM.out).alloc _).alloc _) ⟨w5.heap.size+1,0,none⟩ 1 1 [.int .i64 2] rfl rfl (by intro j u hj;match j,hj with |0,hj=>simp at hj;subst hj;simp [Addr.add]) (by intro u hu;simp at hu;subst hu;rfl) (by unfold maxLen;omega) (by omega) (by simp;omega) (((HP.out.keep λg hg=>FM.out.block g (HO.out.lt g hg).2).alloc _).alloc _) (by intro u hu;simp at hu;subst hu;rfl) (by intro u hu;simp [Value.cells] at hu;subst hu;rfl) ?_
           intro v' w6 hown' hgrow _ hp';have Rj:=Lib.hid hp';have Vo:=Lib.hid hown';have HG:=Lib.hid hgrow;clear hp' hown' hgrow)
         |go_in)
        go_roundw
        case rel=>exact ⟨k+1,by omega,by go_num,by rw [HJ.out,HQ.out];simpa [ic] using Vo.out,Rj.out,(((HB.out.trans (FM.out.mono (by omega))).alloc (by omega) _).alloc (by simp;omega) _).grown HG.out (by simp;omega) (λj hj=>(HO.out.lt j hj).1)⟩
        case measure=>simp [intOf];omega
       ·have hq:qQ y0 y1 limit=0:=by unfold qQ;rw [if_neg q0,if_neg q1]
        have HQ:=Lib.hid hq;clear hq
        go_wp2_with (first
         |(go_at_call 27;refine (Lo.yf jr.out (x8.out.keep λb o h=>bV HB.out b o (by omega)) (by omega) hg k (by omega) (HH2.out HH.out k hlt)).mono ?_;rintro e w5 ⟨A5,cap5,rfl,hcap,hr,hb5⟩;rw [hwl];rw [hwl] at hr;have hr:=hr _ (aj _);obtain ⟨bb,off,rfl,hbb,hc⟩:=hr (by omega);have g0:w5.cell? ⟨bb,off+(b.bP.length+2*b.steps.length)*2,none⟩=some (.int .i64 y0):=by rw [<-Y0.out];exact hc (b.bP.length+2*b.steps.length) 0 (by omega) (by omega)
           have g1:w5.cell? ⟨bb,off+(b.bP.length+2*b.steps.length)*2+1,none⟩=some (.int .i64 y1):=by rw [<-Y1.out];exact hc (b.bP.length+2*b.steps.length) 1 (by omega) (by omega)
           have s5:wr.heap.size<=w5.heap.size:=hb5.size;have FM:=Lib.hid hb5;clear hb5 hc hr)
         |(at_builtin;refine Par.eP rfl _ _ 47 rfl w4.heap.size 56 i0 (.int .i64 0) 1 8 Lo.RS hi hz0 hz1 hz2 rfl (by decide) _ _ _ rfl (((ownsRow.below HO.out FM.out).alloc _).alloc _) ⟨w5.heap.size+1,0,none⟩ 1 1 [.int .i64 0] rfl rfl (by intro j u hj;match j,hj with |0,hj=>simp at hj;subst hj;simp [Addr.add]) (by intro u hu;simp at hu;subst hu;rfl) (by unfold maxLen;omega) (by omega) (by simp;omega) (((HP.out.keep λg hg=>FM.out.block g (HO.out.lt g hg).2).alloc _).alloc _) (by intro u hu;simp at hu;subst hu;rfl) (by intro u hu;simp [Value.cells] at hu;subst hu;rfl) ?_
           intro v' w6 hown' hgrow _ hp';have Rj:=Lib.hid hp';have Vo:=Lib.hid hown';have HG:=Lib.hid hgrow;clear hp' hown' hgrow)
         |go_in)
        go_roundw
        case rel=>exact ⟨k+1,by omega,by go_num,by rw [HJ.out,HQ.out];simpa [ic] using Vo.out,Rj.out,(((HB.out.trans (FM.out.mono (by omega))).alloc (by omega) _).alloc (by simp;omega) _).grown HG.out (by simp;omega) (λj hj=>(HO.out.lt j hj).1)⟩
        case measure=>simp [intOf];omega
     ·obtain rfl:k=b.hands.length:=by omega
      obtain ⟨A2,cap2,rfl,_,hr2⟩:=ownsRow.rd (B:=wr.heap.size) (f:= λi _=>.int .i64 (((rG b limit b.hands.length)[i]?).getD 0)) HO.out (λi j hi hj=>(show j=0 by omega) ▸ JO _ (by rw [xG];exact hi));have HR2:=Lib.hid (hr2 _ (aj _) (aj _));clear hr2;go_wp2
      go_ret2
      show lH _ _ _ _ _;unfold lH;rw [if_neg (by rw [yJ.out];simp),if_neg (by rw [Bo.out];simp),if_pos HH.out];refine ⟨JA.out.trans (HB.out.mono (by omega)),_,_,rfl,?_,HP.out⟩;have :=HR2.out;unfold zT;rw [xG];exact this
 ·have yJ:=Lib.hid hcf;clear hcf;generalize hcx:eX b=cx at yJ;have RQ:=Lib.hid hcx;have hne:¬cx=0:=yJ.out;clear hcx YF;go_enter Lo.func14,Try.ntmps14
  go_wp2_with (go_at_call 26;refine (Lo.gY jr.out HB1.out (by simp;omega) hs).mono ?_;rintro e w1 ⟨rfl,hb1⟩;rw [RQ.out];have HB2:=Lib.hid hb1;clear hb1)
  go_ret2
  show lH _ _ _ _ _;unfold lH;rw [RQ.out,if_pos hne];exact ⟨((Below.refl _ _).alloc (aj _) _).trans (HB2.out.mono (by simp)),rfl⟩
end Go.Proofs
end
section
namespace Go.Proofs
open Go Go.RowKit Go.Maps
variable [Lo.St]
def CX (b:dz) (k:Nat):dz:={ b with bT:=b.bT.take k }
def uR (b:dz):Nat->Nat->Int
 |0,_=> -1
 |f+1,k=>if uy (CX b k)=false then (k:Int) - 1 else uR b f (k+1)
def IE (b:dz):Int:=uR b (b.bT.length+1) 0
theorem YG {w:World} {B:Nat} {b:dz} {v:iQ} (h:eT w B b v) (k:Nat) (hk:k<=b.bT.length):eT w B (CX b k) v:=by
 have e:(b.bT.take k).length=k:=by rw [List.length_take];omega
 refine ⟨h.hands,h.bP,h.steps,h.ins,h.outs, λhn=>?_,h.lh,h.lp,h.ls,by have :=h.lc;show (b.bT.take k).length<=_;omega⟩;have hn:0<(b.bT.take k).length:=hn;obtain ⟨bb,off,e1,h1,h2⟩:=h.bT (by omega);refine ⟨bb,off,e1,h1, λi j hi hj=>?_⟩;have hi:i<(b.bT.take k).length:=hi;rw [h2 i j (by omega) hj];show _=some (Ab (b.bT.take k) i j);unfold Ab;rw [List.getElem?_take_of_lt (by omega)]
theorem RU {b:dz} (h:b.good) (k:Nat):(CX b k).good:=
 ⟨⟨h.hands,h.bP,h.steps,by have :=h.bT;show (b.bT.take k).length<=64;rw [List.length_take];omega,h.ins,h.outs⟩,h.n8,h.p12, λs hs=>h.sc s (aU hs),h.st,h.ki,h.ko⟩
theorem Vv {w:World} {b:Nat} {x y z u:Value} {t:TypeId} (h:w.heap[b]?=some (.cells #[x,y,z,u] t)):w.cell? ⟨b,0,none⟩=some x∧w.cell? ⟨b,1,none⟩=some y∧w.cell? ⟨b,2,none⟩=some z∧w.cell? ⟨b,3,none⟩=some u∧w.frozen? ⟨b,3,none⟩=false:=by
 unfold World.cell? World.frozen?;simp only [h];exact ⟨rfl,rfl,rfl,rfl,rfl⟩
theorem Pf {w:World} {b:Nat} {x y z u u':Value} {t:TypeId} (h:w.heap[b]?=some (.cells #[x,y,z,u] t)):(w.setCell ⟨b,3,none⟩ u').heap[b]?=some (.cells #[x,y,z,u'] t):=heap_setCell_same w b 3 _ _ u' h
def qC (w:World) (b:dz) (e:Ending) (w':World):Prop:=
 Below w.heap.size w w'∧if eX b≠0 then e= .returned (.tuple #[.int .i64 0,.int .i64 (eX b)]) else e= .returned (.tuple #[.int .i64 (IE b),.int .i64 0])
theorem Lo.Pg {w:World} {B:Nat} {b:dz} {v:iQ} {x:Value} (hx:x=dN b v) (hb:eT w B b v) (hB:B<=w.heap.size) (hs:b.small):
 Calls Lo.prog 15 #[x] w (qC w b):=by
 have hb0:=hb;have hlc:b.bT.length<=v.cc:=hb.lc
 have RV:∀k,k<=b.bT.length->Value.agg #[.slice v.ah b.hands.length v.ch,.slice v.ap b.bP.length v.cp,.slice v.jU b.steps.length v.cs,.slice v.ac k v.cc]=dN (CX b k) v:= λk hk=>by
  unfold dN CX;rw [List.length_take,Nat.min_eq_left hk]
 have x8:=Lib.hid RV;have HB0:=Lib.hid hb0;clear hb0 RV;obtain ⟨U,U2,U3,U4,U5,U6⟩:=@Lo.facts inferInstance;subst hx;have hbv:Value.agg #[.slice v.ah b.hands.length v.ch,.slice v.ap b.bP.length v.cp,.slice v.jU b.steps.length v.cs,.slice v.ac b.bT.length v.cc]=dN b v:=rfl;rw [<-hbv];have hb1:eT (w.alloc (.cells #[.slice v.ah b.hands.length v.ch,.slice v.ap b.bP.length v.cp,.slice v.jU b.steps.length v.cs,.slice v.ac b.bT.length v.cc] 43)) B b v:=hb.keep λb o h=>World.cell?_alloc_past _ _ _ (by show b<w.heap.size;omega)
 have hcb:∀j:Nat,(w.alloc (.cells #[.slice v.ah b.hands.length v.ch,.slice v.ap b.bP.length v.cp,.slice v.jU b.steps.length v.cs,.slice v.ac b.bT.length v.cc] 43)).cell? ⟨w.heap.size,j,none⟩=(#[Value.slice v.ah b.hands.length v.ch,.slice v.ap b.bP.length v.cp,.slice v.jU b.steps.length v.cs,.slice v.ac b.bT.length v.cc]:Array Value)[j]?:= λj=>by rw [World.cell?_alloc_at _ _ _ _ rfl]
 have jr:=Lib.hid hbv;have HB1:=Lib.hid hb1;have lJ:=Lib.hid hcb;clear hbv hb1 hb hcb;generalize v.ah=ah at jr HB1 lJ x8 hlc ⊢;generalize v.ch=ch at jr HB1 lJ x8 hlc ⊢;generalize v.ap=ap at jr HB1 lJ x8 hlc ⊢;generalize v.cp=cp at jr HB1 lJ x8 hlc ⊢;generalize v.jU=jU at jr HB1 lJ x8 hlc ⊢;generalize v.cs=cs at jr HB1 lJ x8 hlc ⊢;generalize v.ac=ac at jr HB1 lJ x8 hlc ⊢;generalize v.cc=cc at jr HB1 lJ x8 hlc ⊢;have C:=(@Lo.call26 inferInstance);have C2:=(@Lo.call29 inferInstance);have C3:=(@Lo.call30 inferInstance);have hl4:=hs.bT
 by_cases hcf:eX b=0
 ·have hg:=mH hs hcf;have yJ:=Lib.hid hcf;clear hcf;go_enter Lo.func15,Try.ntmps15
  go_wp2_with (go_at_call 26;refine (Lo.gY jr.out HB1.out (by simp;omega) hs).mono ?_;rintro e w1 ⟨rfl,hb1⟩;rw [yJ.out];have HB2:=Lib.hid hb1;clear hb1;have c0:=(bV HB2.out w.heap.size 0 (by simp)).trans (lJ.out 0);have c1:=(bV HB2.out w.heap.size 1 (by simp)).trans (lJ.out 1);have c2:=(bV HB2.out w.heap.size 2 (by simp)).trans (lJ.out 2);have c3:=(bV HB2.out w.heap.size 3 (by simp)).trans (lJ.out 3))
  have hbx:w1.heap[w.heap.size]?=some (.cells #[.slice ah b.hands.length ch,.slice ap b.bP.length cp,.slice jU b.steps.length cs,.slice ac b.bT.length cc] 43):=(HB2.out.block _ (by simp)).trans (heap_alloc_new w _)
  have hbe:Below w.heap.size w w1:=((Below.refl _ _).alloc (aj _) _).trans (HB2.out.mono (by simp));have szw:w.heap.size+1<=w1.heap.size:=by have :=HB2.out.size;simp at this;omega
  have HX:=Lib.hid hbx;have JA:=Lib.hid hbe;clear hbx hbe HB2 HB1 lJ jr c0 c1 c2 c3
  go_loopw [17] (λi wr=>∃k:Nat,∃x,k<=b.bT.length+1∧i= .int .i64 (k:Int)∧wr.heap[w.heap.size]?=some (.cells #[.slice ah b.hands.length ch,.slice ap b.bP.length cp,.slice jU b.steps.length cs,x] 43)∧Below w.heap.size w wr∧w.heap.size+1<=wr.heap.size∧uR b (b.bT.length+1 - k) k=IE b) (λi _=>b.bT.length+1 - (intOf i).toNat)
  case atStart=>exact ⟨0,_,aL _,rfl,HX.out,JA.out,szw,rfl⟩
  case round=>
   obtain ⟨k,x,hk,rfl,hbx,hb,hsz,hrest⟩:=hrel
   by_cases hlt:k<b.bT.length+1
   ·have hlt':(k:Int)<(b.bT.length:Int)+1:=by omega
    have hkn:k<=b.bT.length:=by omega
    have hkc:k<=cc:=by omega
    have hd:uR b (b.bT.length+1 - k) k=if uy (CX b k)=false then (k:Int) - 1 else uR b (b.bT.length+1 - (k+1)) (k+1):=by
     rw [show b.bT.length+1 - k=(b.bT.length - k)+1 from by omega,show b.bT.length+1 - (k+1)=b.bT.length - k from by omega];rfl
    rw [hrest] at hd;obtain ⟨e0,e1,e2,e3,ef⟩:=Vv hbx;have hset:=Pf (u':=.slice ac k cc) hbx;have hbk:eT (wr.setCell ⟨w.heap.size,3,none⟩ (.slice ac k cc)) B (CX b k) v:=(YG HB0.out k hkn).keep λb o h=>(World.cell?_of_block (Below.heap_setCell _ _ _ _ (by show b≠w.heap.size;omega))).trans (bV hb b o (by omega))
    have hbs:Below w.heap.size w (wr.setCell ⟨w.heap.size,3,none⟩ (.slice ac k cc)):=hb.setCell (p:=⟨w.heap.size,3,none⟩) (aj _) _;have hss:(wr.setCell ⟨w.heap.size,3,none⟩ (.slice ac k cc)).heap.size=wr.heap.size:=by simp [World.setCell]
    have hgk:=RU hg k;have hnd:=Ee (CX b k) (-1) hgk;have RV:=x8.out k hkn;have HD:=Lib.hid hd;have HS:=Lib.hid hset;have af1:=Lib.hid hbk;have HBS:=Lib.hid hbs;have jr:=Lib.hid RV;clear hd hset hbk hbs RV hrest hbx hb HX;cases hho:iE (dP (CX b k) (-1)) (dw (CX b k) (-1)) with
    |false=>
     have HH:=Lib.hid hho;clear hho
     go_wp2_with (first
      |(go_at_call 29;refine (Lo.yc jr.out af1.out (by omega) hgk (-1) (by omega)).mono ?_;rintro e w3 ⟨bw,A,cap,rfl,hw,hb3⟩;have HW:=Lib.hid hw;have HB3:=Lib.hid hb3;clear hw hb3)
      |(go_at_call 30;refine (Lo.rT HW.out (aj _) hnd).mono ?_;rintro e w4 ⟨rfl,hb4⟩;rw [HH.out]))
     go_ret2
     show qC _ _ _ _;unfold qC;rw [if_neg (by rw [yJ.out];simp)];refine ⟨(HBS.out.trans (HB3.out.mono (by omega))).trans (hb4.mono (by have :=HB3.out.size;omega)),?_⟩;have :=HD.out;rw [if_pos HH.out] at this;rw [this];rfl
    |true=>
     have HH:=Lib.hid hho;clear hho
     go_wp2_with (first
      |(go_at_call 29;refine (Lo.yc jr.out af1.out (by omega) hgk (-1) (by omega)).mono ?_;rintro e w3 ⟨bw,A,cap,rfl,hw,hb3⟩;have HW:=Lib.hid hw;have HB3:=Lib.hid hb3;clear hw hb3)
      |(go_at_call 30;refine (Lo.rT HW.out (aj _) hnd).mono ?_;rintro e w4 ⟨rfl,hb4⟩;rw [HH.out];have yC:=Lib.hid hb4;clear hb4))
     have s3:=HB3.out.size;have s4:=yC.out.size;go_roundw
     case rel=>exact ⟨k+1,_,by omega,by go_num,(yC.out.block _ (by omega)).trans ((HB3.out.block _ (by omega)).trans HS.out),(HBS.out.trans (HB3.out.mono (by omega))).trans (yC.out.mono (by omega)),by omega,by
      have :=HD.out;rw [if_neg (by show ¬iE (dP (CX b k) (-1)) (dw (CX b k) (-1))=false;rw [HH.out];simp)] at this;exact this.symm⟩
     case measure=>simp [intOf];omega
   ·obtain rfl:k=b.bT.length+1:=by omega
    have hf:IE b= -1:=by rw [<-hrest,Nat.sub_self];rfl
    have HF:=Lib.hid hf;clear hf hrest;go_wp2
    go_ret2
    show qC _ _ _ _;unfold qC;rw [if_neg (by rw [yJ.out];simp),HF.out];exact ⟨hb,rfl⟩
 ·have yJ:=Lib.hid hcf;clear hcf;generalize hcx:eX b=cx at yJ;have RQ:=Lib.hid hcx;have hne:¬cx=0:=yJ.out;clear hcx;go_enter Lo.func15,Try.ntmps15
  go_wp2_with (go_at_call 26;refine (Lo.gY jr.out HB1.out (by simp;omega) hs).mono ?_;rintro e w1 ⟨rfl,hb1⟩;rw [RQ.out];have HB2:=Lib.hid hb1;clear hb1)
  go_ret2
  show qC _ _ _ _;unfold qC;rw [RQ.out,if_pos hne];exact ⟨((Below.refl _ _).alloc (aj _) _).trans (HB2.out.mono (by simp)),rfl⟩
end Go.Proofs
end
