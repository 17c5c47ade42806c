/- Part 22. -/
import Derived.Test.YtnemnkmojiljmaaGreatG20
import Derived.Test.YtnemnkmojiljmaaGreatG21
set_option maxRecDepth 100000
set_option maxHeartbeats 0
set_option linter.all false
namespace Go.Proofs
open Go Go.RowKit Go.Maps
section
variable [Lo.St]
def wS:List ByteArray->List ByteArray->Int
 | [],_=>0
 |s::r,seen=>if gM s=false then 4 else if KV s seen=true then 5 else wS r (seen++ [s])
def eB (l:List ByteArray) (most:Nat):Int:=if most<l.length then 2 else wS l []
def uF (np:Nat) (M:List Int):List Int->List Int->Int×List Int
 | [],U=>(0,U)
 |p::r,U=>if nQ p 0 ((np:Int) - 1)=false then (6,U) else if M.contains p=false then (7,U) else if U.contains p=true then (5,U) else uF np M r (U++ [p])
def kX (np:Nat):List Int->List Int->Int×List Int
 | [],M=>(0,M)
 |p::r,M=>if nQ p 0 ((np:Int) - 1)=false then (6,M) else if M.contains p=true then (5,M) else kX np r (M++ [p])
def lX (nh np:Nat):List eY->List Int->List Int->Int×List Int
 | [],M,_=>(0,M)
 |s::r,M,U=>
  if nQ s.hand 0 ((nh:Int) - 1)=false then (6,M) else
  if (uF np M s.ins U).1≠0 then ((uF np M s.ins U).1,M) else
  if (kX np s.outs M).1≠0 then ((kX np s.outs M).1,M) else
  if fC s.g0 s.g1 0 1000000=false then (1,M) else
  if fC s.l0 s.l1 0 1000000=false then (1,M) else
  lX nh np r (kX np s.outs M).2 (uF np M s.ins U).2
def fO (b:dY):Int:=
 if 8<b.steps.length then 2 else
 if (lX b.dR.length b.dF.length b.steps [] []).1≠0 then (lX b.dR.length b.dF.length b.steps [] []).1 else
 if (lX b.dR.length b.dF.length b.steps [] []).2.length<b.dF.length then 6 else 0
def kZ (np:Nat):List lW->Int
 | []=>0
 |s::r=>if nQ s.pile 0 ((np:Int) - 1)=false then 6 else if fC s.lo s.hi 0 1000000=false then 1 else kZ np r
def fP (b:dY):Int:=
 if eB b.dR 4≠0 then eB b.dR 4 else
 if eB b.dF 12≠0 then eB b.dF 12 else
 if fO b≠0 then fO b else
 if 10<b.dJ.length then 2 else kZ b.dF.length b.dJ
theorem VM {np:Nat} {M:List Int}:∀{l U:List Int},(uF np M l U).1=0->∀p∈l,0<=p∧p<=(np:Int) - 1
 | [],_,_=> λp hp=>by simp at hp
 |q::r,U,h=> λp hp=>by
  unfold uF at h
  by_cases h1:nQ q 0 ((np:Int) - 1)=false
  ·rw [aj h1] at h;cases h
  ·rw [aa h1] at h
   by_cases h2:M.contains q=false
   ·rw [aj h2] at h;cases h
   ·rw [aa h2] at h
    by_cases h3:U.contains q=true
    ·rw [aj h3] at h;cases h
    ·rw [aa h3] at h;rcases bF.1 hp with rfl|hp
     ·simp [nQ] at h1;omega
     ·exact VM h p hp
theorem K6 {np:Nat}:∀{l M:List Int},(kX np l M).1=0->∀p∈l,0<=p∧p<=(np:Int) - 1
 | [],_,_=> λp hp=>by simp at hp
 |q::r,M,h=> λp hp=>by
  unfold kX at h
  by_cases h1:nQ q 0 ((np:Int) - 1)=false
  ·rw [aj h1] at h;cases h
  ·rw [aa h1] at h
   by_cases h3:M.contains q=true
   ·rw [aj h3] at h;cases h
   ·rw [aa h3] at h;rcases bF.1 hp with rfl|hp
    ·simp [nQ] at h1;omega
    ·exact K6 h p hp
theorem Am {nh np:Nat}:∀{l:List eY} {M U:List Int},(lX nh np l M U).1=0->∀s∈l,
 nQ s.hand 0 ((nh:Int) - 1)=true∧(∀p∈s.ins,0<=p∧p<=(np:Int) - 1)∧(∀p∈s.outs,0<=p∧p<=(np:Int) - 1)∧fC s.g0 s.g1 0 1000000=true∧fC s.l0 s.l1 0 1000000=true
 | [],_,_,_=> λs hs=>by simp at hs
 |t::r,M,U,h=> λs hs=>by
  unfold lX at h
  by_cases h1:nQ t.hand 0 ((nh:Int) - 1)=false
  ·rw [aj h1] at h;cases h
  rw [aa h1] at h
  by_cases h2:(uF np M t.ins U).1≠0
  ·rw [aj h2] at h;exact absurd h h2
  rw [aa h2] at h
  by_cases h3:(kX np t.outs M).1≠0
  ·rw [aj h3] at h;exact absurd h h3
  rw [aa h3] at h
  by_cases h4:fC t.g0 t.g1 0 1000000=false
  ·rw [aj h4] at h;cases h
  rw [aa h4] at h
  by_cases h5:fC t.l0 t.l1 0 1000000=false
  ·rw [aj h5] at h;cases h
  rw [aa h5] at h;rcases bF.1 hs with rfl|hs
  ·exact ⟨by simpa using h1,VM (by simpa using h2),K6 (by simpa using h3),by simpa using h4,by simpa using h5⟩
  ·exact Am h s hs
theorem wC {lo hi a b:Int}:fC lo hi a b=true↔a<=lo∧lo<=hi∧hi<=b:=by
 unfold fC;simp [and_assoc]
theorem Hy {np:Nat}:∀{l:List lW},kZ np l=0->∀s∈l,(0<=s.pile∧s.pile<=(np:Int) - 1)∧fC s.lo s.hi 0 1000000=true
 | [],_=> λs hs=>by simp at hs
 |t::r,h=> λs hs=>by
  unfold kZ at h
  by_cases h1:nQ t.pile 0 ((np:Int) - 1)=false
  ·rw [aj h1] at h;cases h
  rw [aa h1] at h
  by_cases h2:fC t.lo t.hi 0 1000000=false
  ·rw [aj h2] at h;cases h
  rw [aa h2] at h;rcases bF.1 hs with rfl|hs
  ·refine ⟨?_,by simpa using h2⟩;simp [nQ] at h1;omega
  ·exact Hy h s hs
theorem Eo {b:dY} (h:fP b=0):eB b.dR 4=0∧eB b.dF 12=0∧fO b=0∧b.dJ.length<=10∧kZ b.dF.length b.dJ=0:=by
 unfold fP at h
 by_cases h1:eB b.dR 4≠0
 ·rw [aj h1] at h;exact absurd h h1
 rw [aa h1] at h
 by_cases h2:eB b.dF 12≠0
 ·rw [aj h2] at h;exact absurd h h2
 rw [aa h2] at h
 by_cases h3:fO b≠0
 ·rw [aj h3] at h;exact absurd h h3
 rw [aa h3] at h
 by_cases h4:10<b.dJ.length
 ·rw [aj h4] at h;cases h
 rw [aa h4] at h;exact ⟨by simpa using h1,by simpa using h2,by simpa using h3,by omega,h⟩
theorem Hz {b:dY} (h:fO b=0):b.steps.length<=8∧(lX b.dR.length b.dF.length b.steps [] []).1=0∧¬(lX b.dR.length b.dF.length b.steps [] []).2.length<b.dF.length:=by
 unfold fO at h
 by_cases h1:8<b.steps.length
 ·rw [aj h1] at h;cases h
 rw [aa h1] at h
 by_cases h2:(lX b.dR.length b.dF.length b.steps [] []).1≠0
 ·rw [aj h2] at h;exact absurd h h2
 rw [aa h2] at h
 by_cases h3:(lX b.dR.length b.dF.length b.steps [] []).2.length<b.dF.length
 ·rw [aj h3] at h;cases h
 exact ⟨by omega,by simpa using h2,h3⟩
theorem ze {l:List ByteArray} {m:Nat} (h:eB l m=0):l.length<=m:=by
 unfold eB at h;split at h
 ·cases h
 ·omega
theorem pE {b:dY} (hs:b.small) (h:fP b=0):b.good:=by
 obtain ⟨h1,h2,h3,h4,h5⟩:=Eo h;obtain ⟨k1,k2,_⟩:=Hz h3;have l2:=ze h2;refine ⟨hs,k1,l2, λs hx=>?_, λs hx=>?_, λs hx p hp=>?_, λs hx p hp=>?_⟩
 ·obtain ⟨_,x⟩:=Hy h5 s hx;rw [wC] at x;omega
 ·obtain ⟨_,_,_,x,y⟩:=Am k2 s hx;rw [wC] at x y;omega
 ·obtain ⟨_,x,_⟩:=Am k2 s hx;have :=x p hp;omega
 ·obtain ⟨_,_,x,_⟩:=Am k2 s hx;have :=x p hp;omega
end
end Go.Proofs
namespace Go.Proofs
open Go Go.RowKit
section
variable [Lo.St]
theorem Lo.BX (s:ByteArray) (w:World):Calls Lo.prog 83 #[.string s] w λe w'=>e= .returned (.bool (gM s))∧Below w.heap.size w w':=by
 cases h:nQ s.size 1 14 with
 |true=>exact Lo.OX s w h
 |false=>
  have e:gM s=false:=by unfold gM;rw [h];rfl
  rw [e];exact Lo.SF s w h
theorem KU.take {w:World} {B:Nat} {A:Option Addr} {l:List ByteArray} (h:KU w B A l) (k:Nat) (hk:k<=l.length):KU w B A (l.take k):= λhn=>by
 have e:(l.take k).length=k:=by rw [List.length_take];omega
 rw [e] at hn;obtain ⟨b,off,e1,hb,hc⟩:=h (by omega);refine ⟨b,off,e1,hb, λi j hi hj=>?_⟩;rw [e] at hi;rw [hc i j (by omega) hj];simp only;rw [List.getElem?_take_of_lt hi]
theorem Lo.VN {w:World} {B n:Nat} {A:Option Addr} {l:List ByteArray} {c:Nat} {s:ByteArray} (hn:n=l.length) (h1:KU w B A l) (hl:l.length<=64):
 Calls Lo.prog 84 #[.slice A n c,.string s] w λe w'=>e= .returned (.bool (KV s l))∧w'=w:=hn ▸ Lo.Vy h1 hl
theorem Fa (l:List ByteArray) (k:Nat) (h:k<l.length):wS (l.drop k) (l.take k)=if gM l[k]=false then 4 else if KV l[k] (l.take k)=true then 5 else wS (l.drop (k+1)) (l.take (k+1)):=by
 rw [aW h,bB h];rfl
theorem Lo.iq {w:World} {B:Nat} {A:Option Addr} {l:List ByteArray} {c most:Nat} (h1:KU w B A l) (hl:l.length<=64) (hcap:l.length<=c) (hB:B<=w.heap.size) (hm:most<=64):
 Calls Lo.prog 47 #[.slice A l.length c,.int .i64 (most:Int)] w λe w'=>e= .returned (.int .i64 (eB l most))∧Below w.heap.size w w':=by
 obtain ⟨U,U2,U3,U4,U5,U6⟩:=Lo.facts;have C:=Lo.call Tryz.func83;have C2:=Lo.call Tryz.func84
 by_cases hgt:most<l.length
 ·have OY:(most:Int)<(l.length:Int):=by omega
  have e:eB l most=2:=by unfold eB;rw [aj hgt]
  rw [e];go_enter Lo.get Tryz.func47,Tryz.ntmps47
  go_wp2_with fail
  go_ret;exact ⟨rfl,dz _ _⟩
 ·have OY:¬(most:Int)<(l.length:Int):=by omega
  have e:eB l most=wS l []:=by unfold eB;rw [aa hgt]
  rw [e];clear e;generalize hF:wS l []=F;have HF:=dB hF;clear hF;go_enter Lo.get Tryz.func47,Tryz.ntmps47
  go_wp2_with fail
  go_loopw [13] (λi wr=>∃k:Nat,k<=l.length∧i= .int .i64 (k:Int)∧wS (l.drop k) (l.take k)=F∧Below w.heap.size w wr) (λi _=>l.length - (intOf i).toNat)
  case atStart=>exact ⟨0,bq _,rfl,by rw [List.drop_zero,List.take_zero];exact HF.out,dz _ _⟩
  case round=>
   obtain ⟨k,hk,rfl,hx,hb⟩:=hrel
   by_cases hlt:k<l.length
   ·have hlt':(k:Int)<(l.length:Int):=by omega
    have hkc:k<=c:=by omega
    have h1k:KU wr B A l:=h1.keep λb o h=>dP hb b o (by omega)
    obtain ⟨bb,off,rfl,hbb,hc⟩:=h1k (by omega);have r1:=Kw hc hlt;have ht:KU wr B (some ⟨bb,off,none⟩) (l.take k):=KU.take (λ_=>⟨bb,off,rfl,hbb,hc⟩) k (by omega);have hd:=Fa l k hlt;rw [hx] at hd;have htl:k=(l.take k).length:=by rw [List.length_take];omega
    generalize l[k]=s at r1 hd;have HT:=dB ht;have HD:=dB hd;have HB:=dB hb;have HTL:=dB htl;clear ht hd hb hc hx h1k h1 htl;cases hnm:gM s with
    |false=>
     have HN:=dB hnm;clear hnm
     go_wp2_with (go_at_call 83;refine (Lo.BX _ _).mono ?_;rintro e w1 ⟨rfl,hb1⟩;rw [HN.out])
     go_ret;exact ⟨by rw [HD.out,aj HN.out];rfl,HB.out.trans (hb1.mono HB.out.size)⟩
    |true=>
     have HN:=dB hnm;clear hnm;cases VO:KV s (l.take k) with
     |true=>
      have HH:=dB VO;clear VO
      go_wp2_with (first
       |(go_at_call 83;refine (Lo.BX _ _).mono ?_;rintro e w1 ⟨rfl,hb1⟩;rw [HN.out])
       |(go_at_call 84;refine (Lo.VN HTL.out (HT.out.keep λb o h=>dP hb1 b o (by have :=HB.out.size;omega)) (by rw [List.length_take];omega)).mono ?_;rintro e w2 ⟨rfl,rfl⟩;rw [HH.out]))
      go_ret;exact ⟨by rw [HD.out,aa (by rw [HN.out];simp),aj HH.out];rfl,HB.out.trans (hb1.mono HB.out.size)⟩
     |false=>
      have HH:=dB VO;clear VO
      go_wp2_with (first
       |(go_at_call 83;refine (Lo.BX _ _).mono ?_;rintro e w1 ⟨rfl,hb1⟩;rw [HN.out])
       |(go_at_call 84;refine (Lo.VN HTL.out (HT.out.keep λb o h=>dP hb1 b o (by have :=HB.out.size;omega)) (by rw [List.length_take];omega)).mono ?_;rintro e w2 ⟨rfl,rfl⟩;rw [HH.out]))
      go_roundw
      case rel=>exact ⟨k+1,by omega,by go_num,by rw [HD.out,aa (by rw [HN.out];simp),aa (by rw [HH.out];simp)],HB.out.trans (hb1.mono HB.out.size)⟩
      case measure=>simp [intOf];omega
   ·obtain rfl:k=l.length:=by omega
    rw [aF] at hx;have HX:=dB hx;clear hx
    go_wp2_with fail
    go_ret;exact ⟨by rw [<-HX.out];rfl,hb⟩
end
end Go.Proofs
namespace Go.Proofs
open Go Go.RowKit Go.Maps
section
variable [Lo.St]
abbrev vT:DataW Unit:=.lit (.bool true)
def Fu (l:List Int):DataW Unit:=setOf vT (l.map kI)
theorem JP (l:List Int) (p:Int):Fu (l++ [p])=(Fu l).put (kI p) vT:=by
 unfold Fu;rw [List.map_append];exact setOf_snoc _ _ _
theorem Qw (l:List Int):∀x∈l.map kI,WideAt.IsKeyLit x:= λx hx=>by
 obtain ⟨p,_,rfl⟩:=List.mem_map.1 hx;exact KZ p
theorem OZ (p q:Int):(kI p).sameKey (kI q)=decide (p=q):=by
 by_cases h:p=q
 ·subst h;simp [Lit.sameKey]
 ·rw [sameKey_ne (K3 h)];simp [h]
theorem yN (l:List Int) (q:Int):(Fu l).atKey (kI q) (.lit (.bool false))= .lit (.bool (l.contains q)):=by
 induction l using zM with
 |h0=>rfl
 |h1 l p ih=>
  have hm:IsMap (Fu l):=(tidy_setOf vT _ (Qw l)).isMap;rw [JP]
  by_cases h:p=q
  ·subst h;rw [atKey_put_same hm (KZ p)];simp
  ·rw [atKey_put_other (K3 (Ne.symm h)),ih];simp [Ne.symm h]
theorem SG (l:List Int) (h:l.Nodup):Maps.size (Fu l)=l.length:=by
 unfold Fu;rw [size_setOf _ _ (Qw l)]
 have :∀(l acc:List Int),l.Nodup->(∀x∈l,x ∉ acc)->(l.map kI).foldl addKey (acc.map kI)=(acc++l).map kI:=by
  intro l
  induction l with
  |nil=>intro acc _ _;simp
  |cons p l ih=>
   intro acc hn ha;simp only [aC,List.foldl_cons]
   have e:addKey (acc.map kI) (kI p)=(acc++ [p]).map kI:=by
    unfold addKey;rw [aa]
    ·simp
    ·simp only [List.any_map,List.any_eq_true,Function.comp];rintro ⟨x,hx,h2⟩;rw [OZ] at h2;have :=of_decide_eq_true h2;subst this;exact ha _ (by simp) hx
   rw [e,ih (acc++ [p]) (List.nodup_cons.1 hn).2 (λx hx hm=>by
    rcases List.mem_append.1 hm with hm|hm
    ·exact ha x (by simp [hx]) hm
    ·simp at hm;subst hm;exact (List.nodup_cons.1 hn).1 hx)]
   simp
 have :=this l [] h (λ_ _ h=>by cases h);simp only [List.map_nil,List.nil_append] at this;rw [this,List.length_map]
section
variable {H:Type} {P:Program} (w:World) {ops:Array Oper} {rest:List Oper} {o:Oper} {a:Act} {Q:Exit->Act->World->Prop}
theorem BZ {e:TypeId} (he:P.underlying e=some .bool) {v:Value} {z:DataW H×List MemPlace} (h:plainElem P e v=some z):∃x,v= .bool x∧z=(.lit (.bool x),[]):=by
 unfold plainElem at h;rw [he] at h;cases v<;>simp at h;rename_i x;exact ⟨x,rfl,h.symm⟩
theorem gy (hg:o.guard=none) (m x:Operand) (t:TypeId) (hop:o.op=Op.lookup t m x false)
 (k e:TypeId) (K:Keyed P k) (ht:P.underlying t=some (.map k e)) (he:P.underlying e=some .bool) (hz:(zeroValue e).run P w= .ok (.bool false) w) (b n:Nat) (D:DataW H)
 (hm:a.eval m= .map (some b)) (hown:w.ownsMap P k (plainElem P e) b n D) (key:Value) (kl:Lit) (hx:a.eval x=key) (hkey:keyOf P k key=some kl)
 (r:Bool) (hr:D.atKey kl (.lit (.bool false))= .lit (.bool r))
 (hK:wpList P ops Q rest (a.put o.dst (.bool r)) w):
 wpList P ops Q (o::rest) a w:=by
 refine wpList_plain hg λK' hK'=>?_
 obtain ⟨v,ps,hrun,hv⟩:=hown.lookup K ht hz (plainElem_bool he false) hkey;obtain ⟨c,rfl,hc⟩:=BZ he hv;have e1:=congrArg Prod.fst hc;simp only at e1;rw [hr] at e1;have e2:r=c:=by cases e1;rfl
 subst e2;unfold Oper.wp;simp [execOp,hop,hm,hx,hrun,Result.andThen];exact hK' _ _ hK
end
theorem Lo.vD:Lo.prog.underlying 133=some (.map 3 4):=(Lo.underlying 133).trans (by kernel_rfl)
theorem Lo.K7:Lo.prog.underlying 4=some .bool:=(Lo.underlying 4).trans (by kernel_rfl)
theorem Lo.aa2:Lo.prog.underlying 3=some (.int .i64):=(Lo.underlying 3).trans (by kernel_rfl)
theorem Lo.Dq:Keyed Lo.prog 3:=int_keyed Lo.aa2
theorem Lo.Ia (w:World):(Go.zeroValue 4).run Lo.prog w= .ok (.bool false) w:=(Lo.zeroValue 4 w).trans (by kernel_rfl)
abbrev mB (w:World) (b n:Nat) (l:List Int):Prop:=w.ownsMap Lo.prog 3 (plainElem Lo.prog 4) b n (Fu l)
theorem aa3 {w1:World} {b n:Nat} {l:List Int} {p:Int} (h:w1.ownsMap Lo.prog 3 (plainElem Lo.prog 4) b (n+1) ((Fu l).put (kI p) vT)):mB w1 b (n+1) (l++ [p]):=by
 show w1.ownsMap _ _ _ _ _ (Fu _);rw [JP];exact h
theorem JQ (np:Nat) (M l:List Int) (U:List Int) (k:Nat) (h:k<l.length):uF np M (l.drop k) U=if nQ l[k] 0 ((np:Int) - 1)=false then (6,U) else if M.contains l[k]=false then (7,U) else if U.contains l[k]=true then (5,U) else uF np M (l.drop (k+1)) (U++ [l[k]]):=by
 rw [aW h];rfl
theorem Ib (np:Nat) (l:List Int) (M:List Int) (k:Nat) (h:k<l.length):kX np (l.drop k) M=if nQ l[k] 0 ((np:Int) - 1)=false then (6,M) else if M.contains l[k]=true then (5,M) else kX np (l.drop (k+1)) (M++ [l[k]]):=by
 rw [aW h];rfl
theorem zO (nh np:Nat) (l:List eY) (M U:List Int) (k:Nat) (h:k<l.length):lX nh np (l.drop k) M U=
 if nQ l[k].hand 0 ((nh:Int) - 1)=false then (6,M) else
 if (uF np M l[k].ins U).1≠0 then ((uF np M l[k].ins U).1,M) else
 if (kX np l[k].outs M).1≠0 then ((kX np l[k].outs M).1,M) else
 if fC l[k].g0 l[k].g1 0 1000000=false then (1,M) else
 if fC l[k].l0 l[k].l1 0 1000000=false then (1,M) else
 lX nh np (l.drop (k+1)) (kX np l[k].outs M).2 (uF np M l[k].ins U).2:=by
 rw [aW h];rfl
theorem zP {np:Nat}:∀{l M:List Int},M.Nodup->(kX np l M).1=0->(kX np l M).2.Nodup
 | [],M,hM,_=>hM
 |q::r,M,hM,h=>by
  unfold kX at h ⊢
  by_cases h1:nQ q 0 ((np:Int) - 1)=false
  ·rw [aj h1] at h;cases h
  ·rw [aa h1] at h ⊢
   by_cases h3:M.contains q=true
   ·rw [aj h3] at h;cases h
   ·rw [aa h3] at h ⊢;refine zP ?_ h
    rw [List.nodup_append];refine ⟨hM,by simp, λa ha b hb=>?_⟩;simp at hb;subst hb
    intro e;subst e
    exact h3 (by simpa using ha)
theorem aq2 (p:Int) (h: -9223372036854775808<=p∧p<=9223372036854775807):keyOf Lo.prog 3 (.int .i64 p)=some (kI p):=keyOf_int_mk Lo.aa2 (wfI h.1 h.2)
theorem Lo.Ic {w:World} {B:Nat} {b:dY} {v:gK} (hb:fJ w B b v) (hB:B<=w.heap.size) (hg:b.small):
 Calls Lo.prog 48 #[eH b v] w λe w'=>e= .returned (.int .i64 (fO b))∧Below w.heap.size w w':=by
 obtain ⟨U,U2,U3,U4,U5,U6⟩:=Lo.facts;have C:=Lo.call Tryz.func49;have C2:=Lo.call Tryz.func50;have hmm:=@run_makeMap Lo.prog;have hl1:=hg.dR;have hl2:=hg.dF;have hl3:=hg.steps;obtain ⟨h1,h2,h3,h4,h5,h6,_⟩:=hb;unfold eH;generalize v.ah=ah at h1 ⊢;generalize v.ch=ch;generalize v.ap=ap at h2 ⊢;generalize v.cp=cp;generalize v.jY=jY at h3 ⊢;generalize v.cs=cs;generalize v.ac=ac at h6 ⊢;generalize v.cc=cc;generalize v.sv=sv at h3 h4 h5;unfold fO
 by_cases hgt:8<b.steps.length
 ·have OY:(8:Int)<(b.steps.length:Int):=by omega
  rw [aj hgt];go_enter Lo.get Tryz.func48,Tryz.ntmps48
  go_wp2_with fail
  go_ret;exact ⟨rfl,(dz _ _).alloc (aJ _) _⟩
 ·have OY:¬(8:Int)<(b.steps.length:Int):=by omega
  rw [aa hgt];generalize hF:lX b.dR.length b.dF.length b.steps [] []=F;have HF:=dB hF;clear hF;generalize hR:(if F.1≠0 then F.1 else if F.2.length<b.dF.length then (6:Int) else 0)=R;have HR:=dB hR;clear hR;go_enter Lo.get Tryz.func48,Tryz.ntmps48
  go_wp2_with fail
  generalize hW3:(((w.alloc (.cells #[.slice ah b.dR.length ch,.slice ap b.dF.length cp,.slice jY b.steps.length cs,.slice ac b.dJ.length cc] 26)).alloc (.map #[] 0)).alloc (.map #[] 0))=W3;have sz3:W3.heap.size=w.heap.size+3:=by subst hW3;simp
  have O0:Below w.heap.size w W3:=by
   subst hW3;exact ((((dz _ _).alloc (aJ _) _).alloc (by simp) _).alloc (by simp;omega) _)
  have mk3:mB W3 (w.heap.size+1) 0 []:=by
   subst hW3;have :=(World.ownsMap_made (H:=Unit) (w.alloc (.cells #[.slice ah b.dR.length ch,.slice ap b.dF.length cp,.slice jY b.steps.length cs,.slice ac b.dJ.length cc] 26)) Lo.prog 3 (plainElem Lo.prog 4)).alloc (.map #[] 0);simpa [mB,Fu,setOf] using this
  have us3:mB W3 (w.heap.size+1+1) 0 []:=by
   subst hW3;have :=World.ownsMap_made (H:=Unit) ((w.alloc (.cells #[.slice ah b.dR.length ch,.slice ap b.dF.length cp,.slice jY b.steps.length cs,.slice ac b.dJ.length cc] 26)).alloc (.map #[] 0)) Lo.prog 3 (plainElem Lo.prog 4);simpa [mB,Fu,setOf] using this
  have bk3:∀wq,Below (w.heap.size+1) W3 wq->∀j:Nat,wq.cell? ⟨w.heap.size,j,none⟩=(#[Value.slice ah b.dR.length ch,.slice ap b.dF.length cp,.slice jY b.steps.length cs,.slice ac b.dJ.length cc]:Array Value)[j]?:=by
   intro wq hx j;rw [dP hx _ _ (by omega)];subst hW3;rw [dx _ _ _ (by simp;omega),dx _ _ _ (by simp),dm _ _ _ _ rfl]
  have hkeep:∀wr,Below (w.heap.size+1) W3 wr->∀b o,b<B->wr.cell? ⟨b,o,none⟩=w.cell? ⟨b,o,none⟩:= λwr hx b o hb=>(dP hx b o (by omega)).trans (dP O0 b o (by omega))
  clear hW3;have HK:=dB hkeep;have Al:=dB bk3;have HB3:=dB O0;clear hkeep bk3 O0
  go_loopw [20] (λi wr=>∃k:Nat,∃M Us:List Int,k<=b.steps.length∧i= .int .i64 (k:Int)∧mB wr (w.heap.size+1) (64*k) M∧mB wr (w.heap.size+1+1) (64*k) Us∧Below (w.heap.size+1) W3 wr∧lX b.dR.length b.dF.length (b.steps.drop k) M Us=F∧M.Nodup) (λi _=>b.steps.length - (intOf i).toNat)
  case atStart=>exact ⟨0,[],[],bq _,rfl,mk3,us3,dz _ _,HF.out,List.nodup_nil⟩
  case round=>
   obtain ⟨k,M,Us,hk,rfl,hmk,VF,hbl,Bp,hnd⟩:=hrel;clear mk3 us3
   by_cases hlt:k<b.steps.length
   ·have hlt':(k:Int)<(b.steps.length:Int):=by omega
    have hkp:=HK.out wr hbl;obtain ⟨bb,off,rfl,hbb,hc⟩:=h3.keep hkp (by omega);obtain ⟨k0,k1,k2,k3,k4,k5,k6⟩:=yL hc hlt;have hd:=zO b.dR.length b.dF.length b.steps M Us k hlt;rw [Bp] at hd;have hsi:=hg.ins _ (aY hlt);have hso:=hg.outs _ (aY hlt);have hri:=h4 k _ (aO hlt);have hro:=h5 k _ (aO hlt);generalize b.steps[k]=s at *;obtain ⟨hand,li,lo,g0,g1,l0,l1⟩:=s;dsimp only at *;generalize (sv k).a1=a1 at *;generalize (sv k).a2=a2 at *;have c0:∀o,(wr.alloc o).cell? ⟨w.heap.size,0,none⟩=some (.slice ah b.dR.length ch):= λo=>(dx _ _ _ (by have :=hbl.size;show w.heap.size<wr.heap.size;omega)).trans (Al.out wr hbl 0)
    have sz:=hbl.size;have HD:=dB hd;have HM:=dB hmk;have HU:=dB VF;have En:=dB hbl;clear hkp hmk VF hbl hc h3 h4 h5 h6 h1 h2 hd Bp HF;cases hbt:nQ hand 0 ((b.dR.length:Int) - 1) with
    |false=>
     have DR:=dB hbt;clear hbt
     go_wp2_with (go_at_call 49;refine (Lo.fo _ _ _ _).mono ?_;rintro e w1 ⟨rfl,rfl⟩;rw [DR.out])
     go_ret;have e:=HD.out;rw [aj DR.out] at e;exact ⟨by rw [<-HR.out,e];rfl,HB3.out.trans ((En.out.alloc (by omega) _).mono (by omega))⟩
    |true=>
     have DR:=dB hbt;clear hbt
     go_wp2_with (go_at_call 49;refine (Lo.fo _ _ _ _).mono ?_;rintro e w1 ⟨rfl,rfl⟩;rw [DR.out])
     generalize xO:wr.alloc (.cells #[.int .i64 hand,.slice a1 li.length (sv k).c1,.slice a2 lo.length (sv k).c2,.int .i64 g0,.int .i64 g1,.int .i64 l0,.int .i64 l1] 53)=Qv;have sz1:Qv.heap.size=wr.heap.size+1:=by subst xO;simp
     have a9:∀j:Nat,Qv.cell? ⟨wr.heap.size,j,none⟩=(#[Value.int .i64 hand,.slice a1 li.length (sv k).c1,.slice a2 lo.length (sv k).c2,.int .i64 g0,.int .i64 g1,.int .i64 l0,.int .i64 l1]:Array Value)[j]?:=by subst xO;intro j;rw [dm _ _ _ _ rfl]
     have hm1:mB Qv (w.heap.size+1) (64*k) M:=by subst xO;exact HM.out.alloc _
     have hu1:mB Qv (w.heap.size+1+1) (64*k) Us:=by subst xO;exact HU.out.alloc _
     have hb1:Below (w.heap.size+1) W3 Qv:=by subst xO;exact En.out.alloc (by omega) _
     clear xO HM HU En k0 k1 k2 k3 k4 k5 k6 c0;generalize wr.heap.size=n1 at *;have A9:=dB a9;have HM:=dB hm1;have HB1:=dB hb1;clear a9 hm1 hb1;generalize hFI:uF b.dF.length M li Us=FI at HD;have HFI:=dB hFI;clear hFI
     go_loopw [35] (λi wr=>∃j:Nat,∃U':List Int,j<=li.length∧i= .int .i64 (j:Int)∧mB wr (w.heap.size+1+1) (64*k+j) U'∧Qv.grownBy wr (some (w.heap.size+1+1))∧uF b.dF.length M (li.drop j) U'=FI) (λi _=>li.length - (intOf i).toNat)
     case atStart=>exact ⟨0,Us,bq _,rfl,hu1,vC _ _,HFI.out⟩
     case round=>
      obtain ⟨j,U',hj,rfl,hu,hgr,hfi⟩:=hrel;clear hu1;have hbq:Below (w.heap.size+1) W3 wr:=HB1.out.grown hgr (by omega) (λj hj=>by simp at hj;omega)
      by_cases hjl:j<li.length
      ·have Vw:(j:Int)<(li.length:Int):=by omega
       obtain ⟨bc,of,rfl,hbc,hcc⟩:=hri.keep (HK.out wr hbq) (by omega);have r1:=KY hcc hjl;have hdd:=JQ b.dF.length M li U' j hjl;rw [hfi] at hdd;have c01:wr.cell? ⟨w.heap.size,1,none⟩=some (.slice ap b.dF.length cp):=Al.out wr hbq 1;have hmk:mB wr (w.heap.size+1) (64*k) M:=HM.out.kept hgr (by simp);generalize li[j]=p at *;have VG:=dB hbq;have HG:=dB hgr;have HDD:=dB hdd;clear hcc hbq hgr hdd hfi hri HFI;cases hb2:nQ p 0 ((b.dF.length:Int) - 1) with
       |false=>
        have zQ:=dB hb2;clear hb2
        go_wp2_with (go_at_call 49;refine (Lo.fo _ _ _ _).mono ?_;rintro e w1 ⟨rfl,rfl⟩;rw [zQ.out])
        go_ret;have e1:=HDD.out;rw [aj zQ.out] at e1;have e:=HD.out;rw [aa (by rw [DR.out];simp),e1,aj (by simp)] at e;exact ⟨by rw [<-HR.out,e];rfl,HB3.out.trans (VG.out.mono (by omega))⟩
       |true=>
        have hkey:keyOf Lo.prog 3 (.int .i64 p)=some (kI p):=aq2 p (by simp [nQ] at hb2;omega);have zQ:=dB hb2;clear hb2;cases hcm:M.contains p with
        |false=>
         have HCM:=dB hcm;clear hcm
         go_wp2_with (first
          |(go_at_call 49;refine (Lo.fo _ _ _ _).mono ?_;rintro e w1 ⟨rfl,rfl⟩;rw [zQ.out])
          |(at_lookup;refine gy _ rfl _ _ 133 rfl 3 4 Lo.Dq Lo.vD Lo.K7 (Lo.Ia _) (w.heap.size+1) _ _ rfl hmk _ _ rfl hkey false (by rw [yN,HCM.out]) ?_)
          |go_in)
         go_ret;have e1:=HDD.out;rw [aa (by rw [zQ.out];simp),aj HCM.out] at e1;have e:=HD.out;rw [aa (by rw [DR.out];simp),e1,aj (by simp)] at e;exact ⟨by rw [<-HR.out,e];rfl,HB3.out.trans (VG.out.mono (by omega))⟩
        |true=>
         have HCM:=dB hcm;clear hcm;cases XF:U'.contains p with
         |true=>
          have HCU:=dB XF;clear XF
          go_wp2_with (first
           |(go_at_call 49;refine (Lo.fo _ _ _ _).mono ?_;rintro e w1 ⟨rfl,rfl⟩;rw [zQ.out])
           |(at_lookup;refine gy _ rfl _ _ 133 rfl 3 4 Lo.Dq Lo.vD Lo.K7 (Lo.Ia _) (w.heap.size+1) _ _ rfl hmk _ _ rfl hkey true (by rw [yN,HCM.out]) ?_)
           |(at_lookup;refine gy _ rfl _ _ 133 rfl 3 4 Lo.Dq Lo.vD Lo.K7 (Lo.Ia _) (w.heap.size+1+1) _ _ rfl hu _ _ rfl hkey true (by rw [yN,HCU.out]) ?_)
           |go_in)
          go_ret;have e1:=HDD.out;rw [aa (by rw [zQ.out];simp),aa (by rw [HCM.out];simp),aj HCU.out] at e1;have e:=HD.out;rw [aa (by rw [DR.out];simp),e1,aj (by simp)] at e;exact ⟨by rw [<-HR.out,e];rfl,HB3.out.trans (VG.out.mono (by omega))⟩
         |false=>
          have HCU:=dB XF;clear XF
          go_wp2_with (first
           |(go_at_call 49;refine (Lo.fo _ _ _ _).mono ?_;rintro e w1 ⟨rfl,rfl⟩;rw [zQ.out])
           |(at_lookup;refine gy _ rfl _ _ 133 rfl 3 4 Lo.Dq Lo.vD Lo.K7 (Lo.Ia _) (w.heap.size+1) _ _ rfl hmk _ _ rfl hkey true (by rw [yN,HCM.out]) ?_)
           |(at_lookup;refine gy _ rfl _ _ 133 rfl 3 4 Lo.Dq Lo.vD Lo.K7 (Lo.Ia _) (w.heap.size+1+1) _ _ rfl hu _ _ rfl hkey false (by rw [yN,HCU.out]) ?_)
           |(at_mapUpdate;refine wpList_mapUpdate_own _ rfl _ _ _ 133 rfl 3 4 Lo.Dq Lo.vD _ (w.heap.size+1+1) _ _ rfl hu (by unfold maxLen;omega) _ _ _ rfl rfl hkey _ [] (plainElem_bool Lo.K7 true) ?_;intro w1 hown1 hgrow1)
           |go_in)
          have HO:=dB hown1;have HG1:=dB hgrow1;clear hown1 hgrow1 hu hmk;go_roundw
          case rel=>exact ⟨j+1,U'++ [p],by omega,by go_num,aa3 HO.out,HG.out.trans HG1.out,by
           have e1:=HDD.out;rw [aa (by rw [zQ.out];simp),aa (by rw [HCM.out];simp),aa (by rw [HCU.out];simp)] at e1;exact e1.symm⟩
          case measure=>simp [intOf];omega
      ·obtain rfl:j=li.length:=by omega
       rw [aF] at hfi;have hfi:FI=(0,U'):=hfi.symm;have VP:=dB hfi
       have c2:wr.cell? ⟨n1,2,none⟩=some (.slice a2 lo.length (sv k).c2):=by
        rw [dA (hgr.block n1 (by omega) (by simp;omega))];exact A9.out 2
       have hmk:mB wr (w.heap.size+1) (64*k) M:=HM.out.kept hgr (by simp);have HU2:=dB (show mB wr (w.heap.size+1+1) (64*(k+1)) U' from World.ownsMap.mono hu (by omega));have VG:=dB hbq;have HGA:=dB hgr;have szr:=hgr.size;generalize hFO:kX b.dF.length lo M=FO at HD;have HFO:=dB hFO;clear hFO hfi hu hgr hbq HM HB1 hri HFI
       go_wp2_with fail
       generalize wr=wr2 at *
       go_loopw [62] (λi wr=>∃j:Nat,∃M':List Int,j<=lo.length∧i= .int .i64 (j:Int)∧mB wr (w.heap.size+1) (64*k+j) M'∧wr2.grownBy wr (some (w.heap.size+1))∧kX b.dF.length (lo.drop j) M'=FO) (λi _=>lo.length - (intOf i).toNat)
       case atStart=>exact ⟨0,M,bq _,rfl,hmk,vC _ _,HFO.out⟩
       case round=>
        obtain ⟨j,M',hj,rfl,hm,hgr,hfo⟩:=hrel;clear hmk;have hbq:Below (w.heap.size+1) W3 wr:=VG.out.grown hgr (by omega) (λj hj=>by simp at hj;omega)
        by_cases hjl:j<lo.length
        ·have Vw:(j:Int)<(lo.length:Int):=by omega
         obtain ⟨bc,of,rfl,hbc,hcc⟩:=hro.keep (HK.out wr hbq) (by omega);have r1:=KY hcc hjl;have hdd:=Ib b.dF.length lo M' j hjl;rw [hfo] at hdd;have c01:wr.cell? ⟨w.heap.size,1,none⟩=some (.slice ap b.dF.length cp):=Al.out wr hbq 1;generalize lo[j]=p at *;have AL:=dB hbq;have HG:=dB hgr;have HDD:=dB hdd;clear hcc hbq hgr hdd hfo hro HFO c2;cases hb2:nQ p 0 ((b.dF.length:Int) - 1) with
         |false=>
          have zQ:=dB hb2;clear hb2
          go_wp2_with (go_at_call 49;refine (Lo.fo _ _ _ _).mono ?_;rintro e w1 ⟨rfl,rfl⟩;rw [zQ.out])
          go_ret;have e1:=HDD.out;rw [aj zQ.out] at e1;have e:=HD.out;rw [aa (by rw [DR.out];simp),VP.out,aa (by simp),e1,aj (by simp)] at e;exact ⟨by rw [<-HR.out,e];rfl,HB3.out.trans (AL.out.mono (by omega))⟩
         |true=>
          have hkey:keyOf Lo.prog 3 (.int .i64 p)=some (kI p):=aq2 p (by simp [nQ] at hb2;omega);have zQ:=dB hb2;clear hb2;cases hcm:M'.contains p with
          |true=>
           have HCM:=dB hcm;clear hcm
           go_wp2_with (first
            |(go_at_call 49;refine (Lo.fo _ _ _ _).mono ?_;rintro e w1 ⟨rfl,rfl⟩;rw [zQ.out])
            |(at_lookup;refine gy _ rfl _ _ 133 rfl 3 4 Lo.Dq Lo.vD Lo.K7 (Lo.Ia _) (w.heap.size+1) _ _ rfl hm _ _ rfl hkey true (by rw [yN,HCM.out]) ?_)
            |go_in)
           go_ret;have e1:=HDD.out;rw [aa (by rw [zQ.out];simp),aj HCM.out] at e1;have e:=HD.out;rw [aa (by rw [DR.out];simp),VP.out,aa (by simp),e1,aj (by simp)] at e;exact ⟨by rw [<-HR.out,e];rfl,HB3.out.trans (AL.out.mono (by omega))⟩
          |false=>
           have HCM:=dB hcm;clear hcm
           go_wp2_with (first
            |(go_at_call 49;refine (Lo.fo _ _ _ _).mono ?_;rintro e w1 ⟨rfl,rfl⟩;rw [zQ.out])
            |(at_lookup;refine gy _ rfl _ _ 133 rfl 3 4 Lo.Dq Lo.vD Lo.K7 (Lo.Ia _) (w.heap.size+1) _ _ rfl hm _ _ rfl hkey false (by rw [yN,HCM.out]) ?_)
            |(at_mapUpdate;refine wpList_mapUpdate_own _ rfl _ _ _ 133 rfl 3 4 Lo.Dq Lo.vD _ (w.heap.size+1) _ _ rfl hm (by unfold maxLen;omega) _ _ _ rfl rfl hkey _ [] (plainElem_bool Lo.K7 true) ?_;intro w1 hown1 hgrow1)
            |go_in)
           have HO:=dB hown1;have HG1:=dB hgrow1;clear hown1 hgrow1 hm;go_roundw
           case rel=>exact ⟨j+1,M'++ [p],by omega,by go_num,aa3 HO.out,HG.out.trans HG1.out,by
            have e1:=HDD.out;rw [aa (by rw [zQ.out];simp),aa (by rw [HCM.out];simp)] at e1;exact e1.symm⟩
           case measure=>simp [intOf];omega
        ·obtain rfl:j=lo.length:=by omega
         rw [aF] at hfo;have hfo:FO=(0,M'):=hfo.symm;have af9:=dB hfo
         have aq3:M'.Nodup:=by
          have :=zP (np:=b.dF.length) (l:=lo) (M:=M) hnd (by rw [HFO.out,hfo]);rw [HFO.out,hfo] at this;exact this
         have cc:∀j:Nat,wr.cell? ⟨n1,j,none⟩=wr2.cell? ⟨n1,j,none⟩:= λj=>dA (hgr.block n1 (by omega) (by simp;omega))
         have cd:∀j:Nat,wr2.cell? ⟨n1,j,none⟩=Qv.cell? ⟨n1,j,none⟩:= λj=>dA (HGA.out.block n1 (by omega) (by simp;omega))
         have c3:wr.cell? ⟨n1,3,none⟩=some (.int .i64 g0):=(cc 3).trans ((cd 3).trans (A9.out 3));have c4:wr.cell? ⟨n1,3+1,none⟩=some (.int .i64 g1):=(cc 4).trans ((cd 4).trans (A9.out 4));have c5:wr.cell? ⟨n1,5,none⟩=some (.int .i64 l0):=(cc 5).trans ((cd 5).trans (A9.out 5));have c6:wr.cell? ⟨n1,5+1,none⟩=some (.int .i64 l1):=(cc 6).trans ((cd 6).trans (A9.out 6));have hgs:=hgr.size;have AL:=dB hbq;have HMM:=dB (show mB wr (w.heap.size+1) (64*(k+1)) M' from World.ownsMap.mono hm (by omega));have HUU:=dB (show mB wr (w.heap.size+1+1) (64*(k+1)) U' from HU2.out.kept hgr (by simp));have HND:=dB aq3;clear hfo hm hgr hbq HFO cc cd HU2 VG HGA hro hnd aq3;have szq:=AL.out.size;have szg:=hgs;cases hi1:fC g0 g1 0 1000000 with
         |false=>
          have HI1:=dB hi1;clear hi1
          go_wp2_with (go_at_call 50;refine (Lo.lV _ _ _ _ _).mono ?_;rintro e w1 ⟨rfl,hb1⟩;rw [HI1.out])
          go_ret;have e:=HD.out;rw [aa (by rw [DR.out];simp),VP.out,aa (by simp),af9.out,aa (by simp),aj HI1.out] at e;exact ⟨by rw [<-HR.out,e];rfl,HB3.out.trans ((AL.out.trans (hb1.mono (by omega))).mono (by omega))⟩
         |true=>
          have HI1:=dB hi1;clear hi1;cases hi2:fC l0 l1 0 1000000 with
          |false=>
           have HI2:=dB hi2;clear hi2
           go_wp2_with (first
            |(go_at_call 50;refine (Lo.lV _ _ _ _ _).mono ?_;rintro e w1 ⟨rfl,hb1⟩;rw [HI1.out];have d5:=(dP hb1 n1 5 (by omega)).trans c5;have d6:=(dP hb1 n1 (5+1) (by omega)).trans c6)
            |(go_at_call 50;refine (Lo.lV _ _ _ _ _).mono ?_;rintro e w2 ⟨rfl,hb2⟩;rw [HI2.out]))
           go_ret;have e:=HD.out;rw [aa (by rw [DR.out];simp),VP.out,aa (by simp),af9.out,aa (by simp),aa (by rw [HI1.out];simp),aj HI2.out] at e;exact ⟨by rw [<-HR.out,e];rfl,HB3.out.trans (((AL.out.trans (hb1.mono (by omega))).trans (hb2.mono (by have :=hb1.size;omega))).mono (by omega))⟩
          |true=>
           have HI2:=dB hi2;clear hi2
           go_wp2_with (first
            |(go_at_call 50;refine (Lo.lV _ _ _ _ _).mono ?_;rintro e w1 ⟨rfl,hb1⟩;rw [HI1.out];have d5:=(dP hb1 n1 5 (by omega)).trans c5;have d6:=(dP hb1 n1 (5+1) (by omega)).trans c6)
            |(go_at_call 50;refine (Lo.lV _ _ _ _ _).mono ?_;rintro e w2 ⟨rfl,hb2⟩;rw [HI2.out]))
           have hzz:=hb1.size;have ay0:=dB ((HMM.out.kept (below_grown hb1 rfl none) (by simp)).kept (below_grown hb2 rfl none) (by simp));have ay1:=dB ((HUU.out.kept (below_grown hb1 rfl none) (by simp)).kept (below_grown hb2 rfl none) (by simp));have IY:=dB ((AL.out.trans (hb1.mono (by omega))).trans (hb2.mono (by omega)));clear hb1 hb2 HMM HUU AL;go_roundw
           case rel=>exact ⟨k+1,M',U',by omega,by go_num,ay0.out,ay1.out,IY.out,by
            have e:=HD.out;rw [aa (by rw [DR.out];simp),VP.out,aa (by simp),af9.out,aa (by simp),aa (by rw [HI1.out];simp),aa (by rw [HI2.out];simp)] at e;exact e.symm,HND.out⟩
           case measure=>simp [intOf];omega
   ·obtain rfl:k=b.steps.length:=by omega
    rw [aF] at Bp;have hF:F=(0,M):=Bp.symm;have c01:wr.cell? ⟨w.heap.size,1,none⟩=some (.slice ap b.dF.length cp):=Al.out wr hbl 1;have hsz:=SG M hnd;have HF2:=dB hF;have HS:=dB hsz;have En:=dB hbl;clear hF Bp hsz hbl HF
    by_cases hlp:M.length<b.dF.length
    ·have aq4:(M.length:Int)<(b.dF.length:Int):=by omega
     go_wp2_with (first
      |(at_len;refine wpList_len_own _ rfl _ 133 rfl 3 4 Lo.vD _ (w.heap.size+1) _ _ rfl hmk ?_;rw [HS.out])
      |go_in)
     go_ret;have e:=HR.out;rw [HF2.out,aa (by simp),aj hlp] at e;exact ⟨by rw [<-e];rfl,HB3.out.trans (En.out.mono (by omega))⟩
    ·have aq4:¬(M.length:Int)<(b.dF.length:Int):=by omega
     go_wp2_with (first
      |(at_len;refine wpList_len_own _ rfl _ 133 rfl 3 4 Lo.vD _ (w.heap.size+1) _ _ rfl hmk ?_;rw [HS.out])
      |go_in)
     go_ret;have e:=HR.out;rw [HF2.out,aa (by simp),aa (by simpa using aq4)] at e;exact ⟨by rw [<-e];rfl,HB3.out.trans (En.out.mono (by omega))⟩
end
section
variable [Lo.St]
theorem Dr (np:Nat) (l:List lW) (k:Nat) (h:k<l.length):kZ np (l.drop k)=if nQ l[k].pile 0 ((np:Int) - 1)=false then 6 else if fC l[k].lo l[k].hi 0 1000000=false then 1 else kZ np (l.drop (k+1)):=by
 rw [aW h];rfl
theorem Lo.yO {w:World} {B:Nat} {b:dY} {v:gK} {x:Value} (hx:x=eH b v) (hb:fJ w B b v) (hB:B<=w.heap.size) (hg:b.small):
 Calls Lo.prog 48 #[x] w λe w'=>e= .returned (.int .i64 (fO b))∧Below w.heap.size w w':=hx ▸ Lo.Ic hb hB hg
theorem Lo.Bh {w:World} {B:Nat} {b:dY} {v:gK} (hb:fJ w B b v) (hB:B<=w.heap.size) (hg:b.small):
 Calls Lo.prog 17 #[eH b v] w λe w'=>e= .returned (.int .i64 (fP b))∧Below w.heap.size w w':=by
 obtain ⟨U,U2,U3,U4,U5,U6⟩:=Lo.facts;have C:=Lo.call Tryz.func49;have C2:=Lo.call Tryz.func50;have C3:=Lo.call Tryz.func47;have C4:=Lo.call Tryz.func48;have hl1:=hg.dR;have hl2:=hg.dF;have hl4:=hg.dJ;have O1:=dB hb;have h1:=hb.dR;have h2:=hb.dF;have h6:=hb.dJ;have q1:=hb.lh;have q2:=hb.lp;clear hb;have hbv:Value.agg #[.slice v.ah b.dR.length v.ch,.slice v.ap b.dF.length v.cp,.slice v.jY b.steps.length v.cs,.slice v.ac b.dJ.length v.cc]=eH b v:=rfl;generalize hR:fP b=R;unfold fP at hR;have HR:=dB hR;clear hR;rw [<-hbv];have jJ:=dB hbv;clear hbv;generalize v.ah=ah at h1 q1 jJ ⊢;generalize v.ch=ch at q1 jJ ⊢;generalize v.ap=ap at h2 q2 jJ ⊢;generalize v.cp=cp at q2 jJ ⊢;generalize v.jY=jY at jJ ⊢;generalize v.cs=cs at jJ ⊢;generalize v.ac=ac at h6 jJ ⊢;generalize v.cc=cc at jJ ⊢;have bA:Below w.heap.size w (w.alloc (.cells #[.slice ah b.dR.length ch,.slice ap b.dF.length cp,.slice jY b.steps.length cs,.slice ac b.dJ.length cc] 26)):=(dz _ _).alloc (aJ _) _;have cA:∀j:Nat,(w.alloc (.cells #[.slice ah b.dR.length ch,.slice ap b.dF.length cp,.slice jY b.steps.length cs,.slice ac b.dJ.length cc] 26)).cell? ⟨w.heap.size,j,none⟩=(#[Value.slice ah b.dR.length ch,.slice ap b.dF.length cp,.slice jY b.steps.length cs,.slice ac b.dJ.length cc]:Array Value)[j]?:= λj=>by rw [dm _ _ _ _ rfl]
 have a1:KU (w.alloc (.cells #[.slice ah b.dR.length ch,.slice ap b.dF.length cp,.slice jY b.steps.length cs,.slice ac b.dJ.length cc] 26)) B ah b.dR:=h1.keep λb o h=>dP bA b o (by omega)
 have a2:KU (w.alloc (.cells #[.slice ah b.dR.length ch,.slice ap b.dF.length cp,.slice jY b.steps.length cs,.slice ac b.dJ.length cc] 26)) B ap b.dF:=h2.keep λb o h=>dP bA b o (by omega)
 have a3:fJ (w.alloc (.cells #[.slice ah b.dR.length ch,.slice ap b.dF.length cp,.slice jY b.steps.length cs,.slice ac b.dJ.length cc] 26)) B b v:=O1.out.keep λb o h=>dP bA b o (by omega)
 have HC:=dB cA;have HA1:=dB a1;have HA2:=dB a2;have HA3:=dB a3;have MZ:=dB bA;clear cA a1 a2 a3 bA h1 h2 O1;generalize hx1:eB b.dR 4=x1 at HR;have X1:=dB hx1;generalize hx2:eB b.dF 12=x2 at HR;have X2:=dB hx2;generalize hx3:fO b=x3 at HR;have X3:=dB hx3;clear hx1 hx2 hx3
 by_cases z1:x1=0
 ·subst z1;have e1:=HR.out;rw [aa (by simp)] at e1;clear HR;have HR:=dB e1;clear e1
  by_cases z2:x2=0
  ·subst z2;have e1:=HR.out;rw [aa (by simp)] at e1;clear HR;have HR:=dB e1;clear e1
   by_cases z3:x3=0
   ·subst z3;have e1:=HR.out;rw [aa (by simp)] at e1;clear HR;have HR:=dB e1;clear e1
    by_cases hgt:10<b.dJ.length
    ·have OY:(10:Int)<(b.dJ.length:Int):=by omega
     go_enter Lo.get Tryz.func17,Tryz.ntmps17
     go_wp2_with (first
      |(go_at_call 48;refine (Lo.yO jJ.out (HA3.out.keep λb o h=>dP HB2.out b o (by simp;omega)) (by have :=HB2.out.size;simp at this;omega) hg).mono ?_;rintro e w3 ⟨rfl,hb3⟩;rw [X3.out];have HB3:=dB (HB2.out.trans (hb3.mono HB2.out.size));clear hb3;have g1:=(dP HB3.out w.heap.size 1 (by simp)).trans (HC.out 1);have g3:=(dP HB3.out w.heap.size 3 (by simp)).trans (HC.out 3))
      |(go_at_call 47;refine (Lo.iq (most:=12) (HA2.out.keep λb o h=>dP HB1.out b o (by simp;omega)) hl2 q2 (by have :=HB1.out.size;simp at this;omega) (by omega)).mono ?_;rintro e w2 ⟨rfl,hb2⟩;rw [X2.out];have HB2:=dB (HB1.out.trans (hb2.mono HB1.out.size));clear hb2;have f0:=(dP HB2.out w.heap.size 0 (by simp)).trans (HC.out 0);have f1:=(dP HB2.out w.heap.size 1 (by simp)).trans (HC.out 1);have f2:=(dP HB2.out w.heap.size 2 (by simp)).trans (HC.out 2);have f3:=(dP HB2.out w.heap.size 3 (by simp)).trans (HC.out 3))
      |(go_at_call 47;refine (Lo.iq (most:=4) (HA1.out) hl1 q1 (by simp;omega) (by omega)).mono ?_;rintro e w1 ⟨rfl,hb1⟩;rw [X1.out];have d1:=(dP hb1 w.heap.size 1 (by simp)).trans (HC.out 1);have HB1:=dB hb1;clear hb1))
     go_ret;exact ⟨by rw [<-HR.out,aj hgt];rfl,(MZ.out.trans (HB3.out.mono (by simp)))⟩
    ·have OY:¬(10:Int)<(b.dJ.length:Int):=by omega
     have e1:=HR.out;rw [aa hgt] at e1;clear HR;have HR:=dB e1;clear e1;go_enter Lo.get Tryz.func17,Tryz.ntmps17
     go_wp2_with (first
      |(go_at_call 48;refine (Lo.yO jJ.out (HA3.out.keep λb o h=>dP HB2.out b o (by simp;omega)) (by have :=HB2.out.size;simp at this;omega) hg).mono ?_;rintro e w3 ⟨rfl,hb3⟩;rw [X3.out];have HB3:=dB (HB2.out.trans (hb3.mono HB2.out.size));clear hb3;have g1:=(dP HB3.out w.heap.size 1 (by simp)).trans (HC.out 1);have g3:=(dP HB3.out w.heap.size 3 (by simp)).trans (HC.out 3))
      |(go_at_call 47;refine (Lo.iq (most:=12) (HA2.out.keep λb o h=>dP HB1.out b o (by simp;omega)) hl2 q2 (by have :=HB1.out.size;simp at this;omega) (by omega)).mono ?_;rintro e w2 ⟨rfl,hb2⟩;rw [X2.out];have HB2:=dB (HB1.out.trans (hb2.mono HB1.out.size));clear hb2;have f0:=(dP HB2.out w.heap.size 0 (by simp)).trans (HC.out 0);have f1:=(dP HB2.out w.heap.size 1 (by simp)).trans (HC.out 1);have f2:=(dP HB2.out w.heap.size 2 (by simp)).trans (HC.out 2);have f3:=(dP HB2.out w.heap.size 3 (by simp)).trans (HC.out 3))
      |(go_at_call 47;refine (Lo.iq (most:=4) (HA1.out) hl1 q1 (by simp;omega) (by omega)).mono ?_;rintro e w1 ⟨rfl,hb1⟩;rw [X1.out];have d1:=(dP hb1 w.heap.size 1 (by simp)).trans (HC.out 1);have HB1:=dB hb1;clear hb1))
     have H6:=dB (h6.keep λb o h=>(dP (MZ.out.trans (HB3.out.mono (by simp))) b o (by omega)));have HBW:=dB (MZ.out.trans (HB3.out.mono (by simp)));have sz3:=HB3.out.size;simp at sz3;clear h6;generalize w3=w9 at *;have HX:Hid (kZ b.dF.length b.dJ=R):=HR;clear HR HB3 HB2 HB1 HA1 HA2 HA3 HC MZ f0 f1 f2 f3 d1 X1 X2 X3 jJ
     go_loopw [32] (λi wr=>∃k:Nat,k<=b.dJ.length∧i= .int .i64 (k:Int)∧kZ b.dF.length (b.dJ.drop k)=R∧Below w9.heap.size w9 wr) (λi _=>b.dJ.length - (intOf i).toNat)
     case atStart=>exact ⟨0,bq _,rfl,HX.out,dz _ _⟩
     case round=>
      obtain ⟨k,hk,rfl,hx,hb⟩:=hrel
      by_cases hlt:k<b.dJ.length
      ·have hlt':(k:Int)<(b.dJ.length:Int):=by omega
       have h6k:=H6.out.keep λb o h=>dP hb b o (by omega)
       obtain ⟨bb,off,rfl,hbb,hc⟩:=h6k (by omega);obtain ⟨r0,r1,r2⟩:=Hq hc hlt;have hd:=Dr b.dF.length b.dJ k hlt;rw [hx] at hd;have c1:∀o,(wr.alloc o).cell? ⟨w.heap.size,1,none⟩=some (.slice ap b.dF.length cp):= λo=>(dx _ _ _ (by have :=hb.size;show w.heap.size<wr.heap.size;omega)).trans ((dP hb _ _ (by omega)).trans g1)
       have szr:=hb.size;generalize b.dJ[k]=sc at *;have HD:=dB hd;have HB:=dB hb;clear hx hd hb hc h6k HX;cases hbt:nQ sc.pile 0 ((b.dF.length:Int) - 1) with
       |false=>
        have DR:=dB hbt;clear hbt
        go_wp2_with (go_at_call 49;refine (Lo.fo _ _ _ _).mono ?_;rintro e w1 ⟨rfl,rfl⟩;rw [DR.out])
        go_ret;exact ⟨by rw [HD.out,aj DR.out];rfl,HBW.out.trans ((HB.out.alloc (by omega) _).mono (by omega))⟩
       |true=>
        have DR:=dB hbt;clear hbt;have s1:∀o,(wr.alloc o).heap[wr.heap.size]?=some o:= λo=>heap_alloc_new wr o
        clear s1;cases hin:fC sc.lo sc.hi 0 1000000 with
        |false=>
         have HI:=dB hin;clear hin
         go_wp2_with (first
          |(go_at_call 49;refine (Lo.fo _ _ _ _).mono ?_;rintro e w1 ⟨rfl,rfl⟩;rw [DR.out])
          |(go_at_call 50;refine (Lo.lV _ _ _ _ _).mono ?_;rintro e w1 ⟨rfl,hb1⟩;rw [HI.out]))
         go_ret;exact ⟨by rw [HD.out,aa (by rw [DR.out];simp),aj HI.out];rfl,HBW.out.trans (((HB.out.alloc (by omega) _).trans (hb1.mono (by simp;omega))).mono (by omega))⟩
        |true=>
         have HI:=dB hin;clear hin
         go_wp2_with (first
          |(go_at_call 49;refine (Lo.fo _ _ _ _).mono ?_;rintro e w1 ⟨rfl,rfl⟩;rw [DR.out])
          |(go_at_call 50;refine (Lo.lV _ _ _ _ _).mono ?_;rintro e w1 ⟨rfl,hb1⟩;rw [HI.out]))
         have HB9:=dB ((HB.out.alloc (by omega) _).trans (hb1.mono (by simp;omega)));clear hb1 HB c1;go_roundw
         case rel=>exact ⟨k+1,by omega,by go_num,by rw [HD.out,aa (by rw [DR.out];simp),aa (by rw [HI.out];simp)],HB9.out⟩
         case measure=>simp [intOf];omega
      ·obtain rfl:k=b.dJ.length:=by omega
       rw [aF] at hx;have HX2:=dB hx;clear hx HX
       go_wp2_with fail
       go_ret;exact ⟨by rw [<-HX2.out];rfl,HBW.out.trans (hb.mono (by omega))⟩
   ·go_enter Lo.get Tryz.func17,Tryz.ntmps17
    go_wp2_with (first
     |(go_at_call 48;refine (Lo.yO jJ.out (HA3.out.keep λb o h=>dP HB2.out b o (by simp;omega)) (by have :=HB2.out.size;simp at this;omega) hg).mono ?_;rintro e w3 ⟨rfl,hb3⟩;rw [X3.out];have HB3:=dB (HB2.out.trans (hb3.mono HB2.out.size));clear hb3;have g1:=(dP HB3.out w.heap.size 1 (by simp)).trans (HC.out 1);have g3:=(dP HB3.out w.heap.size 3 (by simp)).trans (HC.out 3))
     |(go_at_call 47;refine (Lo.iq (most:=12) (HA2.out.keep λb o h=>dP HB1.out b o (by simp;omega)) hl2 q2 (by have :=HB1.out.size;simp at this;omega) (by omega)).mono ?_;rintro e w2 ⟨rfl,hb2⟩;rw [X2.out];have HB2:=dB (HB1.out.trans (hb2.mono HB1.out.size));clear hb2;have f0:=(dP HB2.out w.heap.size 0 (by simp)).trans (HC.out 0);have f1:=(dP HB2.out w.heap.size 1 (by simp)).trans (HC.out 1);have f2:=(dP HB2.out w.heap.size 2 (by simp)).trans (HC.out 2);have f3:=(dP HB2.out w.heap.size 3 (by simp)).trans (HC.out 3))
     |(go_at_call 47;refine (Lo.iq (most:=4) (HA1.out) hl1 q1 (by simp;omega) (by omega)).mono ?_;rintro e w1 ⟨rfl,hb1⟩;rw [X1.out];have d1:=(dP hb1 w.heap.size 1 (by simp)).trans (HC.out 1);have HB1:=dB hb1;clear hb1))
    go_ret;exact ⟨by rw [<-HR.out,aj z3];rfl,(MZ.out.trans (HB3.out.mono (by simp)))⟩
  ·go_enter Lo.get Tryz.func17,Tryz.ntmps17
   go_wp2_with (first
    |(go_at_call 47;refine (Lo.iq (most:=12) (HA2.out.keep λb o h=>dP HB1.out b o (by simp;omega)) hl2 q2 (by have :=HB1.out.size;simp at this;omega) (by omega)).mono ?_;rintro e w2 ⟨rfl,hb2⟩;rw [X2.out];have HB2:=dB (HB1.out.trans (hb2.mono HB1.out.size));clear hb2;have f0:=(dP HB2.out w.heap.size 0 (by simp)).trans (HC.out 0);have f1:=(dP HB2.out w.heap.size 1 (by simp)).trans (HC.out 1);have f2:=(dP HB2.out w.heap.size 2 (by simp)).trans (HC.out 2);have f3:=(dP HB2.out w.heap.size 3 (by simp)).trans (HC.out 3))
    |(go_at_call 47;refine (Lo.iq (most:=4) (HA1.out) hl1 q1 (by simp;omega) (by omega)).mono ?_;rintro e w1 ⟨rfl,hb1⟩;rw [X1.out];have d1:=(dP hb1 w.heap.size 1 (by simp)).trans (HC.out 1);have HB1:=dB hb1;clear hb1))
   go_ret;exact ⟨by rw [<-HR.out,aj z2];rfl,(MZ.out.trans (HB2.out.mono (by simp)))⟩
 ·go_enter Lo.get Tryz.func17,Tryz.ntmps17
  go_wp2_with (go_at_call 47;refine (Lo.iq (most:=4) (HA1.out) hl1 q1 (by simp;omega) (by omega)).mono ?_;rintro e w1 ⟨rfl,hb1⟩;rw [X1.out];have d1:=(dP hb1 w.heap.size 1 (by simp)).trans (HC.out 1);have HB1:=dB hb1;clear hb1)
  go_ret;exact ⟨by rw [<-HR.out,aj z1];rfl,(MZ.out.trans (HB1.out.mono (by simp)))⟩
end
section
variable [Lo.St]
theorem Ie:∀(ss:List fG) (i j:Nat),i<ss.length->j<4->(kW ss)[i*4+j]?=some (yI ss i j)
 | [],i,j,hi,_=>absurd hi (by simp)
 |x::ss,0,j,_,hj=>by
  match j,hj with
  |0,_=>rfl
  |1,_=>rfl
  |2,_=>rfl
  |3,_=>rfl
 |x::ss,i+1,j,hi,hj=>by
  have ih:=Ie ss i j (by simpa using hi) hj;have e:kW (x::ss)= [.int .i64 x.lo,.int .i64 x.hi,.int .i64 (x.fr:Int),.int .i64 (x.to:Int)]++kW ss:=rfl;rw [e,List.getElem?_append_right (by simp;omega)];rw [show (i+1)*4+j - [Value.int .i64 x.lo,.int .i64 x.hi,.int .i64 (x.fr:Int),.int .i64 (x.to:Int)].length=i*4+j by simp;omega,ih];rfl
theorem ownsRow.rd {w:World} {base e size n B:Nat} {v:Value} {xs:List Value} {f:Nat->Nat->Value} (h:w.ownsRow base e size v n xs) (hf:∀i j,i<n->j<size->xs[i*size+j]?=some (f i j)):∃A cap,v= .slice A n cap∧n<=cap∧∀m,m<=n->(w.heap.size<=B->Rd w B size A m f):=by
 obtain ⟨hl,h⟩:=h;rcases h with ⟨rfl,rfl⟩|⟨g,cap,cur,rfl,hb,hg,h1,h2,h3,h4⟩
 ·exact ⟨none,0,rfl,aJ _, λm hm _ h=>absurd h (by omega)⟩
 ·refine ⟨_,cap,rfl,h1, λm hm hB _=>⟨g,0,rfl,aK (aI.1 hg).1 hB, λi j hi hj=>?_⟩⟩;have hx:=hf i j (by omega) hj;rw [<-h4] at hx;unfold World.cell?;simp only [hg];rw [List.getElem?_take] at hx;split at hx
  ·rw [Nat.zero_add];simpa using hx
  ·cases hx
theorem gD.at {w:World} {b base st nd:Nat} {ss:List fG} {v:Value} (h:gD w b base st nd ss v) (hok:∀x∈ss,x.ok) (hlen:ss.length<=64):∃A cap,v= .slice A ss.length cap∧mq w w.heap.size b ss st nd A cap:=by
 obtain ⟨A,cap,rfl,_,hr⟩:=ownsRow.rd (B:=w.heap.size) (f:=yI ss) h.row (λi j hi hj=>Ie ss i j hi hj);obtain ⟨a,b,c,_⟩:=jT h.blk;exact ⟨A,cap,rfl,(aI.1 h.blk).1,a,b,c,hr _ (aJ _) (aJ _),hok,hlen⟩
theorem Qx (b:dY) (hand:Int) (hg:b.good):(fQ b hand).length<=64:=by
 have :=hg.n8;have :=hg.p12;rw [Dk];split<;>omega
theorem Ig (b:dY) (hand:Int) (hg:b.good):fe b hand<=16:=by
 have :=hg.n8;unfold fe;split<;>omega
theorem Lo.Ao {w:World} {B:Nat} {b:dY} {v:gK} {x:Value} (hx:x=eH b v) (hb:fJ w B b v) (hB:B<=w.heap.size) (hg:b.good) (hand:Int) (hh: -1<=hand∧hand<=64):
 Calls Lo.prog 56 #[x,.int .i64 hand] w λe w'=>∃bw A cap,e= .returned (.pointer (some ⟨bw,0,none⟩))∧mq w' w'.heap.size bw (fQ b hand) b.steps.length (fe b hand) A cap∧Below w.heap.size w w':=by
 subst hx;refine (Lo.JO hb hB hg hand hh).mono λe w' h=>?_
 obtain ⟨bw,v,e1,_,_,hw,hbe⟩:=h;obtain ⟨A,cap,_,hwa⟩:=hw.at (Qt b hand hg) (Qx b hand hg);exact ⟨bw,A,cap,e1,hwa,hbe⟩
def wD (w:World) (b:dY) (hand:Int) (e:Ending) (w':World):Prop:=
 if ic (fQ b hand) (fe b hand)=true then ∃v,e= .returned (.tuple #[v,.int .i64 0])∧w'.ownsRow w.heap.size 51 2 v (fQ b hand).length (jA (qg (fQ b hand) (fe b hand)))∧Par.eU w' v∧Below w.heap.size w w'
 else e= .returned (.tuple #[.slice none 0 0,.int .i64 9])∧Below w.heap.size w w'
def jZ (b:dY) (v:gK):Array Value:= #[.slice v.ah b.dR.length v.ch,.slice v.ap b.dF.length v.cp,.slice v.jY b.steps.length v.cs,.slice v.ac b.dJ.length v.cc]
theorem Lo.Ep {w:World} {B:Nat} {b:dY} {v:gK} {x:Value} (hx:x=eH b v) (hb:fJ w B b v) (hB:B<=w.heap.size) (hg:b.good) (hand:Int) (hh: -1<=hand∧hand<=64):
 Calls Lo.prog 43 #[x,.int .i64 hand] w (wD w b hand):=by
 obtain ⟨U,U2,U3,U4,U5,U6⟩:=Lo.facts;have C:=Lo.call Tryz.func56;have C2:=Lo.call Tryz.func57;have C3:=Lo.call Tryz.func79;subst hx;have hbv:Value.agg #[.slice v.ah b.dR.length v.ch,.slice v.ap b.dF.length v.cp,.slice v.jY b.steps.length v.cs,.slice v.ac b.dJ.length v.cc]=eH b v:=rfl;rw [<-hbv];have hb1:fJ (w.alloc (.cells #[.slice v.ah b.dR.length v.ch,.slice v.ap b.dF.length v.cp,.slice v.jY b.steps.length v.cs,.slice v.ac b.dJ.length v.cc] 26)) B b v:=hb.keep λb o h=>dx _ _ _ (by show b<w.heap.size;omega)
 have jJ:=dB hbv;have HB1:=dB hb1;have hnd:=Ig b hand hg;clear hbv hb1 hb;generalize v.ah=ah at jJ HB1 ⊢;generalize v.ch=ch at jJ HB1 ⊢;generalize v.ap=ap at jJ HB1 ⊢;generalize v.cp=cp at jJ HB1 ⊢;generalize v.jY=jY at jJ HB1 ⊢;generalize v.cs=cs at jJ HB1 ⊢;generalize v.ac=ac at jJ HB1 ⊢;generalize v.cc=cc at jJ HB1 ⊢;cases hho:ic (fQ b hand) (fe b hand) with
 |false=>
  have HH:=dB hho;clear hho;go_enter Lo.get Tryz.func43,Tryz.ntmps43
  go_wp2_with (first
   |(go_at_call 56;refine (Lo.Ao jJ.out HB1.out (by simp;omega) hg _ hh).mono ?_;rintro e w1 ⟨bw,A,cap,rfl,hw,hb1⟩;have HW:=dB hw;have HB2:=dB hb1;clear hw hb1)
   |(go_at_call 57;refine (Lo.uK HW.out (aJ _) hnd).mono ?_;rintro e w2 ⟨rfl,hb2⟩;rw [HH.out]))
  go_ret2
  show wD _ _ _ _ _;unfold wD;rw [aa (by rw [HH.out];simp)];exact ⟨rfl,(((dz _ _).alloc (aJ _) _).trans (HB2.out.mono (by simp))).trans (hb2.mono (by have :=HB2.out.size;simp at this;omega))⟩
 |true=>
  have HH:=dB hho;clear hho;go_enter Lo.get Tryz.func43,Tryz.ntmps43
  go_wp2_with (first
   |(go_at_call 56;refine (Lo.Ao jJ.out HB1.out (by simp;omega) hg _ hh).mono ?_;rintro e w1 ⟨bw,A,cap,rfl,hw,hb1⟩;have HW:=dB hw;have HB2:=dB hb1;clear hw hb1)
   |(go_at_call 57;refine (Lo.uK HW.out (aJ _) hnd).mono ?_;rintro e w2 ⟨rfl,hb2⟩;rw [HH.out];have HB3:=dB hb2;clear hb2)
   |(go_at_call 79;refine (Lo.SC (HW.out.keep λb o h=>dP HB3.out b o h) HB3.out.size hnd).mono ?_;rintro e w3 ⟨v,rfl,hown,hpl,hb3⟩;have HO:=dB hown;have HP:=dB hpl;have AL:=dB hb3;clear hown hpl hb3))
  go_ret2
  show wD _ _ _ _ _;unfold wD;rw [aj HH.out];have s2:=HB2.out.size;have s3:=HB3.out.size;simp at s2;exact ⟨_,rfl,ownsRow.base HO.out (by omega),HP.out,((((dz _ _).alloc (aJ _) _).trans (HB2.out.mono (by simp))).trans (HB3.out.mono (by omega))).trans (AL.out.mono (by omega))⟩
end
section
variable [Lo.St]
def nG (w:World) (A:Option Addr) (n:Nat) (o:List Int):Prop:=Rd w w.heap.size 2 A n λi j=>.int .i64 ((o[2*i+j]?).getD 0)
theorem nG.below {w w':World} {A:Option Addr} {n:Nat} {o:List Int} (h:nG w A n o) (hb:Below w.heap.size w w'):nG w' A n o:= λhn=>by
 obtain ⟨b,off,e,h1,h2⟩:=h hn;exact ⟨b,off,e,aK h1 hb.size, λi j hi hj=>(dP hb _ _ h1).trans (h2 i j hi hj)⟩
theorem zR (o:List Int) {n i j:Nat} (hl:o.length=2*n) (hi:i<n) (hj:j<2):(jA o)[i*2+j]?=some (.int .i64 ((o[2*i+j]?).getD 0)):=by
 rw [show i*2+j=2*i+j from by omega];exact yK o (by omega)
theorem Lo.Aq {w:World} {B:Nat} {b:dY} {v:gK} {x:Value} (hx:x=eH b v) (hb:fJ w B b v) (hB:B<=w.heap.size) (hg:b.good) (hand:Int) (hh: -1<=hand∧hand<=64) (hho:ic (fQ b hand) (fe b hand)=true):
 Calls Lo.prog 43 #[x,.int .i64 hand] w λe w'=>∃A cap,e= .returned (.tuple #[.slice A (fQ b hand).length cap,.int .i64 0])∧(fQ b hand).length<=cap∧(∀m,m<=(fQ b hand).length->nG w' A m (qg (fQ b hand) (fe b hand)))∧Below w.heap.size w w':=by
 refine (Lo.Ep hx hb hB hg hand hh).mono λe w' h=>?_
 unfold wD at h;rw [aj hho] at h;obtain ⟨v,rfl,hown,_,hbe⟩:=h;obtain ⟨A,cap,rfl,hc,hr⟩:=ownsRow.rd (B:=w'.heap.size) (f:= λi j=>.int .i64 (((qg (fQ b hand) (fe b hand))[2*i+j]?).getD 0)) hown (λi j hi hj=>zR _ (vz _ _) hi hj);exact ⟨A,cap,rfl,hc, λm hm=>hr m hm (aJ _),hbe⟩
theorem Lo.O3 {w:World} {B:Nat} {b:dY} {v:gK} {x:Value} (hx:x=eH b v) (hb:fJ w B b v) (hB:B<=w.heap.size) (hg:b.good) (hand:Int) (hh: -1<=hand∧hand<=64) (hho:ic (fQ b hand) (fe b hand)=true):
 Calls Lo.prog 43 #[x,.int .i64 hand] w λe w'=>∃A cap,e= .returned (.tuple #[.slice A (fQ b hand).length cap,.int .i64 0])∧(fQ b hand).length<=cap∧(∀m,m<=(fQ b hand).length->nG w' A m (qg (fQ b hand) (fe b hand)))∧Below w.heap.size w w'∧∀m c,Par.eU w' (.slice A m c):=by
 refine (Lo.Ep hx hb hB hg hand hh).mono λe w' h=>?_
 unfold wD at h;rw [aj hho] at h;obtain ⟨v,rfl,hown,hpl,hbe⟩:=h;obtain ⟨A,cap,rfl,hc,hr⟩:=ownsRow.rd (B:=w'.heap.size) (f:= λi j=>.int .i64 (((qg (fQ b hand) (fe b hand))[2*i+j]?).getD 0)) hown (λi j hi hj=>zR _ (vz _ _) hi hj);exact ⟨A,cap,rfl,hc, λm hm=>hr m hm (aJ _),hbe, λ_ _ g hg=>hpl g (by cases A<;>exact hg)⟩
theorem Lo.Na {w:World} {B:Nat} {b:dY} {v:gK} {x:Value} (hx:x=eH b v) (hb:fJ w B b v) (hB:B<=w.heap.size) (hg:b.good) (hand:Int) (hh: -1<=hand∧hand<=64) (hho:ic (fQ b hand) (fe b hand)=false):
 Calls Lo.prog 43 #[x,.int .i64 hand] w λe w'=>e= .returned (.tuple #[.slice none 0 0,.int .i64 9])∧Below w.heap.size w w':=by
 refine (Lo.Ep hx hb hB hg hand hh).mono λe w' h=>?_
 unfold wD at h;rw [aa (by rw [hho];simp)] at h;exact h
theorem Lo.jy {w:World} {B:Nat} {b:dY} {v:gK} {x:Value} (hx:x=eH b v) (hb:fJ w B b v) (hB:B<=w.heap.size) (hg:b.small):
 Calls Lo.prog 17 #[x] w λe w'=>e= .returned (.int .i64 (fP b))∧Below w.heap.size w w':=hx ▸ Lo.Bh hb hB hg
abbrev iy (b:dY):Bool:=ic (fQ b (-1)) (fe b (-1))
abbrev vE (b:dY):List Int:=qg (fQ b (-1)) (fe b (-1))
def vF (w:World) (b:dY) (e:Ending) (w':World):Prop:=
 Below w.heap.size w w'∧
 if fP b≠0 then e= .returned (.tuple #[.slice none 0 0,.int .i64 (fP b)])
 else if iy b=true then ∃A cap,e= .returned (.tuple #[.slice A b.dF.length cap,.int .i64 0])∧nG w' A b.dF.length (vE b)∧Par.eU w' (.slice A b.dF.length cap)
 else e= .returned (.tuple #[.slice none 0 0,.int .i64 9])
theorem Lo.Ih {w:World} {B:Nat} {b:dY} {v:gK} {x:Value} (hx:x=eH b v) (hb:fJ w B b v) (hB:B<=w.heap.size) (hs:b.small):
 Calls Lo.prog 15 #[x] w (vF w b):=by
 obtain ⟨U,U2,U3,U4,U5,U6⟩:=Lo.facts;subst hx;have hbv:Value.agg #[.slice v.ah b.dR.length v.ch,.slice v.ap b.dF.length v.cp,.slice v.jY b.steps.length v.cs,.slice v.ac b.dJ.length v.cc]=eH b v:=rfl;rw [<-hbv];have hb1:fJ (w.alloc (.cells #[.slice v.ah b.dR.length v.ch,.slice v.ap b.dF.length v.cp,.slice v.jY b.steps.length v.cs,.slice v.ac b.dJ.length v.cc] 26)) B b v:=hb.keep λb o h=>dx _ _ _ (by show b<w.heap.size;omega)
 have hcb:∀j:Nat,(w.alloc (.cells #[.slice v.ah b.dR.length v.ch,.slice v.ap b.dF.length v.cp,.slice v.jY b.steps.length v.cs,.slice v.ac b.dJ.length v.cc] 26)).cell? ⟨w.heap.size,j,none⟩=(#[Value.slice v.ah b.dR.length v.ch,.slice v.ap b.dF.length v.cp,.slice v.jY b.steps.length v.cs,.slice v.ac b.dJ.length v.cc]:Array Value)[j]?:= λj=>by rw [dm _ _ _ _ rfl]
 have jJ:=dB hbv;have HB1:=dB hb1;have nR:=dB hcb;clear hbv hb1 hb hcb;generalize v.ah=ah at jJ HB1 nR ⊢;generalize v.ch=ch at jJ HB1 nR ⊢;generalize v.ap=ap at jJ HB1 nR ⊢;generalize v.cp=cp at jJ HB1 nR ⊢;generalize v.jY=jY at jJ HB1 nR ⊢;generalize v.cs=cs at jJ HB1 nR ⊢;generalize v.ac=ac at jJ HB1 nR ⊢;generalize v.cc=cc at jJ HB1 nR ⊢;have C:=Lo.call Tryz.func17;have C2:=Lo.call Tryz.func43
 by_cases hcf:fP b=0
 ·have hg:=pE hs hcf;have hw1:=Dk b (-1);have Bi:=dB hcf;clear hcf;cases hho:iy b with
  |false=>
   have HH:=dB hho;clear hho;go_enter Lo.get Tryz.func15,Tryz.ntmps15
   go_wp2_with (first
    |(go_at_call 17;refine (Lo.jy jJ.out HB1.out (by simp;omega) hs).mono ?_;rintro e w1 ⟨rfl,hb1⟩;rw [Bi.out];have HB2:=dB hb1;clear hb1;have c0:=(dP HB2.out w.heap.size 0 (by simp)).trans (nR.out 0);have c1:=(dP HB2.out w.heap.size 1 (by simp)).trans (nR.out 1);have c2:=(dP HB2.out w.heap.size 2 (by simp)).trans (nR.out 2);have c3:=(dP HB2.out w.heap.size 3 (by simp)).trans (nR.out 3))
    |(go_at_call 43;refine (Lo.Na jJ.out (HB1.out.keep λb o h=>dP HB2.out b o (by simp;omega)) (by have :=HB2.out.size;simp at this;omega) hg (-1) (by omega) HH.out).mono ?_;rintro e w2 ⟨rfl,hb2⟩))
   go_ret2
   show vF _ _ _ _;unfold vF;rw [aa (by rw [Bi.out];simp),aa (by rw [HH.out];simp)];exact ⟨(((dz _ _).alloc (aJ _) _).trans (HB2.out.mono (by simp))).trans (hb2.mono (by have :=HB2.out.size;simp at this;omega)),rfl⟩
  |true=>
   have HH:=dB hho;clear hho;rw [aa (by omega)] at hw1;have hwl:b.dF.length<=(fQ b (-1)).length:=by omega
   go_enter Lo.get Tryz.func15,Tryz.ntmps15
   go_wp2_with (first
    |(go_at_call 17;refine (Lo.jy jJ.out HB1.out (by simp;omega) hs).mono ?_;rintro e w1 ⟨rfl,hb1⟩;rw [Bi.out];have HB2:=dB hb1;clear hb1;have c0:=(dP HB2.out w.heap.size 0 (by simp)).trans (nR.out 0);have c1:=(dP HB2.out w.heap.size 1 (by simp)).trans (nR.out 1);have c2:=(dP HB2.out w.heap.size 2 (by simp)).trans (nR.out 2);have c3:=(dP HB2.out w.heap.size 3 (by simp)).trans (nR.out 3))
    |(go_at_call 43;refine (Lo.O3 jJ.out (HB1.out.keep λb o h=>dP HB2.out b o (by simp;omega)) (by have :=HB2.out.size;simp at this;omega) hg (-1) (by omega) HH.out).mono ?_;rintro e w2 ⟨A,cap,rfl,hcap,hr,hb2,hpl⟩;have VI:=dB hpl;clear hpl;have hpc:b.dF.length<=cap:=aT hwl hcap;have HR:=dB (hr _ hwl);have HB3:=dB hb2;clear hr;have k1:=(dP hb2 w.heap.size 1 (by have :=HB2.out.size;simp at this;omega)).trans c1;clear hb2))
   go_ret2
   show vF _ _ _ _;unfold vF;rw [aa (by rw [Bi.out];simp),aj HH.out];have hbe:Below w.heap.size w w2:=(((dz _ _).alloc (aJ _) _).trans (HB2.out.mono (by simp))).trans (HB3.out.mono (by have :=HB2.out.size;simp at this;omega));refine ⟨hbe,?_⟩;exact ⟨_,_,rfl,HR.out,VI.out _ _⟩
 ·have Bi:=dB hcf;clear hcf;generalize hcx:fP b=cx at Bi;have VQ:=dB hcx;have hne:¬cx=0:=Bi.out;clear hcx;go_enter Lo.get Tryz.func15,Tryz.ntmps15
  go_wp2_with (go_at_call 17;refine (Lo.jy jJ.out HB1.out (by simp;omega) hs).mono ?_;rintro e w1 ⟨rfl,hb1⟩;rw [VQ.out];have HB2:=dB hb1;clear hb1)
  go_ret2
  show vF _ _ _ _;unfold vF;rw [VQ.out,aj hne];exact ⟨((dz _ _).alloc (aJ _) _).trans (HB2.out.mono (by simp)),rfl⟩
end
section
variable [Lo.St]
def wT (o:List Int) (np:Nat):Nat->List Int
 |0=>[]
 |k+1=>wT o np k++ [(o[2*(np+2*k+1)]?).getD 0,(o[2*(np+2*k+1)+1]?).getD 0]
theorem Ii (o:List Int) (np:Nat):∀k,(wT o np k).length=2*k
 |0=>rfl
 |k+1=>by unfold wT;rw [List.length_append,Ii o np k];simp;omega
abbrev Dt (b:dY):List Int:=wT (vE b) b.dF.length b.steps.length
def vG (w:World) (b:dY) (e:Ending) (w':World):Prop:=
 Below w.heap.size w w'∧
 if fP b≠0 then e= .returned (.tuple #[.slice none 0 0,.int .i64 (fP b)])
 else if iy b=true then ∃A cap,e= .returned (.tuple #[.slice A b.steps.length cap,.int .i64 0])∧nG w' A b.steps.length (Dt b)∧Par.eU w' (.slice A b.steps.length cap)
 else e= .returned (.tuple #[.slice none 0 0,.int .i64 9])
theorem Lo.O4 {w:World} {B:Nat} {b:dY} {v:gK} {x:Value} (hx:x=eH b v) (hb:fJ w B b v) (hB:B<=w.heap.size) (hs:b.small):
 Calls Lo.prog 20 #[x] w (vG w b):=by
 obtain ⟨U,U2,U3,U4,U5,U6⟩:=Lo.facts;subst hx;have hbv:Value.agg #[.slice v.ah b.dR.length v.ch,.slice v.ap b.dF.length v.cp,.slice v.jY b.steps.length v.cs,.slice v.ac b.dJ.length v.cc]=eH b v:=rfl;rw [<-hbv];have hb1:fJ (w.alloc (.cells #[.slice v.ah b.dR.length v.ch,.slice v.ap b.dF.length v.cp,.slice v.jY b.steps.length v.cs,.slice v.ac b.dJ.length v.cc] 26)) B b v:=hb.keep λb o h=>dx _ _ _ (by show b<w.heap.size;omega)
 have hcb:∀j:Nat,(w.alloc (.cells #[.slice v.ah b.dR.length v.ch,.slice v.ap b.dF.length v.cp,.slice v.jY b.steps.length v.cs,.slice v.ac b.dJ.length v.cc] 26)).cell? ⟨w.heap.size,j,none⟩=(#[Value.slice v.ah b.dR.length v.ch,.slice v.ap b.dF.length v.cp,.slice v.jY b.steps.length v.cs,.slice v.ac b.dJ.length v.cc]:Array Value)[j]?:= λj=>by rw [dm _ _ _ _ rfl]
 have jJ:=dB hbv;have HB1:=dB hb1;have nR:=dB hcb;clear hbv hb1 hb hcb;generalize v.ah=ah at jJ HB1 nR ⊢;generalize v.ch=ch at jJ HB1 nR ⊢;generalize v.ap=ap at jJ HB1 nR ⊢;generalize v.cp=cp at jJ HB1 nR ⊢;generalize v.jY=jY at jJ HB1 nR ⊢;generalize v.cs=cs at jJ HB1 nR ⊢;generalize v.ac=ac at jJ HB1 nR ⊢;generalize v.cc=cc at jJ HB1 nR ⊢;have C:=Lo.call Tryz.func17;have C2:=Lo.call Tryz.func43;obtain ⟨i0,hi,hz0,hz1,hz2⟩:=info_parts Lo.Vt
 by_cases hcf:fP b=0
 ·have hg:=pE hs hcf;have hw1:=Dk b (-1);have Bi:=dB hcf;clear hcf;cases hho:iy b with
  |false=>
   have HH:=dB hho;clear hho;go_enter Lo.get Tryz.func20,Tryz.ntmps20
   go_wp2_with (first
    |(go_at_call 17;refine (Lo.jy jJ.out HB1.out (by simp;omega) hs).mono ?_;rintro e w1 ⟨rfl,hb1⟩;rw [Bi.out];have HB2:=dB hb1;clear hb1;have c0:=(dP HB2.out w.heap.size 0 (by simp)).trans (nR.out 0);have c1:=(dP HB2.out w.heap.size 1 (by simp)).trans (nR.out 1);have c2:=(dP HB2.out w.heap.size 2 (by simp)).trans (nR.out 2);have c3:=(dP HB2.out w.heap.size 3 (by simp)).trans (nR.out 3))
    |(go_at_call 43;refine (Lo.Na jJ.out (HB1.out.keep λb o h=>dP HB2.out b o (by simp;omega)) (by have :=HB2.out.size;simp at this;omega) hg (-1) (by omega) HH.out).mono ?_;rintro e w2 ⟨rfl,hb2⟩))
   go_ret2
   show vG _ _ _ _;unfold vG;rw [aa (by rw [Bi.out];simp),aa (by rw [HH.out];simp)];exact ⟨(((dz _ _).alloc (aJ _) _).trans (HB2.out.mono (by simp))).trans (hb2.mono (by have :=HB2.out.size;simp at this;omega)),rfl⟩
  |true=>
   have HH:=dB hho;clear hho;rw [aa (by omega),aH] at hw1;have hn8:=hg.n8;have ap9:=hg.p12;go_enter Lo.get Tryz.func20,Tryz.ntmps20
   go_wp2_with (first
    |(go_at_call 17;refine (Lo.jy jJ.out HB1.out (by simp;omega) hs).mono ?_;rintro e w1 ⟨rfl,hb1⟩;rw [Bi.out];have HB2:=dB hb1;clear hb1;have c0:=(dP HB2.out w.heap.size 0 (by simp)).trans (nR.out 0);have c1:=(dP HB2.out w.heap.size 1 (by simp)).trans (nR.out 1);have c2:=(dP HB2.out w.heap.size 2 (by simp)).trans (nR.out 2);have c3:=(dP HB2.out w.heap.size 3 (by simp)).trans (nR.out 3))
    |(go_at_call 43;refine (Lo.Aq jJ.out (HB1.out.keep λb o h=>dP HB2.out b o (by simp;omega)) (by have :=HB2.out.size;simp at this;omega) hg (-1) (by omega) HH.out).mono ?_;rintro e w2 ⟨A,cap,rfl,hcap,hr,hb2⟩;rw [hw1];rw [hw1] at hcap hr;have HR:=dB (hr _ (aJ _));have HB3:=dB hb2;clear hr;have k1:=(dP hb2 w.heap.size 1 (by have :=HB2.out.size;simp at this;omega)).trans c1;have k2:=(dP hb2 w.heap.size 2 (by have :=HB2.out.size;simp at this;omega)).trans c2;clear hb2))
   have hbe:Below w.heap.size w w2:=(((dz _ _).alloc (aJ _) _).trans (HB2.out.mono (by simp))).trans (HB3.out.mono (by have :=HB2.out.size;simp at this;omega));have szw:w.heap.size+1<=w2.heap.size:=by have :=HB2.out.size;have :=HB3.out.size;simp at *;omega
   have MZ:=dB hbe;have hol:(vE b).length=2*(b.dF.length+2*b.steps.length):=(vz _ _).trans (by rw [hw1]);generalize hos:qg (fQ b (-1)) (fe b (-1))=os at HR hol;have HOS:=dB hos;clear hbe HB3 HB2 HB1 nR c0 c1 c2 c3 hos
   go_loopw [7,25] (λv i wr=>∃k:Nat,k<=b.steps.length∧i= .int .i64 (k:Int)∧wr.ownsRow w2.heap.size 51 2 v k (jA (wT os b.dF.length k))∧Par.eU wr v∧Below w2.heap.size w2 wr) (λ_ i _=>b.steps.length - (intOf i).toNat)
   case atStart=>exact ⟨0,bq _,rfl,by simpa [wT,jA] using World.ownsRow_nil w2 w2.heap.size 51 2,Par.eU.nil _,dz _ _⟩
   case round=>
    obtain ⟨k,hk,rfl,hown,hpl,hb⟩:=hrel;have HP:=dB hpl;clear hpl
    by_cases hlt:k<b.steps.length
    ·have hlt':(k:Int)<(b.steps.length:Int):=by omega
     obtain ⟨bb,off,rfl,hbb,hc⟩:=(HR.out.below hb) (by omega);have g0:wr.cell? ⟨bb,off+(b.dF.length+2*k+1)*2,none⟩=some (.int .i64 ((os[2*(b.dF.length+2*k+1)+0]?).getD 0)):=hc (b.dF.length+2*k+1) 0 (by omega) (by omega);have g1:wr.cell? ⟨bb,off+(b.dF.length+2*k+1)*2+1,none⟩=some (.int .i64 ((os[2*(b.dF.length+2*k+1)+1]?).getD 0)):=hc (b.dF.length+2*k+1) 1 (by omega) (by omega);have hin:wT os b.dF.length (k+1)=wT os b.dF.length k++ [(os[2*(b.dF.length+2*k+1)+0]?).getD 0,(os[2*(b.dF.length+2*k+1)+1]?).getD 0]:=rfl;generalize (os[2*(b.dF.length+2*k+1)+0]?).getD 0=y0 at g0 hin;generalize (os[2*(b.dF.length+2*k+1)+1]?).getD 0=y1 at g1 hin;have e0:wr.cell? ⟨bb,off+(b.dF.length+2*k+1)*2,none⟩=some (.int .i64 y0):=g0;have e1:wr.cell? ⟨bb,off+(b.dF.length+2*k+1)*2+1,none⟩=some (.int .i64 y1):=g1;have d1:wr.cell? ⟨w.heap.size,1,none⟩=some (.slice ap b.dF.length cp):=(dP hb _ _ (by omega)).trans k1;have hBs:=hb.size;have HB:=dB hb;have HI:=dB hin;clear hb hc hin g0 g1
     go_wp2_with (first
      |(at_builtin;refine Par.gJ rfl _ _ 29 rfl w2.heap.size 51 i0 (.agg #[.int .i64 0,.int .i64 0]) 2 16 Lo.aa0 hi hz0 hz1 hz2 rfl (by decide) _ _ _ rfl (hown.alloc _) ⟨wr.heap.size,0,none⟩ 1 1 [.int .i64 y0,.int .i64 y1] rfl rfl ?c1 ?c2 ?c3 ?c4 ?c5 (HP.out.alloc _) ?c6 ?c7 ?_)
      |go_in)
     case c1=>
      intro j u hj
      match j,hj with
      |0,hj=>simp at hj;subst hj;simp [Addr.add]
      |1,hj=>simp at hj;subst hj;simp [Addr.add]
     case c2=>intro u hu;simp at hu;rcases hu with rfl|rfl<;>rfl
     case c3=>unfold maxLen;omega
     case c4=>omega
     case c5=>simp;omega
     case c6=>intro u hu;simp at hu;rcases hu with rfl|rfl<;>rfl
     case c7=>intro u hu;simp [Value.cells] at hu;subst hu;rfl
     intro v' w3 hown' hgrow _ hp';have Vs:=dB hp';clear hp';have R:=dB ((HB.out.alloc hBs _).grown hgrow (by simp;omega) (λj hj=>(hown.lt j hj).1));have RO:=dB hown';clear hown' hgrow hown HB;go_wp2;go_roundw
     case rel=>exact ⟨k+1,by omega,by go_num,by rw [HI.out];simpa [jA] using RO.out,Vs.out,R.out⟩
     case measure=>simp [intOf];omega
    ·obtain rfl:k=b.steps.length:=by omega
     obtain ⟨A2,cap2,rfl,_,hr2⟩:=ownsRow.rd (B:=wr.heap.size) (f:= λi j=>.int .i64 (((wT os b.dF.length b.steps.length)[2*i+j]?).getD 0)) hown (λi j hi hj=>zR _ (Ii _ _ _) hi hj);have HR2:=dB (hr2 _ (aJ _) (aJ _));clear hr2 hown;go_wp2
     go_ret2
     show vG _ _ _ _;unfold vG;rw [aa (by rw [Bi.out];simp),aj HH.out];refine ⟨MZ.out.trans (hb.mono (by omega)),_,_,rfl,?_,HP.out⟩;show nG wr _ _ (wT (qg (fQ b (-1)) (fe b (-1))) _ _);rw [HOS.out];exact HR2.out
 ·have Bi:=dB hcf;clear hcf;generalize hcx:fP b=cx at Bi;have VQ:=dB hcx;have hne:¬cx=0:=Bi.out;clear hcx;go_enter Lo.get Tryz.func20,Tryz.ntmps20
  go_wp2_with (go_at_call 17;refine (Lo.jy jJ.out HB1.out (by simp;omega) hs).mono ?_;rintro e w1 ⟨rfl,hb1⟩;rw [VQ.out];have HB2:=dB hb1;clear hb1)
  go_ret2
  show vG _ _ _ _;unfold vG;rw [VQ.out,aj hne];exact ⟨((dz _ _).alloc (aJ _) _).trans (HB2.out.mono (by simp)),rfl⟩
end
section
variable [Lo.St]
theorem Lo.VT:Lo.prog.underlying 35=some (.slice 38):=(Lo.underlying 35).trans (by kernel_rfl)
theorem Lo.ag1:(Lo.prog.info? 38).map (λi=>(i.zero,i.size,i.bytes))=some (some (.int .i64 0),1,8):=by
 rw [Lo.info];kernel_rfl
def uj (lo hi limit:Int):Int:=if limit<lo then 1 else if hi<=limit then 2 else 0
abbrev Er (b:dY) (h:Nat):List Int:=qg (fQ b h) (fe b h)
def uG (b:dY) (limit:Int):Nat->List Int
 |0=>[]
 |h+1=>uG b limit h++ [uj (((Er b h)[2*(b.dF.length+2*b.steps.length)+0]?).getD 0) (((Er b h)[2*(b.dF.length+2*b.steps.length)+1]?).getD 0) limit]
theorem zS (b:dY) (limit:Int):∀h,(uG b limit h).length=h
 |0=>rfl
 |h+1=>by unfold uG;rw [List.length_append,zS b limit h];rfl
abbrev Es (b:dY) (limit:Int):List Int:=uG b limit b.dR.length
def nN (w:World) (b:dY) (limit:Int) (e:Ending) (w':World):Prop:=
 Below w.heap.size w w'∧
 if fP b≠0 then e= .returned (.tuple #[.slice none 0 0,.int .i64 (fP b)])
 else if nQ limit 0 1000000=false then e= .returned (.tuple #[.slice none 0 0,.int .i64 1])
 else if iy b=true then ∃A cap,e= .returned (.tuple #[.slice A b.dR.length cap,.int .i64 0])∧Cn w' w'.heap.size A (Es b limit)∧Par.eU w' (.slice A b.dR.length cap)
 else e= .returned (.tuple #[.slice none 0 0,.int .i64 9])
theorem Nb (o:List Int) {i:Nat} (hi:i<o.length):(jA o)[i*1+0]?=some (.int .i64 ((o[i]?).getD 0)):=by
 rw [Nat.mul_one,aH];exact yK o hi
theorem K8 {b:dY} (h:fP b=0):b.dR.length<=4:=ze (Eo h).1
theorem Lo.SH {w:World} {B:Nat} {b:dY} {v:gK} {x:Value} (hx:x=eH b v) (hb:fJ w B b v) (hB:B<=w.heap.size) (hs:b.small) (limit:Int) (ag2:fP b=0->iy b=true->∀h:Nat,h<b.dR.length->ic (fQ b h) (fe b h)=true):
 Calls Lo.prog 22 #[x,.int .i64 limit] w (nN w b limit):=by
 obtain ⟨U,U2,U3,U4,U5,U6⟩:=Lo.facts;subst hx;have hbv:Value.agg #[.slice v.ah b.dR.length v.ch,.slice v.ap b.dF.length v.cp,.slice v.jY b.steps.length v.cs,.slice v.ac b.dJ.length v.cc]=eH b v:=rfl;rw [<-hbv];have hb1:fJ (w.alloc (.cells #[.slice v.ah b.dR.length v.ch,.slice v.ap b.dF.length v.cp,.slice v.jY b.steps.length v.cs,.slice v.ac b.dJ.length v.cc] 26)) B b v:=hb.keep λb o h=>dx _ _ _ (by show b<w.heap.size;omega)
 have hcb:∀j:Nat,(w.alloc (.cells #[.slice v.ah b.dR.length v.ch,.slice v.ap b.dF.length v.cp,.slice v.jY b.steps.length v.cs,.slice v.ac b.dJ.length v.cc] 26)).cell? ⟨w.heap.size,j,none⟩=(#[Value.slice v.ah b.dR.length v.ch,.slice v.ap b.dF.length v.cp,.slice v.jY b.steps.length v.cs,.slice v.ac b.dJ.length v.cc]:Array Value)[j]?:= λj=>by rw [dm _ _ _ _ rfl]
 have jJ:=dB hbv;have HB1:=dB hb1;have nR:=dB hcb;clear hbv hb1 hb hcb;generalize v.ah=ah at jJ HB1 nR ⊢;generalize v.ch=ch at jJ HB1 nR ⊢;generalize v.ap=ap at jJ HB1 nR ⊢;generalize v.cp=cp at jJ HB1 nR ⊢;generalize v.jY=jY at jJ HB1 nR ⊢;generalize v.cs=cs at jJ HB1 nR ⊢;generalize v.ac=ac at jJ HB1 nR ⊢;generalize v.cc=cc at jJ HB1 nR ⊢;have C:=Lo.call Tryz.func17;have C2:=Lo.call Tryz.func43;have C3:=Lo.call Tryz.func49;have C4:=Lo.call Tryz.func56;have C5:=Lo.call Tryz.func57;obtain ⟨i0,hi,hz0,hz1,hz2⟩:=info_parts Lo.ag1
 by_cases hcf:fP b=0
 ·have hg:=pE hs hcf;have hnh:=K8 hcf;have aq5:=ag2 hcf;clear ag2;have HH2:=dB aq5;have Bi:=dB hcf;clear hcf aq5;cases hbt:nQ limit 0 1000000 with
  |false=>
   have DR:=dB hbt;clear hbt;go_enter Lo.get Tryz.func22,Tryz.ntmps22
   go_wp2_with (first
    |(go_at_call 17;refine (Lo.jy jJ.out HB1.out (by simp;omega) hs).mono ?_;rintro e w1 ⟨rfl,hb1⟩;rw [Bi.out];have HB2:=dB hb1;clear hb1)
    |(go_at_call 49;refine (Lo.fo _ _ _ _).mono ?_;rintro e w2 ⟨rfl,rfl⟩;rw [DR.out]))
   go_ret2
   show nN _ _ _ _ _;unfold nN;rw [aa (by rw [Bi.out];simp),aj DR.out];exact ⟨((dz _ _).alloc (aJ _) _).trans (HB2.out.mono (by simp)),rfl⟩
  |true=>
   have DR:=dB hbt;clear hbt;have hnd:=Ig b (-1) hg;cases hho:iy b with
   |false=>
    have HH:=dB (show ic (fQ b (-1)) (fe b (-1))=false from hho);clear hho;go_enter Lo.get Tryz.func22,Tryz.ntmps22
    go_wp2_with (first
     |(go_at_call 17;refine (Lo.jy jJ.out HB1.out (by simp;omega) hs).mono ?_;rintro e w1 ⟨rfl,hb1⟩;rw [Bi.out];have HB2:=dB hb1;clear hb1;have c0:=(dP HB2.out w.heap.size 0 (by simp)).trans (nR.out 0);have c1:=(dP HB2.out w.heap.size 1 (by simp)).trans (nR.out 1);have c2:=(dP HB2.out w.heap.size 2 (by simp)).trans (nR.out 2);have c3:=(dP HB2.out w.heap.size 3 (by simp)).trans (nR.out 3))
     |(go_at_call 49;refine (Lo.fo _ _ _ _).mono ?_;rintro e w2 ⟨rfl,rfl⟩;rw [DR.out])
     |(go_at_call 56;refine (Lo.Ao jJ.out (HB1.out.keep λb o h=>dP HB2.out b o (by simp;omega)) (by have :=HB2.out.size;simp at this;omega) hg (-1) (by omega)).mono ?_;rintro e w3 ⟨bw,A,cap,rfl,hw,hb3⟩;have HW:=dB hw;have HB3:=dB hb3;clear hw hb3)
     |(go_at_call 57;refine (Lo.uK HW.out (aJ _) hnd).mono ?_;rintro e w4 ⟨rfl,hb4⟩;rw [HH.out]))
    go_ret2
    show nN _ _ _ _ _;unfold nN;rw [aa (by rw [Bi.out];simp),aa (by rw [DR.out];simp),aa (by show ¬ic (fQ b (-1)) (fe b (-1))=true;rw [HH.out];simp)];have s2:=HB2.out.size;have s3:=HB3.out.size;simp at s2;exact ⟨((((dz _ _).alloc (aJ _) _).trans (HB2.out.mono (by simp))).trans (HB3.out.mono (by omega))).trans (hb4.mono (by omega)),rfl⟩
   |true=>
    have HH:=dB (show ic (fQ b (-1)) (fe b (-1))=true from hho);clear hho;have hn8:=hg.n8;have ap9:=hg.p12;go_enter Lo.get Tryz.func22,Tryz.ntmps22
    go_wp2_with (first
     |(go_at_call 17;refine (Lo.jy jJ.out HB1.out (by simp;omega) hs).mono ?_;rintro e w1 ⟨rfl,hb1⟩;rw [Bi.out];have HB2:=dB hb1;clear hb1;have c0:=(dP HB2.out w.heap.size 0 (by simp)).trans (nR.out 0);have c1:=(dP HB2.out w.heap.size 1 (by simp)).trans (nR.out 1);have c2:=(dP HB2.out w.heap.size 2 (by simp)).trans (nR.out 2);have c3:=(dP HB2.out w.heap.size 3 (by simp)).trans (nR.out 3))
     |(go_at_call 49;refine (Lo.fo _ _ _ _).mono ?_;rintro e w2 ⟨rfl,rfl⟩;rw [DR.out])
     |(go_at_call 56;refine (Lo.Ao jJ.out (HB1.out.keep λb o h=>dP HB2.out b o (by simp;omega)) (by have :=HB2.out.size;simp at this;omega) hg (-1) (by omega)).mono ?_;rintro e w3 ⟨bw,A,cap,rfl,hw,hb3⟩;have HW:=dB hw;have HB3:=dB hb3;clear hw hb3)
     |(go_at_call 57;refine (Lo.uK HW.out (aJ _) hnd).mono ?_;rintro e w4 ⟨rfl,hb4⟩;rw [HH.out];have AL:=dB (HB2.out.trans ((HB3.out.mono HB2.out.size).trans (hb4.mono (aT HB2.out.size HB3.out.size))));clear hb4;have d0:=(dP AL.out w.heap.size 0 (by simp)).trans (nR.out 0)))
    have hbe:Below w.heap.size w w4:=((dz _ _).alloc (aJ _) _).trans (AL.out.mono (by simp));have szw:w.heap.size+1<=w4.heap.size:=by have :=AL.out.size;simp at this;omega
    have hbk:fJ w4 B b v:=HB1.out.keep λb o h=>dP AL.out b o (by simp;omega)
    have hcb:∀j:Nat,w4.cell? ⟨w.heap.size,j,none⟩=(#[Value.slice ah b.dR.length ch,.slice ap b.dF.length cp,.slice jY b.steps.length cs,.slice ac b.dJ.length cc]:Array Value)[j]?:= λj=>(dP AL.out w.heap.size j (by simp)).trans (nR.out j)
    have MZ:=dB hbe;have Al:=dB hbk;have HCK:=dB hcb;clear hbe HB2 HB1 nR HB3 AL HW c0 c1 c2 c3 hbk hcb
    go_loopw [7,28] (λu i wr=>∃k:Nat,k<=b.dR.length∧i= .int .i64 (k:Int)∧wr.ownsRow w4.heap.size 38 1 u k (jA (uG b limit k))∧Par.eU wr u∧Below w4.heap.size w4 wr) (λ_ i _=>b.dR.length - (intOf i).toNat)
    case atStart=>exact ⟨0,bq _,rfl,by simpa [uG,jA] using World.ownsRow_nil w4 w4.heap.size 38 1,Par.eU.nil _,dz _ _⟩
    case round=>
     obtain ⟨k,hk,rfl,hown,hpl,hb⟩:=hrel;have HP:=dB hpl;have HO:=dB hown;have HB:=dB hb;clear hpl hown hb
     by_cases hlt:k<b.dR.length
     ·have hlt':(k:Int)<(b.dR.length:Int):=by omega
      have hwl:=Dk b k;rw [aj (by omega)] at hwl;have e0:=(dP HB.out w.heap.size 0 (by omega)).trans (HCK.out 0);have e1:=(dP HB.out w.heap.size 1 (by omega)).trans (HCK.out 1);have e2:=(dP HB.out w.heap.size 2 (by omega)).trans (HCK.out 2);have e3:=(dP HB.out w.heap.size 3 (by omega)).trans (HCK.out 3);have hBs:=HB.out.size;have hj:uG b limit (k+1)=uG b limit k++ [uj (((Er b k)[2*(b.dF.length+2*b.steps.length)+0]?).getD 0) (((Er b k)[2*(b.dF.length+2*b.steps.length)+1]?).getD 0) limit]:=rfl;generalize hy0:((Er b k)[2*(b.dF.length+2*b.steps.length)+0]?).getD 0=y0 at hj;generalize hy1:((Er b k)[2*(b.dF.length+2*b.steps.length)+1]?).getD 0=y1 at hj;have Y0:=dB hy0;have Y1:=dB hy1;have HJ:=dB hj;clear hj hy0 hy1
      by_cases q0:limit<y0
      ·have hq:uj y0 y1 limit=1:=by unfold uj;rw [aj q0]
       have HQ:=dB hq;clear hq
       go_wp2_with (first
        |(go_at_call 43;refine (Lo.Aq jJ.out (Al.out.keep λb o h=>dP HB.out b o (by omega)) (by omega) hg k (by omega) (HH2.out HH.out k hlt)).mono ?_;rintro e w5 ⟨A5,cap5,rfl,hcap,hr,hb5⟩;rw [hwl];rw [hwl] at hr;have hr:=hr _ (aJ _);obtain ⟨bb,off,rfl,hbb,hc⟩:=hr (by omega);have g0:w5.cell? ⟨bb,off+(b.dF.length+2*b.steps.length)*2,none⟩=some (.int .i64 y0):=by rw [<-Y0.out];exact hc (b.dF.length+2*b.steps.length) 0 (by omega) (by omega)
          have g1:w5.cell? ⟨bb,off+(b.dF.length+2*b.steps.length)*2+1,none⟩=some (.int .i64 y1):=by rw [<-Y1.out];exact hc (b.dF.length+2*b.steps.length) 1 (by omega) (by omega)
          have s5:wr.heap.size<=w5.heap.size:=hb5.size;have IY:=dB hb5;clear hb5 hc hr)
        |(at_builtin;refine Par.gJ rfl _ _ 35 rfl w4.heap.size 38 i0 (.int .i64 0) 1 8 Lo.VT hi hz0 hz1 hz2 rfl (by decide) _ _ _ rfl (((ownsRow.below HO.out IY.out).alloc _).alloc _) ⟨w5.heap.size+1,0,none⟩ 1 1 [.int .i64 1] rfl rfl (by intro j u hj;match j,hj with |0,hj=>simp at hj;subst hj;simp [Addr.add]) (by intro u hu;simp at hu;subst hu;rfl) (by unfold maxLen;omega) (by omega) (by simp;omega) (((HP.out.keep λg hg=>IY.out.block g (HO.out.lt g hg).2).alloc _).alloc _) (by intro u hu;simp at hu;subst hu;rfl) (by intro u hu;simp [Value.cells] at hu;subst hu;rfl) ?_
          intro v' w6 hown' hgrow _ hp';have Vs:=dB hp';have YF:=dB hown';have HG:=dB hgrow;clear hp' hown' hgrow)
        |go_in)
       go_roundw
       case rel=>exact ⟨k+1,by omega,by go_num,by rw [HJ.out,HQ.out];simpa [jA] using YF.out,Vs.out,(((HB.out.trans (IY.out.mono (by omega))).alloc (by omega) _).alloc (by simp;omega) _).grown HG.out (by simp;omega) (λj hj=>(HO.out.lt j hj).1)⟩
       case measure=>simp [intOf];omega
      ·by_cases q1:y1<=limit
       ·have hq:uj y0 y1 limit=2:=by unfold uj;rw [aa q0,aj q1]
        have HQ:=dB hq;clear hq
        go_wp2_with (first
         |(go_at_call 43;refine (Lo.Aq jJ.out (Al.out.keep λb o h=>dP HB.out b o (by omega)) (by omega) hg k (by omega) (HH2.out HH.out k hlt)).mono ?_;rintro e w5 ⟨A5,cap5,rfl,hcap,hr,hb5⟩;rw [hwl];rw [hwl] at hr;have hr:=hr _ (aJ _);obtain ⟨bb,off,rfl,hbb,hc⟩:=hr (by omega);have g0:w5.cell? ⟨bb,off+(b.dF.length+2*b.steps.length)*2,none⟩=some (.int .i64 y0):=by rw [<-Y0.out];exact hc (b.dF.length+2*b.steps.length) 0 (by omega) (by omega)
           have g1:w5.cell? ⟨bb,off+(b.dF.length+2*b.steps.length)*2+1,none⟩=some (.int .i64 y1):=by rw [<-Y1.out];exact hc (b.dF.length+2*b.steps.length) 1 (by omega) (by omega)
           have s5:wr.heap.size<=w5.heap.size:=hb5.size;have IY:=dB hb5;clear hb5 hc hr)
         |(at_builtin;refine Par.gJ rfl _ _ 35 rfl w4.heap.size 38 i0 (.int .i64 0) 1 8 Lo.VT hi hz0 hz1 hz2 rfl (by decide) _ _ _ rfl (((ownsRow.below HO.out IY.out).alloc _).alloc _) ⟨w5.heap.size+1,0,none⟩ 1 1 [.int .i64 2] rfl rfl (by intro j u hj;match j,hj with |0,hj=>simp at hj;subst hj;simp [Addr.add]) (by intro u hu;simp at hu;subst hu;rfl) (by unfold maxLen;omega) (by omega) (by simp;omega) (((HP.out.keep λg hg=>IY.out.block g (HO.out.lt g hg).2).alloc _).alloc _) (by intro u hu;simp at hu;subst hu;rfl) (by intro u hu;simp [Value.cells] at hu;subst hu;rfl) ?_
           intro v' w6 hown' hgrow _ hp';have Vs:=dB hp';have YF:=dB hown';have HG:=dB hgrow;clear hp' hown' hgrow)
         |go_in)
        go_roundw
        case rel=>exact ⟨k+1,by omega,by go_num,by rw [HJ.out,HQ.out];simpa [jA] using YF.out,Vs.out,(((HB.out.trans (IY.out.mono (by omega))).alloc (by omega) _).alloc (by simp;omega) _).grown HG.out (by simp;omega) (λj hj=>(HO.out.lt j hj).1)⟩
        case measure=>simp [intOf];omega
       ·have hq:uj y0 y1 limit=0:=by unfold uj;rw [aa q0,aa q1]
        have HQ:=dB hq;clear hq
        go_wp2_with (first
         |(go_at_call 43;refine (Lo.Aq jJ.out (Al.out.keep λb o h=>dP HB.out b o (by omega)) (by omega) hg k (by omega) (HH2.out HH.out k hlt)).mono ?_;rintro e w5 ⟨A5,cap5,rfl,hcap,hr,hb5⟩;rw [hwl];rw [hwl] at hr;have hr:=hr _ (aJ _);obtain ⟨bb,off,rfl,hbb,hc⟩:=hr (by omega);have g0:w5.cell? ⟨bb,off+(b.dF.length+2*b.steps.length)*2,none⟩=some (.int .i64 y0):=by rw [<-Y0.out];exact hc (b.dF.length+2*b.steps.length) 0 (by omega) (by omega)
           have g1:w5.cell? ⟨bb,off+(b.dF.length+2*b.steps.length)*2+1,none⟩=some (.int .i64 y1):=by rw [<-Y1.out];exact hc (b.dF.length+2*b.steps.length) 1 (by omega) (by omega)
           have s5:wr.heap.size<=w5.heap.size:=hb5.size;have IY:=dB hb5;clear hb5 hc hr)
         |(at_builtin;refine Par.gJ rfl _ _ 35 rfl w4.heap.size 38 i0 (.int .i64 0) 1 8 Lo.VT hi hz0 hz1 hz2 rfl (by decide) _ _ _ rfl (((ownsRow.below HO.out IY.out).alloc _).alloc _) ⟨w5.heap.size+1,0,none⟩ 1 1 [.int .i64 0] rfl rfl (by intro j u hj;match j,hj with |0,hj=>simp at hj;subst hj;simp [Addr.add]) (by intro u hu;simp at hu;subst hu;rfl) (by unfold maxLen;omega) (by omega) (by simp;omega) (((HP.out.keep λg hg=>IY.out.block g (HO.out.lt g hg).2).alloc _).alloc _) (by intro u hu;simp at hu;subst hu;rfl) (by intro u hu;simp [Value.cells] at hu;subst hu;rfl) ?_
           intro v' w6 hown' hgrow _ hp';have Vs:=dB hp';have YF:=dB hown';have HG:=dB hgrow;clear hp' hown' hgrow)
         |go_in)
        go_roundw
        case rel=>exact ⟨k+1,by omega,by go_num,by rw [HJ.out,HQ.out];simpa [jA] using YF.out,Vs.out,(((HB.out.trans (IY.out.mono (by omega))).alloc (by omega) _).alloc (by simp;omega) _).grown HG.out (by simp;omega) (λj hj=>(HO.out.lt j hj).1)⟩
        case measure=>simp [intOf];omega
     ·obtain rfl:k=b.dR.length:=by omega
      obtain ⟨A2,cap2,rfl,_,hr2⟩:=ownsRow.rd (B:=wr.heap.size) (f:= λi _=>.int .i64 (((uG b limit b.dR.length)[i]?).getD 0)) HO.out (λi j hi hj=>(show j=0 by omega) ▸ Nb _ (by rw [zS];exact hi));have HR2:=dB (hr2 _ (aJ _) (aJ _));clear hr2;go_wp2
      go_ret2
      show nN _ _ _ _ _;unfold nN;rw [aa (by rw [Bi.out];simp),aa (by rw [DR.out];simp),aj HH.out];refine ⟨MZ.out.trans (HB.out.mono (by omega)),_,_,rfl,?_,HP.out⟩;have :=HR2.out;unfold Cn;rw [zS];exact this
 ·have Bi:=dB hcf;clear hcf;generalize hcx:fP b=cx at Bi;have VQ:=dB hcx;have hne:¬cx=0:=Bi.out;clear hcx ag2;go_enter Lo.get Tryz.func22,Tryz.ntmps22
  go_wp2_with (go_at_call 17;refine (Lo.jy jJ.out HB1.out (by simp;omega) hs).mono ?_;rintro e w1 ⟨rfl,hb1⟩;rw [VQ.out];have HB2:=dB hb1;clear hb1)
  go_ret2
  show nN _ _ _ _ _;unfold nN;rw [VQ.out,aj hne];exact ⟨((dz _ _).alloc (aJ _) _).trans (HB2.out.mono (by simp)),rfl⟩
end
section
variable [Lo.St]
def l7 (b:dY) (k:Nat):dY:={ b with dJ:=b.dJ.take k }
def pF (b:dY):Nat->Nat->Int
 |0,_=> -1
 |f+1,k=>if iy (l7 b k)=false then (k:Int) - 1 else pF b f (k+1)
def yP (b:dY):Int:=pF b (b.dJ.length+1) 0
theorem O5 {w:World} {B:Nat} {b:dY} {v:gK} (h:fJ w B b v) (k:Nat) (hk:k<=b.dJ.length):fJ w B (l7 b k) v:=by
 have e:(b.dJ.take k).length=k:=by rw [List.length_take];omega
 refine ⟨h.dR,h.dF,h.steps,h.ins,h.outs, λhn=>?_,h.lh,h.lp,h.ls,by have :=h.lc;show (b.dJ.take k).length<=_;omega⟩;have hn:0<(b.dJ.take k).length:=hn;obtain ⟨bb,off,e1,h1,h2⟩:=h.dJ (by omega);refine ⟨bb,off,e1,h1, λi j hi hj=>?_⟩;have hi:i<(b.dJ.take k).length:=hi;rw [h2 i j (by omega) hj];show _=some (Ak (b.dJ.take k) i j);unfold Ak;rw [List.getElem?_take_of_lt (by omega)]
theorem VU {b:dY} (h:b.good) (k:Nat):(l7 b k).good:=
 ⟨⟨h.dR,h.dF,h.steps,by have :=h.dJ;show (b.dJ.take k).length<=64;rw [List.length_take];omega,h.ins,h.outs⟩,h.n8,h.p12, λs hs=>h.sc s (bG hs),h.st,h.ki,h.ko⟩
theorem Du {w:World} {b:Nat} {x y z u:Value} {t:TypeId} (h:w.heap[b]?=some (.cells #[x,y,z,u] t)):w.cell? ⟨b,0,none⟩=some x∧w.cell? ⟨b,1,none⟩=some y∧w.cell? ⟨b,2,none⟩=some z∧w.cell? ⟨b,3,none⟩=some u∧w.frozen? ⟨b,3,none⟩=false:=by
 unfold World.cell? World.frozen?;simp only [h];exact ⟨rfl,rfl,rfl,rfl,rfl⟩
theorem Et {w:World} {b:Nat} {x y z u u':Value} {t:TypeId} (h:w.heap[b]?=some (.cells #[x,y,z,u] t)):(w.setCell ⟨b,3,none⟩ u').heap[b]?=some (.cells #[x,y,z,u'] t):=heap_setCell_same w b 3 _ _ u' h
def tq (w:World) (b:dY) (e:Ending) (w':World):Prop:=
 Below w.heap.size w w'∧if fP b≠0 then e= .returned (.tuple #[.int .i64 0,.int .i64 (fP b)]) else e= .returned (.tuple #[.int .i64 (yP b),.int .i64 0])
theorem Lo.JR {w:World} {B:Nat} {b:dY} {v:gK} {x:Value} (hx:x=eH b v) (hb:fJ w B b v) (hB:B<=w.heap.size) (hs:b.small):
 Calls Lo.prog 24 #[x] w (tq w b):=by
 have hb0:=hb;have hlc:b.dJ.length<=v.cc:=hb.lc
 have VV:∀k,k<=b.dJ.length->Value.agg #[.slice v.ah b.dR.length v.ch,.slice v.ap b.dF.length v.cp,.slice v.jY b.steps.length v.cs,.slice v.ac k v.cc]=eH (l7 b k) v:= λk hk=>by
  unfold eH l7;rw [List.length_take,Nat.min_eq_left hk]
 have Al:=dB VV;have HB0:=dB hb0;clear hb0 VV;obtain ⟨U,U2,U3,U4,U5,U6⟩:=Lo.facts;subst hx;have hbv:Value.agg #[.slice v.ah b.dR.length v.ch,.slice v.ap b.dF.length v.cp,.slice v.jY b.steps.length v.cs,.slice v.ac b.dJ.length v.cc]=eH b v:=rfl;rw [<-hbv];have hb1:fJ (w.alloc (.cells #[.slice v.ah b.dR.length v.ch,.slice v.ap b.dF.length v.cp,.slice v.jY b.steps.length v.cs,.slice v.ac b.dJ.length v.cc] 26)) B b v:=hb.keep λb o h=>dx _ _ _ (by show b<w.heap.size;omega)
 have hcb:∀j:Nat,(w.alloc (.cells #[.slice v.ah b.dR.length v.ch,.slice v.ap b.dF.length v.cp,.slice v.jY b.steps.length v.cs,.slice v.ac b.dJ.length v.cc] 26)).cell? ⟨w.heap.size,j,none⟩=(#[Value.slice v.ah b.dR.length v.ch,.slice v.ap b.dF.length v.cp,.slice v.jY b.steps.length v.cs,.slice v.ac b.dJ.length v.cc]:Array Value)[j]?:= λj=>by rw [dm _ _ _ _ rfl]
 have jJ:=dB hbv;have HB1:=dB hb1;have nR:=dB hcb;clear hbv hb1 hb hcb;generalize v.ah=ah at jJ HB1 nR Al hlc ⊢;generalize v.ch=ch at jJ HB1 nR Al hlc ⊢;generalize v.ap=ap at jJ HB1 nR Al hlc ⊢;generalize v.cp=cp at jJ HB1 nR Al hlc ⊢;generalize v.jY=jY at jJ HB1 nR Al hlc ⊢;generalize v.cs=cs at jJ HB1 nR Al hlc ⊢;generalize v.ac=ac at jJ HB1 nR Al hlc ⊢;generalize v.cc=cc at jJ HB1 nR Al hlc ⊢;have C:=Lo.call Tryz.func17;have C2:=Lo.call Tryz.func56;have C3:=Lo.call Tryz.func57;have hl4:=hs.dJ
 by_cases hcf:fP b=0
 ·have hg:=pE hs hcf;have Bi:=dB hcf;clear hcf;go_enter Lo.get Tryz.func24,Tryz.ntmps24
  go_wp2_with (go_at_call 17;refine (Lo.jy jJ.out HB1.out (by simp;omega) hs).mono ?_;rintro e w1 ⟨rfl,hb1⟩;rw [Bi.out];have HB2:=dB hb1;clear hb1;have c0:=(dP HB2.out w.heap.size 0 (by simp)).trans (nR.out 0);have c1:=(dP HB2.out w.heap.size 1 (by simp)).trans (nR.out 1);have c2:=(dP HB2.out w.heap.size 2 (by simp)).trans (nR.out 2);have c3:=(dP HB2.out w.heap.size 3 (by simp)).trans (nR.out 3))
  have hbx:w1.heap[w.heap.size]?=some (.cells #[.slice ah b.dR.length ch,.slice ap b.dF.length cp,.slice jY b.steps.length cs,.slice ac b.dJ.length cc] 26):=(HB2.out.block _ (by simp)).trans (heap_alloc_new w _)
  have hbe:Below w.heap.size w w1:=((dz _ _).alloc (aJ _) _).trans (HB2.out.mono (by simp));have szw:w.heap.size+1<=w1.heap.size:=by have :=HB2.out.size;simp at this;omega
  have HX:=dB hbx;have MZ:=dB hbe;clear hbx hbe HB2 HB1 nR jJ c0 c1 c2 c3
  go_loopw [17] (λi wr=>∃k:Nat,∃x,k<=b.dJ.length+1∧i= .int .i64 (k:Int)∧wr.heap[w.heap.size]?=some (.cells #[.slice ah b.dR.length ch,.slice ap b.dF.length cp,.slice jY b.steps.length cs,x] 26)∧Below w.heap.size w wr∧w.heap.size+1<=wr.heap.size∧pF b (b.dJ.length+1 - k) k=yP b) (λi _=>b.dJ.length+1 - (intOf i).toNat)
  case atStart=>exact ⟨0,_,bq _,rfl,HX.out,MZ.out,szw,rfl⟩
  case round=>
   obtain ⟨k,x,hk,rfl,hbx,hb,hsz,Bp⟩:=hrel
   by_cases hlt:k<b.dJ.length+1
   ·have hlt':(k:Int)<(b.dJ.length:Int)+1:=by omega
    have hkn:k<=b.dJ.length:=by omega
    have hkc:k<=cc:=by omega
    have hd:pF b (b.dJ.length+1 - k) k=if iy (l7 b k)=false then (k:Int) - 1 else pF b (b.dJ.length+1 - (k+1)) (k+1):=by
     rw [show b.dJ.length+1 - k=(b.dJ.length - k)+1 from by omega,show b.dJ.length+1 - (k+1)=b.dJ.length - k from by omega];rfl
    rw [Bp] at hd;obtain ⟨e0,e1,e2,e3,ef⟩:=Du hbx;have tF:=Et (u':=.slice ac k cc) hbx;have hbk:fJ (wr.setCell ⟨w.heap.size,3,none⟩ (.slice ac k cc)) B (l7 b k) v:=(O5 HB0.out k hkn).keep λb o h=>(dA (Below.heap_setCell _ _ _ _ (by show b≠w.heap.size;omega))).trans (dP hb b o (by omega))
    have hbs:Below w.heap.size w (wr.setCell ⟨w.heap.size,3,none⟩ (.slice ac k cc)):=hb.setCell (p:=⟨w.heap.size,3,none⟩) (aJ _) _;have hss:(wr.setCell ⟨w.heap.size,3,none⟩ (.slice ac k cc)).heap.size=wr.heap.size:=by simp [World.setCell]
    have hgk:=VU hg k;have hnd:=Ig (l7 b k) (-1) hgk;have VV:=Al.out k hkn;have HD:=dB hd;have HS:=dB tF;have aq6:=dB hbk;have HBS:=dB hbs;have jJ:=dB VV;clear hd tF hbk hbs VV Bp hbx hb HX;cases hho:ic (fQ (l7 b k) (-1)) (fe (l7 b k) (-1)) with
    |false=>
     have HH:=dB hho;clear hho
     go_wp2_with (first
      |(go_at_call 56;refine (Lo.Ao jJ.out aq6.out (by omega) hgk (-1) (by omega)).mono ?_;rintro e w3 ⟨bw,A,cap,rfl,hw,hb3⟩;have HW:=dB hw;have HB3:=dB hb3;clear hw hb3)
      |(go_at_call 57;refine (Lo.uK HW.out (aJ _) hnd).mono ?_;rintro e w4 ⟨rfl,hb4⟩;rw [HH.out]))
     go_ret2
     show tq _ _ _ _;unfold tq;rw [aa (by rw [Bi.out];simp)];refine ⟨(HBS.out.trans (HB3.out.mono (by omega))).trans (hb4.mono (by have :=HB3.out.size;omega)),?_⟩;have :=HD.out;rw [aj HH.out] at this;rw [this];rfl
    |true=>
     have HH:=dB hho;clear hho
     go_wp2_with (first
      |(go_at_call 56;refine (Lo.Ao jJ.out aq6.out (by omega) hgk (-1) (by omega)).mono ?_;rintro e w3 ⟨bw,A,cap,rfl,hw,hb3⟩;have HW:=dB hw;have HB3:=dB hb3;clear hw hb3)
      |(go_at_call 57;refine (Lo.uK HW.out (aJ _) hnd).mono ?_;rintro e w4 ⟨rfl,hb4⟩;rw [HH.out];have AL:=dB hb4;clear hb4))
     have s3:=HB3.out.size;have s4:=AL.out.size;go_roundw
     case rel=>exact ⟨k+1,_,by omega,by go_num,(AL.out.block _ (by omega)).trans ((HB3.out.block _ (by omega)).trans HS.out),(HBS.out.trans (HB3.out.mono (by omega))).trans (AL.out.mono (by omega)),by omega,by
      have :=HD.out;rw [aa (by show ¬ic (fQ (l7 b k) (-1)) (fe (l7 b k) (-1))=false;rw [HH.out];simp)] at this;exact this.symm⟩
     case measure=>simp [intOf];omega
   ·obtain rfl:k=b.dJ.length+1:=by omega
    have hf:yP b= -1:=by rw [<-Bp,Nat.sub_self];rfl
    have HF:=dB hf;clear hf Bp;go_wp2
    go_ret2
    show tq _ _ _ _;unfold tq;rw [aa (by rw [Bi.out];simp),HF.out];exact ⟨hb,rfl⟩
 ·have Bi:=dB hcf;clear hcf;generalize hcx:fP b=cx at Bi;have VQ:=dB hcx;have hne:¬cx=0:=Bi.out;clear hcx;go_enter Lo.get Tryz.func24,Tryz.ntmps24
  go_wp2_with (go_at_call 17;refine (Lo.jy jJ.out HB1.out (by simp;omega) hs).mono ?_;rintro e w1 ⟨rfl,hb1⟩;rw [VQ.out];have HB2:=dB hb1;clear hb1)
  go_ret2
  show tq _ _ _ _;unfold tq;rw [VQ.out,aj hne];exact ⟨((dz _ _).alloc (aJ _) _).trans (HB2.out.mono (by simp)),rfl⟩
end
end Go.Proofs
