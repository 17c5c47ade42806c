/- Part 9. -/
import Derived.Test.YtnemnkmojiljmaaGreatB06
import Derived.Test.YtnemnkmojiljmaaGreatB07
import Derived.Test.YtnemnkmojiljmaaGreatB08
set_option maxRecDepth 100000
set_option maxHeartbeats 0
set_option linter.all false
namespace Go.Proofs
open Go Go.RowKit Go.Maps
section
variable [Lo.St]
def AL:List ByteArray->List ByteArray->Int
 | [],_=>0
 |s::r,seen=>if nk s=false then 4 else if KQ s seen=true then 5 else AL r (seen++ [s])
def fU (l:List ByteArray) (most:Nat):Int:=if most<l.length then 2 else AL l []
def BQ (np:Nat) (M:List Int):List Int->List Int->Int×List Int
 | [],U=>(0,U)
 |p::r,U=>if rO p 0 ((np:Int) - 1)=false then (6,U) else if M.contains p=false then (7,U) else if U.contains p=true then (5,U) else BQ np M r (U++ [p])
def sP (np:Nat):List Int->List Int->Int×List Int
 | [],M=>(0,M)
 |p::r,M=>if rO p 0 ((np:Int) - 1)=false then (6,M) else if M.contains p=true then (5,M) else sP np r (M++ [p])
def oW (nh np:Nat):List fG->List Int->List Int->Int×List Int
 | [],M,_=>(0,M)
 |s::r,M,U=>
  if rO s.hand 0 ((nh:Int) - 1)=false then (6,M) else
  if (BQ np M s.ins U).1≠0 then ((BQ np M s.ins U).1,M) else
  if (sP np s.outs M).1≠0 then ((sP np s.outs M).1,M) else
  if fO s.g0 s.g1 0 1000000=false then (1,M) else
  if fO s.l0 s.l1 0 1000000=false then (1,M) else
  oW nh np r (sP np s.outs M).2 (BQ np M s.ins U).2
def jO (b:fe):Int:=
 if 8<b.steps.length then 2 else
 if (oW b.eO.length b.dO.length b.steps [] []).1≠0 then (oW b.eO.length b.dO.length b.steps [] []).1 else
 if (oW b.eO.length b.dO.length b.steps [] []).2.length<b.dO.length then 6 else 0
def tQ (np:Nat):List tJ->Int
 | []=>0
 |s::r=>if rO s.pile 0 ((np:Int) - 1)=false then 6 else if fO s.lo s.hi 0 1000000=false then 1 else tQ np r
def gL (b:fe):Int:=
 if fU b.eO 4≠0 then fU b.eO 4 else
 if fU b.dO 12≠0 then fU b.dO 12 else
 if jO b≠0 then jO b else
 if 10<b.dR.length then 2 else tQ b.dO.length b.dR
theorem SS {np:Nat} {M:List Int}:∀{l U:List Int},(BQ np M l U).1=0->∀p∈l,0<=p∧p<=(np:Int) - 1
 | [],_,_=> λp hp=>by simp at hp
 |q::r,U,h=> λp hp=>by
  unfold BQ at h
  by_cases h1:rO q 0 ((np:Int) - 1)=false
  ·rw [aj h1] at h;cases h
  ·rw [aa h1] at h
   by_cases h2:M.contains q=false
   ·rw [aj h2] at h;cases h
   ·rw [aa h2] at h
    by_cases h3:U.contains q=true
    ·rw [aj h3] at h;cases h
    ·rw [aa h3] at h;rcases bE.1 hp with rfl|hp
     ·simp [rO] at h1;omega
     ·exact SS h p hp
theorem OT {np:Nat}:∀{l M:List Int},(sP np l M).1=0->∀p∈l,0<=p∧p<=(np:Int) - 1
 | [],_,_=> λp hp=>by simp at hp
 |q::r,M,h=> λp hp=>by
  unfold sP at h
  by_cases h1:rO q 0 ((np:Int) - 1)=false
  ·rw [aj h1] at h;cases h
  ·rw [aa h1] at h
   by_cases h3:M.contains q=true
   ·rw [aj h3] at h;cases h
   ·rw [aa h3] at h;rcases bE.1 hp with rfl|hp
    ·simp [rO] at h1;omega
    ·exact OT h p hp
theorem zy {nh np:Nat}:∀{l:List fG} {M U:List Int},(oW nh np l M U).1=0->∀s∈l,
 rO s.hand 0 ((nh:Int) - 1)=true∧(∀p∈s.ins,0<=p∧p<=(np:Int) - 1)∧(∀p∈s.outs,0<=p∧p<=(np:Int) - 1)∧fO s.g0 s.g1 0 1000000=true∧fO s.l0 s.l1 0 1000000=true
 | [],_,_,_=> λs hs=>by simp at hs
 |t::r,M,U,h=> λs hs=>by
  unfold oW at h
  by_cases h1:rO t.hand 0 ((nh:Int) - 1)=false
  ·rw [aj h1] at h;cases h
  rw [aa h1] at h
  by_cases h2:(BQ np M t.ins U).1≠0
  ·rw [aj h2] at h;exact absurd h h2
  rw [aa h2] at h
  by_cases h3:(sP np t.outs M).1≠0
  ·rw [aj h3] at h;exact absurd h h3
  rw [aa h3] at h
  by_cases h4:fO t.g0 t.g1 0 1000000=false
  ·rw [aj h4] at h;cases h
  rw [aa h4] at h
  by_cases h5:fO t.l0 t.l1 0 1000000=false
  ·rw [aj h5] at h;cases h
  rw [aa h5] at h;rcases bE.1 hs with rfl|hs
  ·exact ⟨by simpa using h1,SS (by simpa using h2),OT (by simpa using h3),by simpa using h4,by simpa using h5⟩
  ·exact zy h s hs
theorem vv {lo hi a b:Int}:fO lo hi a b=true↔a<=lo∧lo<=hi∧hi<=b:=by
 unfold fO;simp [and_assoc]
theorem Fq {np:Nat}:∀{l:List tJ},tQ np l=0->∀s∈l,(0<=s.pile∧s.pile<=(np:Int) - 1)∧fO s.lo s.hi 0 1000000=true
 | [],_=> λs hs=>by simp at hs
 |t::r,h=> λs hs=>by
  unfold tQ at h
  by_cases h1:rO t.pile 0 ((np:Int) - 1)=false
  ·rw [aj h1] at h;cases h
  rw [aa h1] at h
  by_cases h2:fO t.lo t.hi 0 1000000=false
  ·rw [aj h2] at h;cases h
  rw [aa h2] at h;rcases bE.1 hs with rfl|hs
  ·refine ⟨?_,by simpa using h2⟩;simp [rO] at h1;omega
  ·exact Fq h s hs
theorem Iz {b:fe} (h:gL b=0):fU b.eO 4=0∧fU b.dO 12=0∧jO b=0∧b.dR.length<=10∧tQ b.dO.length b.dR=0:=by
 unfold gL at h
 by_cases h1:fU b.eO 4≠0
 ·rw [aj h1] at h;exact absurd h h1
 rw [aa h1] at h
 by_cases h2:fU b.dO 12≠0
 ·rw [aj h2] at h;exact absurd h h2
 rw [aa h2] at h
 by_cases h3:jO b≠0
 ·rw [aj h3] at h;exact absurd h h3
 rw [aa h3] at h
 by_cases h4:10<b.dR.length
 ·rw [aj h4] at h;cases h
 rw [aa h4] at h;exact ⟨by simpa using h1,by simpa using h2,by simpa using h3,by omega,h⟩
theorem Fs {b:fe} (h:jO b=0):b.steps.length<=8∧(oW b.eO.length b.dO.length b.steps [] []).1=0∧¬(oW b.eO.length b.dO.length b.steps [] []).2.length<b.dO.length:=by
 unfold jO at h
 by_cases h1:8<b.steps.length
 ·rw [aj h1] at h;cases h
 rw [aa h1] at h
 by_cases h2:(oW b.eO.length b.dO.length b.steps [] []).1≠0
 ·rw [aj h2] at h;exact absurd h h2
 rw [aa h2] at h
 by_cases h3:(oW b.eO.length b.dO.length b.steps [] []).2.length<b.dO.length
 ·rw [aj h3] at h;cases h
 exact ⟨by omega,by simpa using h2,h3⟩
theorem yu {l:List ByteArray} {m:Nat} (h:fU l m=0):l.length<=m:=by
 unfold fU at h;split at h
 ·cases h
 ·omega
theorem oz {b:fe} (hs:b.small) (h:gL b=0):b.good:=by
 obtain ⟨h1,h2,h3,h4,h5⟩:=Iz h;obtain ⟨k1,k2,_⟩:=Fs h3;have l2:=yu h2;refine ⟨hs,k1,l2, λs hx=>?_, λs hx=>?_, λs hx p hp=>?_, λs hx p hp=>?_⟩
 ·obtain ⟨_,x⟩:=Fq h5 s hx;rw [vv] at x;omega
 ·obtain ⟨_,_,_,x,y⟩:=zy k2 s hx;rw [vv] at x y;omega
 ·obtain ⟨_,x,_⟩:=zy k2 s hx;have :=x p hp;omega
 ·obtain ⟨_,_,x,_⟩:=zy k2 s hx;have :=x p hp;omega
end
end Go.Proofs
namespace Go.Proofs
open Go Go.RowKit
section
variable [Lo.St]
theorem Lo.AO (s:ByteArray) (w:World):Calls Lo.prog 83 #[.string s] w λe w'=>e= .returned (.bool (nk s))∧Below w.heap.size w w':=by
 cases h:rO s.size 1 14 with
 |true=>exact Lo.Nb s w h
 |false=>
  have e:nk s=false:=by unfold nk;rw [h];rfl
  rw [e];exact Lo.Qf s w h
theorem OI.take {w:World} {B:Nat} {A:Option Addr} {l:List ByteArray} (h:OI w B A l) (k:Nat) (hk:k<=l.length):OI w B A (l.take k):= λhn=>by
 have e:(l.take k).length=k:=by rw [List.length_take];omega
 rw [e] at hn;obtain ⟨b,off,e1,hb,hc⟩:=h (by omega);refine ⟨b,off,e1,hb, λi j hi hj=>?_⟩;rw [e] at hi;rw [hc i j (by omega) hj];simp only;rw [List.getElem?_take_of_lt hi]
theorem Lo.SV {w:World} {B n:Nat} {A:Option Addr} {l:List ByteArray} {c:Nat} {s:ByteArray} (hn:n=l.length) (h1:OI w B A l) (hl:l.length<=64):
 Calls Lo.prog 84 #[.slice A n c,.string s] w λe w'=>e= .returned (.bool (KQ s l))∧w'=w:=hn ▸ Lo.Sv h1 hl
theorem K4 (l:List ByteArray) (k:Nat) (h:k<l.length):AL (l.drop k) (l.take k)=if nk l[k]=false then 4 else if KQ l[k] (l.take k)=true then 5 else AL (l.drop (k+1)) (l.take (k+1)):=by
 rw [aW h,bz h];rfl
theorem Lo.gV {w:World} {B:Nat} {A:Option Addr} {l:List ByteArray} {c most:Nat} (h1:OI w B A l) (hl:l.length<=64) (hcap:l.length<=c) (hB:B<=w.heap.size) (hm:most<=64):
 Calls Lo.prog 47 #[.slice A l.length c,.int .i64 (most:Int)] w λe w'=>e= .returned (.int .i64 (fU l most))∧Below w.heap.size w w':=by
 obtain ⟨U,U2,U3,U4,U5,U6⟩:=Lo.facts;have C:=Lo.call83;have C2:=Lo.call84
 by_cases hgt:most<l.length
 ·have SX:(most:Int)<(l.length:Int):=by omega
  have e:fU l most=2:=by unfold fU;rw [aj hgt]
  rw [e];go_enter Lo.func47,Tryz.ntmps47
  go_wp2_with fail
  go_ret;exact ⟨rfl,di _ _⟩
 ·have SX:¬(most:Int)<(l.length:Int):=by omega
  have e:fU l most=AL l []:=by unfold fU;rw [aa hgt]
  rw [e];clear e;generalize hF:AL l []=F;have HF:=dw hF;clear hF;go_enter Lo.func47,Tryz.ntmps47
  go_wp2_with fail
  go_loopw [13] (λi wr=>∃k:Nat,k<=l.length∧i= .int .i64 (k:Int)∧AL (l.drop k) (l.take k)=F∧Below w.heap.size w wr) (λi _=>l.length - (intOf i).toNat)
  case atStart=>exact ⟨0,bn _,rfl,by rw [List.drop_zero,List.take_zero];exact HF.out,di _ _⟩
  case round=>
   obtain ⟨k,hk,rfl,hx,hb⟩:=hrel
   by_cases hlt:k<l.length
   ·have hlt':(k:Int)<(l.length:Int):=by omega
    have hkc:k<=c:=by omega
    have h1k:OI wr B A l:=h1.keep λb o h=>dU hb b o (by omega)
    obtain ⟨bb,off,rfl,hbb,hc⟩:=h1k (by omega);have r1:=M5 hc hlt;have ht:OI wr B (some ⟨bb,off,none⟩) (l.take k):=OI.take (λ_=>⟨bb,off,rfl,hbb,hc⟩) k (by omega);have hd:=K4 l k hlt;rw [hx] at hd;have htl:k=(l.take k).length:=by rw [List.length_take];omega
    generalize l[k]=s at r1 hd;have HT:=dw ht;have HD:=dw hd;have HB:=dw hb;have HTL:=dw htl;clear ht hd hb hc hx h1k h1 htl;cases hnm:nk s with
    |false=>
     have HN:=dw hnm;clear hnm
     go_wp2_with (go_at_call 83;refine (Lo.AO _ _).mono ?_;rintro e w1 ⟨rfl,hb1⟩;rw [HN.out])
     go_ret;exact ⟨by rw [HD.out,aj HN.out];rfl,HB.out.trans (hb1.mono HB.out.size)⟩
    |true=>
     have HN:=dw hnm;clear hnm;cases hhs:KQ s (l.take k) with
     |true=>
      have HH:=dw hhs;clear hhs
      go_wp2_with (first
       |(go_at_call 83;refine (Lo.AO _ _).mono ?_;rintro e w1 ⟨rfl,hb1⟩;rw [HN.out])
       |(go_at_call 84;refine (Lo.SV HTL.out (HT.out.keep λb o h=>dU hb1 b o (by have :=HB.out.size;omega)) (by rw [List.length_take];omega)).mono ?_;rintro e w2 ⟨rfl,rfl⟩;rw [HH.out]))
      go_ret;exact ⟨by rw [HD.out,aa (by rw [HN.out];simp),aj HH.out];rfl,HB.out.trans (hb1.mono HB.out.size)⟩
     |false=>
      have HH:=dw hhs;clear hhs
      go_wp2_with (first
       |(go_at_call 83;refine (Lo.AO _ _).mono ?_;rintro e w1 ⟨rfl,hb1⟩;rw [HN.out])
       |(go_at_call 84;refine (Lo.SV HTL.out (HT.out.keep λb o h=>dU hb1 b o (by have :=HB.out.size;omega)) (by rw [List.length_take];omega)).mono ?_;rintro e w2 ⟨rfl,rfl⟩;rw [HH.out]))
      go_roundw
      case rel=>exact ⟨k+1,by omega,by go_num,by rw [HD.out,aa (by rw [HN.out];simp),aa (by rw [HH.out];simp)],HB.out.trans (hb1.mono HB.out.size)⟩
      case measure=>simp [intOf];omega
   ·obtain rfl:k=l.length:=by omega
    rw [aF] at hx;have HX:=dw hx;clear hx
    go_wp2_with fail
    go_ret;exact ⟨by rw [<-HX.out];rfl,hb⟩
end
end Go.Proofs
namespace Go.Proofs
open Go Go.RowKit Go.Maps
section
variable [Lo.St]
abbrev vT:DataW Unit:=.lit (.bool true)
def Es (l:List Int):DataW Unit:=setOf vT (l.map kI)
theorem IA (l:List Int) (p:Int):Es (l++ [p])=(Es l).put (kI p) vT:=by
 unfold Es;rw [List.map_append];exact setOf_snoc _ _ _
theorem OU (l:List Int):∀x∈l.map kI,WideAt.IsKeyLit x:= λx hx=>by
 obtain ⟨p,_,rfl⟩:=List.mem_map.1 hx;exact JH p
theorem Nc (p q:Int):(kI p).sameKey (kI q)=decide (p=q):=by
 by_cases h:p=q
 ·subst h;simp [Lit.sameKey]
 ·rw [sameKey_ne (JI h)];simp [h]
theorem xG (l:List Int) (q:Int):(Es l).atKey (kI q) (.lit (.bool false))= .lit (.bool (l.contains q)):=by
 induction l using yS with
 |h0=>rfl
 |h1 l p ih=>
  have hm:IsMap (Es l):=(tidy_setOf vT _ (OU l)).isMap;rw [IA]
  by_cases h:p=q
  ·subst h;rw [atKey_put_same hm (JH p)];simp
  ·rw [atKey_put_other (JI (Ne.symm h)),ih];simp [Ne.symm h]
theorem Qg (l:List Int) (h:l.Nodup):Maps.size (Es l)=l.length:=by
 unfold Es;rw [size_setOf _ _ (OU l)]
 have :∀(l acc:List Int),l.Nodup->(∀x∈l,x ∉ acc)->(l.map kI).foldl addKey (acc.map kI)=(acc++l).map kI:=by
  intro l
  induction l with
  |nil=>intro acc _ _;simp
  |cons p l ih=>
   intro acc hn ha;simp only [aC,List.foldl_cons]
   have e:addKey (acc.map kI) (kI p)=(acc++ [p]).map kI:=by
    unfold addKey;rw [aa]
    ·simp
    ·simp only [List.any_map,List.any_eq_true,Function.comp];rintro ⟨x,hx,h2⟩;rw [Nc] at h2;have :=of_decide_eq_true h2;subst this;exact ha _ (by simp) hx
   rw [e,ih (acc++ [p]) (List.nodup_cons.1 hn).2 (λx hx hm=>by
    rcases List.mem_append.1 hm with hm|hm
    ·exact ha x (by simp [hx]) hm
    ·simp at hm;subst hm;exact (List.nodup_cons.1 hn).1 hx)]
   simp
 have :=this l [] h (λ_ _ h=>by cases h);simp only [List.map_nil,List.nil_append] at this;rw [this,List.length_map]
section
variable {H:Type} {P:Program} (w:World) {ops:Array Oper} {rest:List Oper} {o:Oper} {a:Act} {Q:Exit->Act->World->Prop}
theorem AP {e:TypeId} (he:P.underlying e=some .bool) {v:Value} {z:DataW H×List MemPlace} (h:plainElem P e v=some z):∃x,v= .bool x∧z=(.lit (.bool x),[]):=by
 unfold plainElem at h;rw [he] at h;cases v<;>simp at h;rename_i x;exact ⟨x,rfl,h.symm⟩
theorem fZ (hg:o.guard=none) (m x:Operand) (t:TypeId) (hop:o.op=Op.lookup t m x false)
 (k e:TypeId) (K:Keyed P k) (ht:P.underlying t=some (.map k e)) (he:P.underlying e=some .bool) (hz:(zeroValue e).run P w= .ok (.bool false) w) (b n:Nat) (D:DataW H)
 (hm:a.eval m= .map (some b)) (hown:w.ownsMap P k (plainElem P e) b n D) (key:Value) (kl:Lit) (hx:a.eval x=key) (hkey:keyOf P k key=some kl)
 (r:Bool) (hr:D.atKey kl (.lit (.bool false))= .lit (.bool r))
 (hK:wpList P ops Q rest (a.put o.dst (.bool r)) w):
 wpList P ops Q (o::rest) a w:=by
 refine wpList_plain hg λK' hK'=>?_
 obtain ⟨v,ps,hrun,hv⟩:=hown.lookup K ht hz (plainElem_bool he false) hkey;obtain ⟨c,rfl,hc⟩:=AP he hv;have e1:=congrArg Prod.fst hc;simp only at e1;rw [hr] at e1;have e2:r=c:=by cases e1;rfl
 subst e2;unfold Oper.wp;simp [execOp,hop,hm,hx,hrun,Result.andThen];exact hK' _ _ hK
end
theorem Lo.uF:Lo.prog.underlying 133=some (.map 3 4):=(Lo.underlying 133).trans (by kernel_rfl)
theorem Lo.JL:Lo.prog.underlying 4=some .bool:=(Lo.underlying 4).trans (by kernel_rfl)
theorem Lo.YI:Lo.prog.underlying 3=some (.int .i64):=(Lo.underlying 3).trans (by kernel_rfl)
theorem Lo.BS:Keyed Lo.prog 3:=int_keyed Lo.YI
theorem Lo.Fu (w:World):(Go.zeroValue 4).run Lo.prog w= .ok (.bool false) w:=(Lo.zeroValue 4 w).trans (by kernel_rfl)
abbrev mB (w:World) (b n:Nat) (l:List Int):Prop:=w.ownsMap Lo.prog 3 (plainElem Lo.prog 4) b n (Es l)
theorem YJ {w1:World} {b n:Nat} {l:List Int} {p:Int} (h:w1.ownsMap Lo.prog 3 (plainElem Lo.prog 4) b (n+1) ((Es l).put (kI p) vT)):mB w1 b (n+1) (l++ [p]):=by
 show w1.ownsMap _ _ _ _ _ (Es _);rw [IA];exact h
theorem Qh (np:Nat) (M l:List Int) (U:List Int) (k:Nat) (h:k<l.length):BQ np M (l.drop k) U=if rO l[k] 0 ((np:Int) - 1)=false then (6,U) else if M.contains l[k]=false then (7,U) else if U.contains l[k]=true then (5,U) else BQ np M (l.drop (k+1)) (U++ [l[k]]):=by
 rw [aW h];rfl
theorem Nf (np:Nat) (l:List Int) (M:List Int) (k:Nat) (h:k<l.length):sP np (l.drop k) M=if rO l[k] 0 ((np:Int) - 1)=false then (6,M) else if M.contains l[k]=true then (5,M) else sP np (l.drop (k+1)) (M++ [l[k]]):=by
 rw [aW h];rfl
theorem K5 (nh np:Nat) (l:List fG) (M U:List Int) (k:Nat) (h:k<l.length):oW nh np (l.drop k) M U=
 if rO l[k].hand 0 ((nh:Int) - 1)=false then (6,M) else
 if (BQ np M l[k].ins U).1≠0 then ((BQ np M l[k].ins U).1,M) else
 if (sP np l[k].outs M).1≠0 then ((sP np l[k].outs M).1,M) else
 if fO l[k].g0 l[k].g1 0 1000000=false then (1,M) else
 if fO l[k].l0 l[k].l1 0 1000000=false then (1,M) else
 oW nh np (l.drop (k+1)) (sP np l[k].outs M).2 (BQ np M l[k].ins U).2:=by
 rw [aW h];rfl
theorem Eb {np:Nat}:∀{l M:List Int},M.Nodup->(sP np l M).1=0->(sP np l M).2.Nodup
 | [],M,hM,_=>hM
 |q::r,M,hM,h=>by
  unfold sP at h ⊢
  by_cases h1:rO q 0 ((np:Int) - 1)=false
  ·rw [aj h1] at h;cases h
  ·rw [aa h1] at h ⊢
   by_cases h3:M.contains q=true
   ·rw [aj h3] at h;cases h
   ·rw [aa h3] at h ⊢;refine Eb ?_ h
    rw [List.nodup_append];refine ⟨hM,by simp, λa ha b hb=>?_⟩;simp at hb;subst hb
    intro e;subst e
    exact h3 (by simpa using ha)
theorem aj7 (p:Int) (h: -9223372036854775808<=p∧p<=9223372036854775807):keyOf Lo.prog 3 (.int .i64 p)=some (kI p):=keyOf_int_mk Lo.YI (wfI h.1 h.2)
theorem Lo.Fv {w:World} {B:Nat} {b:fe} {v:jR} (hb:gH w B b v) (hB:B<=w.heap.size) (hg:b.small):
 Calls Lo.prog 48 #[fJ b v] w λe w'=>e= .returned (.int .i64 (jO b))∧Below w.heap.size w w':=by
 obtain ⟨U,U2,U3,U4,U5,U6⟩:=Lo.facts;have C:=Lo.call49;have C2:=Lo.call50;have hmm:=@run_makeMap Lo.prog;have hl1:=hg.eO;have hl2:=hg.dO;have hl3:=hg.steps;obtain ⟨h1,h2,h3,h4,h5,h6,_⟩:=hb;unfold fJ;generalize v.ah=ah at h1 ⊢;generalize v.ch=ch;generalize v.ap=ap at h2 ⊢;generalize v.cp=cp;generalize v.lT=lT at h3 ⊢;generalize v.cs=cs;generalize v.ac=ac at h6 ⊢;generalize v.cc=cc;generalize v.sv=sv at h3 h4 h5;unfold jO
 by_cases hgt:8<b.steps.length
 ·have SX:(8:Int)<(b.steps.length:Int):=by omega
  rw [aj hgt];go_enter Lo.func48,Tryz.ntmps48
  go_wp2_with fail
  go_ret;exact ⟨rfl,(di _ _).alloc (aJ _) _⟩
 ·have SX:¬(8:Int)<(b.steps.length:Int):=by omega
  rw [aa hgt];generalize hF:oW b.eO.length b.dO.length b.steps [] []=F;have HF:=dw hF;clear hF;generalize hR:(if F.1≠0 then F.1 else if F.2.length<b.dO.length then (6:Int) else 0)=R;have HR:=dw hR;clear hR;go_enter Lo.func48,Tryz.ntmps48
  go_wp2_with fail
  generalize hW3:(((w.alloc (.cells #[.slice ah b.eO.length ch,.slice ap b.dO.length cp,.slice lT b.steps.length cs,.slice ac b.dR.length cc] 26)).alloc (.map #[] 0)).alloc (.map #[] 0))=W3;have sz3:W3.heap.size=w.heap.size+3:=by subst hW3;simp
  have Ng:Below w.heap.size w W3:=by
   subst hW3;exact ((((di _ _).alloc (aJ _) _).alloc (by simp) _).alloc (by simp;omega) _)
  have mk3:mB W3 (w.heap.size+1) 0 []:=by
   subst hW3;have :=(World.ownsMap_made (H:=Unit) (w.alloc (.cells #[.slice ah b.eO.length ch,.slice ap b.dO.length cp,.slice lT b.steps.length cs,.slice ac b.dR.length cc] 26)) Lo.prog 3 (plainElem Lo.prog 4)).alloc (.map #[] 0);simpa [mB,Es,setOf] using this
  have us3:mB W3 (w.heap.size+1+1) 0 []:=by
   subst hW3;have :=World.ownsMap_made (H:=Unit) ((w.alloc (.cells #[.slice ah b.eO.length ch,.slice ap b.dO.length cp,.slice lT b.steps.length cs,.slice ac b.dR.length cc] 26)).alloc (.map #[] 0)) Lo.prog 3 (plainElem Lo.prog 4);simpa [mB,Es,setOf] using this
  have bk3:∀wq,Below (w.heap.size+1) W3 wq->∀j:Nat,wq.cell? ⟨w.heap.size,j,none⟩=(#[Value.slice ah b.eO.length ch,.slice ap b.dO.length cp,.slice lT b.steps.length cs,.slice ac b.dR.length cc]:Array Value)[j]?:=by
   intro wq hx j;rw [dU hx _ _ (by omega)];subst hW3;rw [dh _ _ _ (by simp;omega),dh _ _ _ (by simp),cO _ _ _ _ rfl]
  have hkeep:∀wr,Below (w.heap.size+1) W3 wr->∀b o,b<B->wr.cell? ⟨b,o,none⟩=w.cell? ⟨b,o,none⟩:= λwr hx b o hb=>(dU hx b o (by omega)).trans (dU Ng b o (by omega))
  clear hW3;have HK:=dw hkeep;have zx:=dw bk3;have HB3:=dw Ng;clear hkeep bk3 Ng
  go_loopw [20] (λi wr=>∃k:Nat,∃M Us:List Int,k<=b.steps.length∧i= .int .i64 (k:Int)∧mB wr (w.heap.size+1) (64*k) M∧mB wr (w.heap.size+1+1) (64*k) Us∧Below (w.heap.size+1) W3 wr∧oW b.eO.length b.dO.length (b.steps.drop k) M Us=F∧M.Nodup) (λi _=>b.steps.length - (intOf i).toNat)
  case atStart=>exact ⟨0,[],[],bn _,rfl,mk3,us3,di _ _,HF.out,List.nodup_nil⟩
  case round=>
   obtain ⟨k,M,Us,hk,rfl,hmk,SG,hbl,Au,hnd⟩:=hrel;clear mk3 us3
   by_cases hlt:k<b.steps.length
   ·have hlt':(k:Int)<(b.steps.length:Int):=by omega
    have hkp:=HK.out wr hbl;obtain ⟨bb,off,rfl,hbb,hc⟩:=h3.keep hkp (by omega);obtain ⟨k0,k1,k2,k3,k4,k5,k6⟩:=JG hc hlt;have hd:=K5 b.eO.length b.dO.length b.steps M Us k hlt;rw [Au] at hd;have hsi:=hg.ins _ (aY hlt);have hso:=hg.outs _ (aY hlt);have ZC:=h4 k _ (aO hlt);have hro:=h5 k _ (aO hlt);generalize b.steps[k]=s at *;obtain ⟨hand,li,lo,g0,g1,l0,l1⟩:=s;dsimp only at *;generalize (sv k).a1=a1 at *;generalize (sv k).a2=a2 at *;have c0:∀o,(wr.alloc o).cell? ⟨w.heap.size,0,none⟩=some (.slice ah b.eO.length ch):= λo=>(dh _ _ _ (by have :=hbl.size;show w.heap.size<wr.heap.size;omega)).trans (zx.out wr hbl 0)
    have sz:=hbl.size;have HD:=dw hd;have HM:=dw hmk;have HU:=dw SG;have CX:=dw hbl;clear hkp hmk SG hbl hc h3 h4 h5 h6 h1 h2 hd Au HF;cases hbt:rO hand 0 ((b.eO.length:Int) - 1) with
    |false=>
     have CP:=dw hbt;clear hbt
     go_wp2_with (go_at_call 49;refine (Lo.eZ _ _ _ _).mono ?_;rintro e w1 ⟨rfl,rfl⟩;rw [CP.out])
     go_ret;have e:=HD.out;rw [aj CP.out] at e;exact ⟨by rw [<-HR.out,e];rfl,HB3.out.trans ((CX.out.alloc (by omega) _).mono (by omega))⟩
    |true=>
     have CP:=dw hbt;clear hbt
     go_wp2_with (go_at_call 49;refine (Lo.eZ _ _ _ _).mono ?_;rintro e w1 ⟨rfl,rfl⟩;rw [CP.out])
     generalize wI:wr.alloc (.cells #[.int .i64 hand,.slice a1 li.length (sv k).c1,.slice a2 lo.length (sv k).c2,.int .i64 g0,.int .i64 g1,.int .i64 l0,.int .i64 l1] 53)=OQ;have sz1:OQ.heap.size=wr.heap.size+1:=by subst wI;simp
     have a9:∀j:Nat,OQ.cell? ⟨wr.heap.size,j,none⟩=(#[Value.int .i64 hand,.slice a1 li.length (sv k).c1,.slice a2 lo.length (sv k).c2,.int .i64 g0,.int .i64 g1,.int .i64 l0,.int .i64 l1]:Array Value)[j]?:=by subst wI;intro j;rw [cO _ _ _ _ rfl]
     have hm1:mB OQ (w.heap.size+1) (64*k) M:=by subst wI;exact HM.out.alloc _
     have hu1:mB OQ (w.heap.size+1+1) (64*k) Us:=by subst wI;exact HU.out.alloc _
     have hb1:Below (w.heap.size+1) W3 OQ:=by subst wI;exact CX.out.alloc (by omega) _
     clear wI HM HU CX k0 k1 k2 k3 k4 k5 k6 c0;generalize wr.heap.size=n1 at *;have A9:=dw a9;have HM:=dw hm1;have HB1:=dw hb1;clear a9 hm1 hb1;generalize hFI:BQ b.dO.length M li Us=FI at HD;have HFI:=dw hFI;clear hFI
     go_loopw [35] (λi wr=>∃j:Nat,∃U':List Int,j<=li.length∧i= .int .i64 (j:Int)∧mB wr (w.heap.size+1+1) (64*k+j) U'∧OQ.grownBy wr (some (w.heap.size+1+1))∧BQ b.dO.length M (li.drop j) U'=FI) (λi _=>li.length - (intOf i).toNat)
     case atStart=>exact ⟨0,Us,bn _,rfl,hu1,uE _ _,HFI.out⟩
     case round=>
      obtain ⟨j,U',hj,rfl,hu,hgr,hfi⟩:=hrel;clear hu1;have hbq:Below (w.heap.size+1) W3 wr:=HB1.out.grown hgr (by omega) (λj hj=>by simp at hj;omega)
      by_cases hjl:j<li.length
      ·have Sr:(j:Int)<(li.length:Int):=by omega
       obtain ⟨bc,of,rfl,hbc,hcc⟩:=ZC.keep (HK.out wr hbq) (by omega);have r1:=Fb hcc hjl;have hdd:=Qh b.dO.length M li U' j hjl;rw [hfi] at hdd;have c01:wr.cell? ⟨w.heap.size,1,none⟩=some (.slice ap b.dO.length cp):=zx.out wr hbq 1;have hmk:mB wr (w.heap.size+1) (64*k) M:=HM.out.kept hgr (by simp);generalize li[j]=p at *;have SH:=dw hbq;have HG:=dw hgr;have YK:=dw hdd;clear hcc hbq hgr hdd hfi ZC HFI;cases hb2:rO p 0 ((b.dO.length:Int) - 1) with
       |false=>
        have yV:=dw hb2;clear hb2
        go_wp2_with (go_at_call 49;refine (Lo.eZ _ _ _ _).mono ?_;rintro e w1 ⟨rfl,rfl⟩;rw [yV.out])
        go_ret;have e1:=YK.out;rw [aj yV.out] at e1;have e:=HD.out;rw [aa (by rw [CP.out];simp),e1,aj (by simp)] at e;exact ⟨by rw [<-HR.out,e];rfl,HB3.out.trans (SH.out.mono (by omega))⟩
       |true=>
        have hkey:keyOf Lo.prog 3 (.int .i64 p)=some (kI p):=aj7 p (by simp [rO] at hb2;omega);have yV:=dw hb2;clear hb2;cases hcm:M.contains p with
        |false=>
         have HCM:=dw hcm;clear hcm
         go_wp2_with (first
          |(go_at_call 49;refine (Lo.eZ _ _ _ _).mono ?_;rintro e w1 ⟨rfl,rfl⟩;rw [yV.out])
          |(at_lookup;refine fZ _ rfl _ _ 133 rfl 3 4 Lo.BS Lo.uF Lo.JL (Lo.Fu _) (w.heap.size+1) _ _ rfl hmk _ _ rfl hkey false (by rw [xG,HCM.out]) ?_)
          |go_in)
         go_ret;have e1:=YK.out;rw [aa (by rw [yV.out];simp),aj HCM.out] at e1;have e:=HD.out;rw [aa (by rw [CP.out];simp),e1,aj (by simp)] at e;exact ⟨by rw [<-HR.out,e];rfl,HB3.out.trans (SH.out.mono (by omega))⟩
        |true=>
         have HCM:=dw hcm;clear hcm;cases We:U'.contains p with
         |true=>
          have ZG:=dw We;clear We
          go_wp2_with (first
           |(go_at_call 49;refine (Lo.eZ _ _ _ _).mono ?_;rintro e w1 ⟨rfl,rfl⟩;rw [yV.out])
           |(at_lookup;refine fZ _ rfl _ _ 133 rfl 3 4 Lo.BS Lo.uF Lo.JL (Lo.Fu _) (w.heap.size+1) _ _ rfl hmk _ _ rfl hkey true (by rw [xG,HCM.out]) ?_)
           |(at_lookup;refine fZ _ rfl _ _ 133 rfl 3 4 Lo.BS Lo.uF Lo.JL (Lo.Fu _) (w.heap.size+1+1) _ _ rfl hu _ _ rfl hkey true (by rw [xG,ZG.out]) ?_)
           |go_in)
          go_ret;have e1:=YK.out;rw [aa (by rw [yV.out];simp),aa (by rw [HCM.out];simp),aj ZG.out] at e1;have e:=HD.out;rw [aa (by rw [CP.out];simp),e1,aj (by simp)] at e;exact ⟨by rw [<-HR.out,e];rfl,HB3.out.trans (SH.out.mono (by omega))⟩
         |false=>
          have ZG:=dw We;clear We
          go_wp2_with (first
           |(go_at_call 49;refine (Lo.eZ _ _ _ _).mono ?_;rintro e w1 ⟨rfl,rfl⟩;rw [yV.out])
           |(at_lookup;refine fZ _ rfl _ _ 133 rfl 3 4 Lo.BS Lo.uF Lo.JL (Lo.Fu _) (w.heap.size+1) _ _ rfl hmk _ _ rfl hkey true (by rw [xG,HCM.out]) ?_)
           |(at_lookup;refine fZ _ rfl _ _ 133 rfl 3 4 Lo.BS Lo.uF Lo.JL (Lo.Fu _) (w.heap.size+1+1) _ _ rfl hu _ _ rfl hkey false (by rw [xG,ZG.out]) ?_)
           |(at_mapUpdate;refine wpList_mapUpdate_own _ rfl _ _ _ 133 rfl 3 4 Lo.BS Lo.uF _ (w.heap.size+1+1) _ _ rfl hu (by unfold maxLen;omega) _ _ _ rfl rfl hkey _ [] (plainElem_bool Lo.JL true) ?_;intro w1 hown1 hgrow1)
           |go_in)
          have HO:=dw hown1;have ZE:=dw hgrow1;clear hown1 hgrow1 hu hmk;go_roundw
          case rel=>exact ⟨j+1,U'++ [p],by omega,by go_num,YJ HO.out,HG.out.trans ZE.out,by
           have e1:=YK.out;rw [aa (by rw [yV.out];simp),aa (by rw [HCM.out];simp),aa (by rw [ZG.out];simp)] at e1;exact e1.symm⟩
          case measure=>simp [intOf];omega
      ·obtain rfl:j=li.length:=by omega
       rw [aF] at hfi;have hfi:FI=(0,U'):=hfi.symm;have S9:=dw hfi
       have c2:wr.cell? ⟨n1,2,none⟩=some (.slice a2 lo.length (sv k).c2):=by
        rw [dm (hgr.block n1 (by omega) (by simp;omega))];exact A9.out 2
       have hmk:mB wr (w.heap.size+1) (64*k) M:=HM.out.kept hgr (by simp);have HU2:=dw (show mB wr (w.heap.size+1+1) (64*(k+1)) U' from World.ownsMap.mono hu (by omega));have SH:=dw hbq;have HGA:=dw hgr;have szr:=hgr.size;generalize hFO:sP b.dO.length lo M=FO at HD;have HFO:=dw hFO;clear hFO hfi hu hgr hbq HM HB1 ZC HFI
       go_wp2_with fail
       generalize wr=wr2 at *
       go_loopw [62] (λi wr=>∃j:Nat,∃M':List Int,j<=lo.length∧i= .int .i64 (j:Int)∧mB wr (w.heap.size+1) (64*k+j) M'∧wr2.grownBy wr (some (w.heap.size+1))∧sP b.dO.length (lo.drop j) M'=FO) (λi _=>lo.length - (intOf i).toNat)
       case atStart=>exact ⟨0,M,bn _,rfl,hmk,uE _ _,HFO.out⟩
       case round=>
        obtain ⟨j,M',hj,rfl,hm,hgr,hfo⟩:=hrel;clear hmk;have hbq:Below (w.heap.size+1) W3 wr:=SH.out.grown hgr (by omega) (λj hj=>by simp at hj;omega)
        by_cases hjl:j<lo.length
        ·have Sr:(j:Int)<(lo.length:Int):=by omega
         obtain ⟨bc,of,rfl,hbc,hcc⟩:=hro.keep (HK.out wr hbq) (by omega);have r1:=Fb hcc hjl;have hdd:=Nf b.dO.length lo M' j hjl;rw [hfo] at hdd;have c01:wr.cell? ⟨w.heap.size,1,none⟩=some (.slice ap b.dO.length cp):=zx.out wr hbq 1;generalize lo[j]=p at *;have zO:=dw hbq;have HG:=dw hgr;have YK:=dw hdd;clear hcc hbq hgr hdd hfo hro HFO c2;cases hb2:rO p 0 ((b.dO.length:Int) - 1) with
         |false=>
          have yV:=dw hb2;clear hb2
          go_wp2_with (go_at_call 49;refine (Lo.eZ _ _ _ _).mono ?_;rintro e w1 ⟨rfl,rfl⟩;rw [yV.out])
          go_ret;have e1:=YK.out;rw [aj yV.out] at e1;have e:=HD.out;rw [aa (by rw [CP.out];simp),S9.out,aa (by simp),e1,aj (by simp)] at e;exact ⟨by rw [<-HR.out,e];rfl,HB3.out.trans (zO.out.mono (by omega))⟩
         |true=>
          have hkey:keyOf Lo.prog 3 (.int .i64 p)=some (kI p):=aj7 p (by simp [rO] at hb2;omega);have yV:=dw hb2;clear hb2;cases hcm:M'.contains p with
          |true=>
           have HCM:=dw hcm;clear hcm
           go_wp2_with (first
            |(go_at_call 49;refine (Lo.eZ _ _ _ _).mono ?_;rintro e w1 ⟨rfl,rfl⟩;rw [yV.out])
            |(at_lookup;refine fZ _ rfl _ _ 133 rfl 3 4 Lo.BS Lo.uF Lo.JL (Lo.Fu _) (w.heap.size+1) _ _ rfl hm _ _ rfl hkey true (by rw [xG,HCM.out]) ?_)
            |go_in)
           go_ret;have e1:=YK.out;rw [aa (by rw [yV.out];simp),aj HCM.out] at e1;have e:=HD.out;rw [aa (by rw [CP.out];simp),S9.out,aa (by simp),e1,aj (by simp)] at e;exact ⟨by rw [<-HR.out,e];rfl,HB3.out.trans (zO.out.mono (by omega))⟩
          |false=>
           have HCM:=dw hcm;clear hcm
           go_wp2_with (first
            |(go_at_call 49;refine (Lo.eZ _ _ _ _).mono ?_;rintro e w1 ⟨rfl,rfl⟩;rw [yV.out])
            |(at_lookup;refine fZ _ rfl _ _ 133 rfl 3 4 Lo.BS Lo.uF Lo.JL (Lo.Fu _) (w.heap.size+1) _ _ rfl hm _ _ rfl hkey false (by rw [xG,HCM.out]) ?_)
            |(at_mapUpdate;refine wpList_mapUpdate_own _ rfl _ _ _ 133 rfl 3 4 Lo.BS Lo.uF _ (w.heap.size+1) _ _ rfl hm (by unfold maxLen;omega) _ _ _ rfl rfl hkey _ [] (plainElem_bool Lo.JL true) ?_;intro w1 hown1 hgrow1)
            |go_in)
           have HO:=dw hown1;have ZE:=dw hgrow1;clear hown1 hgrow1 hm;go_roundw
           case rel=>exact ⟨j+1,M'++ [p],by omega,by go_num,YJ HO.out,HG.out.trans ZE.out,by
            have e1:=YK.out;rw [aa (by rw [yV.out];simp),aa (by rw [HCM.out];simp)] at e1;exact e1.symm⟩
           case measure=>simp [intOf];omega
        ·obtain rfl:j=lo.length:=by omega
         rw [aF] at hfo;have hfo:FO=(0,M'):=hfo.symm;have ZJ:=dw hfo
         have aj8:M'.Nodup:=by
          have :=Eb (np:=b.dO.length) (l:=lo) (M:=M) hnd (by rw [HFO.out,hfo]);rw [HFO.out,hfo] at this;exact this
         have cc:∀j:Nat,wr.cell? ⟨n1,j,none⟩=wr2.cell? ⟨n1,j,none⟩:= λj=>dm (hgr.block n1 (by omega) (by simp;omega))
         have cd:∀j:Nat,wr2.cell? ⟨n1,j,none⟩=OQ.cell? ⟨n1,j,none⟩:= λj=>dm (HGA.out.block n1 (by omega) (by simp;omega))
         have c3:wr.cell? ⟨n1,3,none⟩=some (.int .i64 g0):=(cc 3).trans ((cd 3).trans (A9.out 3));have c4:wr.cell? ⟨n1,3+1,none⟩=some (.int .i64 g1):=(cc 4).trans ((cd 4).trans (A9.out 4));have c5:wr.cell? ⟨n1,5,none⟩=some (.int .i64 l0):=(cc 5).trans ((cd 5).trans (A9.out 5));have c6:wr.cell? ⟨n1,5+1,none⟩=some (.int .i64 l1):=(cc 6).trans ((cd 6).trans (A9.out 6));have hgs:=hgr.size;have zO:=dw hbq;have HMM:=dw (show mB wr (w.heap.size+1) (64*(k+1)) M' from World.ownsMap.mono hm (by omega));have HUU:=dw (show mB wr (w.heap.size+1+1) (64*(k+1)) U' from HU2.out.kept hgr (by simp));have HND:=dw aj8;clear hfo hm hgr hbq HFO cc cd HU2 SH HGA hro hnd aj8;have szq:=zO.out.size;have szg:=hgs;cases hi1:fO g0 g1 0 1000000 with
         |false=>
          have HI1:=dw hi1;clear hi1
          go_wp2_with (go_at_call 50;refine (Lo.lG _ _ _ _ _).mono ?_;rintro e w1 ⟨rfl,hb1⟩;rw [HI1.out])
          go_ret;have e:=HD.out;rw [aa (by rw [CP.out];simp),S9.out,aa (by simp),ZJ.out,aa (by simp),aj HI1.out] at e;exact ⟨by rw [<-HR.out,e];rfl,HB3.out.trans ((zO.out.trans (hb1.mono (by omega))).mono (by omega))⟩
         |true=>
          have HI1:=dw hi1;clear hi1;cases hi2:fO l0 l1 0 1000000 with
          |false=>
           have HI2:=dw hi2;clear hi2
           go_wp2_with (first
            |(go_at_call 50;refine (Lo.lG _ _ _ _ _).mono ?_;rintro e w1 ⟨rfl,hb1⟩;rw [HI1.out];have d5:=(dU hb1 n1 5 (by omega)).trans c5;have d6:=(dU hb1 n1 (5+1) (by omega)).trans c6)
            |(go_at_call 50;refine (Lo.lG _ _ _ _ _).mono ?_;rintro e w2 ⟨rfl,hb2⟩;rw [HI2.out]))
           go_ret;have e:=HD.out;rw [aa (by rw [CP.out];simp),S9.out,aa (by simp),ZJ.out,aa (by simp),aa (by rw [HI1.out];simp),aj HI2.out] at e;exact ⟨by rw [<-HR.out,e];rfl,HB3.out.trans (((zO.out.trans (hb1.mono (by omega))).trans (hb2.mono (by have :=hb1.size;omega))).mono (by omega))⟩
          |true=>
           have HI2:=dw hi2;clear hi2
           go_wp2_with (first
            |(go_at_call 50;refine (Lo.lG _ _ _ _ _).mono ?_;rintro e w1 ⟨rfl,hb1⟩;rw [HI1.out];have d5:=(dU hb1 n1 5 (by omega)).trans c5;have d6:=(dU hb1 n1 (5+1) (by omega)).trans c6)
            |(go_at_call 50;refine (Lo.lG _ _ _ _ _).mono ?_;rintro e w2 ⟨rfl,hb2⟩;rw [HI2.out]))
           have hzz:=hb1.size;have as6:=dw ((HMM.out.kept (below_grown hb1 rfl none) (by simp)).kept (below_grown hb2 rfl none) (by simp));have as7:=dw ((HUU.out.kept (below_grown hb1 rfl none) (by simp)).kept (below_grown hb2 rfl none) (by simp));have Hq:=dw ((zO.out.trans (hb1.mono (by omega))).trans (hb2.mono (by omega)));clear hb1 hb2 HMM HUU zO;go_roundw
           case rel=>exact ⟨k+1,M',U',by omega,by go_num,as6.out,as7.out,Hq.out,by
            have e:=HD.out;rw [aa (by rw [CP.out];simp),S9.out,aa (by simp),ZJ.out,aa (by simp),aa (by rw [HI1.out];simp),aa (by rw [HI2.out];simp)] at e;exact e.symm,HND.out⟩
           case measure=>simp [intOf];omega
   ·obtain rfl:k=b.steps.length:=by omega
    rw [aF] at Au;have hF:F=(0,M):=Au.symm;have c01:wr.cell? ⟨w.heap.size,1,none⟩=some (.slice ap b.dO.length cp):=zx.out wr hbl 1;have hsz:=Qg M hnd;have HF2:=dw hF;have HS:=dw hsz;have CX:=dw hbl;clear hF Au hsz hbl HF
    by_cases hlp:M.length<b.dO.length
    ·have aj9:(M.length:Int)<(b.dO.length:Int):=by omega
     go_wp2_with (first
      |(at_len;refine wpList_len_own _ rfl _ 133 rfl 3 4 Lo.uF _ (w.heap.size+1) _ _ rfl hmk ?_;rw [HS.out])
      |go_in)
     go_ret;have e:=HR.out;rw [HF2.out,aa (by simp),aj hlp] at e;exact ⟨by rw [<-e];rfl,HB3.out.trans (CX.out.mono (by omega))⟩
    ·have aj9:¬(M.length:Int)<(b.dO.length:Int):=by omega
     go_wp2_with (first
      |(at_len;refine wpList_len_own _ rfl _ 133 rfl 3 4 Lo.uF _ (w.heap.size+1) _ _ rfl hmk ?_;rw [HS.out])
      |go_in)
     go_ret;have e:=HR.out;rw [HF2.out,aa (by simp),aa (by simpa using aj9)] at e;exact ⟨by rw [<-e];rfl,HB3.out.trans (CX.out.mono (by omega))⟩
end
section
variable [Lo.St]
theorem JM (np:Nat) (l:List tJ) (k:Nat) (h:k<l.length):tQ np (l.drop k)=if rO l[k].pile 0 ((np:Int) - 1)=false then 6 else if fO l[k].lo l[k].hi 0 1000000=false then 1 else tQ np (l.drop (k+1)):=by
 rw [aW h];rfl
theorem Lo.xH {w:World} {B:Nat} {b:fe} {v:jR} {x:Value} (hx:x=fJ b v) (hb:gH w B b v) (hB:B<=w.heap.size) (hg:b.small):
 Calls Lo.prog 48 #[x] w λe w'=>e= .returned (.int .i64 (jO b))∧Below w.heap.size w w':=hx ▸ Lo.Fv hb hB hg
theorem Lo.zV {w:World} {B:Nat} {b:fe} {v:jR} (hb:gH w B b v) (hB:B<=w.heap.size) (hg:b.small):
 Calls Lo.prog 17 #[fJ b v] w λe w'=>e= .returned (.int .i64 (gL b))∧Below w.heap.size w w':=by
 obtain ⟨U,U2,U3,U4,U5,U6⟩:=Lo.facts;have C:=Lo.call49;have C2:=Lo.call50;have C3:=Lo.call47;have C4:=Lo.call48;have hl1:=hg.eO;have hl2:=hg.dO;have hl4:=hg.dR;have HBA:=dw hb;have h1:=hb.eO;have h2:=hb.dO;have h6:=hb.dR;have q1:=hb.lh;have q2:=hb.lp;clear hb;have hbv:Value.agg #[.slice v.ah b.eO.length v.ch,.slice v.ap b.dO.length v.cp,.slice v.lT b.steps.length v.cs,.slice v.ac b.dR.length v.cc]=fJ b v:=rfl;generalize hR:gL b=R;unfold gL at hR;have HR:=dw hR;clear hR;rw [<-hbv];have kR:=dw hbv;clear hbv;generalize v.ah=ah at h1 q1 kR ⊢;generalize v.ch=ch at q1 kR ⊢;generalize v.ap=ap at h2 q2 kR ⊢;generalize v.cp=cp at q2 kR ⊢;generalize v.lT=lT at kR ⊢;generalize v.cs=cs at kR ⊢;generalize v.ac=ac at h6 kR ⊢;generalize v.cc=cc at kR ⊢;have bA:Below w.heap.size w (w.alloc (.cells #[.slice ah b.eO.length ch,.slice ap b.dO.length cp,.slice lT b.steps.length cs,.slice ac b.dR.length cc] 26)):=(di _ _).alloc (aJ _) _;have cA:∀j:Nat,(w.alloc (.cells #[.slice ah b.eO.length ch,.slice ap b.dO.length cp,.slice lT b.steps.length cs,.slice ac b.dR.length cc] 26)).cell? ⟨w.heap.size,j,none⟩=(#[Value.slice ah b.eO.length ch,.slice ap b.dO.length cp,.slice lT b.steps.length cs,.slice ac b.dR.length cc]:Array Value)[j]?:= λj=>by rw [cO _ _ _ _ rfl]
 have a1:OI (w.alloc (.cells #[.slice ah b.eO.length ch,.slice ap b.dO.length cp,.slice lT b.steps.length cs,.slice ac b.dR.length cc] 26)) B ah b.eO:=h1.keep λb o h=>dU bA b o (by omega)
 have a2:OI (w.alloc (.cells #[.slice ah b.eO.length ch,.slice ap b.dO.length cp,.slice lT b.steps.length cs,.slice ac b.dR.length cc] 26)) B ap b.dO:=h2.keep λb o h=>dU bA b o (by omega)
 have a3:gH (w.alloc (.cells #[.slice ah b.eO.length ch,.slice ap b.dO.length cp,.slice lT b.steps.length cs,.slice ac b.dR.length cc] 26)) B b v:=HBA.out.keep λb o h=>dU bA b o (by omega)
 have HC:=dw cA;have HA1:=dw a1;have HA2:=dw a2;have HA3:=dw a3;have KO:=dw bA;clear cA a1 a2 a3 bA h1 h2 HBA;generalize hx1:fU b.eO 4=x1 at HR;have X1:=dw hx1;generalize hx2:fU b.dO 12=x2 at HR;have X2:=dw hx2;generalize hx3:jO b=x3 at HR;have X3:=dw hx3;clear hx1 hx2 hx3
 by_cases z1:x1=0
 ·subst z1;have e1:=HR.out;rw [aa (by simp)] at e1;clear HR;have HR:=dw e1;clear e1
  by_cases z2:x2=0
  ·subst z2;have e1:=HR.out;rw [aa (by simp)] at e1;clear HR;have HR:=dw e1;clear e1
   by_cases z3:x3=0
   ·subst z3;have e1:=HR.out;rw [aa (by simp)] at e1;clear HR;have HR:=dw e1;clear e1
    by_cases hgt:10<b.dR.length
    ·have SX:(10:Int)<(b.dR.length:Int):=by omega
     go_enter Lo.func17,Tryz.ntmps17
     go_wp2_with (first
      |(go_at_call 48;refine (Lo.xH kR.out (HA3.out.keep λb o h=>dU HB2.out b o (by simp;omega)) (by have :=HB2.out.size;simp at this;omega) hg).mono ?_;rintro e w3 ⟨rfl,hb3⟩;rw [X3.out];have HB3:=dw (HB2.out.trans (hb3.mono HB2.out.size));clear hb3;have g1:=(dU HB3.out w.heap.size 1 (by simp)).trans (HC.out 1);have g3:=(dU HB3.out w.heap.size 3 (by simp)).trans (HC.out 3))
      |(go_at_call 47;refine (Lo.gV (most:=12) (HA2.out.keep λb o h=>dU HB1.out b o (by simp;omega)) hl2 q2 (by have :=HB1.out.size;simp at this;omega) (by omega)).mono ?_;rintro e w2 ⟨rfl,hb2⟩;rw [X2.out];have HB2:=dw (HB1.out.trans (hb2.mono HB1.out.size));clear hb2;have f0:=(dU HB2.out w.heap.size 0 (by simp)).trans (HC.out 0);have f1:=(dU HB2.out w.heap.size 1 (by simp)).trans (HC.out 1);have f2:=(dU HB2.out w.heap.size 2 (by simp)).trans (HC.out 2);have f3:=(dU HB2.out w.heap.size 3 (by simp)).trans (HC.out 3))
      |(go_at_call 47;refine (Lo.gV (most:=4) (HA1.out) hl1 q1 (by simp;omega) (by omega)).mono ?_;rintro e w1 ⟨rfl,hb1⟩;rw [X1.out];have d1:=(dU hb1 w.heap.size 1 (by simp)).trans (HC.out 1);have HB1:=dw hb1;clear hb1))
     go_ret;exact ⟨by rw [<-HR.out,aj hgt];rfl,(KO.out.trans (HB3.out.mono (by simp)))⟩
    ·have SX:¬(10:Int)<(b.dR.length:Int):=by omega
     have e1:=HR.out;rw [aa hgt] at e1;clear HR;have HR:=dw e1;clear e1;go_enter Lo.func17,Tryz.ntmps17
     go_wp2_with (first
      |(go_at_call 48;refine (Lo.xH kR.out (HA3.out.keep λb o h=>dU HB2.out b o (by simp;omega)) (by have :=HB2.out.size;simp at this;omega) hg).mono ?_;rintro e w3 ⟨rfl,hb3⟩;rw [X3.out];have HB3:=dw (HB2.out.trans (hb3.mono HB2.out.size));clear hb3;have g1:=(dU HB3.out w.heap.size 1 (by simp)).trans (HC.out 1);have g3:=(dU HB3.out w.heap.size 3 (by simp)).trans (HC.out 3))
      |(go_at_call 47;refine (Lo.gV (most:=12) (HA2.out.keep λb o h=>dU HB1.out b o (by simp;omega)) hl2 q2 (by have :=HB1.out.size;simp at this;omega) (by omega)).mono ?_;rintro e w2 ⟨rfl,hb2⟩;rw [X2.out];have HB2:=dw (HB1.out.trans (hb2.mono HB1.out.size));clear hb2;have f0:=(dU HB2.out w.heap.size 0 (by simp)).trans (HC.out 0);have f1:=(dU HB2.out w.heap.size 1 (by simp)).trans (HC.out 1);have f2:=(dU HB2.out w.heap.size 2 (by simp)).trans (HC.out 2);have f3:=(dU HB2.out w.heap.size 3 (by simp)).trans (HC.out 3))
      |(go_at_call 47;refine (Lo.gV (most:=4) (HA1.out) hl1 q1 (by simp;omega) (by omega)).mono ?_;rintro e w1 ⟨rfl,hb1⟩;rw [X1.out];have d1:=(dU hb1 w.heap.size 1 (by simp)).trans (HC.out 1);have HB1:=dw hb1;clear hb1))
     have H6:=dw (h6.keep λb o h=>(dU (KO.out.trans (HB3.out.mono (by simp))) b o (by omega)));have YE:=dw (KO.out.trans (HB3.out.mono (by simp)));have sz3:=HB3.out.size;simp at sz3;clear h6;generalize w3=w9 at *;have HX:Hid (tQ b.dO.length b.dR=R):=HR;clear HR HB3 HB2 HB1 HA1 HA2 HA3 HC KO f0 f1 f2 f3 d1 X1 X2 X3 kR
     go_loopw [32] (λi wr=>∃k:Nat,k<=b.dR.length∧i= .int .i64 (k:Int)∧tQ b.dO.length (b.dR.drop k)=R∧Below w9.heap.size w9 wr) (λi _=>b.dR.length - (intOf i).toNat)
     case atStart=>exact ⟨0,bn _,rfl,HX.out,di _ _⟩
     case round=>
      obtain ⟨k,hk,rfl,hx,hb⟩:=hrel
      by_cases hlt:k<b.dR.length
      ·have hlt':(k:Int)<(b.dR.length:Int):=by omega
       have h6k:=H6.out.keep λb o h=>dU hb b o (by omega)
       obtain ⟨bb,off,rfl,hbb,hc⟩:=h6k (by omega);obtain ⟨r0,r1,r2⟩:=KR hc hlt;have hd:=JM b.dO.length b.dR k hlt;rw [hx] at hd;have c1:∀o,(wr.alloc o).cell? ⟨w.heap.size,1,none⟩=some (.slice ap b.dO.length cp):= λo=>(dh _ _ _ (by have :=hb.size;show w.heap.size<wr.heap.size;omega)).trans ((dU hb _ _ (by omega)).trans g1)
       have szr:=hb.size;generalize b.dR[k]=sc at *;have HD:=dw hd;have HB:=dw hb;clear hx hd hb hc h6k HX;cases hbt:rO sc.pile 0 ((b.dO.length:Int) - 1) with
       |false=>
        have CP:=dw hbt;clear hbt
        go_wp2_with (go_at_call 49;refine (Lo.eZ _ _ _ _).mono ?_;rintro e w1 ⟨rfl,rfl⟩;rw [CP.out])
        go_ret;exact ⟨by rw [HD.out,aj CP.out];rfl,YE.out.trans ((HB.out.alloc (by omega) _).mono (by omega))⟩
       |true=>
        have CP:=dw hbt;clear hbt;have s1:∀o,(wr.alloc o).heap[wr.heap.size]?=some o:= λo=>heap_alloc_new wr o
        clear s1;cases hin:fO sc.lo sc.hi 0 1000000 with
        |false=>
         have HI:=dw hin;clear hin
         go_wp2_with (first
          |(go_at_call 49;refine (Lo.eZ _ _ _ _).mono ?_;rintro e w1 ⟨rfl,rfl⟩;rw [CP.out])
          |(go_at_call 50;refine (Lo.lG _ _ _ _ _).mono ?_;rintro e w1 ⟨rfl,hb1⟩;rw [HI.out]))
         go_ret;exact ⟨by rw [HD.out,aa (by rw [CP.out];simp),aj HI.out];rfl,YE.out.trans (((HB.out.alloc (by omega) _).trans (hb1.mono (by simp;omega))).mono (by omega))⟩
        |true=>
         have HI:=dw hin;clear hin
         go_wp2_with (first
          |(go_at_call 49;refine (Lo.eZ _ _ _ _).mono ?_;rintro e w1 ⟨rfl,rfl⟩;rw [CP.out])
          |(go_at_call 50;refine (Lo.lG _ _ _ _ _).mono ?_;rintro e w1 ⟨rfl,hb1⟩;rw [HI.out]))
         have HB9:=dw ((HB.out.alloc (by omega) _).trans (hb1.mono (by simp;omega)));clear hb1 HB c1;go_roundw
         case rel=>exact ⟨k+1,by omega,by go_num,by rw [HD.out,aa (by rw [CP.out];simp),aa (by rw [HI.out];simp)],HB9.out⟩
         case measure=>simp [intOf];omega
      ·obtain rfl:k=b.dR.length:=by omega
       rw [aF] at hx;have YF:=dw hx;clear hx HX
       go_wp2_with fail
       go_ret;exact ⟨by rw [<-YF.out];rfl,YE.out.trans (hb.mono (by omega))⟩
   ·go_enter Lo.func17,Tryz.ntmps17
    go_wp2_with (first
     |(go_at_call 48;refine (Lo.xH kR.out (HA3.out.keep λb o h=>dU HB2.out b o (by simp;omega)) (by have :=HB2.out.size;simp at this;omega) hg).mono ?_;rintro e w3 ⟨rfl,hb3⟩;rw [X3.out];have HB3:=dw (HB2.out.trans (hb3.mono HB2.out.size));clear hb3;have g1:=(dU HB3.out w.heap.size 1 (by simp)).trans (HC.out 1);have g3:=(dU HB3.out w.heap.size 3 (by simp)).trans (HC.out 3))
     |(go_at_call 47;refine (Lo.gV (most:=12) (HA2.out.keep λb o h=>dU HB1.out b o (by simp;omega)) hl2 q2 (by have :=HB1.out.size;simp at this;omega) (by omega)).mono ?_;rintro e w2 ⟨rfl,hb2⟩;rw [X2.out];have HB2:=dw (HB1.out.trans (hb2.mono HB1.out.size));clear hb2;have f0:=(dU HB2.out w.heap.size 0 (by simp)).trans (HC.out 0);have f1:=(dU HB2.out w.heap.size 1 (by simp)).trans (HC.out 1);have f2:=(dU HB2.out w.heap.size 2 (by simp)).trans (HC.out 2);have f3:=(dU HB2.out w.heap.size 3 (by simp)).trans (HC.out 3))
     |(go_at_call 47;refine (Lo.gV (most:=4) (HA1.out) hl1 q1 (by simp;omega) (by omega)).mono ?_;rintro e w1 ⟨rfl,hb1⟩;rw [X1.out];have d1:=(dU hb1 w.heap.size 1 (by simp)).trans (HC.out 1);have HB1:=dw hb1;clear hb1))
    go_ret;exact ⟨by rw [<-HR.out,aj z3];rfl,(KO.out.trans (HB3.out.mono (by simp)))⟩
  ·go_enter Lo.func17,Tryz.ntmps17
   go_wp2_with (first
    |(go_at_call 47;refine (Lo.gV (most:=12) (HA2.out.keep λb o h=>dU HB1.out b o (by simp;omega)) hl2 q2 (by have :=HB1.out.size;simp at this;omega) (by omega)).mono ?_;rintro e w2 ⟨rfl,hb2⟩;rw [X2.out];have HB2:=dw (HB1.out.trans (hb2.mono HB1.out.size));clear hb2;have f0:=(dU HB2.out w.heap.size 0 (by simp)).trans (HC.out 0);have f1:=(dU HB2.out w.heap.size 1 (by simp)).trans (HC.out 1);have f2:=(dU HB2.out w.heap.size 2 (by simp)).trans (HC.out 2);have f3:=(dU HB2.out w.heap.size 3 (by simp)).trans (HC.out 3))
    |(go_at_call 47;refine (Lo.gV (most:=4) (HA1.out) hl1 q1 (by simp;omega) (by omega)).mono ?_;rintro e w1 ⟨rfl,hb1⟩;rw [X1.out];have d1:=(dU hb1 w.heap.size 1 (by simp)).trans (HC.out 1);have HB1:=dw hb1;clear hb1))
   go_ret;exact ⟨by rw [<-HR.out,aj z2];rfl,(KO.out.trans (HB2.out.mono (by simp)))⟩
 ·go_enter Lo.func17,Tryz.ntmps17
  go_wp2_with (go_at_call 47;refine (Lo.gV (most:=4) (HA1.out) hl1 q1 (by simp;omega) (by omega)).mono ?_;rintro e w1 ⟨rfl,hb1⟩;rw [X1.out];have d1:=(dU hb1 w.heap.size 1 (by simp)).trans (HC.out 1);have HB1:=dw hb1;clear hb1)
  go_ret;exact ⟨by rw [<-HR.out,aj z1];rfl,(KO.out.trans (HB1.out.mono (by simp)))⟩
end
section
variable [Lo.St]
theorem Fw:∀(ss:List fI) (i j:Nat),i<ss.length->j<4->(kQ ss)[i*4+j]?=some (xA ss i j)
 | [],i,j,hi,_=>absurd hi (by simp)
 |x::ss,0,j,_,hj=>by
  match j,hj with
  |0,_=>rfl
  |1,_=>rfl
  |2,_=>rfl
  |3,_=>rfl
 |x::ss,i+1,j,hi,hj=>by
  have ih:=Fw ss i j (by simpa using hi) hj;have e:kQ (x::ss)= [.int .i64 x.lo,.int .i64 x.hi,.int .i64 (x.fr:Int),.int .i64 (x.to:Int)]++kQ ss:=rfl;rw [e,List.getElem?_append_right (by simp;omega)];rw [show (i+1)*4+j - [Value.int .i64 x.lo,.int .i64 x.hi,.int .i64 (x.fr:Int),.int .i64 (x.to:Int)].length=i*4+j by simp;omega,ih];rfl
theorem ownsRow.rd {w:World} {base e size n B:Nat} {v:Value} {xs:List Value} {f:Nat->Nat->Value} (h:w.ownsRow base e size v n xs) (hf:∀i j,i<n->j<size->xs[i*size+j]?=some (f i j)):∃A cap,v= .slice A n cap∧n<=cap∧∀m,m<=n->(w.heap.size<=B->Rd w B size A m f):=by
 obtain ⟨hl,h⟩:=h;rcases h with ⟨rfl,rfl⟩|⟨g,cap,cur,rfl,hb,hg,h1,h2,h3,h4⟩
 ·exact ⟨none,0,rfl,aJ _, λm hm _ h=>absurd h (by omega)⟩
 ·refine ⟨_,cap,rfl,h1, λm hm hB _=>⟨g,0,rfl,aK (aI.1 hg).1 hB, λi j hi hj=>?_⟩⟩;have hx:=hf i j (by omega) hj;rw [<-h4] at hx;unfold World.cell?;simp only [hg];rw [List.getElem?_take] at hx;split at hx
  ·rw [Nat.zero_add];simpa using hx
  ·cases hx
theorem gy.at {w:World} {b base st nd:Nat} {ss:List fI} {v:Value} (h:gy w b base st nd ss v) (hok:∀x∈ss,x.ok) (hlen:ss.length<=64):∃A cap,v= .slice A ss.length cap∧lV w w.heap.size b ss st nd A cap:=by
 obtain ⟨A,cap,rfl,_,hr⟩:=ownsRow.rd (B:=w.heap.size) (f:=xA ss) h.row (λi j hi hj=>Fw ss i j hi hj);obtain ⟨a,b,c,_⟩:=jJ h.blk;exact ⟨A,cap,rfl,(aI.1 h.blk).1,a,b,c,hr _ (aJ _) (aJ _),hok,hlen⟩
theorem OV (b:fe) (hand:Int) (hg:b.good):(fM b hand).length<=64:=by
 have :=hg.n8;have :=hg.p12;rw [BM];split<;>omega
theorem Fx (b:fe) (hand:Int) (hg:b.good):eY b hand<=16:=by
 have :=hg.n8;unfold eY;split<;>omega
theorem Lo.zz {w:World} {B:Nat} {b:fe} {v:jR} {x:Value} (hx:x=fJ b v) (hb:gH w B b v) (hB:B<=w.heap.size) (hg:b.good) (hand:Int) (hh: -1<=hand∧hand<=64):
 Calls Lo.prog 56 #[x,.int .i64 hand] w λe w'=>∃bw A cap,e= .returned (.pointer (some ⟨bw,0,none⟩))∧lV w' w'.heap.size bw (fM b hand) b.steps.length (eY b hand) A cap∧Below w.heap.size w w':=by
 subst hx;refine (Lo.Iy hb hB hg hand hh).mono λe w' h=>?_
 obtain ⟨bw,v,e1,_,_,hw,hbe⟩:=h;obtain ⟨A,cap,_,hwa⟩:=hw.at (OO b hand hg) (OV b hand hg);exact ⟨bw,A,cap,e1,hwa,hbe⟩
def vw (w:World) (b:fe) (hand:Int) (e:Ending) (w':World):Prop:=
 if jC (fM b hand) (eY b hand)=true then ∃v,e= .returned (.tuple #[v,.int .i64 0])∧w'.ownsRow w.heap.size 51 2 v (fM b hand).length (jl (pO (fM b hand) (eY b hand)))∧Par.eP w' v∧Below w.heap.size w w'
 else e= .returned (.tuple #[.slice none 0 0,.int .i64 9])∧Below w.heap.size w w'
theorem Lo.CY {w:World} {B:Nat} {b:fe} {v:jR} {x:Value} (hx:x=fJ b v) (hb:gH w B b v) (hB:B<=w.heap.size) (hg:b.good) (hand:Int) (hh: -1<=hand∧hand<=64):
 Calls Lo.prog 43 #[x,.int .i64 hand] w (vw w b hand):=by
 obtain ⟨U,U2,U3,U4,U5,U6⟩:=Lo.facts;have C:=Lo.call56;have C2:=Lo.call57;have C3:=Lo.call79;subst hx;have hbv:Value.agg #[.slice v.ah b.eO.length v.ch,.slice v.ap b.dO.length v.cp,.slice v.lT b.steps.length v.cs,.slice v.ac b.dR.length v.cc]=fJ b v:=rfl;rw [<-hbv];have hb1:gH (w.alloc (.cells #[.slice v.ah b.eO.length v.ch,.slice v.ap b.dO.length v.cp,.slice v.lT b.steps.length v.cs,.slice v.ac b.dR.length v.cc] 26)) B b v:=hb.keep λb o h=>dh _ _ _ (by show b<w.heap.size;omega)
 have kR:=dw hbv;have HB1:=dw hb1;have hnd:=Fx b hand hg;clear hbv hb1 hb;generalize v.ah=ah at kR HB1 ⊢;generalize v.ch=ch at kR HB1 ⊢;generalize v.ap=ap at kR HB1 ⊢;generalize v.cp=cp at kR HB1 ⊢;generalize v.lT=lT at kR HB1 ⊢;generalize v.cs=cs at kR HB1 ⊢;generalize v.ac=ac at kR HB1 ⊢;generalize v.cc=cc at kR HB1 ⊢;cases hho:jC (fM b hand) (eY b hand) with
 |false=>
  have HH:=dw hho;clear hho;go_enter Lo.func43,Tryz.ntmps43
  go_wp2_with (first
   |(go_at_call 56;refine (Lo.zz kR.out HB1.out (by simp;omega) hg _ hh).mono ?_;rintro e w1 ⟨bw,A,cap,rfl,hw,hb1⟩;have HW:=dw hw;have HB2:=dw hb1;clear hw hb1)
   |(go_at_call 57;refine (Lo.uk HW.out (aJ _) hnd).mono ?_;rintro e w2 ⟨rfl,hb2⟩;rw [HH.out]))
  go_ret2
  show vw _ _ _ _ _;unfold vw;rw [aa (by rw [HH.out];simp)];exact ⟨rfl,(((di _ _).alloc (aJ _) _).trans (HB2.out.mono (by simp))).trans (hb2.mono (by have :=HB2.out.size;simp at this;omega))⟩
 |true=>
  have HH:=dw hho;clear hho;go_enter Lo.func43,Tryz.ntmps43
  go_wp2_with (first
   |(go_at_call 56;refine (Lo.zz kR.out HB1.out (by simp;omega) hg _ hh).mono ?_;rintro e w1 ⟨bw,A,cap,rfl,hw,hb1⟩;have HW:=dw hw;have HB2:=dw hb1;clear hw hb1)
   |(go_at_call 57;refine (Lo.uk HW.out (aJ _) hnd).mono ?_;rintro e w2 ⟨rfl,hb2⟩;rw [HH.out];have HB3:=dw hb2;clear hb2)
   |(go_at_call 79;refine (Lo.Qc (HW.out.keep λb o h=>dU HB3.out b o h) HB3.out.size hnd).mono ?_;rintro e w3 ⟨v,rfl,hown,hpl,hb3⟩;have HO:=dw hown;have HP:=dw hpl;have zO:=dw hb3;clear hown hpl hb3))
  go_ret2
  show vw _ _ _ _ _;unfold vw;rw [aj HH.out];have s2:=HB2.out.size;have s3:=HB3.out.size;simp at s2;exact ⟨_,rfl,ownsRow.base HO.out (by omega),HP.out,((((di _ _).alloc (aJ _) _).trans (HB2.out.mono (by simp))).trans (HB3.out.mono (by omega))).trans (zO.out.mono (by omega))⟩
end
section
variable [Lo.St]
def mM (w:World) (A:Option Addr) (n:Nat) (o:List Int):Prop:=Rd w w.heap.size 2 A n λi j=>.int .i64 ((o[2*i+j]?).getD 0)
theorem mM.below {w w':World} {A:Option Addr} {n:Nat} {o:List Int} (h:mM w A n o) (hb:Below w.heap.size w w'):mM w' A n o:= λhn=>by
 obtain ⟨b,off,e,h1,h2⟩:=h hn;exact ⟨b,off,e,aK h1 hb.size, λi j hi hj=>(dU hb _ _ h1).trans (h2 i j hi hj)⟩
theorem yX (o:List Int) {n i j:Nat} (hl:o.length=2*n) (hi:i<n) (hj:j<2):(jl o)[i*2+j]?=some (.int .i64 ((o[2*i+j]?).getD 0)):=by
 rw [show i*2+j=2*i+j from by omega];exact xC o (by omega)
theorem Lo.zA {w:World} {B:Nat} {b:fe} {v:jR} {x:Value} (hx:x=fJ b v) (hb:gH w B b v) (hB:B<=w.heap.size) (hg:b.good) (hand:Int) (hh: -1<=hand∧hand<=64) (hho:jC (fM b hand) (eY b hand)=true):
 Calls Lo.prog 43 #[x,.int .i64 hand] w λe w'=>∃A cap,e= .returned (.tuple #[.slice A (fM b hand).length cap,.int .i64 0])∧(fM b hand).length<=cap∧(∀m,m<=(fM b hand).length->mM w' A m (pO (fM b hand) (eY b hand)))∧Below w.heap.size w w':=by
 refine (Lo.CY hx hb hB hg hand hh).mono λe w' h=>?_
 unfold vw at h;rw [aj hho] at h;obtain ⟨v,rfl,hown,_,hbe⟩:=h;obtain ⟨A,cap,rfl,hc,hr⟩:=ownsRow.rd (B:=w'.heap.size) (f:= λi j=>.int .i64 (((pO (fM b hand) (eY b hand))[2*i+j]?).getD 0)) hown (λi j hi hj=>yX _ (uC _ _) hi hj);exact ⟨A,cap,rfl,hc, λm hm=>hr m hm (aJ _),hbe⟩
theorem Lo.Nh {w:World} {B:Nat} {b:fe} {v:jR} {x:Value} (hx:x=fJ b v) (hb:gH w B b v) (hB:B<=w.heap.size) (hg:b.good) (hand:Int) (hh: -1<=hand∧hand<=64) (hho:jC (fM b hand) (eY b hand)=true):
 Calls Lo.prog 43 #[x,.int .i64 hand] w λe w'=>∃A cap,e= .returned (.tuple #[.slice A (fM b hand).length cap,.int .i64 0])∧(fM b hand).length<=cap∧(∀m,m<=(fM b hand).length->mM w' A m (pO (fM b hand) (eY b hand)))∧Below w.heap.size w w'∧∀m c,Par.eP w' (.slice A m c):=by
 refine (Lo.CY hx hb hB hg hand hh).mono λe w' h=>?_
 unfold vw at h;rw [aj hho] at h;obtain ⟨v,rfl,hown,hpl,hbe⟩:=h;obtain ⟨A,cap,rfl,hc,hr⟩:=ownsRow.rd (B:=w'.heap.size) (f:= λi j=>.int .i64 (((pO (fM b hand) (eY b hand))[2*i+j]?).getD 0)) hown (λi j hi hj=>yX _ (uC _ _) hi hj);exact ⟨A,cap,rfl,hc, λm hm=>hr m hm (aJ _),hbe, λ_ _ g hg=>hpl g (by cases A<;>exact hg)⟩
theorem Lo.K6 {w:World} {B:Nat} {b:fe} {v:jR} {x:Value} (hx:x=fJ b v) (hb:gH w B b v) (hB:B<=w.heap.size) (hg:b.good) (hand:Int) (hh: -1<=hand∧hand<=64) (hho:jC (fM b hand) (eY b hand)=false):
 Calls Lo.prog 43 #[x,.int .i64 hand] w λe w'=>e= .returned (.tuple #[.slice none 0 0,.int .i64 9])∧Below w.heap.size w w':=by
 refine (Lo.CY hx hb hB hg hand hh).mono λe w' h=>?_
 unfold vw at h;rw [aa (by rw [hho];simp)] at h;exact h
theorem Lo.jh {w:World} {B:Nat} {b:fe} {v:jR} {x:Value} (hx:x=fJ b v) (hb:gH w B b v) (hB:B<=w.heap.size) (hg:b.small):
 Calls Lo.prog 17 #[x] w λe w'=>e= .returned (.int .i64 (gL b))∧Below w.heap.size w w':=hx ▸ Lo.zV hb hB hg
abbrev vU (b:fe):Bool:=jC (fM b (-1)) (eY b (-1))
abbrev uG (b:fe):List Int:=pO (fM b (-1)) (eY b (-1))
def uH (w:World) (b:fe) (e:Ending) (w':World):Prop:=
 Below w.heap.size w w'∧
 if gL b≠0 then e= .returned (.tuple #[.slice none 0 0,.int .i64 (gL b)])
 else if vU b=true then ∃A cap,e= .returned (.tuple #[.slice A b.dO.length cap,.int .i64 0])∧mM w' A b.dO.length (uG b)∧Par.eP w' (.slice A b.dO.length cap)
 else e= .returned (.tuple #[.slice none 0 0,.int .i64 9])
theorem Lo.Ni {w:World} {B:Nat} {b:fe} {v:jR} {x:Value} (hx:x=fJ b v) (hb:gH w B b v) (hB:B<=w.heap.size) (hs:b.small):
 Calls Lo.prog 15 #[x] w (uH w b):=by
 obtain ⟨U,U2,U3,U4,U5,U6⟩:=Lo.facts;subst hx;have hbv:Value.agg #[.slice v.ah b.eO.length v.ch,.slice v.ap b.dO.length v.cp,.slice v.lT b.steps.length v.cs,.slice v.ac b.dR.length v.cc]=fJ b v:=rfl;rw [<-hbv];have hb1:gH (w.alloc (.cells #[.slice v.ah b.eO.length v.ch,.slice v.ap b.dO.length v.cp,.slice v.lT b.steps.length v.cs,.slice v.ac b.dR.length v.cc] 26)) B b v:=hb.keep λb o h=>dh _ _ _ (by show b<w.heap.size;omega)
 have hcb:∀j:Nat,(w.alloc (.cells #[.slice v.ah b.eO.length v.ch,.slice v.ap b.dO.length v.cp,.slice v.lT b.steps.length v.cs,.slice v.ac b.dR.length v.cc] 26)).cell? ⟨w.heap.size,j,none⟩=(#[Value.slice v.ah b.eO.length v.ch,.slice v.ap b.dO.length v.cp,.slice v.lT b.steps.length v.cs,.slice v.ac b.dR.length v.cc]:Array Value)[j]?:= λj=>by rw [cO _ _ _ _ rfl]
 have kR:=dw hbv;have HB1:=dw hb1;have nC:=dw hcb;clear hbv hb1 hb hcb;generalize v.ah=ah at kR HB1 nC ⊢;generalize v.ch=ch at kR HB1 nC ⊢;generalize v.ap=ap at kR HB1 nC ⊢;generalize v.cp=cp at kR HB1 nC ⊢;generalize v.lT=lT at kR HB1 nC ⊢;generalize v.cs=cs at kR HB1 nC ⊢;generalize v.ac=ac at kR HB1 nC ⊢;generalize v.cc=cc at kR HB1 nC ⊢;have C:=Lo.call17;have C2:=Lo.call43
 by_cases hcf:gL b=0
 ·have hg:=oz hs hcf;have hw1:=BM b (-1);have zW:=dw hcf;clear hcf;cases hho:vU b with
  |false=>
   have HH:=dw hho;clear hho;go_enter Lo.func15,Tryz.ntmps15
   go_wp2_with (first
    |(go_at_call 17;refine (Lo.jh kR.out HB1.out (by simp;omega) hs).mono ?_;rintro e w1 ⟨rfl,hb1⟩;rw [zW.out];have HB2:=dw hb1;clear hb1;have c0:=(dU HB2.out w.heap.size 0 (by simp)).trans (nC.out 0);have c1:=(dU HB2.out w.heap.size 1 (by simp)).trans (nC.out 1);have c2:=(dU HB2.out w.heap.size 2 (by simp)).trans (nC.out 2);have c3:=(dU HB2.out w.heap.size 3 (by simp)).trans (nC.out 3))
    |(go_at_call 43;refine (Lo.K6 kR.out (HB1.out.keep λb o h=>dU HB2.out b o (by simp;omega)) (by have :=HB2.out.size;simp at this;omega) hg (-1) (by omega) HH.out).mono ?_;rintro e w2 ⟨rfl,hb2⟩))
   go_ret2
   show uH _ _ _ _;unfold uH;rw [aa (by rw [zW.out];simp),aa (by rw [HH.out];simp)];exact ⟨(((di _ _).alloc (aJ _) _).trans (HB2.out.mono (by simp))).trans (hb2.mono (by have :=HB2.out.size;simp at this;omega)),rfl⟩
  |true=>
   have HH:=dw hho;clear hho;rw [aa (by omega)] at hw1;have hwl:b.dO.length<=(fM b (-1)).length:=by omega
   go_enter Lo.func15,Tryz.ntmps15
   go_wp2_with (first
    |(go_at_call 17;refine (Lo.jh kR.out HB1.out (by simp;omega) hs).mono ?_;rintro e w1 ⟨rfl,hb1⟩;rw [zW.out];have HB2:=dw hb1;clear hb1;have c0:=(dU HB2.out w.heap.size 0 (by simp)).trans (nC.out 0);have c1:=(dU HB2.out w.heap.size 1 (by simp)).trans (nC.out 1);have c2:=(dU HB2.out w.heap.size 2 (by simp)).trans (nC.out 2);have c3:=(dU HB2.out w.heap.size 3 (by simp)).trans (nC.out 3))
    |(go_at_call 43;refine (Lo.Nh kR.out (HB1.out.keep λb o h=>dU HB2.out b o (by simp;omega)) (by have :=HB2.out.size;simp at this;omega) hg (-1) (by omega) HH.out).mono ?_;rintro e w2 ⟨A,cap,rfl,hcap,hr,hb2,hpl⟩;have SK:=dw hpl;clear hpl;have hpc:b.dO.length<=cap:=aT hwl hcap;have HR:=dw (hr _ hwl);have HB3:=dw hb2;clear hr;have k1:=(dU hb2 w.heap.size 1 (by have :=HB2.out.size;simp at this;omega)).trans c1;clear hb2))
   go_ret2
   show uH _ _ _ _;unfold uH;rw [aa (by rw [zW.out];simp),aj HH.out];have hbe:Below w.heap.size w w2:=(((di _ _).alloc (aJ _) _).trans (HB2.out.mono (by simp))).trans (HB3.out.mono (by have :=HB2.out.size;simp at this;omega));refine ⟨hbe,?_⟩;exact ⟨_,_,rfl,HR.out,SK.out _ _⟩
 ·have zW:=dw hcf;clear hcf;generalize hcx:gL b=cx at zW;have Ta:=dw hcx;have hne:¬cx=0:=zW.out;clear hcx;go_enter Lo.func15,Tryz.ntmps15
  go_wp2_with (go_at_call 17;refine (Lo.jh kR.out HB1.out (by simp;omega) hs).mono ?_;rintro e w1 ⟨rfl,hb1⟩;rw [Ta.out];have HB2:=dw hb1;clear hb1)
  go_ret2
  show uH _ _ _ _;unfold uH;rw [Ta.out,aj hne];exact ⟨((di _ _).alloc (aJ _) _).trans (HB2.out.mono (by simp)),rfl⟩
end
section
variable [Lo.St]
def vV (o:List Int) (np:Nat):Nat->List Int
 |0=>[]
 |k+1=>vV o np k++ [(o[2*(np+2*k+1)]?).getD 0,(o[2*(np+2*k+1)+1]?).getD 0]
theorem Fy (o:List Int) (np:Nat):∀k,(vV o np k).length=2*k
 |0=>rfl
 |k+1=>by unfold vV;rw [List.length_append,Fy o np k];simp;omega
abbrev BU (b:fe):List Int:=vV (uG b) b.dO.length b.steps.length
def uI (w:World) (b:fe) (e:Ending) (w':World):Prop:=
 Below w.heap.size w w'∧
 if gL b≠0 then e= .returned (.tuple #[.slice none 0 0,.int .i64 (gL b)])
 else if vU b=true then ∃A cap,e= .returned (.tuple #[.slice A b.steps.length cap,.int .i64 0])∧mM w' A b.steps.length (BU b)∧Par.eP w' (.slice A b.steps.length cap)
 else e= .returned (.tuple #[.slice none 0 0,.int .i64 9])
theorem Lo.Nj {w:World} {B:Nat} {b:fe} {v:jR} {x:Value} (hx:x=fJ b v) (hb:gH w B b v) (hB:B<=w.heap.size) (hs:b.small):
 Calls Lo.prog 20 #[x] w (uI w b):=by
 obtain ⟨U,U2,U3,U4,U5,U6⟩:=Lo.facts;subst hx;have hbv:Value.agg #[.slice v.ah b.eO.length v.ch,.slice v.ap b.dO.length v.cp,.slice v.lT b.steps.length v.cs,.slice v.ac b.dR.length v.cc]=fJ b v:=rfl;rw [<-hbv];have hb1:gH (w.alloc (.cells #[.slice v.ah b.eO.length v.ch,.slice v.ap b.dO.length v.cp,.slice v.lT b.steps.length v.cs,.slice v.ac b.dR.length v.cc] 26)) B b v:=hb.keep λb o h=>dh _ _ _ (by show b<w.heap.size;omega)
 have hcb:∀j:Nat,(w.alloc (.cells #[.slice v.ah b.eO.length v.ch,.slice v.ap b.dO.length v.cp,.slice v.lT b.steps.length v.cs,.slice v.ac b.dR.length v.cc] 26)).cell? ⟨w.heap.size,j,none⟩=(#[Value.slice v.ah b.eO.length v.ch,.slice v.ap b.dO.length v.cp,.slice v.lT b.steps.length v.cs,.slice v.ac b.dR.length v.cc]:Array Value)[j]?:= λj=>by rw [cO _ _ _ _ rfl]
 have kR:=dw hbv;have HB1:=dw hb1;have nC:=dw hcb;clear hbv hb1 hb hcb;generalize v.ah=ah at kR HB1 nC ⊢;generalize v.ch=ch at kR HB1 nC ⊢;generalize v.ap=ap at kR HB1 nC ⊢;generalize v.cp=cp at kR HB1 nC ⊢;generalize v.lT=lT at kR HB1 nC ⊢;generalize v.cs=cs at kR HB1 nC ⊢;generalize v.ac=ac at kR HB1 nC ⊢;generalize v.cc=cc at kR HB1 nC ⊢;have C:=Lo.call17;have C2:=Lo.call43;obtain ⟨i0,hi,hz0,hz1,hz2⟩:=info_parts Lo.Sj
 by_cases hcf:gL b=0
 ·have hg:=oz hs hcf;have hw1:=BM b (-1);have zW:=dw hcf;clear hcf;cases hho:vU b with
  |false=>
   have HH:=dw hho;clear hho;go_enter Lo.func20,Tryz.ntmps20
   go_wp2_with (first
    |(go_at_call 17;refine (Lo.jh kR.out HB1.out (by simp;omega) hs).mono ?_;rintro e w1 ⟨rfl,hb1⟩;rw [zW.out];have HB2:=dw hb1;clear hb1;have c0:=(dU HB2.out w.heap.size 0 (by simp)).trans (nC.out 0);have c1:=(dU HB2.out w.heap.size 1 (by simp)).trans (nC.out 1);have c2:=(dU HB2.out w.heap.size 2 (by simp)).trans (nC.out 2);have c3:=(dU HB2.out w.heap.size 3 (by simp)).trans (nC.out 3))
    |(go_at_call 43;refine (Lo.K6 kR.out (HB1.out.keep λb o h=>dU HB2.out b o (by simp;omega)) (by have :=HB2.out.size;simp at this;omega) hg (-1) (by omega) HH.out).mono ?_;rintro e w2 ⟨rfl,hb2⟩))
   go_ret2
   show uI _ _ _ _;unfold uI;rw [aa (by rw [zW.out];simp),aa (by rw [HH.out];simp)];exact ⟨(((di _ _).alloc (aJ _) _).trans (HB2.out.mono (by simp))).trans (hb2.mono (by have :=HB2.out.size;simp at this;omega)),rfl⟩
  |true=>
   have HH:=dw hho;clear hho;rw [aa (by omega),aH] at hw1;have hn8:=hg.n8;have aj4:=hg.p12;go_enter Lo.func20,Tryz.ntmps20
   go_wp2_with (first
    |(go_at_call 17;refine (Lo.jh kR.out HB1.out (by simp;omega) hs).mono ?_;rintro e w1 ⟨rfl,hb1⟩;rw [zW.out];have HB2:=dw hb1;clear hb1;have c0:=(dU HB2.out w.heap.size 0 (by simp)).trans (nC.out 0);have c1:=(dU HB2.out w.heap.size 1 (by simp)).trans (nC.out 1);have c2:=(dU HB2.out w.heap.size 2 (by simp)).trans (nC.out 2);have c3:=(dU HB2.out w.heap.size 3 (by simp)).trans (nC.out 3))
    |(go_at_call 43;refine (Lo.zA kR.out (HB1.out.keep λb o h=>dU HB2.out b o (by simp;omega)) (by have :=HB2.out.size;simp at this;omega) hg (-1) (by omega) HH.out).mono ?_;rintro e w2 ⟨A,cap,rfl,hcap,hr,hb2⟩;rw [hw1];rw [hw1] at hcap hr;have HR:=dw (hr _ (aJ _));have HB3:=dw hb2;clear hr;have k1:=(dU hb2 w.heap.size 1 (by have :=HB2.out.size;simp at this;omega)).trans c1;have k2:=(dU hb2 w.heap.size 2 (by have :=HB2.out.size;simp at this;omega)).trans c2;clear hb2))
   have hbe:Below w.heap.size w w2:=(((di _ _).alloc (aJ _) _).trans (HB2.out.mono (by simp))).trans (HB3.out.mono (by have :=HB2.out.size;simp at this;omega));have szw:w.heap.size+1<=w2.heap.size:=by have :=HB2.out.size;have :=HB3.out.size;simp at *;omega
   have KO:=dw hbe;have hol:(uG b).length=2*(b.dO.length+2*b.steps.length):=(uC _ _).trans (by rw [hw1]);generalize hos:pO (fM b (-1)) (eY b (-1))=os at HR hol;have HOS:=dw hos;clear hbe HB3 HB2 HB1 nC c0 c1 c2 c3 hos
   go_loopw [7,25] (λv i wr=>∃k:Nat,k<=b.steps.length∧i= .int .i64 (k:Int)∧wr.ownsRow w2.heap.size 51 2 v k (jl (vV os b.dO.length k))∧Par.eP wr v∧Below w2.heap.size w2 wr) (λ_ i _=>b.steps.length - (intOf i).toNat)
   case atStart=>exact ⟨0,bn _,rfl,by simpa [vV,jl] using World.ownsRow_nil w2 w2.heap.size 51 2,Par.eP.nil _,di _ _⟩
   case round=>
    obtain ⟨k,hk,rfl,hown,hpl,hb⟩:=hrel;have HP:=dw hpl;clear hpl
    by_cases hlt:k<b.steps.length
    ·have hlt':(k:Int)<(b.steps.length:Int):=by omega
     obtain ⟨bb,off,rfl,hbb,hc⟩:=(HR.out.below hb) (by omega);have g0:wr.cell? ⟨bb,off+(b.dO.length+2*k+1)*2,none⟩=some (.int .i64 ((os[2*(b.dO.length+2*k+1)+0]?).getD 0)):=hc (b.dO.length+2*k+1) 0 (by omega) (by omega);have g1:wr.cell? ⟨bb,off+(b.dO.length+2*k+1)*2+1,none⟩=some (.int .i64 ((os[2*(b.dO.length+2*k+1)+1]?).getD 0)):=hc (b.dO.length+2*k+1) 1 (by omega) (by omega);have hin:vV os b.dO.length (k+1)=vV os b.dO.length k++ [(os[2*(b.dO.length+2*k+1)+0]?).getD 0,(os[2*(b.dO.length+2*k+1)+1]?).getD 0]:=rfl;generalize (os[2*(b.dO.length+2*k+1)+0]?).getD 0=y0 at g0 hin;generalize (os[2*(b.dO.length+2*k+1)+1]?).getD 0=y1 at g1 hin;have e0:wr.cell? ⟨bb,off+(b.dO.length+2*k+1)*2,none⟩=some (.int .i64 y0):=g0;have e1:wr.cell? ⟨bb,off+(b.dO.length+2*k+1)*2+1,none⟩=some (.int .i64 y1):=g1;have d1:wr.cell? ⟨w.heap.size,1,none⟩=some (.slice ap b.dO.length cp):=(dU hb _ _ (by omega)).trans k1;have Zv:=hb.size;have HB:=dw hb;have HI:=dw hin;clear hb hc hin g0 g1
     go_wp2_with (first
      |(at_builtin;refine Par.gG rfl _ _ 29 rfl w2.heap.size 51 i0 (.agg #[.int .i64 0,.int .i64 0]) 2 16 Lo.YC hi hz0 hz1 hz2 rfl (by decide) _ _ _ rfl (hown.alloc _) ⟨wr.heap.size,0,none⟩ 1 1 [.int .i64 y0,.int .i64 y1] rfl rfl ?c1 ?c2 ?c3 ?c4 ?c5 (HP.out.alloc _) ?c6 ?c7 ?_)
      |go_in)
     case c1=>
      intro j u hj
      match j,hj with
      |0,hj=>simp at hj;subst hj;simp [Addr.add]
      |1,hj=>simp at hj;subst hj;simp [Addr.add]
     case c2=>intro u hu;simp at hu;rcases hu with rfl|rfl<;>rfl
     case c3=>unfold maxLen;omega
     case c4=>omega
     case c5=>simp;omega
     case c6=>intro u hu;simp at hu;rcases hu with rfl|rfl<;>rfl
     case c7=>intro u hu;simp [Value.cells] at hu;subst hu;rfl
     intro v' w3 hown' hgrow _ hp';have Si:=dw hp';clear hp';have R:=dw ((HB.out.alloc Zv _).grown hgrow (by simp;omega) (λj hj=>(hown.lt j hj).1));have RO:=dw hown';clear hown' hgrow hown HB;go_wp2;go_roundw
     case rel=>exact ⟨k+1,by omega,by go_num,by rw [HI.out];simpa [jl] using RO.out,Si.out,R.out⟩
     case measure=>simp [intOf];omega
    ·obtain rfl:k=b.steps.length:=by omega
     obtain ⟨A2,cap2,rfl,_,hr2⟩:=ownsRow.rd (B:=wr.heap.size) (f:= λi j=>.int .i64 (((vV os b.dO.length b.steps.length)[2*i+j]?).getD 0)) hown (λi j hi hj=>yX _ (Fy _ _ _) hi hj);have HR2:=dw (hr2 _ (aJ _) (aJ _));clear hr2 hown;go_wp2
     go_ret2
     show uI _ _ _ _;unfold uI;rw [aa (by rw [zW.out];simp),aj HH.out];refine ⟨KO.out.trans (hb.mono (by omega)),_,_,rfl,?_,HP.out⟩;show mM wr _ _ (vV (pO (fM b (-1)) (eY b (-1))) _ _);rw [HOS.out];exact HR2.out
 ·have zW:=dw hcf;clear hcf;generalize hcx:gL b=cx at zW;have Ta:=dw hcx;have hne:¬cx=0:=zW.out;clear hcx;go_enter Lo.func20,Tryz.ntmps20
  go_wp2_with (go_at_call 17;refine (Lo.jh kR.out HB1.out (by simp;omega) hs).mono ?_;rintro e w1 ⟨rfl,hb1⟩;rw [Ta.out];have HB2:=dw hb1;clear hb1)
  go_ret2
  show uI _ _ _ _;unfold uI;rw [Ta.out,aj hne];exact ⟨((di _ _).alloc (aJ _) _).trans (HB2.out.mono (by simp)),rfl⟩
end
section
variable [Lo.St]
theorem Lo.Td:Lo.prog.underlying 35=some (.slice 38):=(Lo.underlying 35).trans (by kernel_rfl)
theorem Lo.ZK:(Lo.prog.info? 38).map (λi=>(i.zero,i.size,i.bytes))=some (some (.int .i64 0),1,8):=by
 rw [Lo.info];kernel_rfl
def sQ (lo hi limit:Int):Int:=if limit<lo then 1 else if hi<=limit then 2 else 0
abbrev CZ (b:fe) (h:Nat):List Int:=pO (fM b h) (eY b h)
def tT (b:fe) (limit:Int):Nat->List Int
 |0=>[]
 |h+1=>tT b limit h++ [sQ (((CZ b h)[2*(b.dO.length+2*b.steps.length)+0]?).getD 0) (((CZ b h)[2*(b.dO.length+2*b.steps.length)+1]?).getD 0) limit]
theorem yY (b:fe) (limit:Int):∀h,(tT b limit h).length=h
 |0=>rfl
 |h+1=>by unfold tT;rw [List.length_append,yY b limit h];rfl
abbrev C9 (b:fe) (limit:Int):List Int:=tT b limit b.eO.length
def nu (w:World) (b:fe) (limit:Int) (e:Ending) (w':World):Prop:=
 Below w.heap.size w w'∧
 if gL b≠0 then e= .returned (.tuple #[.slice none 0 0,.int .i64 (gL b)])
 else if rO limit 0 1000000=false then e= .returned (.tuple #[.slice none 0 0,.int .i64 1])
 else if vU b=true then ∃A cap,e= .returned (.tuple #[.slice A b.eO.length cap,.int .i64 0])∧BJ w' w'.heap.size A (C9 b limit)∧Par.eP w' (.slice A b.eO.length cap)
 else e= .returned (.tuple #[.slice none 0 0,.int .i64 9])
theorem K7 (o:List Int) {i:Nat} (hi:i<o.length):(jl o)[i*1+0]?=some (.int .i64 ((o[i]?).getD 0)):=by
 rw [Nat.mul_one,aH];exact xC o hi
theorem JN {b:fe} (h:gL b=0):b.eO.length<=4:=yu (Iz h).1
theorem Lo.Qi {w:World} {B:Nat} {b:fe} {v:jR} {x:Value} (hx:x=fJ b v) (hb:gH w B b v) (hB:B<=w.heap.size) (hs:b.small) (limit:Int) (ZL:gL b=0->vU b=true->∀h:Nat,h<b.eO.length->jC (fM b h) (eY b h)=true):
 Calls Lo.prog 22 #[x,.int .i64 limit] w (nu w b limit):=by
 obtain ⟨U,U2,U3,U4,U5,U6⟩:=Lo.facts;subst hx;have hbv:Value.agg #[.slice v.ah b.eO.length v.ch,.slice v.ap b.dO.length v.cp,.slice v.lT b.steps.length v.cs,.slice v.ac b.dR.length v.cc]=fJ b v:=rfl;rw [<-hbv];have hb1:gH (w.alloc (.cells #[.slice v.ah b.eO.length v.ch,.slice v.ap b.dO.length v.cp,.slice v.lT b.steps.length v.cs,.slice v.ac b.dR.length v.cc] 26)) B b v:=hb.keep λb o h=>dh _ _ _ (by show b<w.heap.size;omega)
 have hcb:∀j:Nat,(w.alloc (.cells #[.slice v.ah b.eO.length v.ch,.slice v.ap b.dO.length v.cp,.slice v.lT b.steps.length v.cs,.slice v.ac b.dR.length v.cc] 26)).cell? ⟨w.heap.size,j,none⟩=(#[Value.slice v.ah b.eO.length v.ch,.slice v.ap b.dO.length v.cp,.slice v.lT b.steps.length v.cs,.slice v.ac b.dR.length v.cc]:Array Value)[j]?:= λj=>by rw [cO _ _ _ _ rfl]
 have kR:=dw hbv;have HB1:=dw hb1;have nC:=dw hcb;clear hbv hb1 hb hcb;generalize v.ah=ah at kR HB1 nC ⊢;generalize v.ch=ch at kR HB1 nC ⊢;generalize v.ap=ap at kR HB1 nC ⊢;generalize v.cp=cp at kR HB1 nC ⊢;generalize v.lT=lT at kR HB1 nC ⊢;generalize v.cs=cs at kR HB1 nC ⊢;generalize v.ac=ac at kR HB1 nC ⊢;generalize v.cc=cc at kR HB1 nC ⊢;have C:=Lo.call17;have C2:=Lo.call43;have C3:=Lo.call49;have C4:=Lo.call56;have C5:=Lo.call57;obtain ⟨i0,hi,hz0,hz1,hz2⟩:=info_parts Lo.ZK
 by_cases hcf:gL b=0
 ·have hg:=oz hs hcf;have hnh:=JN hcf;have ak0:=ZL hcf;clear ZL;have HH2:=dw ak0;have zW:=dw hcf;clear hcf ak0;cases hbt:rO limit 0 1000000 with
  |false=>
   have CP:=dw hbt;clear hbt;go_enter Lo.func22,Tryz.ntmps22
   go_wp2_with (first
    |(go_at_call 17;refine (Lo.jh kR.out HB1.out (by simp;omega) hs).mono ?_;rintro e w1 ⟨rfl,hb1⟩;rw [zW.out];have HB2:=dw hb1;clear hb1)
    |(go_at_call 49;refine (Lo.eZ _ _ _ _).mono ?_;rintro e w2 ⟨rfl,rfl⟩;rw [CP.out]))
   go_ret2
   show nu _ _ _ _ _;unfold nu;rw [aa (by rw [zW.out];simp),aj CP.out];exact ⟨((di _ _).alloc (aJ _) _).trans (HB2.out.mono (by simp)),rfl⟩
  |true=>
   have CP:=dw hbt;clear hbt;have hnd:=Fx b (-1) hg;cases hho:vU b with
   |false=>
    have HH:=dw (show jC (fM b (-1)) (eY b (-1))=false from hho);clear hho;go_enter Lo.func22,Tryz.ntmps22
    go_wp2_with (first
     |(go_at_call 17;refine (Lo.jh kR.out HB1.out (by simp;omega) hs).mono ?_;rintro e w1 ⟨rfl,hb1⟩;rw [zW.out];have HB2:=dw hb1;clear hb1;have c0:=(dU HB2.out w.heap.size 0 (by simp)).trans (nC.out 0);have c1:=(dU HB2.out w.heap.size 1 (by simp)).trans (nC.out 1);have c2:=(dU HB2.out w.heap.size 2 (by simp)).trans (nC.out 2);have c3:=(dU HB2.out w.heap.size 3 (by simp)).trans (nC.out 3))
     |(go_at_call 49;refine (Lo.eZ _ _ _ _).mono ?_;rintro e w2 ⟨rfl,rfl⟩;rw [CP.out])
     |(go_at_call 56;refine (Lo.zz kR.out (HB1.out.keep λb o h=>dU HB2.out b o (by simp;omega)) (by have :=HB2.out.size;simp at this;omega) hg (-1) (by omega)).mono ?_;rintro e w3 ⟨bw,A,cap,rfl,hw,hb3⟩;have HW:=dw hw;have HB3:=dw hb3;clear hw hb3)
     |(go_at_call 57;refine (Lo.uk HW.out (aJ _) hnd).mono ?_;rintro e w4 ⟨rfl,hb4⟩;rw [HH.out]))
    go_ret2
    show nu _ _ _ _ _;unfold nu;rw [aa (by rw [zW.out];simp),aa (by rw [CP.out];simp),aa (by show ¬jC (fM b (-1)) (eY b (-1))=true;rw [HH.out];simp)];have s2:=HB2.out.size;have s3:=HB3.out.size;simp at s2;exact ⟨((((di _ _).alloc (aJ _) _).trans (HB2.out.mono (by simp))).trans (HB3.out.mono (by omega))).trans (hb4.mono (by omega)),rfl⟩
   |true=>
    have HH:=dw (show jC (fM b (-1)) (eY b (-1))=true from hho);clear hho;have hn8:=hg.n8;have aj4:=hg.p12;go_enter Lo.func22,Tryz.ntmps22
    go_wp2_with (first
     |(go_at_call 17;refine (Lo.jh kR.out HB1.out (by simp;omega) hs).mono ?_;rintro e w1 ⟨rfl,hb1⟩;rw [zW.out];have HB2:=dw hb1;clear hb1;have c0:=(dU HB2.out w.heap.size 0 (by simp)).trans (nC.out 0);have c1:=(dU HB2.out w.heap.size 1 (by simp)).trans (nC.out 1);have c2:=(dU HB2.out w.heap.size 2 (by simp)).trans (nC.out 2);have c3:=(dU HB2.out w.heap.size 3 (by simp)).trans (nC.out 3))
     |(go_at_call 49;refine (Lo.eZ _ _ _ _).mono ?_;rintro e w2 ⟨rfl,rfl⟩;rw [CP.out])
     |(go_at_call 56;refine (Lo.zz kR.out (HB1.out.keep λb o h=>dU HB2.out b o (by simp;omega)) (by have :=HB2.out.size;simp at this;omega) hg (-1) (by omega)).mono ?_;rintro e w3 ⟨bw,A,cap,rfl,hw,hb3⟩;have HW:=dw hw;have HB3:=dw hb3;clear hw hb3)
     |(go_at_call 57;refine (Lo.uk HW.out (aJ _) hnd).mono ?_;rintro e w4 ⟨rfl,hb4⟩;rw [HH.out];have zO:=dw (HB2.out.trans ((HB3.out.mono HB2.out.size).trans (hb4.mono (aT HB2.out.size HB3.out.size))));clear hb4;have d0:=(dU zO.out w.heap.size 0 (by simp)).trans (nC.out 0)))
    have hbe:Below w.heap.size w w4:=((di _ _).alloc (aJ _) _).trans (zO.out.mono (by simp));have szw:w.heap.size+1<=w4.heap.size:=by have :=zO.out.size;simp at this;omega
    have hbk:gH w4 B b v:=HB1.out.keep λb o h=>dU zO.out b o (by simp;omega)
    have hcb:∀j:Nat,w4.cell? ⟨w.heap.size,j,none⟩=(#[Value.slice ah b.eO.length ch,.slice ap b.dO.length cp,.slice lT b.steps.length cs,.slice ac b.dR.length cc]:Array Value)[j]?:= λj=>(dU zO.out w.heap.size j (by simp)).trans (nC.out j)
    have KO:=dw hbe;have zx:=dw hbk;have HCK:=dw hcb;clear hbe HB2 HB1 nC HB3 zO HW c0 c1 c2 c3 hbk hcb
    go_loopw [7,28] (λu i wr=>∃k:Nat,k<=b.eO.length∧i= .int .i64 (k:Int)∧wr.ownsRow w4.heap.size 38 1 u k (jl (tT b limit k))∧Par.eP wr u∧Below w4.heap.size w4 wr) (λ_ i _=>b.eO.length - (intOf i).toNat)
    case atStart=>exact ⟨0,bn _,rfl,by simpa [tT,jl] using World.ownsRow_nil w4 w4.heap.size 38 1,Par.eP.nil _,di _ _⟩
    case round=>
     obtain ⟨k,hk,rfl,hown,hpl,hb⟩:=hrel;have HP:=dw hpl;have HO:=dw hown;have HB:=dw hb;clear hpl hown hb
     by_cases hlt:k<b.eO.length
     ·have hlt':(k:Int)<(b.eO.length:Int):=by omega
      have hwl:=BM b k;rw [aj (by omega)] at hwl;have e0:=(dU HB.out w.heap.size 0 (by omega)).trans (HCK.out 0);have e1:=(dU HB.out w.heap.size 1 (by omega)).trans (HCK.out 1);have e2:=(dU HB.out w.heap.size 2 (by omega)).trans (HCK.out 2);have e3:=(dU HB.out w.heap.size 3 (by omega)).trans (HCK.out 3);have Zv:=HB.out.size;have hj:tT b limit (k+1)=tT b limit k++ [sQ (((CZ b k)[2*(b.dO.length+2*b.steps.length)+0]?).getD 0) (((CZ b k)[2*(b.dO.length+2*b.steps.length)+1]?).getD 0) limit]:=rfl;generalize hy0:((CZ b k)[2*(b.dO.length+2*b.steps.length)+0]?).getD 0=y0 at hj;generalize hy1:((CZ b k)[2*(b.dO.length+2*b.steps.length)+1]?).getD 0=y1 at hj;have Y0:=dw hy0;have Y1:=dw hy1;have HJ:=dw hj;clear hj hy0 hy1
      by_cases q0:limit<y0
      ·have hq:sQ y0 y1 limit=1:=by unfold sQ;rw [aj q0]
       have HQ:=dw hq;clear hq
       go_wp2_with (first
        |(go_at_call 43;refine (Lo.zA kR.out (zx.out.keep λb o h=>dU HB.out b o (by omega)) (by omega) hg k (by omega) (HH2.out HH.out k hlt)).mono ?_;rintro e w5 ⟨A5,cap5,rfl,hcap,hr,hb5⟩;rw [hwl];rw [hwl] at hr;have hr:=hr _ (aJ _);obtain ⟨bb,off,rfl,hbb,hc⟩:=hr (by omega);have g0:w5.cell? ⟨bb,off+(b.dO.length+2*b.steps.length)*2,none⟩=some (.int .i64 y0):=by rw [<-Y0.out];exact hc (b.dO.length+2*b.steps.length) 0 (by omega) (by omega)
          have g1:w5.cell? ⟨bb,off+(b.dO.length+2*b.steps.length)*2+1,none⟩=some (.int .i64 y1):=by rw [<-Y1.out];exact hc (b.dO.length+2*b.steps.length) 1 (by omega) (by omega)
          have s5:wr.heap.size<=w5.heap.size:=hb5.size;have Hq:=dw hb5;clear hb5 hc hr)
        |(at_builtin;refine Par.gG rfl _ _ 35 rfl w4.heap.size 38 i0 (.int .i64 0) 1 8 Lo.Td hi hz0 hz1 hz2 rfl (by decide) _ _ _ rfl (((ownsRow.below HO.out Hq.out).alloc _).alloc _) ⟨w5.heap.size+1,0,none⟩ 1 1 [.int .i64 1] rfl rfl (by intro j u hj;match j,hj with |0,hj=>simp at hj;subst hj;simp [Addr.add]) (by intro u hu;simp at hu;subst hu;rfl) (by unfold maxLen;omega) (by omega) (by simp;omega) (((HP.out.keep λg hg=>Hq.out.block g (HO.out.lt g hg).2).alloc _).alloc _) (by intro u hu;simp at hu;subst hu;rfl) (by intro u hu;simp [Value.cells] at hu;subst hu;rfl) ?_
          intro v' w6 hown' hgrow _ hp';have Si:=dw hp';have Wv:=dw hown';have HG:=dw hgrow;clear hp' hown' hgrow)
        |go_in)
       go_roundw
       case rel=>exact ⟨k+1,by omega,by go_num,by rw [HJ.out,HQ.out];simpa [jl] using Wv.out,Si.out,(((HB.out.trans (Hq.out.mono (by omega))).alloc (by omega) _).alloc (by simp;omega) _).grown HG.out (by simp;omega) (λj hj=>(HO.out.lt j hj).1)⟩
       case measure=>simp [intOf];omega
      ·by_cases q1:y1<=limit
       ·have hq:sQ y0 y1 limit=2:=by unfold sQ;rw [aa q0,aj q1]
        have HQ:=dw hq;clear hq
        go_wp2_with (first
         |(go_at_call 43;refine (Lo.zA kR.out (zx.out.keep λb o h=>dU HB.out b o (by omega)) (by omega) hg k (by omega) (HH2.out HH.out k hlt)).mono ?_;rintro e w5 ⟨A5,cap5,rfl,hcap,hr,hb5⟩;rw [hwl];rw [hwl] at hr;have hr:=hr _ (aJ _);obtain ⟨bb,off,rfl,hbb,hc⟩:=hr (by omega);have g0:w5.cell? ⟨bb,off+(b.dO.length+2*b.steps.length)*2,none⟩=some (.int .i64 y0):=by rw [<-Y0.out];exact hc (b.dO.length+2*b.steps.length) 0 (by omega) (by omega)
           have g1:w5.cell? ⟨bb,off+(b.dO.length+2*b.steps.length)*2+1,none⟩=some (.int .i64 y1):=by rw [<-Y1.out];exact hc (b.dO.length+2*b.steps.length) 1 (by omega) (by omega)
           have s5:wr.heap.size<=w5.heap.size:=hb5.size;have Hq:=dw hb5;clear hb5 hc hr)
         |(at_builtin;refine Par.gG rfl _ _ 35 rfl w4.heap.size 38 i0 (.int .i64 0) 1 8 Lo.Td hi hz0 hz1 hz2 rfl (by decide) _ _ _ rfl (((ownsRow.below HO.out Hq.out).alloc _).alloc _) ⟨w5.heap.size+1,0,none⟩ 1 1 [.int .i64 2] rfl rfl (by intro j u hj;match j,hj with |0,hj=>simp at hj;subst hj;simp [Addr.add]) (by intro u hu;simp at hu;subst hu;rfl) (by unfold maxLen;omega) (by omega) (by simp;omega) (((HP.out.keep λg hg=>Hq.out.block g (HO.out.lt g hg).2).alloc _).alloc _) (by intro u hu;simp at hu;subst hu;rfl) (by intro u hu;simp [Value.cells] at hu;subst hu;rfl) ?_
           intro v' w6 hown' hgrow _ hp';have Si:=dw hp';have Wv:=dw hown';have HG:=dw hgrow;clear hp' hown' hgrow)
         |go_in)
        go_roundw
        case rel=>exact ⟨k+1,by omega,by go_num,by rw [HJ.out,HQ.out];simpa [jl] using Wv.out,Si.out,(((HB.out.trans (Hq.out.mono (by omega))).alloc (by omega) _).alloc (by simp;omega) _).grown HG.out (by simp;omega) (λj hj=>(HO.out.lt j hj).1)⟩
        case measure=>simp [intOf];omega
       ·have hq:sQ y0 y1 limit=0:=by unfold sQ;rw [aa q0,aa q1]
        have HQ:=dw hq;clear hq
        go_wp2_with (first
         |(go_at_call 43;refine (Lo.zA kR.out (zx.out.keep λb o h=>dU HB.out b o (by omega)) (by omega) hg k (by omega) (HH2.out HH.out k hlt)).mono ?_;rintro e w5 ⟨A5,cap5,rfl,hcap,hr,hb5⟩;rw [hwl];rw [hwl] at hr;have hr:=hr _ (aJ _);obtain ⟨bb,off,rfl,hbb,hc⟩:=hr (by omega);have g0:w5.cell? ⟨bb,off+(b.dO.length+2*b.steps.length)*2,none⟩=some (.int .i64 y0):=by rw [<-Y0.out];exact hc (b.dO.length+2*b.steps.length) 0 (by omega) (by omega)
           have g1:w5.cell? ⟨bb,off+(b.dO.length+2*b.steps.length)*2+1,none⟩=some (.int .i64 y1):=by rw [<-Y1.out];exact hc (b.dO.length+2*b.steps.length) 1 (by omega) (by omega)
           have s5:wr.heap.size<=w5.heap.size:=hb5.size;have Hq:=dw hb5;clear hb5 hc hr)
         |(at_builtin;refine Par.gG rfl _ _ 35 rfl w4.heap.size 38 i0 (.int .i64 0) 1 8 Lo.Td hi hz0 hz1 hz2 rfl (by decide) _ _ _ rfl (((ownsRow.below HO.out Hq.out).alloc _).alloc _) ⟨w5.heap.size+1,0,none⟩ 1 1 [.int .i64 0] rfl rfl (by intro j u hj;match j,hj with |0,hj=>simp at hj;subst hj;simp [Addr.add]) (by intro u hu;simp at hu;subst hu;rfl) (by unfold maxLen;omega) (by omega) (by simp;omega) (((HP.out.keep λg hg=>Hq.out.block g (HO.out.lt g hg).2).alloc _).alloc _) (by intro u hu;simp at hu;subst hu;rfl) (by intro u hu;simp [Value.cells] at hu;subst hu;rfl) ?_
           intro v' w6 hown' hgrow _ hp';have Si:=dw hp';have Wv:=dw hown';have HG:=dw hgrow;clear hp' hown' hgrow)
         |go_in)
        go_roundw
        case rel=>exact ⟨k+1,by omega,by go_num,by rw [HJ.out,HQ.out];simpa [jl] using Wv.out,Si.out,(((HB.out.trans (Hq.out.mono (by omega))).alloc (by omega) _).alloc (by simp;omega) _).grown HG.out (by simp;omega) (λj hj=>(HO.out.lt j hj).1)⟩
        case measure=>simp [intOf];omega
     ·obtain rfl:k=b.eO.length:=by omega
      obtain ⟨A2,cap2,rfl,_,hr2⟩:=ownsRow.rd (B:=wr.heap.size) (f:= λi _=>.int .i64 (((tT b limit b.eO.length)[i]?).getD 0)) HO.out (λi j hi hj=>(show j=0 by omega) ▸ K7 _ (by rw [yY];exact hi));have HR2:=dw (hr2 _ (aJ _) (aJ _));clear hr2;go_wp2
      go_ret2
      show nu _ _ _ _ _;unfold nu;rw [aa (by rw [zW.out];simp),aa (by rw [CP.out];simp),aj HH.out];refine ⟨KO.out.trans (HB.out.mono (by omega)),_,_,rfl,?_,HP.out⟩;have :=HR2.out;unfold BJ;rw [yY];exact this
 ·have zW:=dw hcf;clear hcf;generalize hcx:gL b=cx at zW;have Ta:=dw hcx;have hne:¬cx=0:=zW.out;clear hcx ZL;go_enter Lo.func22,Tryz.ntmps22
  go_wp2_with (go_at_call 17;refine (Lo.jh kR.out HB1.out (by simp;omega) hs).mono ?_;rintro e w1 ⟨rfl,hb1⟩;rw [Ta.out];have HB2:=dw hb1;clear hb1)
  go_ret2
  show nu _ _ _ _ _;unfold nu;rw [Ta.out,aj hne];exact ⟨((di _ _).alloc (aJ _) _).trans (HB2.out.mono (by simp)),rfl⟩
end
section
variable [Lo.St]
def Et (b:fe) (k:Nat):fe:={ b with dR:=b.dR.take k }
def wJ (b:fe):Nat->Nat->Int
 |0,_=> -1
 |f+1,k=>if vU (Et b k)=false then (k:Int) - 1 else wJ b f (k+1)
def JO (b:fe):Int:=wJ b (b.dR.length+1) 0
theorem ZM {w:World} {B:Nat} {b:fe} {v:jR} (h:gH w B b v) (k:Nat) (hk:k<=b.dR.length):gH w B (Et b k) v:=by
 have e:(b.dR.take k).length=k:=by rw [List.length_take];omega
 refine ⟨h.eO,h.dO,h.steps,h.ins,h.outs, λhn=>?_,h.lh,h.lp,h.ls,by have :=h.lc;show (b.dR.take k).length<=_;omega⟩;have hn:0<(b.dR.take k).length:=hn;obtain ⟨bb,off,e1,h1,h2⟩:=h.dR (by omega);refine ⟨bb,off,e1,h1, λi j hi hj=>?_⟩;have hi:i<(b.dR.take k).length:=hi;rw [h2 i j (by omega) hj];show _=some (BK (b.dR.take k) i j);unfold BK;rw [List.getElem?_take_of_lt (by omega)]
theorem Te {b:fe} (h:b.good) (k:Nat):(Et b k).good:=
 ⟨⟨h.eO,h.dO,h.steps,by have :=h.dR;show (b.dR.take k).length<=64;rw [List.length_take];omega,h.ins,h.outs⟩,h.n8,h.p12, λs hs=>h.sc s (bF hs),h.st,h.ki,h.ko⟩
theorem WE {w:World} {b:Nat} {x y z u:Value} {t:TypeId} (h:w.heap[b]?=some (.cells #[x,y,z,u] t)):w.cell? ⟨b,0,none⟩=some x∧w.cell? ⟨b,1,none⟩=some y∧w.cell? ⟨b,2,none⟩=some z∧w.cell? ⟨b,3,none⟩=some u∧w.frozen? ⟨b,3,none⟩=false:=by
 unfold World.cell? World.frozen?;simp only [h];exact ⟨rfl,rfl,rfl,rfl,rfl⟩
theorem Qj {w:World} {b:Nat} {x y z u u':Value} {t:TypeId} (h:w.heap[b]?=some (.cells #[x,y,z,u] t)):(w.setCell ⟨b,3,none⟩ u').heap[b]?=some (.cells #[x,y,z,u'] t):=heap_setCell_same w b 3 _ _ u' h
def sj (w:World) (b:fe) (e:Ending) (w':World):Prop:=
 Below w.heap.size w w'∧if gL b≠0 then e= .returned (.tuple #[.int .i64 0,.int .i64 (gL b)]) else e= .returned (.tuple #[.int .i64 (JO b),.int .i64 0])
theorem Lo.Qk {w:World} {B:Nat} {b:fe} {v:jR} {x:Value} (hx:x=fJ b v) (hb:gH w B b v) (hB:B<=w.heap.size) (hs:b.small):
 Calls Lo.prog 24 #[x] w (sj w b):=by
 have hb0:=hb;have hlc:b.dR.length<=v.cc:=hb.lc
 have Tf:∀k,k<=b.dR.length->Value.agg #[.slice v.ah b.eO.length v.ch,.slice v.ap b.dO.length v.cp,.slice v.lT b.steps.length v.cs,.slice v.ac k v.cc]=fJ (Et b k) v:= λk hk=>by
  unfold fJ Et;rw [List.length_take,Nat.min_eq_left hk]
 have zx:=dw Tf;have HB0:=dw hb0;clear hb0 Tf;obtain ⟨U,U2,U3,U4,U5,U6⟩:=Lo.facts;subst hx;have hbv:Value.agg #[.slice v.ah b.eO.length v.ch,.slice v.ap b.dO.length v.cp,.slice v.lT b.steps.length v.cs,.slice v.ac b.dR.length v.cc]=fJ b v:=rfl;rw [<-hbv];have hb1:gH (w.alloc (.cells #[.slice v.ah b.eO.length v.ch,.slice v.ap b.dO.length v.cp,.slice v.lT b.steps.length v.cs,.slice v.ac b.dR.length v.cc] 26)) B b v:=hb.keep λb o h=>dh _ _ _ (by show b<w.heap.size;omega)
 have hcb:∀j:Nat,(w.alloc (.cells #[.slice v.ah b.eO.length v.ch,.slice v.ap b.dO.length v.cp,.slice v.lT b.steps.length v.cs,.slice v.ac b.dR.length v.cc] 26)).cell? ⟨w.heap.size,j,none⟩=(#[Value.slice v.ah b.eO.length v.ch,.slice v.ap b.dO.length v.cp,.slice v.lT b.steps.length v.cs,.slice v.ac b.dR.length v.cc]:Array Value)[j]?:= λj=>by rw [cO _ _ _ _ rfl]
 have kR:=dw hbv;have HB1:=dw hb1;have nC:=dw hcb;clear hbv hb1 hb hcb;generalize v.ah=ah at kR HB1 nC zx hlc ⊢;generalize v.ch=ch at kR HB1 nC zx hlc ⊢;generalize v.ap=ap at kR HB1 nC zx hlc ⊢;generalize v.cp=cp at kR HB1 nC zx hlc ⊢;generalize v.lT=lT at kR HB1 nC zx hlc ⊢;generalize v.cs=cs at kR HB1 nC zx hlc ⊢;generalize v.ac=ac at kR HB1 nC zx hlc ⊢;generalize v.cc=cc at kR HB1 nC zx hlc ⊢;have C:=Lo.call17;have C2:=Lo.call56;have C3:=Lo.call57;have hl4:=hs.dR
 by_cases hcf:gL b=0
 ·have hg:=oz hs hcf;have zW:=dw hcf;clear hcf;go_enter Lo.func24,Tryz.ntmps24
  go_wp2_with (go_at_call 17;refine (Lo.jh kR.out HB1.out (by simp;omega) hs).mono ?_;rintro e w1 ⟨rfl,hb1⟩;rw [zW.out];have HB2:=dw hb1;clear hb1;have c0:=(dU HB2.out w.heap.size 0 (by simp)).trans (nC.out 0);have c1:=(dU HB2.out w.heap.size 1 (by simp)).trans (nC.out 1);have c2:=(dU HB2.out w.heap.size 2 (by simp)).trans (nC.out 2);have c3:=(dU HB2.out w.heap.size 3 (by simp)).trans (nC.out 3))
  have hbx:w1.heap[w.heap.size]?=some (.cells #[.slice ah b.eO.length ch,.slice ap b.dO.length cp,.slice lT b.steps.length cs,.slice ac b.dR.length cc] 26):=(HB2.out.block _ (by simp)).trans (heap_alloc_new w _)
  have hbe:Below w.heap.size w w1:=((di _ _).alloc (aJ _) _).trans (HB2.out.mono (by simp));have szw:w.heap.size+1<=w1.heap.size:=by have :=HB2.out.size;simp at this;omega
  have HX:=dw hbx;have KO:=dw hbe;clear hbx hbe HB2 HB1 nC kR c0 c1 c2 c3
  go_loopw [17] (λi wr=>∃k:Nat,∃x,k<=b.dR.length+1∧i= .int .i64 (k:Int)∧wr.heap[w.heap.size]?=some (.cells #[.slice ah b.eO.length ch,.slice ap b.dO.length cp,.slice lT b.steps.length cs,x] 26)∧Below w.heap.size w wr∧w.heap.size+1<=wr.heap.size∧wJ b (b.dR.length+1 - k) k=JO b) (λi _=>b.dR.length+1 - (intOf i).toNat)
  case atStart=>exact ⟨0,_,bn _,rfl,HX.out,KO.out,szw,rfl⟩
  case round=>
   obtain ⟨k,x,hk,rfl,hbx,hb,hsz,Au⟩:=hrel
   by_cases hlt:k<b.dR.length+1
   ·have hlt':(k:Int)<(b.dR.length:Int)+1:=by omega
    have hkn:k<=b.dR.length:=by omega
    have hkc:k<=cc:=by omega
    have hd:wJ b (b.dR.length+1 - k) k=if vU (Et b k)=false then (k:Int) - 1 else wJ b (b.dR.length+1 - (k+1)) (k+1):=by
     rw [show b.dR.length+1 - k=(b.dR.length - k)+1 from by omega,show b.dR.length+1 - (k+1)=b.dR.length - k from by omega];rfl
    rw [Au] at hd;obtain ⟨e0,e1,e2,e3,ef⟩:=WE hbx;have oh:=Qj (u':=.slice ac k cc) hbx;have hbk:gH (wr.setCell ⟨w.heap.size,3,none⟩ (.slice ac k cc)) B (Et b k) v:=(ZM HB0.out k hkn).keep λb o h=>(dm (Below.heap_setCell _ _ _ _ (by show b≠w.heap.size;omega))).trans (dU hb b o (by omega))
    have hbs:Below w.heap.size w (wr.setCell ⟨w.heap.size,3,none⟩ (.slice ac k cc)):=hb.setCell (p:=⟨w.heap.size,3,none⟩) (aJ _) _;have hss:(wr.setCell ⟨w.heap.size,3,none⟩ (.slice ac k cc)).heap.size=wr.heap.size:=by simp [World.setCell]
    have hgk:=Te hg k;have hnd:=Fx (Et b k) (-1) hgk;have Tf:=zx.out k hkn;have HD:=dw hd;have HS:=dw oh;have ak1:=dw hbk;have HBS:=dw hbs;have kR:=dw Tf;clear hd oh hbk hbs Tf Au hbx hb HX;cases hho:jC (fM (Et b k) (-1)) (eY (Et b k) (-1)) with
    |false=>
     have HH:=dw hho;clear hho
     go_wp2_with (first
      |(go_at_call 56;refine (Lo.zz kR.out ak1.out (by omega) hgk (-1) (by omega)).mono ?_;rintro e w3 ⟨bw,A,cap,rfl,hw,hb3⟩;have HW:=dw hw;have HB3:=dw hb3;clear hw hb3)
      |(go_at_call 57;refine (Lo.uk HW.out (aJ _) hnd).mono ?_;rintro e w4 ⟨rfl,hb4⟩;rw [HH.out]))
     go_ret2
     show sj _ _ _ _;unfold sj;rw [aa (by rw [zW.out];simp)];refine ⟨(HBS.out.trans (HB3.out.mono (by omega))).trans (hb4.mono (by have :=HB3.out.size;omega)),?_⟩;have :=HD.out;rw [aj HH.out] at this;rw [this];rfl
    |true=>
     have HH:=dw hho;clear hho
     go_wp2_with (first
      |(go_at_call 56;refine (Lo.zz kR.out ak1.out (by omega) hgk (-1) (by omega)).mono ?_;rintro e w3 ⟨bw,A,cap,rfl,hw,hb3⟩;have HW:=dw hw;have HB3:=dw hb3;clear hw hb3)
      |(go_at_call 57;refine (Lo.uk HW.out (aJ _) hnd).mono ?_;rintro e w4 ⟨rfl,hb4⟩;rw [HH.out];have zO:=dw hb4;clear hb4))
     have s3:=HB3.out.size;have s4:=zO.out.size;go_roundw
     case rel=>exact ⟨k+1,_,by omega,by go_num,(zO.out.block _ (by omega)).trans ((HB3.out.block _ (by omega)).trans HS.out),(HBS.out.trans (HB3.out.mono (by omega))).trans (zO.out.mono (by omega)),by omega,by
      have :=HD.out;rw [aa (by show ¬jC (fM (Et b k) (-1)) (eY (Et b k) (-1))=false;rw [HH.out];simp)] at this;exact this.symm⟩
     case measure=>simp [intOf];omega
   ·obtain rfl:k=b.dR.length+1:=by omega
    have hf:JO b= -1:=by rw [<-Au,Nat.sub_self];rfl
    have HF:=dw hf;clear hf Au;go_wp2
    go_ret2
    show sj _ _ _ _;unfold sj;rw [aa (by rw [zW.out];simp),HF.out];exact ⟨hb,rfl⟩
 ·have zW:=dw hcf;clear hcf;generalize hcx:gL b=cx at zW;have Ta:=dw hcx;have hne:¬cx=0:=zW.out;clear hcx;go_enter Lo.func24,Tryz.ntmps24
  go_wp2_with (go_at_call 17;refine (Lo.jh kR.out HB1.out (by simp;omega) hs).mono ?_;rintro e w1 ⟨rfl,hb1⟩;rw [Ta.out];have HB2:=dw hb1;clear hb1)
  go_ret2
  show sj _ _ _ _;unfold sj;rw [Ta.out,aj hne];exact ⟨((di _ _).alloc (aJ _) _).trans (HB2.out.mono (by simp)),rfl⟩
end
end Go.Proofs
