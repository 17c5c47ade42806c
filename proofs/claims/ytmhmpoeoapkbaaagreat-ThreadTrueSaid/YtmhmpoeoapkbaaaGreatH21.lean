/- Part 21. -/
import Derived.Test.YtmhmpoeoapkbaaaGreatH20
set_option maxRecDepth 100000
set_option maxHeartbeats 0
set_option linter.all false
namespace Go.Proofs
open Go Go.RowKit
section
variable [Lo.St]
theorem Lo.xu(s:ByteArray)(w:World):Calls Lo.prog 85 #[.string s] w λe w'=>e=.returned (.bool (gy s))∧Below w.heap.size w w':=by
 cases h:kH s.size 1 14 with
 |true=>exact Lo.KI s w h
 |false=>
  have e:gy s=false:=by unfold gy;rw[h];rfl
  rw[e];exact Lo.OM s w h
theorem F8.take{w:World}{B:Nat}{A:Option Addr}{l:List ByteArray}(h:F8 w B A l)(k:Nat)(hk:k<=l.length):F8 w B A (l.take k):= λhn=>by
 have e:(l.take k).length=k:=by rw[List.length_take];omega
 rw[e]at hn;obtain⟨b,off,e1,hb,hc⟩:=h (by omega);refine⟨b,off,e1,hb, λi j hi hj=>?_⟩;rw[e]at hi;rw[hc i j (by omega) hj];simp only;rw[List.getElem?_take_of_lt hi]
theorem Lo.RV{w:World}{B n:Nat}{A:Option Addr}{l:List ByteArray}{c:Nat}{s:ByteArray}(hn:n=l.length)(h1:F8 w B A l)(hl:l.length<=64):
 Calls Lo.prog 86 #[.slice A n c,.string s] w λe w'=>e=.returned (.bool (F9 s l))∧w'=w:=hn ▸ Lo.Rm h1 hl
theorem AU(l:List ByteArray)(k:Nat)(h:k<l.length):qP (l.drop k) (l.take k)=if gy l[k]=false then 4 else if F9 l[k] (l.take k)=true then 5 else qP (l.drop (k+1)) (l.take (k+1)):=by
 rw[aV h,bu h];rfl
theorem Lo.gQ{w:World}{B:Nat}{A:Option Addr}{l:List ByteArray}{c most:Nat}(h1:F8 w B A l)(hl:l.length<=64)(hcap:l.length<=c)(hB:B<=w.heap.size)(hm:most<=64):
 Calls Lo.prog 51 #[.slice A l.length c,.int .i64 (most:Int)] w λe w'=>e=.returned (.int .i64 (dP l most))∧Below w.heap.size w w':=by
 obtain⟨U,U2,U3,U4,U5,U6⟩:=Lo.facts;have C:=Lo.call Tryz.func85;have C2:=Lo.call Tryz.func86
 by_cases hgt:most<l.length
 .have K3:(most:Int)<(l.length:Int):=by omega
  have e:dP l most=2:=by unfold dP;rw[aj hgt]
  rw[e];go_enter Lo.get Tryz.func51,Tryz.ntmps51
  go_wp2_with fail
  go_ret;exact⟨rfl,di _ _⟩
 .have K3:¬(most:Int)<(l.length:Int):=by omega
  have e:dP l most=qP l []:=by unfold dP;rw[aa hgt]
  rw[e];clear e;generalize hF:qP l []=F;have HF:=dw hF;clear hF;go_enter Lo.get Tryz.func51,Tryz.ntmps51
  go_wp2_with fail
  go_loopw [13] (λi wr=>∃k:Nat,k<=l.length∧i=.int .i64 (k:Int)∧qP (l.drop k) (l.take k)=F∧Below w.heap.size w wr) (λi _=>l.length-(intOf i).toNat)
  case atStart=>exact⟨0,bg _,rfl,by rw[List.drop_zero,List.take_zero];exact HF.out,di _ _⟩
  case round=>
   obtain⟨k,hk,rfl,hx,hb⟩:=hrel
   by_cases hlt:k<l.length
   .have hlt':(k:Int)<(l.length:Int):=by omega
    have hkc:k<=c:=by omega
    have h1k:F8 wr B A l:=h1.keep λb o h=>dH hb b o (by omega)
    obtain⟨bb,off,rfl,hbb,hc⟩:=h1k (by omega);have r1:=FM hc hlt;have ht:F8 wr B (some ⟨bb,off,none⟩) (l.take k):=F8.take (λ_=>⟨bb,off,rfl,hbb,hc⟩) k (by omega);have hd:=AU l k hlt;rw[hx]at hd;have htl:k=(l.take k).length:=by rw[List.length_take];omega
    generalize l[k]=s at r1 hd;have HT:=dw ht;have HD:=dw hd;have HB:=dw hb;have HTL:=dw htl;clear ht hd hb hc hx h1k h1 htl;cases hnm:gy s with
    |false=>
     have HN:=dw hnm;clear hnm
     go_wp2_with(go_at_call 85;refine(Lo.xu _ _).mono ?_;rintro e w1⟨rfl,hb1⟩;rw[HN.out])
     go_ret;exact⟨by rw[HD.out,aj HN.out];rfl,HB.out.trans (hb1.mono HB.out.size)⟩
    |true=>
     have HN:=dw hnm;clear hnm;cases RX:F9 s (l.take k)with
     |true=>
      have HH:=dw RX;clear RX
      go_wp2_with(first
       |(go_at_call 85;refine(Lo.xu _ _).mono ?_;rintro e w1⟨rfl,hb1⟩;rw[HN.out])
       |(go_at_call 86;refine(Lo.RV HTL.out (HT.out.keep λb o h=>dH hb1 b o (by have :=HB.out.size;omega)) (by rw[List.length_take];omega)).mono ?_;rintro e w2⟨rfl,rfl⟩;rw[HH.out]))
      go_ret;exact⟨by rw[HD.out,aa (by rw[HN.out];simp),aj HH.out];rfl,HB.out.trans (hb1.mono HB.out.size)⟩
     |false=>
      have HH:=dw RX;clear RX
      go_wp2_with(first
       |(go_at_call 85;refine(Lo.xu _ _).mono ?_;rintro e w1⟨rfl,hb1⟩;rw[HN.out])
       |(go_at_call 86;refine(Lo.RV HTL.out (HT.out.keep λb o h=>dH hb1 b o (by have :=HB.out.size;omega)) (by rw[List.length_take];omega)).mono ?_;rintro e w2⟨rfl,rfl⟩;rw[HH.out]))
      go_roundw
      case rel=>exact⟨k+1,by omega,by go_num,by rw[HD.out,aa (by rw[HN.out];simp),aa (by rw[HH.out];simp)],HB.out.trans (hb1.mono HB.out.size)⟩
      case measure=>simp[intOf];omega
   .obtain rfl:k=l.length:=by omega
    rw[aF]at hx;have HX:=dw hx;clear hx
    go_wp2_with fail
    go_ret;exact⟨by rw[<-HX.out];rfl,hb⟩
end
end Go.Proofs
namespace Go.Proofs
open Go Go.RowKit Go.Maps
section
variable [Lo.St]
abbrev vT:DataW Unit:=.lit (.bool true)
def Bc(l:List Int):DataW Unit:=setOf vT (l.map kI)
theorem ES(l:List Int)(p:Int):Bc (l++ [p])=(Bc l).put (kI p) vT:=by
 unfold Bc;rw[List.map_append];exact setOf_snoc _ _ _
theorem MQ(l:List Int):∀x∈l.map kI,WideAt.IsKeyLit x:= λx hx=>by
 obtain⟨p,_,rfl⟩:=List.mem_map.1 hx;exact Gm p
theorem K4(p q:Int):(kI p).sameKey (kI q)=decide (p=q):=by
 by_cases h:p=q
 .subst h;simp[Lit.sameKey]
 .rw[sameKey_ne (Gn h)];simp[h]
theorem tu(l:List Int)(q:Int):(Bc l).atKey (kI q) (.lit (.bool false))=.lit (.bool (l.contains q)):=by
 induction l using uP with
 |h0=>rfl
 |h1 l p ih=>
  have hm:IsMap (Bc l):=(tidy_setOf vT _ (MQ l)).isMap;rw[ES]
  by_cases h:p=q
  .subst h;rw[atKey_put_same hm (Gm p)];simp
  .rw[atKey_put_other (Gn (Ne.symm h)),ih];simp[Ne.symm h]
theorem OZ(l:List Int)(h:l.Nodup):Maps.size (Bc l)=l.length:=by
 unfold Bc;rw[size_setOf _ _ (MQ l)]
 have:∀(l acc:List Int),l.Nodup->(∀x∈l,x ∉ acc)->(l.map kI).foldl addKey (acc.map kI)=(acc++l).map kI:=by
  intro l
  induction l with
  |nil=>intro acc _ _;simp
  |cons p l ih=>
   intro acc hn ha;simp only[aC,List.foldl_cons]
   have e:addKey (acc.map kI) (kI p)=(acc++ [p]).map kI:=by
    unfold addKey;rw[aa]
    .simp
    .simp only[List.any_map,List.any_eq_true,Function.comp];rintro⟨x,hx,h2⟩;rw[K4]at h2;have :=of_decide_eq_true h2;subst this;exact ha _ (by simp) hx
   rw[e,ih (acc++ [p]) (List.nodup_cons.1 hn).2 (λx hx hm=>by
    rcases List.mem_append.1 hm with hm|hm
    .exact ha x (by simp[hx]) hm
    .simp at hm;subst hm;exact(List.nodup_cons.1 hn).1 hx)]
   simp
 have :=this l [] h (λ_ _ h=>by cases h);simp only[List.map_nil,List.nil_append]at this;rw[this,List.length_map]
section
variable {H:Type} {P:Program} (w:World) {ops:Array Oper} {rest:List Oper} {o:Oper} {a:Act} {Q:Exit->Act->World->Prop}
theorem xw{e:TypeId}(he:P.underlying e=some .bool){v:Value}{z:DataW H×List MemPlace}(h:plainElem P e v=some z):∃x,v=.bool x∧z=(.lit (.bool x),[]):=by
 unfold plainElem at h;rw[he]at h;cases v<;>simp at h;rename_i x;exact⟨x,rfl,h.symm⟩
theorem fK(hg:o.guard=none)(m x:Operand)(t:TypeId)(hop:o.op=Op.lookup t m x false)
 (k e:TypeId) (K:Keyed P k) (ht:P.underlying t=some (.map k e)) (he:P.underlying e=some .bool) (hz:(zeroValue e).run P w=.ok (.bool false) w) (b n:Nat) (D:DataW H)
 (hm:a.eval m=.map (some b)) (hown:w.ownsMap P k (plainElem P e) b n D) (key:Value) (kl:Lit) (hx:a.eval x=key) (hkey:keyOf P k key=some kl)
 (r:Bool) (hr:D.atKey kl (.lit (.bool false))=.lit (.bool r))
 (hK:wpList P ops Q rest (a.put o.dst (.bool r)) w):
 wpList P ops Q (o::rest) a w:=by
 refine wpList_plain hg λK' hK'=>?_
 obtain⟨v,ps,hrun,hv⟩:=hown.lookup K ht hz (plainElem_bool he false) hkey;obtain⟨c,rfl,hc⟩:=xw he hv;have e1:=congrArg Prod.fst hc;simp only at e1;rw[hr]at e1;have e2:r=c:=by cases e1;rfl
 subst e2;unfold Oper.wp;simp[execOp,hop,hm,hx,hrun,Result.andThen];exact hK' _ _ hK
end
theorem Lo.pY:Lo.prog.underlying 140=some (.map 3 4):=(Lo.underlying 140).trans (by kernel_rfl)
theorem Lo.Gs:Lo.prog.underlying 4=some .bool:=(Lo.underlying 4).trans (by kernel_rfl)
theorem Lo.WY:Lo.prog.underlying 3=some (.int .i64):=(Lo.underlying 3).trans (by kernel_rfl)
theorem Lo.yV:Keyed Lo.prog 3:=int_keyed Lo.WY
theorem Lo.Da(w:World):(Go.zeroValue 4).run Lo.prog w=.ok (.bool false) w:=(Lo.zeroValue 4 w).trans (by kernel_rfl)
abbrev mB(w:World)(b n:Nat)(l:List Int):Prop:=w.ownsMap Lo.prog 3 (plainElem Lo.prog 4) b n (Bc l)
theorem WZ{w1:World}{b n:Nat}{l:List Int}{p:Int}(h:w1.ownsMap Lo.prog 3 (plainElem Lo.prog 4) b (n+1) ((Bc l).put (kI p) vT)):mB w1 b (n+1) (l++ [p]):=by
 show w1.ownsMap _ _ _ _ _ (Bc _);rw[ES];exact h
theorem ET(np:Nat)(M l:List Int)(U:List Int)(k:Nat)(h:k<l.length):oD np M (l.drop k) U=if kH l[k] 0 ((np:Int)-1)=false then(6,U)else if M.contains l[k]=false then(7,U)else if U.contains l[k]=true then(5,U)else oD np M (l.drop (k+1)) (U++ [l[k]]):=by
 rw[aV h];rfl
theorem Db(np:Nat)(l:List Int)(M:List Int)(k:Nat)(h:k<l.length):iX np (l.drop k) M=if kH l[k] 0 ((np:Int)-1)=false then(6,M)else if M.contains l[k]=true then(5,M)else iX np (l.drop (k+1)) (M++ [l[k]]):=by
 rw[aV h];rfl
theorem uR(nh np:Nat)(l:List dW)(M U:List Int)(k:Nat)(h:k<l.length):jr nh np (l.drop k) M U=
 if kH l[k].hand 0 ((nh:Int)-1)=false then(6,M)else
 if(oD np M l[k].ins U).1≠0 then((oD np M l[k].ins U).1,M)else
 if(iX np l[k].outs M).1≠0 then((iX np l[k].outs M).1,M)else
 if eT l[k].g0 l[k].g1 0 1000000=false then(1,M)else
 if eT l[k].l0 l[k].l1 0 1000000=false then(1,M)else
 jr nh np (l.drop (k+1)) (iX np l[k].outs M).2 (oD np M l[k].ins U).2:=by
 rw[aV h];rfl
theorem uS{np:Nat}:∀{l M:List Int},M.Nodup->(iX np l M).1=0->(iX np l M).2.Nodup
 | [],M,hM,_=>hM
 |q::r,M,hM,h=>by
  unfold iX at h⊢
  by_cases h1:kH q 0 ((np:Int)-1)=false
  .rw[aj h1]at h;cases h
  .rw[aa h1]at h⊢
   by_cases h3:M.contains q=true
   .rw[aj h3]at h;cases h
   .rw[aa h3]at h⊢;refine uS ?_ h
    rw[List.nodup_append];refine⟨hM,by simp, λa ha b hb=>?_⟩;simp at hb;subst hb
    intro e;subst e
    exact h3 (by simpa using ha)
theorem ag4(p:Int)(h: -9223372036854775808<=p∧p<=9223372036854775807):keyOf Lo.prog 3 (.int .i64 p)=some (kI p):=keyOf_int_mk Lo.WY (Z6 h.1 h.2)
theorem Lo.De{w:World}{B:Nat}{b:dO}{v:gJ}(hb:fC w B b v)(hB:B<=w.heap.size)(hg:b.small):
 Calls Lo.prog 52 #[dY b v] w λe w'=>e=.returned (.int .i64 (fB b))∧Below w.heap.size w w':=by
 obtain⟨U,U2,U3,U4,U5,U6⟩:=Lo.facts;have C:=Lo.call Tryz.func27;have C2:=Lo.call Tryz.func53;have hmm:=@run_makeMap Lo.prog;have hl1:=hg.dJ;have hl2:=hg.dz;have hl3:=hg.steps;obtain⟨h1,h2,h3,h4,h5,h6,_⟩:=hb;unfold dY;generalize v.ah=ah at h1⊢;generalize v.ch=ch;generalize v.ap=ap at h2⊢;generalize v.cp=cp;generalize v.iT=iT at h3⊢;generalize v.cs=cs;generalize v.ac=ac at h6⊢;generalize v.cc=cc;generalize v.sv=sv at h3 h4 h5;unfold fB
 by_cases hgt:8<b.steps.length
 .have K3:(8:Int)<(b.steps.length:Int):=by omega
  rw[aj hgt];go_enter Lo.get Tryz.func52,Tryz.ntmps52
  go_wp2_with fail
  go_ret;exact⟨rfl,(di _ _).alloc (aJ _) _⟩
 .have K3:¬(8:Int)<(b.steps.length:Int):=by omega
  rw[aa hgt];generalize hF:jr b.dJ.length b.dz.length b.steps [] []=F;have HF:=dw hF;clear hF;generalize hR:(if F.1≠0 then F.1 else if F.2.length<b.dz.length then(6:Int)else 0)=R;have HR:=dw hR;clear hR;go_enter Lo.get Tryz.func52,Tryz.ntmps52
  go_wp2_with fail
  generalize hW3:(((w.alloc (.cells #[.slice ah b.dJ.length ch,.slice ap b.dz.length cp,.slice iT b.steps.length cs,.slice ac b.dA.length cc] 26)).alloc (.map #[] 0)).alloc (.map #[] 0))=W3;have sz3:W3.heap.size=w.heap.size+3:=by subst hW3;simp
  have K5:Below w.heap.size w W3:=by
   subst hW3;exact((((di _ _).alloc (aJ _) _).alloc (by simp) _).alloc (by simp;omega) _)
  have mk3:mB W3 (w.heap.size+1) 0 []:=by
   subst hW3;have :=(World.ownsMap_made (H:=Unit) (w.alloc (.cells #[.slice ah b.dJ.length ch,.slice ap b.dz.length cp,.slice iT b.steps.length cs,.slice ac b.dA.length cc] 26)) Lo.prog 3 (plainElem Lo.prog 4)).alloc (.map #[] 0);simpa[mB,Bc,setOf]using this
  have us3:mB W3 (w.heap.size+1+1) 0 []:=by
   subst hW3;have :=World.ownsMap_made (H:=Unit) ((w.alloc (.cells #[.slice ah b.dJ.length ch,.slice ap b.dz.length cp,.slice iT b.steps.length cs,.slice ac b.dA.length cc] 26)).alloc (.map #[] 0)) Lo.prog 3 (plainElem Lo.prog 4);simpa[mB,Bc,setOf]using this
  have bk3:∀wq,Below (w.heap.size+1) W3 wq->∀j:Nat,wq.cell? ⟨w.heap.size,j,none⟩=(#[Value.slice ah b.dJ.length ch,.slice ap b.dz.length cp,.slice iT b.steps.length cs,.slice ac b.dA.length cc]:Array Value)[j]?:=by
   intro wq hx j;rw[dH hx _ _ (by omega)];subst hW3;rw[dh _ _ _ (by simp;omega),dh _ _ _ (by simp),cO _ _ _ _ rfl]
  have hkeep:∀wr,Below (w.heap.size+1) W3 wr->∀b o,b<B->wr.cell? ⟨b,o,none⟩=w.cell? ⟨b,o,none⟩:= λwr hx b o hb=>(dH hx b o (by omega)).trans (dH K5 b o (by omega))
  clear hW3;have HK:=dw hkeep;have vG:=dw bk3;have HB3:=dw K5;clear hkeep bk3 K5
  go_loopw [20] (λi wr=>∃k:Nat,∃M Us:List Int,k<=b.steps.length∧i=.int .i64 (k:Int)∧mB wr (w.heap.size+1) (64*k) M∧mB wr (w.heap.size+1+1) (64*k) Us∧Below (w.heap.size+1) W3 wr∧jr b.dJ.length b.dz.length (b.steps.drop k) M Us=F∧M.Nodup) (λi _=>b.steps.length-(intOf i).toNat)
  case atStart=>exact⟨0,[],[],bg _,rfl,mk3,us3,di _ _,HF.out,List.nodup_nil⟩
  case round=>
   obtain⟨k,M,Us,hk,rfl,hmk,RN,hbl,wK,hnd⟩:=hrel;clear mk3 us3
   by_cases hlt:k<b.steps.length
   .have hlt':(k:Int)<(b.steps.length:Int):=by omega
    have hkp:=HK.out wr hbl;obtain⟨bb,off,rfl,hbb,hc⟩:=h3.keep hkp (by omega);obtain⟨k0,k1,k2,k3,k4,k5,k6⟩:=sZ hc hlt;have hd:=uR b.dJ.length b.dz.length b.steps M Us k hlt;rw[wK]at hd;have hsi:=hg.ins _ (aX hlt);have hso:=hg.outs _ (aX hlt);have YC:=h4 k _ (aN hlt);have hro:=h5 k _ (aN hlt);generalize b.steps[k]=s at *;obtain⟨hand,li,lo,g0,g1,l0,l1⟩:=s;dsimp only at *;generalize(sv k).a1=a1 at *;generalize(sv k).a2=a2 at *;have c0:∀o,(wr.alloc o).cell? ⟨w.heap.size,0,none⟩=some (.slice ah b.dJ.length ch):= λo=>(dh _ _ _ (by have :=hbl.size;show w.heap.size<wr.heap.size;omega)).trans (vG.out wr hbl 0)
    have sz:=hbl.size;have HD:=dw hd;have HM:=dw hmk;have HU:=dw RN;have zQ:=dw hbl;clear hkp hmk RN hbl hc h3 h4 h5 h6 h1 h2 hd wK HF;cases hbt:kH hand 0 ((b.dJ.length:Int)-1)with
    |false=>
     have zk:=dw hbt;clear hbt
     go_wp2_with(go_at_call 27;refine(Lo.eB _ _ _ _).mono ?_;rintro e w1⟨rfl,rfl⟩;rw[zk.out])
     go_ret;have e:=HD.out;rw[aj zk.out]at e;exact⟨by rw[<-HR.out,e];rfl,HB3.out.trans ((zQ.out.alloc (by omega) _).mono (by omega))⟩
    |true=>
     have zk:=dw hbt;clear hbt
     go_wp2_with(go_at_call 27;refine(Lo.eB _ _ _ _).mono ?_;rintro e w1⟨rfl,rfl⟩;rw[zk.out])
     generalize rT:wr.alloc (.cells #[.int .i64 hand,.slice a1 li.length (sv k).c1,.slice a2 lo.length (sv k).c2,.int .i64 g0,.int .i64 g1,.int .i64 l0,.int .i64 l1] 50)=MP;have sz1:MP.heap.size=wr.heap.size+1:=by subst rT;simp
     have a9:∀j:Nat,MP.cell? ⟨wr.heap.size,j,none⟩=(#[Value.int .i64 hand,.slice a1 li.length (sv k).c1,.slice a2 lo.length (sv k).c2,.int .i64 g0,.int .i64 g1,.int .i64 l0,.int .i64 l1]:Array Value)[j]?:=by subst rT;intro j;rw[cO _ _ _ _ rfl]
     have hm1:mB MP (w.heap.size+1) (64*k) M:=by subst rT;exact HM.out.alloc _
     have hu1:mB MP (w.heap.size+1+1) (64*k) Us:=by subst rT;exact HU.out.alloc _
     have hb1:Below (w.heap.size+1) W3 MP:=by subst rT;exact zQ.out.alloc (by omega) _
     clear rT HM HU zQ k0 k1 k2 k3 k4 k5 k6 c0;generalize wr.heap.size=n1 at *;have A9:=dw a9;have HM:=dw hm1;have HB1:=dw hb1;clear a9 hm1 hb1;generalize hFI:oD b.dz.length M li Us=FI at HD;have HFI:=dw hFI;clear hFI
     go_loopw [35] (λi wr=>∃j:Nat,∃U':List Int,j<=li.length∧i=.int .i64 (j:Int)∧mB wr (w.heap.size+1+1) (64*k+j) U'∧MP.grownBy wr (some (w.heap.size+1+1))∧oD b.dz.length M (li.drop j) U'=FI) (λi _=>li.length-(intOf i).toNat)
     case atStart=>exact⟨0,Us,bg _,rfl,hu1,pX _ _,HFI.out⟩
     case round=>
      obtain⟨j,U',hj,rfl,hu,hgr,hfi⟩:=hrel;clear hu1;have hbq:Below (w.heap.size+1) W3 wr:=HB1.out.grown hgr (by omega) (λj hj=>by simp at hj;omega)
      by_cases hjl:j<li.length
      .have RA:(j:Int)<(li.length:Int):=by omega
       obtain⟨bc,of,rfl,hbc,hcc⟩:=YC.keep (HK.out wr hbq) (by omega);have r1:=Gj hcc hjl;have hdd:=ET b.dz.length M li U' j hjl;rw[hfi]at hdd;have c01:wr.cell? ⟨w.heap.size,1,none⟩=some (.slice ap b.dz.length cp):=vG.out wr hbq 1;have hmk:mB wr (w.heap.size+1) (64*k) M:=HM.out.kept hgr (by simp);generalize li[j]=p at *;have RQ:=dw hbq;have HG:=dw hgr;have Xa:=dw hdd;clear hcc hbq hgr hdd hfi YC HFI;cases hb2:kH p 0 ((b.dz.length:Int)-1)with
       |false=>
        have uT:=dw hb2;clear hb2
        go_wp2_with(go_at_call 27;refine(Lo.eB _ _ _ _).mono ?_;rintro e w1⟨rfl,rfl⟩;rw[uT.out])
        go_ret;have e1:=Xa.out;rw[aj uT.out]at e1;have e:=HD.out;rw[aa (by rw[zk.out];simp),e1,aj (by simp)]at e;exact⟨by rw[<-HR.out,e];rfl,HB3.out.trans (RQ.out.mono (by omega))⟩
       |true=>
        have hkey:keyOf Lo.prog 3 (.int .i64 p)=some (kI p):=ag4 p (by simp[kH]at hb2;omega);have uT:=dw hb2;clear hb2;cases hcm:M.contains p with
        |false=>
         have HCM:=dw hcm;clear hcm
         go_wp2_with(first
          |(go_at_call 27;refine(Lo.eB _ _ _ _).mono ?_;rintro e w1⟨rfl,rfl⟩;rw[uT.out])
          |(at_lookup;refine fK _ rfl _ _ 140 rfl 3 4 Lo.yV Lo.pY Lo.Gs (Lo.Da _) (w.heap.size+1) _ _ rfl hmk _ _ rfl hkey false (by rw[tu,HCM.out]) ?_)
          |go_in)
         go_ret;have e1:=Xa.out;rw[aa (by rw[uT.out];simp),aj HCM.out]at e1;have e:=HD.out;rw[aa (by rw[zk.out];simp),e1,aj (by simp)]at e;exact⟨by rw[<-HR.out,e];rfl,HB3.out.trans (RQ.out.mono (by omega))⟩
        |true=>
         have HCM:=dw hcm;clear hcm;cases Ug:U'.contains p with
         |true=>
          have YF:=dw Ug;clear Ug
          go_wp2_with(first
           |(go_at_call 27;refine(Lo.eB _ _ _ _).mono ?_;rintro e w1⟨rfl,rfl⟩;rw[uT.out])
           |(at_lookup;refine fK _ rfl _ _ 140 rfl 3 4 Lo.yV Lo.pY Lo.Gs (Lo.Da _) (w.heap.size+1) _ _ rfl hmk _ _ rfl hkey true (by rw[tu,HCM.out]) ?_)
           |(at_lookup;refine fK _ rfl _ _ 140 rfl 3 4 Lo.yV Lo.pY Lo.Gs (Lo.Da _) (w.heap.size+1+1) _ _ rfl hu _ _ rfl hkey true (by rw[tu,YF.out]) ?_)
           |go_in)
          go_ret;have e1:=Xa.out;rw[aa (by rw[uT.out];simp),aa (by rw[HCM.out];simp),aj YF.out]at e1;have e:=HD.out;rw[aa (by rw[zk.out];simp),e1,aj (by simp)]at e;exact⟨by rw[<-HR.out,e];rfl,HB3.out.trans (RQ.out.mono (by omega))⟩
         |false=>
          have YF:=dw Ug;clear Ug
          go_wp2_with(first
           |(go_at_call 27;refine(Lo.eB _ _ _ _).mono ?_;rintro e w1⟨rfl,rfl⟩;rw[uT.out])
           |(at_lookup;refine fK _ rfl _ _ 140 rfl 3 4 Lo.yV Lo.pY Lo.Gs (Lo.Da _) (w.heap.size+1) _ _ rfl hmk _ _ rfl hkey true (by rw[tu,HCM.out]) ?_)
           |(at_lookup;refine fK _ rfl _ _ 140 rfl 3 4 Lo.yV Lo.pY Lo.Gs (Lo.Da _) (w.heap.size+1+1) _ _ rfl hu _ _ rfl hkey false (by rw[tu,YF.out]) ?_)
           |(at_mapUpdate;refine wpList_mapUpdate_own _ rfl _ _ _ 140 rfl 3 4 Lo.yV Lo.pY _ (w.heap.size+1+1) _ _ rfl hu (by unfold maxLen;omega) _ _ _ rfl rfl hkey _ [] (plainElem_bool Lo.Gs true) ?_;intro w1 hown1 hgrow1)
           |go_in)
          have HO:=dw hown1;have YD:=dw hgrow1;clear hown1 hgrow1 hu hmk;go_roundw
          case rel=>exact⟨j+1,U'++ [p],by omega,by go_num,WZ HO.out,HG.out.trans YD.out,by
           have e1:=Xa.out;rw[aa (by rw[uT.out];simp),aa (by rw[HCM.out];simp),aa (by rw[YF.out];simp)]at e1;exact e1.symm⟩
          case measure=>simp[intOf];omega
      .obtain rfl:j=li.length:=by omega
       rw[aF]at hfi;have hfi:FI=(0,U'):=hfi.symm;have RY:=dw hfi
       have c2:wr.cell? ⟨n1,2,none⟩=some (.slice a2 lo.length (sv k).c2):=by
        rw[dm (hgr.block n1 (by omega) (by simp;omega))];exact A9.out 2
       have hmk:mB wr (w.heap.size+1) (64*k) M:=HM.out.kept hgr (by simp);have HU2:=dw (show mB wr (w.heap.size+1+1) (64*(k+1)) U' from World.ownsMap.mono hu (by omega));have RQ:=dw hbq;have HGA:=dw hgr;have szr:=hgr.size;generalize hFO:iX b.dz.length lo M=FO at HD;have HFO:=dw hFO;clear hFO hfi hu hgr hbq HM HB1 YC HFI
       go_wp2_with fail
       generalize wr=wr2 at *
       go_loopw [62] (λi wr=>∃j:Nat,∃M':List Int,j<=lo.length∧i=.int .i64 (j:Int)∧mB wr (w.heap.size+1) (64*k+j) M'∧wr2.grownBy wr (some (w.heap.size+1))∧iX b.dz.length (lo.drop j) M'=FO) (λi _=>lo.length-(intOf i).toNat)
       case atStart=>exact⟨0,M,bg _,rfl,hmk,pX _ _,HFO.out⟩
       case round=>
        obtain⟨j,M',hj,rfl,hm,hgr,hfo⟩:=hrel;clear hmk;have hbq:Below (w.heap.size+1) W3 wr:=RQ.out.grown hgr (by omega) (λj hj=>by simp at hj;omega)
        by_cases hjl:j<lo.length
        .have RA:(j:Int)<(lo.length:Int):=by omega
         obtain⟨bc,of,rfl,hbc,hcc⟩:=hro.keep (HK.out wr hbq) (by omega);have r1:=Gj hcc hjl;have hdd:=Db b.dz.length lo M' j hjl;rw[hfo]at hdd;have c01:wr.cell? ⟨w.heap.size,1,none⟩=some (.slice ap b.dz.length cp):=vG.out wr hbq 1;generalize lo[j]=p at *;have vR:=dw hbq;have HG:=dw hgr;have Xa:=dw hdd;clear hcc hbq hgr hdd hfo hro HFO c2;cases hb2:kH p 0 ((b.dz.length:Int)-1)with
         |false=>
          have uT:=dw hb2;clear hb2
          go_wp2_with(go_at_call 27;refine(Lo.eB _ _ _ _).mono ?_;rintro e w1⟨rfl,rfl⟩;rw[uT.out])
          go_ret;have e1:=Xa.out;rw[aj uT.out]at e1;have e:=HD.out;rw[aa (by rw[zk.out];simp),RY.out,aa (by simp),e1,aj (by simp)]at e;exact⟨by rw[<-HR.out,e];rfl,HB3.out.trans (vR.out.mono (by omega))⟩
         |true=>
          have hkey:keyOf Lo.prog 3 (.int .i64 p)=some (kI p):=ag4 p (by simp[kH]at hb2;omega);have uT:=dw hb2;clear hb2;cases hcm:M'.contains p with
          |true=>
           have HCM:=dw hcm;clear hcm
           go_wp2_with(first
            |(go_at_call 27;refine(Lo.eB _ _ _ _).mono ?_;rintro e w1⟨rfl,rfl⟩;rw[uT.out])
            |(at_lookup;refine fK _ rfl _ _ 140 rfl 3 4 Lo.yV Lo.pY Lo.Gs (Lo.Da _) (w.heap.size+1) _ _ rfl hm _ _ rfl hkey true (by rw[tu,HCM.out]) ?_)
            |go_in)
           go_ret;have e1:=Xa.out;rw[aa (by rw[uT.out];simp),aj HCM.out]at e1;have e:=HD.out;rw[aa (by rw[zk.out];simp),RY.out,aa (by simp),e1,aj (by simp)]at e;exact⟨by rw[<-HR.out,e];rfl,HB3.out.trans (vR.out.mono (by omega))⟩
          |false=>
           have HCM:=dw hcm;clear hcm
           go_wp2_with(first
            |(go_at_call 27;refine(Lo.eB _ _ _ _).mono ?_;rintro e w1⟨rfl,rfl⟩;rw[uT.out])
            |(at_lookup;refine fK _ rfl _ _ 140 rfl 3 4 Lo.yV Lo.pY Lo.Gs (Lo.Da _) (w.heap.size+1) _ _ rfl hm _ _ rfl hkey false (by rw[tu,HCM.out]) ?_)
            |(at_mapUpdate;refine wpList_mapUpdate_own _ rfl _ _ _ 140 rfl 3 4 Lo.yV Lo.pY _ (w.heap.size+1) _ _ rfl hm (by unfold maxLen;omega) _ _ _ rfl rfl hkey _ [] (plainElem_bool Lo.Gs true) ?_;intro w1 hown1 hgrow1)
            |go_in)
           have HO:=dw hown1;have YD:=dw hgrow1;clear hown1 hgrow1 hm;go_roundw
           case rel=>exact⟨j+1,M'++ [p],by omega,by go_num,WZ HO.out,HG.out.trans YD.out,by
            have e1:=Xa.out;rw[aa (by rw[uT.out];simp),aa (by rw[HCM.out];simp)]at e1;exact e1.symm⟩
           case measure=>simp[intOf];omega
        .obtain rfl:j=lo.length:=by omega
         rw[aF]at hfo;have hfo:FO=(0,M'):=hfo.symm;have YH:=dw hfo
         have ag5:M'.Nodup:=by
          have :=uS (np:=b.dz.length) (l:=lo) (M:=M) hnd (by rw[HFO.out,hfo]);rw[HFO.out,hfo]at this;exact this
         have cc:∀j:Nat,wr.cell? ⟨n1,j,none⟩=wr2.cell? ⟨n1,j,none⟩:= λj=>dm (hgr.block n1 (by omega) (by simp;omega))
         have cd:∀j:Nat,wr2.cell? ⟨n1,j,none⟩=MP.cell? ⟨n1,j,none⟩:= λj=>dm (HGA.out.block n1 (by omega) (by simp;omega))
         have c3:wr.cell? ⟨n1,3,none⟩=some (.int .i64 g0):=(cc 3).trans ((cd 3).trans (A9.out 3));have c4:wr.cell? ⟨n1,3+1,none⟩=some (.int .i64 g1):=(cc 4).trans ((cd 4).trans (A9.out 4));have c5:wr.cell? ⟨n1,5,none⟩=some (.int .i64 l0):=(cc 5).trans ((cd 5).trans (A9.out 5));have c6:wr.cell? ⟨n1,5+1,none⟩=some (.int .i64 l1):=(cc 6).trans ((cd 6).trans (A9.out 6));have hgs:=hgr.size;have vR:=dw hbq;have HMM:=dw (show mB wr (w.heap.size+1) (64*(k+1)) M' from World.ownsMap.mono hm (by omega));have HUU:=dw (show mB wr (w.heap.size+1+1) (64*(k+1)) U' from HU2.out.kept hgr (by simp));have HND:=dw ag5;clear hfo hm hgr hbq HFO cc cd HU2 RQ HGA hro hnd ag5;have szq:=vR.out.size;have szg:=hgs;cases hi1:eT g0 g1 0 1000000 with
         |false=>
          have HI1:=dw hi1;clear hi1
          go_wp2_with(go_at_call 53;refine(Lo.jo _ _ _ _ _).mono ?_;rintro e w1⟨rfl,hb1⟩;rw[HI1.out])
          go_ret;have e:=HD.out;rw[aa (by rw[zk.out];simp),RY.out,aa (by simp),YH.out,aa (by simp),aj HI1.out]at e;exact⟨by rw[<-HR.out,e];rfl,HB3.out.trans ((vR.out.trans (hb1.mono (by omega))).mono (by omega))⟩
         |true=>
          have HI1:=dw hi1;clear hi1;cases hi2:eT l0 l1 0 1000000 with
          |false=>
           have HI2:=dw hi2;clear hi2
           go_wp2_with(first
            |(go_at_call 53;refine(Lo.jo _ _ _ _ _).mono ?_;rintro e w1⟨rfl,hb1⟩;rw[HI1.out];have d5:=(dH hb1 n1 5 (by omega)).trans c5;have d6:=(dH hb1 n1 (5+1) (by omega)).trans c6)
            |(go_at_call 53;refine(Lo.jo _ _ _ _ _).mono ?_;rintro e w2⟨rfl,hb2⟩;rw[HI2.out]))
           go_ret;have e:=HD.out;rw[aa (by rw[zk.out];simp),RY.out,aa (by simp),YH.out,aa (by simp),aa (by rw[HI1.out];simp),aj HI2.out]at e;exact⟨by rw[<-HR.out,e];rfl,HB3.out.trans (((vR.out.trans (hb1.mono (by omega))).trans (hb2.mono (by have :=hb1.size;omega))).mono (by omega))⟩
          |true=>
           have HI2:=dw hi2;clear hi2
           go_wp2_with(first
            |(go_at_call 53;refine(Lo.jo _ _ _ _ _).mono ?_;rintro e w1⟨rfl,hb1⟩;rw[HI1.out];have d5:=(dH hb1 n1 5 (by omega)).trans c5;have d6:=(dH hb1 n1 (5+1) (by omega)).trans c6)
            |(go_at_call 53;refine(Lo.jo _ _ _ _ _).mono ?_;rintro e w2⟨rfl,hb2⟩;rw[HI2.out]))
           have hzz:=hb1.size;have ao6:=dw ((HMM.out.kept (below_grown hb1 rfl none) (by simp)).kept (below_grown hb2 rfl none) (by simp));have ao7:=dw ((HUU.out.kept (below_grown hb1 rfl none) (by simp)).kept (below_grown hb2 rfl none) (by simp));have D6:=dw ((vR.out.trans (hb1.mono (by omega))).trans (hb2.mono (by omega)));clear hb1 hb2 HMM HUU vR;go_roundw
           case rel=>exact⟨k+1,M',U',by omega,by go_num,ao6.out,ao7.out,D6.out,by
            have e:=HD.out;rw[aa (by rw[zk.out];simp),RY.out,aa (by simp),YH.out,aa (by simp),aa (by rw[HI1.out];simp),aa (by rw[HI2.out];simp)]at e;exact e.symm,HND.out⟩
           case measure=>simp[intOf];omega
   .obtain rfl:k=b.steps.length:=by omega
    rw[aF]at wK;have hF:F=(0,M):=wK.symm;have c01:wr.cell? ⟨w.heap.size,1,none⟩=some (.slice ap b.dz.length cp):=vG.out wr hbl 1;have hsz:=OZ M hnd;have HF2:=dw hF;have HS:=dw hsz;have zQ:=dw hbl;clear hF wK hsz hbl HF
    by_cases hlp:M.length<b.dz.length
    .have ag6:(M.length:Int)<(b.dz.length:Int):=by omega
     go_wp2_with(first
      |(at_len;refine wpList_len_own _ rfl _ 140 rfl 3 4 Lo.pY _ (w.heap.size+1) _ _ rfl hmk ?_;rw[HS.out])
      |go_in)
     go_ret;have e:=HR.out;rw[HF2.out,aa (by simp),aj hlp]at e;exact⟨by rw[<-e];rfl,HB3.out.trans (zQ.out.mono (by omega))⟩
    .have ag6:¬(M.length:Int)<(b.dz.length:Int):=by omega
     go_wp2_with(first
      |(at_len;refine wpList_len_own _ rfl _ 140 rfl 3 4 Lo.pY _ (w.heap.size+1) _ _ rfl hmk ?_;rw[HS.out])
      |go_in)
     go_ret;have e:=HR.out;rw[HF2.out,aa (by simp),aa (by simpa using ag6)]at e;exact⟨by rw[<-e];rfl,HB3.out.trans (zQ.out.mono (by omega))⟩
end
section
variable [Lo.St]
theorem yX(np:Nat)(l:List jD)(k:Nat)(h:k<l.length):ku np (l.drop k)=if kH l[k].pile 0 ((np:Int)-1)=false then 6 else if eT l[k].lo l[k].hi 0 1000000=false then 1 else ku np (l.drop (k+1)):=by
 rw[aV h];rfl
theorem Lo.tC{w:World}{B:Nat}{b:dO}{v:gJ}{x:Value}(hx:x=dY b v)(hb:fC w B b v)(hB:B<=w.heap.size)(hg:b.small):
 Calls Lo.prog 52 #[x] w λe w'=>e=.returned (.int .i64 (fB b))∧Below w.heap.size w w':=hx ▸ Lo.De hb hB hg
theorem Lo.wE{w:World}{B:Nat}{b:dO}{v:gJ}(hb:fC w B b v)(hB:B<=w.heap.size)(hg:b.small):
 Calls Lo.prog 25 #[dY b v] w λe w'=>e=.returned (.int .i64 (fG b))∧Below w.heap.size w w':=by
 obtain⟨U,U2,U3,U4,U5,U6⟩:=Lo.facts;have C:=Lo.call Tryz.func27;have C2:=Lo.call Tryz.func53;have C3:=Lo.call Tryz.func51;have C4:=Lo.call Tryz.func52;have hl1:=hg.dJ;have hl2:=hg.dz;have hl4:=hg.dA;have K6:=dw hb;have h1:=hb.dJ;have h2:=hb.dz;have h6:=hb.dA;have q1:=hb.lh;have q2:=hb.lp;clear hb;have hbv:Value.agg #[.slice v.ah b.dJ.length v.ch,.slice v.ap b.dz.length v.cp,.slice v.iT b.steps.length v.cs,.slice v.ac b.dA.length v.cc]=dY b v:=rfl;generalize hR:fG b=R;unfold fG at hR;have HR:=dw hR;clear hR;rw[<-hbv];have iy:=dw hbv;clear hbv;generalize v.ah=ah at h1 q1 iy⊢;generalize v.ch=ch at q1 iy⊢;generalize v.ap=ap at h2 q2 iy⊢;generalize v.cp=cp at q2 iy⊢;generalize v.iT=iT at iy⊢;generalize v.cs=cs at iy⊢;generalize v.ac=ac at h6 iy⊢;generalize v.cc=cc at iy⊢;have bA:Below w.heap.size w (w.alloc (.cells #[.slice ah b.dJ.length ch,.slice ap b.dz.length cp,.slice iT b.steps.length cs,.slice ac b.dA.length cc] 26)):=(di _ _).alloc (aJ _) _;have cA:∀j:Nat,(w.alloc (.cells #[.slice ah b.dJ.length ch,.slice ap b.dz.length cp,.slice iT b.steps.length cs,.slice ac b.dA.length cc] 26)).cell? ⟨w.heap.size,j,none⟩=(#[Value.slice ah b.dJ.length ch,.slice ap b.dz.length cp,.slice iT b.steps.length cs,.slice ac b.dA.length cc]:Array Value)[j]?:= λj=>by rw[cO _ _ _ _ rfl]
 have a1:F8 (w.alloc (.cells #[.slice ah b.dJ.length ch,.slice ap b.dz.length cp,.slice iT b.steps.length cs,.slice ac b.dA.length cc] 26)) B ah b.dJ:=h1.keep λb o h=>dH bA b o (by omega)
 have a2:F8 (w.alloc (.cells #[.slice ah b.dJ.length ch,.slice ap b.dz.length cp,.slice iT b.steps.length cs,.slice ac b.dA.length cc] 26)) B ap b.dz:=h2.keep λb o h=>dH bA b o (by omega)
 have a3:fC (w.alloc (.cells #[.slice ah b.dJ.length ch,.slice ap b.dz.length cp,.slice iT b.steps.length cs,.slice ac b.dA.length cc] 26)) B b v:=K6.out.keep λb o h=>dH bA b o (by omega)
 have HC:=dw cA;have HA1:=dw a1;have HA2:=dw a2;have HA3:=dw a3;have I8:=dw bA;clear cA a1 a2 a3 bA h1 h2 K6;generalize hx1:dP b.dJ 4=x1 at HR;have X1:=dw hx1;generalize hx2:dP b.dz 12=x2 at HR;have X2:=dw hx2;generalize hx3:fB b=x3 at HR;have X3:=dw hx3;clear hx1 hx2 hx3
 by_cases z1:x1=0
 .subst z1;have e1:=HR.out;rw[aa (by simp)]at e1;clear HR;have HR:=dw e1;clear e1
  by_cases z2:x2=0
  .subst z2;have e1:=HR.out;rw[aa (by simp)]at e1;clear HR;have HR:=dw e1;clear e1
   by_cases z3:x3=0
   .subst z3;have e1:=HR.out;rw[aa (by simp)]at e1;clear HR;have HR:=dw e1;clear e1
    by_cases hgt:10<b.dA.length
    .have K3:(10:Int)<(b.dA.length:Int):=by omega
     go_enter Lo.get Tryz.func25,Tryz.ntmps25
     go_wp2_with(first
      |(go_at_call 52;refine(Lo.tC iy.out (HA3.out.keep λb o h=>dH HB2.out b o (by simp;omega)) (by have :=HB2.out.size;simp at this;omega) hg).mono ?_;rintro e w3⟨rfl,hb3⟩;rw[X3.out];have HB3:=dw (HB2.out.trans (hb3.mono HB2.out.size));clear hb3;have g1:=(dH HB3.out w.heap.size 1 (by simp)).trans (HC.out 1);have g3:=(dH HB3.out w.heap.size 3 (by simp)).trans (HC.out 3))
      |(go_at_call 51;refine(Lo.gQ (most:=12) (HA2.out.keep λb o h=>dH HB1.out b o (by simp;omega)) hl2 q2 (by have :=HB1.out.size;simp at this;omega) (by omega)).mono ?_;rintro e w2⟨rfl,hb2⟩;rw[X2.out];have HB2:=dw (HB1.out.trans (hb2.mono HB1.out.size));clear hb2;have f0:=(dH HB2.out w.heap.size 0 (by simp)).trans (HC.out 0);have f1:=(dH HB2.out w.heap.size 1 (by simp)).trans (HC.out 1);have f2:=(dH HB2.out w.heap.size 2 (by simp)).trans (HC.out 2);have f3:=(dH HB2.out w.heap.size 3 (by simp)).trans (HC.out 3))
      |(go_at_call 51;refine(Lo.gQ (most:=4) (HA1.out) hl1 q1 (by simp;omega) (by omega)).mono ?_;rintro e w1⟨rfl,hb1⟩;rw[X1.out];have d1:=(dH hb1 w.heap.size 1 (by simp)).trans (HC.out 1);have HB1:=dw hb1;clear hb1))
     go_ret;exact⟨by rw[<-HR.out,aj hgt];rfl,(I8.out.trans (HB3.out.mono (by simp)))⟩
    .have K3:¬(10:Int)<(b.dA.length:Int):=by omega
     have e1:=HR.out;rw[aa hgt]at e1;clear HR;have HR:=dw e1;clear e1;go_enter Lo.get Tryz.func25,Tryz.ntmps25
     go_wp2_with(first
      |(go_at_call 52;refine(Lo.tC iy.out (HA3.out.keep λb o h=>dH HB2.out b o (by simp;omega)) (by have :=HB2.out.size;simp at this;omega) hg).mono ?_;rintro e w3⟨rfl,hb3⟩;rw[X3.out];have HB3:=dw (HB2.out.trans (hb3.mono HB2.out.size));clear hb3;have g1:=(dH HB3.out w.heap.size 1 (by simp)).trans (HC.out 1);have g3:=(dH HB3.out w.heap.size 3 (by simp)).trans (HC.out 3))
      |(go_at_call 51;refine(Lo.gQ (most:=12) (HA2.out.keep λb o h=>dH HB1.out b o (by simp;omega)) hl2 q2 (by have :=HB1.out.size;simp at this;omega) (by omega)).mono ?_;rintro e w2⟨rfl,hb2⟩;rw[X2.out];have HB2:=dw (HB1.out.trans (hb2.mono HB1.out.size));clear hb2;have f0:=(dH HB2.out w.heap.size 0 (by simp)).trans (HC.out 0);have f1:=(dH HB2.out w.heap.size 1 (by simp)).trans (HC.out 1);have f2:=(dH HB2.out w.heap.size 2 (by simp)).trans (HC.out 2);have f3:=(dH HB2.out w.heap.size 3 (by simp)).trans (HC.out 3))
      |(go_at_call 51;refine(Lo.gQ (most:=4) (HA1.out) hl1 q1 (by simp;omega) (by omega)).mono ?_;rintro e w1⟨rfl,hb1⟩;rw[X1.out];have d1:=(dH hb1 w.heap.size 1 (by simp)).trans (HC.out 1);have HB1:=dw hb1;clear hb1))
     have H6:=dw (h6.keep λb o h=>(dH (I8.out.trans (HB3.out.mono (by simp))) b o (by omega)));have WU:=dw (I8.out.trans (HB3.out.mono (by simp)));have sz3:=HB3.out.size;simp at sz3;clear h6;generalize w3=w9 at *;have HX:Hid (ku b.dz.length b.dA=R):=HR;clear HR HB3 HB2 HB1 HA1 HA2 HA3 HC I8 f0 f1 f2 f3 d1 X1 X2 X3 iy
     go_loopw [32] (λi wr=>∃k:Nat,k<=b.dA.length∧i=.int .i64 (k:Int)∧ku b.dz.length (b.dA.drop k)=R∧Below w9.heap.size w9 wr) (λi _=>b.dA.length-(intOf i).toNat)
     case atStart=>exact⟨0,bg _,rfl,HX.out,di _ _⟩
     case round=>
      obtain⟨k,hk,rfl,hx,hb⟩:=hrel
      by_cases hlt:k<b.dA.length
      .have hlt':(k:Int)<(b.dA.length:Int):=by omega
       have h6k:=H6.out.keep λb o h=>dH hb b o (by omega)
       obtain⟨bb,off,rfl,hbb,hc⟩:=h6k (by omega);obtain⟨r0,r1,r2⟩:=CU hc hlt;have hd:=yX b.dz.length b.dA k hlt;rw[hx]at hd;have c1:∀o,(wr.alloc o).cell? ⟨w.heap.size,1,none⟩=some (.slice ap b.dz.length cp):= λo=>(dh _ _ _ (by have :=hb.size;show w.heap.size<wr.heap.size;omega)).trans ((dH hb _ _ (by omega)).trans g1)
       have szr:=hb.size;generalize b.dA[k]=sc at *;have HD:=dw hd;have HB:=dw hb;clear hx hd hb hc h6k HX;cases hbt:kH sc.pile 0 ((b.dz.length:Int)-1)with
       |false=>
        have zk:=dw hbt;clear hbt
        go_wp2_with(go_at_call 27;refine(Lo.eB _ _ _ _).mono ?_;rintro e w1⟨rfl,rfl⟩;rw[zk.out])
        go_ret;exact⟨by rw[HD.out,aj zk.out];rfl,WU.out.trans ((HB.out.alloc (by omega) _).mono (by omega))⟩
       |true=>
        have zk:=dw hbt;clear hbt;have s1:∀o,(wr.alloc o).heap[wr.heap.size]?=some o:= λo=>heap_alloc_new wr o
        clear s1;cases hin:eT sc.lo sc.hi 0 1000000 with
        |false=>
         have HI:=dw hin;clear hin
         go_wp2_with(first
          |(go_at_call 27;refine(Lo.eB _ _ _ _).mono ?_;rintro e w1⟨rfl,rfl⟩;rw[zk.out])
          |(go_at_call 53;refine(Lo.jo _ _ _ _ _).mono ?_;rintro e w1⟨rfl,hb1⟩;rw[HI.out]))
         go_ret;exact⟨by rw[HD.out,aa (by rw[zk.out];simp),aj HI.out];rfl,WU.out.trans (((HB.out.alloc (by omega) _).trans (hb1.mono (by simp;omega))).mono (by omega))⟩
        |true=>
         have HI:=dw hin;clear hin
         go_wp2_with(first
          |(go_at_call 27;refine(Lo.eB _ _ _ _).mono ?_;rintro e w1⟨rfl,rfl⟩;rw[zk.out])
          |(go_at_call 53;refine(Lo.jo _ _ _ _ _).mono ?_;rintro e w1⟨rfl,hb1⟩;rw[HI.out]))
         have HB9:=dw ((HB.out.alloc (by omega) _).trans (hb1.mono (by simp;omega)));clear hb1 HB c1;go_roundw
         case rel=>exact⟨k+1,by omega,by go_num,by rw[HD.out,aa (by rw[zk.out];simp),aa (by rw[HI.out];simp)],HB9.out⟩
         case measure=>simp[intOf];omega
      .obtain rfl:k=b.dA.length:=by omega
       rw[aF]at hx;have WV:=dw hx;clear hx HX
       go_wp2_with fail
       go_ret;exact⟨by rw[<-WV.out];rfl,WU.out.trans (hb.mono (by omega))⟩
   .go_enter Lo.get Tryz.func25,Tryz.ntmps25
    go_wp2_with(first
     |(go_at_call 52;refine(Lo.tC iy.out (HA3.out.keep λb o h=>dH HB2.out b o (by simp;omega)) (by have :=HB2.out.size;simp at this;omega) hg).mono ?_;rintro e w3⟨rfl,hb3⟩;rw[X3.out];have HB3:=dw (HB2.out.trans (hb3.mono HB2.out.size));clear hb3;have g1:=(dH HB3.out w.heap.size 1 (by simp)).trans (HC.out 1);have g3:=(dH HB3.out w.heap.size 3 (by simp)).trans (HC.out 3))
     |(go_at_call 51;refine(Lo.gQ (most:=12) (HA2.out.keep λb o h=>dH HB1.out b o (by simp;omega)) hl2 q2 (by have :=HB1.out.size;simp at this;omega) (by omega)).mono ?_;rintro e w2⟨rfl,hb2⟩;rw[X2.out];have HB2:=dw (HB1.out.trans (hb2.mono HB1.out.size));clear hb2;have f0:=(dH HB2.out w.heap.size 0 (by simp)).trans (HC.out 0);have f1:=(dH HB2.out w.heap.size 1 (by simp)).trans (HC.out 1);have f2:=(dH HB2.out w.heap.size 2 (by simp)).trans (HC.out 2);have f3:=(dH HB2.out w.heap.size 3 (by simp)).trans (HC.out 3))
     |(go_at_call 51;refine(Lo.gQ (most:=4) (HA1.out) hl1 q1 (by simp;omega) (by omega)).mono ?_;rintro e w1⟨rfl,hb1⟩;rw[X1.out];have d1:=(dH hb1 w.heap.size 1 (by simp)).trans (HC.out 1);have HB1:=dw hb1;clear hb1))
    go_ret;exact⟨by rw[<-HR.out,aj z3];rfl,(I8.out.trans (HB3.out.mono (by simp)))⟩
  .go_enter Lo.get Tryz.func25,Tryz.ntmps25
   go_wp2_with(first
    |(go_at_call 51;refine(Lo.gQ (most:=12) (HA2.out.keep λb o h=>dH HB1.out b o (by simp;omega)) hl2 q2 (by have :=HB1.out.size;simp at this;omega) (by omega)).mono ?_;rintro e w2⟨rfl,hb2⟩;rw[X2.out];have HB2:=dw (HB1.out.trans (hb2.mono HB1.out.size));clear hb2;have f0:=(dH HB2.out w.heap.size 0 (by simp)).trans (HC.out 0);have f1:=(dH HB2.out w.heap.size 1 (by simp)).trans (HC.out 1);have f2:=(dH HB2.out w.heap.size 2 (by simp)).trans (HC.out 2);have f3:=(dH HB2.out w.heap.size 3 (by simp)).trans (HC.out 3))
    |(go_at_call 51;refine(Lo.gQ (most:=4) (HA1.out) hl1 q1 (by simp;omega) (by omega)).mono ?_;rintro e w1⟨rfl,hb1⟩;rw[X1.out];have d1:=(dH hb1 w.heap.size 1 (by simp)).trans (HC.out 1);have HB1:=dw hb1;clear hb1))
   go_ret;exact⟨by rw[<-HR.out,aj z2];rfl,(I8.out.trans (HB2.out.mono (by simp)))⟩
 .go_enter Lo.get Tryz.func25,Tryz.ntmps25
  go_wp2_with(go_at_call 51;refine(Lo.gQ (most:=4) (HA1.out) hl1 q1 (by simp;omega) (by omega)).mono ?_;rintro e w1⟨rfl,hb1⟩;rw[X1.out];have d1:=(dH hb1 w.heap.size 1 (by simp)).trans (HC.out 1);have HB1:=dw hb1;clear hb1)
  go_ret;exact⟨by rw[<-HR.out,aj z1];rfl,(I8.out.trans (HB1.out.mono (by simp)))⟩
end
section
variable [Lo.St]
theorem Df:∀(ss:List eX)(i j:Nat),i<ss.length->j<4->(iW ss)[i*4+j]?=some (sU ss i j)
 | [],i,j,hi,_=>absurd hi (by simp)
 |x::ss,0,j,_,hj=>by
  match j,hj with
  |0,_=>rfl
  |1,_=>rfl
  |2,_=>rfl
  |3,_=>rfl
 |x::ss,i+1,j,hi,hj=>by
  have ih:=Df ss i j (by simpa using hi) hj;have e:iW (x::ss)= [.int .i64 x.lo,.int .i64 x.hi,.int .i64 (x.fr:Int),.int .i64 (x.to:Int)]++iW ss:=rfl;rw[e,List.getElem?_append_right (by simp;omega)];rw[show(i+1)*4+j - [Value.int .i64 x.lo,.int .i64 x.hi,.int .i64 (x.fr:Int),.int .i64 (x.to:Int)].length=i*4+j by simp;omega,ih];rfl
theorem ownsRow.rd{w:World}{base e size n B:Nat}{v:Value}{xs:List Value}{f:Nat->Nat->Value}(h:w.ownsRow base e size v n xs)(hf:∀i j,i<n->j<size->xs[i*size+j]?=some (f i j)):∃A cap,v=.slice A n cap∧n<=cap∧∀m,m<=n->(w.heap.size<=B->Rd w B size A m f):=by
 obtain⟨hl,h⟩:=h;rcases h with⟨rfl,rfl⟩|⟨g,cap,cur,rfl,hb,hg,h1,h2,h3,h4⟩
 .exact⟨none,0,rfl,aJ _, λm hm _ h=>absurd h (by omega)⟩
 .refine⟨_,cap,rfl,h1, λm hm hB _=>⟨g,0,rfl,aK (aI.1 hg).1 hB, λi j hi hj=>?_⟩⟩;have hx:=hf i j (by omega) hj;rw[<-h4]at hx;unfold World.cell?;simp only[hg];rw[List.getElem?_take]at hx;split at hx
  .rw[Nat.zero_add];simpa using hx
  .cases hx
theorem fQ.at{w:World}{b base st nd:Nat}{ss:List eX}{v:Value}(h:fQ w b base st nd ss v)(hok:∀x∈ss,x.ok)(hlen:ss.length<=64):∃A cap,v=.slice A ss.length cap∧jG w w.heap.size b ss st nd A cap:=by
 obtain⟨A,cap,rfl,_,hr⟩:=ownsRow.rd (B:=w.heap.size) (f:=sU ss) h.row (λi j hi hj=>Df ss i j hi hj);obtain⟨a,b,c,_⟩:=iG h.blk;exact⟨A,cap,rfl,(aI.1 h.blk).1,a,b,c,hr _ (aJ _) (aJ _),hok,hlen⟩
theorem MR(b:dO)(hand:Int)(hg:b.good):(fA b hand).length<=64:=by
 have :=hg.n8;have :=hg.p12;rw[yR];split<;>omega
theorem Dh(b:dO)(hand:Int)(hg:b.good):dZ b hand<=16:=by
 have :=hg.n8;unfold dZ;split<;>omega
theorem Lo.vH{w:World}{B:Nat}{b:dO}{v:gJ}{x:Value}(hx:x=dY b v)(hb:fC w B b v)(hB:B<=w.heap.size)(hg:b.good)(hand:Int)(hh: -1<=hand∧hand<=64):
 Calls Lo.prog 28 #[x,.int .i64 hand] w λe w'=>∃bw A cap,e=.returned (.pointer (some ⟨bw,0,none⟩))∧jG w' w'.heap.size bw (fA b hand) b.steps.length (dZ b hand) A cap∧Below w.heap.size w w':=by
 subst hx;refine(Lo.ER hb hB hg hand hh).mono λe w' h=>?_
 obtain⟨bw,v,e1,_,_,hw,hbe⟩:=h;obtain⟨A,cap,_,hwa⟩:=hw.at (MN b hand hg) (MR b hand hg);exact⟨bw,A,cap,e1,hwa,hbe⟩
def qC(w:World)(b:dO)(hand:Int)(e:Ending)(w':World):Prop:=
 if gN (fA b hand) (dZ b hand)=true then∃v,e=.returned (.tuple #[v,.int .i64 0])∧w'.ownsRow w.heap.size 48 2 v (fA b hand).length (gW (mG (fA b hand) (dZ b hand)))∧Par.dU w' v∧Below w.heap.size w w'
 else e=.returned (.tuple #[.slice none 0 0,.int .i64 9])∧Below w.heap.size w w'
def lN(b:dO)(v:gJ):Array Value:= #[.slice v.ah b.dJ.length v.ch,.slice v.ap b.dz.length v.cp,.slice v.iT b.steps.length v.cs,.slice v.ac b.dA.length v.cc]
theorem Lo.zR{w:World}{B:Nat}{b:dO}{v:gJ}{x:Value}(hx:x=dY b v)(hb:fC w B b v)(hB:B<=w.heap.size)(hg:b.good)(hand:Int)(hh: -1<=hand∧hand<=64):
 Calls Lo.prog 26 #[x,.int .i64 hand] w (qC w b hand):=by
 obtain⟨U,U2,U3,U4,U5,U6⟩:=Lo.facts;have C:=Lo.call Tryz.func28;have C2:=Lo.call Tryz.func29;have C3:=Lo.call Tryz.func54;subst hx;have hbv:Value.agg #[.slice v.ah b.dJ.length v.ch,.slice v.ap b.dz.length v.cp,.slice v.iT b.steps.length v.cs,.slice v.ac b.dA.length v.cc]=dY b v:=rfl;rw[<-hbv];have hb1:fC (w.alloc (.cells #[.slice v.ah b.dJ.length v.ch,.slice v.ap b.dz.length v.cp,.slice v.iT b.steps.length v.cs,.slice v.ac b.dA.length v.cc] 26)) B b v:=hb.keep λb o h=>dh _ _ _ (by show b<w.heap.size;omega)
 have iy:=dw hbv;have HB1:=dw hb1;have hnd:=Dh b hand hg;clear hbv hb1 hb;generalize v.ah=ah at iy HB1⊢;generalize v.ch=ch at iy HB1⊢;generalize v.ap=ap at iy HB1⊢;generalize v.cp=cp at iy HB1⊢;generalize v.iT=iT at iy HB1⊢;generalize v.cs=cs at iy HB1⊢;generalize v.ac=ac at iy HB1⊢;generalize v.cc=cc at iy HB1⊢;cases hho:gN (fA b hand) (dZ b hand)with
 |false=>
  have HH:=dw hho;clear hho;go_enter Lo.get Tryz.func26,Tryz.ntmps26
  go_wp2_with(first
   |(go_at_call 28;refine(Lo.vH iy.out HB1.out (by simp;omega) hg _ hh).mono ?_;rintro e w1⟨bw,A,cap,rfl,hw,hb1⟩;have HW:=dw hw;have HB2:=dw hb1;clear hw hb1)
   |(go_at_call 29;refine(Lo.oK HW.out (aJ _) hnd).mono ?_;rintro e w2⟨rfl,hb2⟩;rw[HH.out]))
  go_ret2
  show qC _ _ _ _ _;unfold qC;rw[aa (by rw[HH.out];simp)];exact⟨rfl,(((di _ _).alloc (aJ _) _).trans (HB2.out.mono (by simp))).trans (hb2.mono (by have :=HB2.out.size;simp at this;omega))⟩
 |true=>
  have HH:=dw hho;clear hho;go_enter Lo.get Tryz.func26,Tryz.ntmps26
  go_wp2_with(first
   |(go_at_call 28;refine(Lo.vH iy.out HB1.out (by simp;omega) hg _ hh).mono ?_;rintro e w1⟨bw,A,cap,rfl,hw,hb1⟩;have HW:=dw hw;have HB2:=dw hb1;clear hw hb1)
   |(go_at_call 29;refine(Lo.oK HW.out (aJ _) hnd).mono ?_;rintro e w2⟨rfl,hb2⟩;rw[HH.out];have HB3:=dw hb2;clear hb2)
   |(go_at_call 54;refine(Lo.OV (HW.out.keep λb o h=>dH HB3.out b o h) HB3.out.size hnd).mono ?_;rintro e w3⟨v,rfl,hown,hpl,hb3⟩;have HO:=dw hown;have HP:=dw hpl;have vR:=dw hb3;clear hown hpl hb3))
  go_ret2
  show qC _ _ _ _ _;unfold qC;rw[aj HH.out];have s2:=HB2.out.size;have s3:=HB3.out.size;simp at s2;exact⟨_,rfl,ownsRow.base HO.out (by omega),HP.out,((((di _ _).alloc (aJ _) _).trans (HB2.out.mono (by simp))).trans (HB3.out.mono (by omega))).trans (vR.out.mono (by omega))⟩
end
end Go.Proofs
