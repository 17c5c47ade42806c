/- Part 21. -/
import Derived.Test.YtjoahejacacljaaGreatH20
import Derived.Lib.LazyBuf
set_option maxRecDepth 100000
set_option maxHeartbeats 0
set_option linter.all false
namespace Go.Proofs
open Go Go.RowKit
section
variable [Lo.St]
def Lo.xu(s:ByteArray)(w:World):Calls Lo.prog 91 #[.string s] w λe w'=>e=.returned (.bool (gy s))∧Below w.heap.size w w':=by
 cases h:kH s.size 1 14 with
 |true=>exact Lo.KI s w h
 |false=>
  have e:gy s=false:=by unfold gy;rw[h];rfl
  rw[e];exact Lo.OM s w h
def F8.take{w:World}{B:Nat}{A:Option Addr}{l:List ByteArray}(h:F8 w B A l)(k:Nat)(hk:k<=l.length):F8 w B A (l.take k):= λhn=>by
 have e:(l.take k).length=k:=by rw[List.length_take];omega
 rw[e]at hn;obtain⟨b,off,e1,hb,hc⟩:=h (by omega);refine⟨b,off,e1,hb, λi j hi hj=>?_⟩;rw[e]at hi;rw[hc i j (by omega) hj];simp only;rw[List.getElem?_take_of_lt hi]
def Lo.RV{w:World}{B n:Nat}{A:Option Addr}{l:List ByteArray}{c:Nat}{s:ByteArray}(hn:n=l.length)(h1:F8 w B A l)(hl:l.length<=64):
 Calls Lo.prog 92 #[.slice A n c,.string s] w λe w'=>e=.returned (.bool (F9 s l))∧w'=w:=hn ▸ Lo.Rm h1 hl
def AU(l:List ByteArray)(k:Nat)(h:k<l.length):qP (l.drop k) (l.take k)=if gy l[k]=false then 4 else if F9 l[k] (l.take k)=true then 5 else qP (l.drop (k+1)) (l.take (k+1)):=by rw[aV h,bu h];rfl
def Lo.gQ{w:World}{B:Nat}{A:Option Addr}{l:List ByteArray}{c most:Nat}(h1:F8 w B A l)(hl:l.length<=64)(hcap:l.length<=c)(hB:B<=w.heap.size)(hm:most<=64):
 Calls Lo.prog 55 #[.slice A l.length c,.int .i64 (most:Int)] w λe w'=>e=.returned (.int .i64 (dP l most))∧Below w.heap.size w w':=by
 obtain⟨U,U2,U3,U4,U5,U6⟩:=Lo.facts;have C:=Lo.call Tryz.func91;have C2:=Lo.call Tryz.func92
 by_cases hgt:most<l.length
 .have K3:(most:Int)<(l.length:Int):=by omega
  have e:dP l most=2:=by unfold dP;rw[aj hgt]
  rw[e];go_enter Lo.get Tryz.func55,Tryz.ntmps55
  go_wp2_with fail
  go_ret;exact⟨rfl,di _ _⟩
 .have K3:¬(most:Int)<(l.length:Int):=by omega
  have e:dP l most=qP l []:=by unfold dP;rw[aa hgt]
  rw[e];clear e;generalize hF:qP l []=F;have HF:=dw hF;clear hF;go_enter Lo.get Tryz.func55,Tryz.ntmps55
  go_wp2_with fail
  go_loopw [13] (λi wr=>∃k:Nat,k<=l.length∧i=.int .i64 (k:Int)∧qP (l.drop k) (l.take k)=F∧Below w.heap.size w wr) (λi _=>l.length-(intOf i).toNat)
  case atStart=>exact⟨0,bg _,rfl,by rw[List.drop_zero,List.take_zero];exact HF.out,di _ _⟩
  case round=>
   obtain⟨k,hk,rfl,hx,hb⟩:=hrel
   by_cases hlt:k<l.length
   .have hlt':(k:Int)<(l.length:Int):=by omega
    have hkc:k<=c:=by omega
    have h1k:F8 wr B A l:=h1.keep λb o h=>dH hb b o (by omega)
    obtain⟨bb,off,rfl,hbb,hc⟩:=h1k (by omega);have r1:=FM hc hlt;have ht:F8 wr B (some ⟨bb,off,none⟩) (l.take k):=F8.take (λ_=>⟨bb,off,rfl,hbb,hc⟩) k (by omega);have hd:=AU l k hlt;rw[hx]at hd;have htl:k=(l.take k).length:=by rw[List.length_take];omega
    generalize l[k]=s at r1 hd;have HT:=dw ht;have HD:=dw hd;have HB:=dw hb;have Pc:=dw htl;clear ht hd hb hc hx h1k h1 htl;cases hnm:gy s with
    |false=>
     have HN:=dw hnm;clear hnm
     go_wp2_with(go_at_call 91;refine(Lo.xu _ _).mono ?_;rintro e w1⟨rfl,hb1⟩;rw[HN.out])
     go_ret;exact⟨by rw[HD.out,aj HN.out];rfl,HB.out.trans (hb1.mono HB.out.size)⟩
    |true=>
     have HN:=dw hnm;clear hnm;cases RX:F9 s (l.take k)with
     |true=>
      have HH:=dw RX;clear RX
      go_wp2_with(first
       |(go_at_call 91;refine(Lo.xu _ _).mono ?_;rintro e w1⟨rfl,hb1⟩;rw[HN.out])
       |(go_at_call 92;refine(Lo.RV Pc.out (HT.out.keep λb o h=>dH hb1 b o (by have :=HB.out.size;omega)) (by rw[List.length_take];omega)).mono ?_;rintro e w2⟨rfl,rfl⟩;rw[HH.out]))
      go_ret;exact⟨by rw[HD.out,aa (by rw[HN.out];simp),aj HH.out];rfl,HB.out.trans (hb1.mono HB.out.size)⟩
     |false=>
      have HH:=dw RX;clear RX
      go_wp2_with(first
       |(go_at_call 91;refine(Lo.xu _ _).mono ?_;rintro e w1⟨rfl,hb1⟩;rw[HN.out])
       |(go_at_call 92;refine(Lo.RV Pc.out (HT.out.keep λb o h=>dH hb1 b o (by have :=HB.out.size;omega)) (by rw[List.length_take];omega)).mono ?_;rintro e w2⟨rfl,rfl⟩;rw[HH.out]))
      go_roundw
      case rel=>exact⟨k+1,by omega,by go_num,by rw[HD.out,aa (by rw[HN.out];simp),aa (by rw[HH.out];simp)],HB.out.trans (hb1.mono HB.out.size)⟩
      case measure=>simp[intOf];omega
   .obtain rfl:k=l.length:=by omega
    rw[aF]at hx;have HX:=dw hx;clear hx
    go_wp2_with fail
    go_ret;exact⟨by rw[<-HX.out];rfl,hb⟩
end
end Go.Proofs
namespace Go.Proofs
open Go Go.RowKit Go.Maps
section
variable [Lo.St]
abbrev vT:DataW Unit:=.lit (.bool true)
def Bc(l:List Int):DataW Unit:=setOf vT (l.map kI)
def ES(l:List Int)(p:Int):Bc (l++ [p])=(Bc l).put (kI p) vT:=by unfold Bc;rw[List.map_append];exact setOf_snoc _ _ _
def MQ(l:List Int):∀x∈l.map kI,WideAt.IsKeyLit x:= λx hx=>by obtain⟨p,_,rfl⟩:=List.mem_map.1 hx;exact Gm p
def K4(p q:Int):(kI p).sameKey (kI q)=decide (p=q):=by
 by_cases h:p=q
 .subst h;simp[Lit.sameKey]
 .rw[sameKey_ne (Gn h)];simp[h]
def tu(l:List Int)(q:Int):(Bc l).atKey (kI q) (.lit (.bool false))=.lit (.bool (l.contains q)):=by
 induction l using uP with
 |h0=>rfl
 |h1 l p ih=>
  have hm:IsMap (Bc l):=(tidy_setOf vT _ (MQ l)).isMap;rw[ES]
  by_cases h:p=q
  .subst h;rw[atKey_put_same hm (Gm p)];simp
  .rw[atKey_put_other (Gn (Ne.symm h)),ih];simp[Ne.symm h]
def OZ(l:List Int)(h:l.Nodup):Maps.size (Bc l)=l.length:=by
 unfold Bc;rw[size_setOf _ _ (MQ l)]
 have:∀(l acc:List Int),l.Nodup->(∀x∈l,x ∉ acc)->(l.map kI).foldl addKey (acc.map kI)=(acc++l).map kI:=by
  intro l
  induction l with
  |nil=>intro acc _ _;simp
  |cons p l ih=>
   intro acc hn ha;simp only[aC,List.foldl_cons]
   have e:addKey (acc.map kI) (kI p)=(acc++ [p]).map kI:=by
    unfold addKey;rw[aa]
    .simp
    .simp only[List.any_map,List.any_eq_true,Function.comp];rintro⟨x,hx,h2⟩;rw[K4]at h2;have :=of_decide_eq_true h2;subst this;exact ha _ (by simp) hx
   rw[e,ih (acc++ [p]) (List.nodup_cons.1 hn).2 (λx hx hm=>by
    rcases List.mem_append.1 hm with hm|hm
    .exact ha x (by simp[hx]) hm
    .simp at hm;subst hm;exact(List.nodup_cons.1 hn).1 hx)]
   simp
 have :=this l [] h (λ_ _ h=>by cases h);simp only[List.map_nil,List.nil_append]at this;rw[this,List.length_map]
section
variable {H:Type} {P:Program} (w:World) {ops:Array Oper} {rest:List Oper} {o:Oper} {a:Act} {Q:Exit->Act->World->Prop}
theorem xw{e:TypeId}(he:P.underlying e=some .bool){v:Value}{z:DataW H×List MemPlace}(h:plainElem P e v=some z):∃x,v=.bool x∧z=(.lit (.bool x),[]):=by unfold plainElem at h;rw[he]at h;cases v<;>simp at h;rename_i x;exact⟨x,rfl,h.symm⟩
theorem fK(hg:o.guard=none)(m x:Operand)(t:TypeId)(hop:o.op=Op.lookup t m x false)
 (k e:TypeId) (K:Keyed P k) (ht:P.underlying t=some (.map k e)) (he:P.underlying e=some .bool) (hz:(zeroValue e).run P w=.ok (.bool false) w) (b n:Nat) (D:DataW H)
 (hm:a.eval m=.map (some b)) (hown:w.ownsMap P k (plainElem P e) b n D) (key:Value) (kl:Lit) (hx:a.eval x=key) (hkey:keyOf P k key=some kl)
 (r:Bool) (hr:D.atKey kl (.lit (.bool false))=.lit (.bool r))
 (hK:wpList P ops Q rest (a.put o.dst (.bool r)) w):
 wpList P ops Q (o::rest) a w:=by
 refine wpList_plain hg λK' hK'=>?_
 obtain⟨v,ps,hrun,hv⟩:=hown.lookup K ht hz (plainElem_bool he false) hkey;obtain⟨c,rfl,hc⟩:=xw he hv;have e1:=congrArg Prod.fst hc;simp only at e1;rw[hr]at e1;have e2:r=c:=by cases e1;rfl
 subst e2;unfold Oper.wp;simp[execOp,hop,hm,hx,hrun,Result.andThen];exact hK' _ _ hK
end
def Lo.pY:Lo.prog.underlying 146=some (.map 3 4):=(Lo.underlying 146).trans (by kernel_rfl)
def Lo.Gs:Lo.prog.underlying 4=some .bool:=(Lo.underlying 4).trans (by kernel_rfl)
def Lo.WY:Lo.prog.underlying 3=some (.int .i64):=(Lo.underlying 3).trans (by kernel_rfl)
def Lo.yV:Keyed Lo.prog 3:=int_keyed Lo.WY
def Lo.Da(w:World):(Go.zeroValue 4).run Lo.prog w=.ok (.bool false) w:=(Lo.zeroValue 4 w).trans (by kernel_rfl)
abbrev mB(w:World)(b n:Nat)(l:List Int):Prop:=w.ownsMap Lo.prog 3 (plainElem Lo.prog 4) b n (Bc l)
def WZ{w1:World}{b n:Nat}{l:List Int}{p:Int}(h:w1.ownsMap Lo.prog 3 (plainElem Lo.prog 4) b (n+1) ((Bc l).put (kI p) vT)):mB w1 b (n+1) (l++ [p]):=by show w1.ownsMap _ _ _ _ _ (Bc _);rw[ES];exact h
def ET(np:Nat)(M l:List Int)(U:List Int)(k:Nat)(h:k<l.length):oD np M (l.drop k) U=if kH l[k] 0 ((np:Int)-1)=false then(6,U)else if M.contains l[k]=false then(7,U)else if U.contains l[k]=true then(5,U)else oD np M (l.drop (k+1)) (U++ [l[k]]):=by rw[aV h];rfl
def Db(np:Nat)(l:List Int)(M:List Int)(k:Nat)(h:k<l.length):iX np (l.drop k) M=if kH l[k] 0 ((np:Int)-1)=false then(6,M)else if M.contains l[k]=true then(5,M)else iX np (l.drop (k+1)) (M++ [l[k]]):=by rw[aV h];rfl
def uR(nh np:Nat)(l:List dW)(M U:List Int)(k:Nat)(h:k<l.length):jr nh np (l.drop k) M U=
 if kH l[k].hand 0 ((nh:Int)-1)=false then(6,M)else
 if(oD np M l[k].ins U).1≠0 then((oD np M l[k].ins U).1,M)else
 if(iX np l[k].outs M).1≠0 then((iX np l[k].outs M).1,M)else
 if eT l[k].g0 l[k].g1 0 1000000=false then(1,M)else
 if eT l[k].l0 l[k].l1 0 1000000=false then(1,M)else
 jr nh np (l.drop (k+1)) (iX np l[k].outs M).2 (oD np M l[k].ins U).2:=by
 rw[aV h];rfl
def uS{np:Nat}:∀{l M:List Int},M.Nodup->(iX np l M).1=0->(iX np l M).2.Nodup
 | [],M,hM,_=>hM
 |q::r,M,hM,h=>by
  unfold iX at h⊢
  by_cases h1:kH q 0 ((np:Int)-1)=false
  .rw[aj h1]at h;cases h
  .rw[aa h1]at h⊢
   by_cases h3:M.contains q=true
   .rw[aj h3]at h;cases h
   .rw[aa h3]at h⊢;refine uS ?_ h
    rw[List.nodup_append];refine⟨hM,by simp, λa ha b hb=>?_⟩;simp at hb;subst hb
    intro e;subst e
    exact h3 (by simpa using ha)
def ot(p:Int)(h: -9223372036854775808<=p∧p<=9223372036854775807):keyOf Lo.prog 3 (.int .i64 p)=some (kI p):=keyOf_int_mk Lo.WY (Z6 h.1 h.2)
def Lo.De{w:World}{B:Nat}{b:dO}{v:gJ}(hb:fC w B b v)(hB:B<=w.heap.size)(hg:b.small):
 Calls Lo.prog 56 #[dY b v] w λe w'=>e=.returned (.int .i64 (fB b))∧Below w.heap.size w w':=by
 obtain⟨U,U2,U3,U4,U5,U6⟩:=Lo.facts;have C:=Lo.call Tryz.func32;have C2:=Lo.call Tryz.func57;have hmm:=@run_makeMap Lo.prog;have hl1:=hg.dJ;have hl2:=hg.dz;have hl3:=hg.steps;obtain⟨h1,h2,h3,h4,h5,h6,_⟩:=hb;unfold dY;generalize v.ah=ah at h1⊢;generalize v.ch=ch;generalize v.ap=ap at h2⊢;generalize v.cp=cp;generalize v.iT=iT at h3⊢;generalize v.cs=cs;generalize v.ac=ac at h6⊢;generalize v.cc=cc;generalize v.sv=sv at h3 h4 h5;unfold fB
 by_cases hgt:8<b.steps.length
 .have K3:(8:Int)<(b.steps.length:Int):=by omega
  rw[aj hgt];go_enter Lo.get Tryz.func56,Tryz.ntmps56
  go_wp2_with fail
  go_ret;exact⟨rfl,(di _ _).alloc (aJ _) _⟩
 .have K3:¬(8:Int)<(b.steps.length:Int):=by omega
  rw[aa hgt];generalize hF:jr b.dJ.length b.dz.length b.steps [] []=F;have HF:=dw hF;clear hF;generalize hR:(if F.1≠0 then F.1 else if F.2.length<b.dz.length then(6:Int)else 0)=R;have HR:=dw hR;clear hR;go_enter Lo.get Tryz.func56,Tryz.ntmps56
  go_wp2_with fail
  generalize hW3:(((w.alloc (.cells #[.slice ah b.dJ.length ch,.slice ap b.dz.length cp,.slice iT b.steps.length cs,.slice ac b.dA.length cc] 40)).alloc (.map #[] 0)).alloc (.map #[] 0))=W3;have JT:W3.heap.size=w.heap.size+3:=by subst hW3;simp
  have K5:Below w.heap.size w W3:=by subst hW3;exact((((di _ _).alloc (aJ _) _).alloc (by simp) _).alloc (by simp;omega) _)
  have mk3:mB W3 (w.heap.size+1) 0 []:=by subst hW3;have :=(World.ownsMap_made (H:=Unit) (w.alloc (.cells #[.slice ah b.dJ.length ch,.slice ap b.dz.length cp,.slice iT b.steps.length cs,.slice ac b.dA.length cc] 40)) Lo.prog 3 (plainElem Lo.prog 4)).alloc (.map #[] 0);simpa[mB,Bc,setOf]using this
  have ut:mB W3 (w.heap.size+1+1) 0 []:=by subst hW3;have :=World.ownsMap_made (H:=Unit) ((w.alloc (.cells #[.slice ah b.dJ.length ch,.slice ap b.dz.length cp,.slice iT b.steps.length cs,.slice ac b.dA.length cc] 40)).alloc (.map #[] 0)) Lo.prog 3 (plainElem Lo.prog 4);simpa[mB,Bc,setOf]using this
  have vt:∀wq,Below (w.heap.size+1) W3 wq->∀j:Nat,wq.cell? ⟨w.heap.size,j,none⟩=(#[Value.slice ah b.dJ.length ch,.slice ap b.dz.length cp,.slice iT b.steps.length cs,.slice ac b.dA.length cc]:Array Value)[j]?:=by intro wq hx j;rw[dH hx _ _ (by omega)];subst hW3;rw[dh _ _ _ (by simp;omega),dh _ _ _ (by simp),cO _ _ _ _ rfl]
  have hkeep:∀wr,Below (w.heap.size+1) W3 wr->∀b o,b<B->wr.cell? ⟨b,o,none⟩=w.cell? ⟨b,o,none⟩:= λwr hx b o hb=>(dH hx b o (by omega)).trans (dH K5 b o (by omega))
  clear hW3;have HK:=dw hkeep;have vG:=dw vt;have HB3:=dw K5;clear hkeep vt K5
  go_loopw [20] (λi wr=>∃k:Nat,∃M Us:List Int,k<=b.steps.length∧i=.int .i64 (k:Int)∧mB wr (w.heap.size+1) (64*k) M∧mB wr (w.heap.size+1+1) (64*k) Us∧Below (w.heap.size+1) W3 wr∧jr b.dJ.length b.dz.length (b.steps.drop k) M Us=F∧M.Nodup) (λi _=>b.steps.length-(intOf i).toNat)
  case atStart=>exact⟨0,[],[],bg _,rfl,mk3,ut,di _ _,HF.out,List.nodup_nil⟩
  case round=>
   obtain⟨k,M,Us,hk,rfl,hmk,RN,hbl,wK,hnd⟩:=hrel;clear mk3 ut
   by_cases hlt:k<b.steps.length
   .have hlt':(k:Int)<(b.steps.length:Int):=by omega
    have hkp:=HK.out wr hbl;obtain⟨bb,off,rfl,hbb,hc⟩:=h3.keep hkp (by omega);obtain⟨k0,k1,k2,k3,k4,k5,k6⟩:=sZ hc hlt;have hd:=uR b.dJ.length b.dz.length b.steps M Us k hlt;rw[wK]at hd;have hsi:=hg.ins _ (aX hlt);have hso:=hg.outs _ (aX hlt);have YC:=h4 k _ (aN hlt);have hro:=h5 k _ (aN hlt);generalize b.steps[k]=s at *;obtain⟨hand,li,lo,g0,g1,l0,l1⟩:=s;dsimp only at *;generalize(sv k).a1=a1 at *;generalize(sv k).a2=a2 at *;have c0:∀o,(wr.alloc o).cell? ⟨w.heap.size,0,none⟩=some (.slice ah b.dJ.length ch):= λo=>(dh _ _ _ (by have :=hbl.size;show w.heap.size<wr.heap.size;omega)).trans (vG.out wr hbl 0)
    have sz:=hbl.size;have HD:=dw hd;have HM:=dw hmk;have HU:=dw RN;have zQ:=dw hbl;clear hkp hmk RN hbl hc h3 h4 h5 h6 h1 h2 hd wK HF;cases hbt:kH hand 0 ((b.dJ.length:Int)-1)with
    |false=>
     have zk:=dw hbt;clear hbt
     go_wp2_with(go_at_call 32;refine(Lo.eB _ _ _ _).mono ?_;rintro e w1⟨rfl,rfl⟩;rw[zk.out])
     go_ret;have e:=HD.out;rw[aj zk.out]at e;exact⟨by rw[<-HR.out,e];rfl,HB3.out.trans ((zQ.out.alloc (by omega) _).mono (by omega))⟩
    |true=>
     have zk:=dw hbt;clear hbt
     go_wp2_with(go_at_call 32;refine(Lo.eB _ _ _ _).mono ?_;rintro e w1⟨rfl,rfl⟩;rw[zk.out])
     generalize rT:wr.alloc (.cells #[.int .i64 hand,.slice a1 li.length (sv k).c1,.slice a2 lo.length (sv k).c2,.int .i64 g0,.int .i64 g1,.int .i64 l0,.int .i64 l1] 36)=MP;have CT:MP.heap.size=wr.heap.size+1:=by subst rT;simp
     have a9:∀j:Nat,MP.cell? ⟨wr.heap.size,j,none⟩=(#[Value.int .i64 hand,.slice a1 li.length (sv k).c1,.slice a2 lo.length (sv k).c2,.int .i64 g0,.int .i64 g1,.int .i64 l0,.int .i64 l1]:Array Value)[j]?:=by subst rT;intro j;rw[cO _ _ _ _ rfl]
     have hm1:mB MP (w.heap.size+1) (64*k) M:=by subst rT;exact HM.out.alloc _
     have hu1:mB MP (w.heap.size+1+1) (64*k) Us:=by subst rT;exact HU.out.alloc _
     have hb1:Below (w.heap.size+1) W3 MP:=by subst rT;exact zQ.out.alloc (by omega) _
     clear rT HM HU zQ k0 k1 k2 k3 k4 k5 k6 c0;generalize wr.heap.size=n1 at *;have A9:=dw a9;have HM:=dw hm1;have HB1:=dw hb1;clear a9 hm1 hb1;generalize zt:oD b.dz.length M li Us=FI at HD;have ik:=dw zt;clear zt
     go_loopw [35] (λi wr=>∃j:Nat,∃U':List Int,j<=li.length∧i=.int .i64 (j:Int)∧mB wr (w.heap.size+1+1) (64*k+j) U'∧MP.grownBy wr (some (w.heap.size+1+1))∧oD b.dz.length M (li.drop j) U'=FI) (λi _=>li.length-(intOf i).toNat)
     case atStart=>exact⟨0,Us,bg _,rfl,hu1,pX _ _,ik.out⟩
     case round=>
      obtain⟨j,U',hj,rfl,hu,hgr,hfi⟩:=hrel;clear hu1;have hbq:Below (w.heap.size+1) W3 wr:=HB1.out.grown hgr (by omega) (λj hj=>by simp at hj;omega)
      by_cases hjl:j<li.length
      .have RA:(j:Int)<(li.length:Int):=by omega
       obtain⟨bc,of,rfl,hbc,hcc⟩:=YC.keep (HK.out wr hbq) (by omega);have r1:=Gj hcc hjl;have hdd:=ET b.dz.length M li U' j hjl;rw[hfi]at hdd;have Rg:wr.cell? ⟨w.heap.size,1,none⟩=some (.slice ap b.dz.length cp):=vG.out wr hbq 1;have hmk:mB wr (w.heap.size+1) (64*k) M:=HM.out.kept hgr (by simp);generalize li[j]=p at *;have RQ:=dw hbq;have HG:=dw hgr;have Xa:=dw hdd;clear hcc hbq hgr hdd hfi YC ik;cases hb2:kH p 0 ((b.dz.length:Int)-1)with
       |false=>
        have uT:=dw hb2;clear hb2
        go_wp2_with(go_at_call 32;refine(Lo.eB _ _ _ _).mono ?_;rintro e w1⟨rfl,rfl⟩;rw[uT.out])
        go_ret;have e1:=Xa.out;rw[aj uT.out]at e1;have e:=HD.out;rw[aa (by rw[zk.out];simp),e1,aj (by simp)]at e;exact⟨by rw[<-HR.out,e];rfl,HB3.out.trans (RQ.out.mono (by omega))⟩
       |true=>
        have hkey:keyOf Lo.prog 3 (.int .i64 p)=some (kI p):=ot p (by simp[kH]at hb2;omega);have uT:=dw hb2;clear hb2;cases hcm:M.contains p with
        |false=>
         have HCM:=dw hcm;clear hcm
         go_wp2_with(first
          |(go_at_call 32;refine(Lo.eB _ _ _ _).mono ?_;rintro e w1⟨rfl,rfl⟩;rw[uT.out])
          |(at_lookup;refine fK _ rfl _ _ 146 rfl 3 4 Lo.yV Lo.pY Lo.Gs (Lo.Da _) (w.heap.size+1) _ _ rfl hmk _ _ rfl hkey false (by rw[tu,HCM.out]) ?_)
          |go_in)
         go_ret;have e1:=Xa.out;rw[aa (by rw[uT.out];simp),aj HCM.out]at e1;have e:=HD.out;rw[aa (by rw[zk.out];simp),e1,aj (by simp)]at e;exact⟨by rw[<-HR.out,e];rfl,HB3.out.trans (RQ.out.mono (by omega))⟩
        |true=>
         have HCM:=dw hcm;clear hcm;cases Ug:U'.contains p with
         |true=>
          have YF:=dw Ug;clear Ug
          go_wp2_with(first
           |(go_at_call 32;refine(Lo.eB _ _ _ _).mono ?_;rintro e w1⟨rfl,rfl⟩;rw[uT.out])
           |(at_lookup;refine fK _ rfl _ _ 146 rfl 3 4 Lo.yV Lo.pY Lo.Gs (Lo.Da _) (w.heap.size+1) _ _ rfl hmk _ _ rfl hkey true (by rw[tu,HCM.out]) ?_)
           |(at_lookup;refine fK _ rfl _ _ 146 rfl 3 4 Lo.yV Lo.pY Lo.Gs (Lo.Da _) (w.heap.size+1+1) _ _ rfl hu _ _ rfl hkey true (by rw[tu,YF.out]) ?_)
           |go_in)
          go_ret;have e1:=Xa.out;rw[aa (by rw[uT.out];simp),aa (by rw[HCM.out];simp),aj YF.out]at e1;have e:=HD.out;rw[aa (by rw[zk.out];simp),e1,aj (by simp)]at e;exact⟨by rw[<-HR.out,e];rfl,HB3.out.trans (RQ.out.mono (by omega))⟩
         |false=>
          have YF:=dw Ug;clear Ug
          go_wp2_with(first
           |(go_at_call 32;refine(Lo.eB _ _ _ _).mono ?_;rintro e w1⟨rfl,rfl⟩;rw[uT.out])
           |(at_lookup;refine fK _ rfl _ _ 146 rfl 3 4 Lo.yV Lo.pY Lo.Gs (Lo.Da _) (w.heap.size+1) _ _ rfl hmk _ _ rfl hkey true (by rw[tu,HCM.out]) ?_)
           |(at_lookup;refine fK _ rfl _ _ 146 rfl 3 4 Lo.yV Lo.pY Lo.Gs (Lo.Da _) (w.heap.size+1+1) _ _ rfl hu _ _ rfl hkey false (by rw[tu,YF.out]) ?_)
           |(at_mapUpdate;refine wpList_mapUpdate_own _ rfl _ _ _ 146 rfl 3 4 Lo.yV Lo.pY _ (w.heap.size+1+1) _ _ rfl hu (by unfold maxLen;omega) _ _ _ rfl rfl hkey _ [] (plainElem_bool Lo.Gs true) ?_;intro w1 hown1 hgrow1)
           |go_in)
          have HO:=dw hown1;have YD:=dw hgrow1;clear hown1 hgrow1 hu hmk;go_roundw
          case rel=>exact⟨j+1,U'++ [p],by omega,by go_num,WZ HO.out,HG.out.trans YD.out,by have e1:=Xa.out;rw[aa (by rw[uT.out];simp),aa (by rw[HCM.out];simp),aa (by rw[YF.out];simp)]at e1;exact e1.symm⟩
          case measure=>simp[intOf];omega
      .obtain rfl:j=li.length:=by omega
       rw[aF]at hfi;have hfi:FI=(0,U'):=hfi.symm;have RY:=dw hfi
       have c2:wr.cell? ⟨n1,2,none⟩=some (.slice a2 lo.length (sv k).c2):=by rw[dm (hgr.block n1 (by omega) (by simp;omega))];exact A9.out 2
       have hmk:mB wr (w.heap.size+1) (64*k) M:=HM.out.kept hgr (by simp);have Kg:=dw (show mB wr (w.heap.size+1+1) (64*(k+1)) U' from World.ownsMap.mono hu (by omega));have RQ:=dw hbq;have bh:=dw hgr;have szr:=hgr.size;generalize cu:iX b.dz.length lo M=FO at HD;have Rc:=dw cu;clear cu hfi hu hgr hbq HM HB1 YC ik
       go_wp2_with fail
       generalize wr=wr2 at *
       go_loopw [62] (λi wr=>∃j:Nat,∃M':List Int,j<=lo.length∧i=.int .i64 (j:Int)∧mB wr (w.heap.size+1) (64*k+j) M'∧wr2.grownBy wr (some (w.heap.size+1))∧iX b.dz.length (lo.drop j) M'=FO) (λi _=>lo.length-(intOf i).toNat)
       case atStart=>exact⟨0,M,bg _,rfl,hmk,pX _ _,Rc.out⟩
       case round=>
        obtain⟨j,M',hj,rfl,hm,hgr,hfo⟩:=hrel;clear hmk;have hbq:Below (w.heap.size+1) W3 wr:=RQ.out.grown hgr (by omega) (λj hj=>by simp at hj;omega)
        by_cases hjl:j<lo.length
        .have RA:(j:Int)<(lo.length:Int):=by omega
         obtain⟨bc,of,rfl,hbc,hcc⟩:=hro.keep (HK.out wr hbq) (by omega);have r1:=Gj hcc hjl;have hdd:=Db b.dz.length lo M' j hjl;rw[hfo]at hdd;have Rg:wr.cell? ⟨w.heap.size,1,none⟩=some (.slice ap b.dz.length cp):=vG.out wr hbq 1;generalize lo[j]=p at *;have vR:=dw hbq;have HG:=dw hgr;have Xa:=dw hdd;clear hcc hbq hgr hdd hfo hro Rc c2;cases hb2:kH p 0 ((b.dz.length:Int)-1)with
         |false=>
          have uT:=dw hb2;clear hb2
          go_wp2_with(go_at_call 32;refine(Lo.eB _ _ _ _).mono ?_;rintro e w1⟨rfl,rfl⟩;rw[uT.out])
          go_ret;have e1:=Xa.out;rw[aj uT.out]at e1;have e:=HD.out;rw[aa (by rw[zk.out];simp),RY.out,aa (by simp),e1,aj (by simp)]at e;exact⟨by rw[<-HR.out,e];rfl,HB3.out.trans (vR.out.mono (by omega))⟩
         |true=>
          have hkey:keyOf Lo.prog 3 (.int .i64 p)=some (kI p):=ot p (by simp[kH]at hb2;omega);have uT:=dw hb2;clear hb2;cases hcm:M'.contains p with
          |true=>
           have HCM:=dw hcm;clear hcm
           go_wp2_with(first
            |(go_at_call 32;refine(Lo.eB _ _ _ _).mono ?_;rintro e w1⟨rfl,rfl⟩;rw[uT.out])
            |(at_lookup;refine fK _ rfl _ _ 146 rfl 3 4 Lo.yV Lo.pY Lo.Gs (Lo.Da _) (w.heap.size+1) _ _ rfl hm _ _ rfl hkey true (by rw[tu,HCM.out]) ?_)
            |go_in)
           go_ret;have e1:=Xa.out;rw[aa (by rw[uT.out];simp),aj HCM.out]at e1;have e:=HD.out;rw[aa (by rw[zk.out];simp),RY.out,aa (by simp),e1,aj (by simp)]at e;exact⟨by rw[<-HR.out,e];rfl,HB3.out.trans (vR.out.mono (by omega))⟩
          |false=>
           have HCM:=dw hcm;clear hcm
           go_wp2_with(first
            |(go_at_call 32;refine(Lo.eB _ _ _ _).mono ?_;rintro e w1⟨rfl,rfl⟩;rw[uT.out])
            |(at_lookup;refine fK _ rfl _ _ 146 rfl 3 4 Lo.yV Lo.pY Lo.Gs (Lo.Da _) (w.heap.size+1) _ _ rfl hm _ _ rfl hkey false (by rw[tu,HCM.out]) ?_)
            |(at_mapUpdate;refine wpList_mapUpdate_own _ rfl _ _ _ 146 rfl 3 4 Lo.yV Lo.pY _ (w.heap.size+1) _ _ rfl hm (by unfold maxLen;omega) _ _ _ rfl rfl hkey _ [] (plainElem_bool Lo.Gs true) ?_;intro w1 hown1 hgrow1)
            |go_in)
           have HO:=dw hown1;have YD:=dw hgrow1;clear hown1 hgrow1 hm;go_roundw
           case rel=>exact⟨j+1,M'++ [p],by omega,by go_num,WZ HO.out,HG.out.trans YD.out,by have e1:=Xa.out;rw[aa (by rw[uT.out];simp),aa (by rw[HCM.out];simp)]at e1;exact e1.symm⟩
           case measure=>simp[intOf];omega
        .obtain rfl:j=lo.length:=by omega
         rw[aF]at hfo;have hfo:FO=(0,M'):=hfo.symm;have YH:=dw hfo
         have ju:M'.Nodup:=by have :=uS (np:=b.dz.length) (l:=lo) (M:=M) hnd (by rw[Rc.out,hfo]);rw[Rc.out,hfo]at this;exact this
         have cc:∀j:Nat,wr.cell? ⟨n1,j,none⟩=wr2.cell? ⟨n1,j,none⟩:= λj=>dm (hgr.block n1 (by omega) (by simp;omega))
         have cd:∀j:Nat,wr2.cell? ⟨n1,j,none⟩=MP.cell? ⟨n1,j,none⟩:= λj=>dm (bh.out.block n1 (by omega) (by simp;omega))
         have c3:wr.cell? ⟨n1,3,none⟩=some (.int .i64 g0):=(cc 3).trans ((cd 3).trans (A9.out 3));have c4:wr.cell? ⟨n1,3+1,none⟩=some (.int .i64 g1):=(cc 4).trans ((cd 4).trans (A9.out 4));have c5:wr.cell? ⟨n1,5,none⟩=some (.int .i64 l0):=(cc 5).trans ((cd 5).trans (A9.out 5));have c6:wr.cell? ⟨n1,5+1,none⟩=some (.int .i64 l1):=(cc 6).trans ((cd 6).trans (A9.out 6));have hgs:=hgr.size;have vR:=dw hbq;have Dg:=dw (show mB wr (w.heap.size+1) (64*(k+1)) M' from World.ownsMap.mono hm (by omega));have pu:=dw (show mB wr (w.heap.size+1+1) (64*(k+1)) U' from Kg.out.kept hgr (by simp));have HND:=dw ju;clear hfo hm hgr hbq Rc cc cd Kg RQ bh hro hnd ju;have qu:=vR.out.size;have szg:=hgs;cases hi1:eT g0 g1 0 1000000 with
         |false=>
          have HI1:=dw hi1;clear hi1
          go_wp2_with(go_at_call 57;refine(Lo.jo _ _ _ _ _).mono ?_;rintro e w1⟨rfl,hb1⟩;rw[HI1.out])
          go_ret;have e:=HD.out;rw[aa (by rw[zk.out];simp),RY.out,aa (by simp),YH.out,aa (by simp),aj HI1.out]at e;exact⟨by rw[<-HR.out,e];rfl,HB3.out.trans ((vR.out.trans (hb1.mono (by omega))).mono (by omega))⟩
         |true=>
          have HI1:=dw hi1;clear hi1;cases hi2:eT l0 l1 0 1000000 with
          |false=>
           have HI2:=dw hi2;clear hi2
           go_wp2_with(first
            |(go_at_call 57;refine(Lo.jo _ _ _ _ _).mono ?_;rintro e w1⟨rfl,hb1⟩;rw[HI1.out];have d5:=(dH hb1 n1 5 (by omega)).trans c5;have d6:=(dH hb1 n1 (5+1) (by omega)).trans c6)
            |(go_at_call 57;refine(Lo.jo _ _ _ _ _).mono ?_;rintro e w2⟨rfl,hb2⟩;rw[HI2.out]))
           go_ret;have e:=HD.out;rw[aa (by rw[zk.out];simp),RY.out,aa (by simp),YH.out,aa (by simp),aa (by rw[HI1.out];simp),aj HI2.out]at e;exact⟨by rw[<-HR.out,e];rfl,HB3.out.trans (((vR.out.trans (hb1.mono (by omega))).trans (hb2.mono (by have :=hb1.size;omega))).mono (by omega))⟩
          |true=>
           have HI2:=dw hi2;clear hi2
           go_wp2_with(first
            |(go_at_call 57;refine(Lo.jo _ _ _ _ _).mono ?_;rintro e w1⟨rfl,hb1⟩;rw[HI1.out];have d5:=(dH hb1 n1 5 (by omega)).trans c5;have d6:=(dH hb1 n1 (5+1) (by omega)).trans c6)
            |(go_at_call 57;refine(Lo.jo _ _ _ _ _).mono ?_;rintro e w2⟨rfl,hb2⟩;rw[HI2.out]))
           have hzz:=hb1.size;have ao6:=dw ((Dg.out.kept (below_grown hb1 rfl none) (by simp)).kept (below_grown hb2 rfl none) (by simp));have ao7:=dw ((pu.out.kept (below_grown hb1 rfl none) (by simp)).kept (below_grown hb2 rfl none) (by simp));have D6:=dw ((vR.out.trans (hb1.mono (by omega))).trans (hb2.mono (by omega)));clear hb1 hb2 Dg pu vR;go_roundw
           case rel=>exact⟨k+1,M',U',by omega,by go_num,ao6.out,ao7.out,D6.out,by have e:=HD.out;rw[aa (by rw[zk.out];simp),RY.out,aa (by simp),YH.out,aa (by simp),aa (by rw[HI1.out];simp),aa (by rw[HI2.out];simp)]at e;exact e.symm,HND.out⟩
           case measure=>simp[intOf];omega
   .obtain rfl:k=b.steps.length:=by omega
    rw[aF]at wK;have hF:F=(0,M):=wK.symm;have Rg:wr.cell? ⟨w.heap.size,1,none⟩=some (.slice ap b.dz.length cp):=vG.out wr hbl 1;have hsz:=OZ M hnd;have vu:=dw hF;have HS:=dw hsz;have zQ:=dw hbl;clear hF wK hsz hbl HF
    by_cases hlp:M.length<b.dz.length
    .have Pu:(M.length:Int)<(b.dz.length:Int):=by omega
     go_wp2_with(first
      |(at_len;refine wpList_len_own _ rfl _ 146 rfl 3 4 Lo.pY _ (w.heap.size+1) _ _ rfl hmk ?_;rw[HS.out])
      |go_in)
     go_ret;have e:=HR.out;rw[vu.out,aa (by simp),aj hlp]at e;exact⟨by rw[<-e];rfl,HB3.out.trans (zQ.out.mono (by omega))⟩
    .have Pu:¬(M.length:Int)<(b.dz.length:Int):=by omega
     go_wp2_with(first
      |(at_len;refine wpList_len_own _ rfl _ 146 rfl 3 4 Lo.pY _ (w.heap.size+1) _ _ rfl hmk ?_;rw[HS.out])
      |go_in)
     go_ret;have e:=HR.out;rw[vu.out,aa (by simp),aa (by simpa using Pu)]at e;exact⟨by rw[<-e];rfl,HB3.out.trans (zQ.out.mono (by omega))⟩
end
section
variable [Lo.St]
def yX(np:Nat)(l:List jD)(k:Nat)(h:k<l.length):ku np (l.drop k)=if kH l[k].pile 0 ((np:Int)-1)=false then 6 else if eT l[k].lo l[k].hi 0 1000000=false then 1 else ku np (l.drop (k+1)):=by rw[aV h];rfl
def Lo.tC{w:World}{B:Nat}{b:dO}{v:gJ}{x:Value}(hx:x=dY b v)(hb:fC w B b v)(hB:B<=w.heap.size)(hg:b.small):
 Calls Lo.prog 56 #[x] w λe w'=>e=.returned (.int .i64 (fB b))∧Below w.heap.size w w':=hx ▸ Lo.De hb hB hg
def Lo.wE{w:World}{B:Nat}{b:dO}{v:gJ}(hb:fC w B b v)(hB:B<=w.heap.size)(hg:b.small):
 Calls Lo.prog 26 #[dY b v] w λe w'=>e=.returned (.int .i64 (fG b))∧Below w.heap.size w w':=by
 obtain⟨U,U2,U3,U4,U5,U6⟩:=Lo.facts;have C:=Lo.call Tryz.func32;have C2:=Lo.call Tryz.func57;have C3:=Lo.call Tryz.func55;have C4:=Lo.call Tryz.func56;have hl1:=hg.dJ;have hl2:=hg.dz;have hl4:=hg.dA;have K6:=dw hb;have h1:=hb.dJ;have h2:=hb.dz;have h6:=hb.dA;have q1:=hb.lh;have q2:=hb.lp;clear hb;have hbv:Value.agg #[.slice v.ah b.dJ.length v.ch,.slice v.ap b.dz.length v.cp,.slice v.iT b.steps.length v.cs,.slice v.ac b.dA.length v.cc]=dY b v:=rfl;generalize hR:fG b=R;unfold fG at hR;have HR:=dw hR;clear hR;rw[<-hbv];have iy:=dw hbv;clear hbv;generalize v.ah=ah at h1 q1 iy⊢;generalize v.ch=ch at q1 iy⊢;generalize v.ap=ap at h2 q2 iy⊢;generalize v.cp=cp at q2 iy⊢;generalize v.iT=iT at iy⊢;generalize v.cs=cs at iy⊢;generalize v.ac=ac at h6 iy⊢;generalize v.cc=cc at iy⊢;have bA:Below w.heap.size w (w.alloc (.cells #[.slice ah b.dJ.length ch,.slice ap b.dz.length cp,.slice iT b.steps.length cs,.slice ac b.dA.length cc] 40)):=(di _ _).alloc (aJ _) _;have cA:∀j:Nat,(w.alloc (.cells #[.slice ah b.dJ.length ch,.slice ap b.dz.length cp,.slice iT b.steps.length cs,.slice ac b.dA.length cc] 40)).cell? ⟨w.heap.size,j,none⟩=(#[Value.slice ah b.dJ.length ch,.slice ap b.dz.length cp,.slice iT b.steps.length cs,.slice ac b.dA.length cc]:Array Value)[j]?:= λj=>by rw[cO _ _ _ _ rfl]
 have a1:F8 (w.alloc (.cells #[.slice ah b.dJ.length ch,.slice ap b.dz.length cp,.slice iT b.steps.length cs,.slice ac b.dA.length cc] 40)) B ah b.dJ:=h1.keep λb o h=>dH bA b o (by omega)
 have a2:F8 (w.alloc (.cells #[.slice ah b.dJ.length ch,.slice ap b.dz.length cp,.slice iT b.steps.length cs,.slice ac b.dA.length cc] 40)) B ap b.dz:=h2.keep λb o h=>dH bA b o (by omega)
 have a3:fC (w.alloc (.cells #[.slice ah b.dJ.length ch,.slice ap b.dz.length cp,.slice iT b.steps.length cs,.slice ac b.dA.length cc] 40)) B b v:=K6.out.keep λb o h=>dH bA b o (by omega)
 have HC:=dw cA;have HA1:=dw a1;have HA2:=dw a2;have rh:=dw a3;have I8:=dw bA;clear cA a1 a2 a3 bA h1 h2 K6;generalize hx1:dP b.dJ 4=x1 at HR;have X1:=dw hx1;generalize hx2:dP b.dz 12=x2 at HR;have X2:=dw hx2;generalize hx3:fB b=x3 at HR;have X3:=dw hx3;clear hx1 hx2 hx3
 by_cases z1:x1=0
 .subst z1;have e1:=HR.out;rw[aa (by simp)]at e1;clear HR;have HR:=dw e1;clear e1
  by_cases z2:x2=0
  .subst z2;have e1:=HR.out;rw[aa (by simp)]at e1;clear HR;have HR:=dw e1;clear e1
   by_cases z3:x3=0
   .subst z3;have e1:=HR.out;rw[aa (by simp)]at e1;clear HR;have HR:=dw e1;clear e1
    by_cases hgt:10<b.dA.length
    .have K3:(10:Int)<(b.dA.length:Int):=by omega
     go_enter Lo.get Tryz.func26,Tryz.ntmps26
     go_wp2_with(first
      |(go_at_call 56;refine(Lo.tC iy.out (rh.out.keep λb o h=>dH HB2.out b o (by simp;omega)) (by have :=HB2.out.size;simp at this;omega) hg).mono ?_;rintro e w3⟨rfl,hb3⟩;rw[X3.out];have HB3:=dw (HB2.out.trans (hb3.mono HB2.out.size));clear hb3;have g1:=(dH HB3.out w.heap.size 1 (by simp)).trans (HC.out 1);have g3:=(dH HB3.out w.heap.size 3 (by simp)).trans (HC.out 3))
      |(go_at_call 55;refine(Lo.gQ (most:=12) (HA2.out.keep λb o h=>dH HB1.out b o (by simp;omega)) hl2 q2 (by have :=HB1.out.size;simp at this;omega) (by omega)).mono ?_;rintro e w2⟨rfl,hb2⟩;rw[X2.out];have HB2:=dw (HB1.out.trans (hb2.mono HB1.out.size));clear hb2;have f0:=(dH HB2.out w.heap.size 0 (by simp)).trans (HC.out 0);have f1:=(dH HB2.out w.heap.size 1 (by simp)).trans (HC.out 1);have f2:=(dH HB2.out w.heap.size 2 (by simp)).trans (HC.out 2);have f3:=(dH HB2.out w.heap.size 3 (by simp)).trans (HC.out 3))
      |(go_at_call 55;refine(Lo.gQ (most:=4) (HA1.out) hl1 q1 (by simp;omega) (by omega)).mono ?_;rintro e w1⟨rfl,hb1⟩;rw[X1.out];have d1:=(dH hb1 w.heap.size 1 (by simp)).trans (HC.out 1);have HB1:=dw hb1;clear hb1))
     go_ret;exact⟨by rw[<-HR.out,aj hgt];rfl,(I8.out.trans (HB3.out.mono (by simp)))⟩
    .have K3:¬(10:Int)<(b.dA.length:Int):=by omega
     have e1:=HR.out;rw[aa hgt]at e1;clear HR;have HR:=dw e1;clear e1;go_enter Lo.get Tryz.func26,Tryz.ntmps26
     go_wp2_with(first
      |(go_at_call 56;refine(Lo.tC iy.out (rh.out.keep λb o h=>dH HB2.out b o (by simp;omega)) (by have :=HB2.out.size;simp at this;omega) hg).mono ?_;rintro e w3⟨rfl,hb3⟩;rw[X3.out];have HB3:=dw (HB2.out.trans (hb3.mono HB2.out.size));clear hb3;have g1:=(dH HB3.out w.heap.size 1 (by simp)).trans (HC.out 1);have g3:=(dH HB3.out w.heap.size 3 (by simp)).trans (HC.out 3))
      |(go_at_call 55;refine(Lo.gQ (most:=12) (HA2.out.keep λb o h=>dH HB1.out b o (by simp;omega)) hl2 q2 (by have :=HB1.out.size;simp at this;omega) (by omega)).mono ?_;rintro e w2⟨rfl,hb2⟩;rw[X2.out];have HB2:=dw (HB1.out.trans (hb2.mono HB1.out.size));clear hb2;have f0:=(dH HB2.out w.heap.size 0 (by simp)).trans (HC.out 0);have f1:=(dH HB2.out w.heap.size 1 (by simp)).trans (HC.out 1);have f2:=(dH HB2.out w.heap.size 2 (by simp)).trans (HC.out 2);have f3:=(dH HB2.out w.heap.size 3 (by simp)).trans (HC.out 3))
      |(go_at_call 55;refine(Lo.gQ (most:=4) (HA1.out) hl1 q1 (by simp;omega) (by omega)).mono ?_;rintro e w1⟨rfl,hb1⟩;rw[X1.out];have d1:=(dH hb1 w.heap.size 1 (by simp)).trans (HC.out 1);have HB1:=dw hb1;clear hb1))
     have H6:=dw (h6.keep λb o h=>(dH (I8.out.trans (HB3.out.mono (by simp))) b o (by omega)));have WU:=dw (I8.out.trans (HB3.out.mono (by simp)));have JT:=HB3.out.size;simp at JT;clear h6;generalize w3=w9 at *;have HX:Hid (ku b.dz.length b.dA=R):=HR;clear HR HB3 HB2 HB1 HA1 HA2 rh HC I8 f0 f1 f2 f3 d1 X1 X2 X3 iy
     go_loopw [32] (λi wr=>∃k:Nat,k<=b.dA.length∧i=.int .i64 (k:Int)∧ku b.dz.length (b.dA.drop k)=R∧Below w9.heap.size w9 wr) (λi _=>b.dA.length-(intOf i).toNat)
     case atStart=>exact⟨0,bg _,rfl,HX.out,di _ _⟩
     case round=>
      obtain⟨k,hk,rfl,hx,hb⟩:=hrel
      by_cases hlt:k<b.dA.length
      .have hlt':(k:Int)<(b.dA.length:Int):=by omega
       have cv:=H6.out.keep λb o h=>dH hb b o (by omega)
       obtain⟨bb,off,rfl,hbb,hc⟩:=cv (by omega);obtain⟨r0,r1,r2⟩:=CU hc hlt;have hd:=yX b.dz.length b.dA k hlt;rw[hx]at hd;have c1:∀o,(wr.alloc o).cell? ⟨w.heap.size,1,none⟩=some (.slice ap b.dz.length cp):= λo=>(dh _ _ _ (by have :=hb.size;show w.heap.size<wr.heap.size;omega)).trans ((dH hb _ _ (by omega)).trans g1)
       have szr:=hb.size;generalize b.dA[k]=sc at *;have HD:=dw hd;have HB:=dw hb;clear hx hd hb hc cv HX;cases hbt:kH sc.pile 0 ((b.dz.length:Int)-1)with
       |false=>
        have zk:=dw hbt;clear hbt
        go_wp2_with(go_at_call 32;refine(Lo.eB _ _ _ _).mono ?_;rintro e w1⟨rfl,rfl⟩;rw[zk.out])
        go_ret;exact⟨by rw[HD.out,aj zk.out];rfl,WU.out.trans ((HB.out.alloc (by omega) _).mono (by omega))⟩
       |true=>
        have zk:=dw hbt;clear hbt;have s1:∀o,(wr.alloc o).heap[wr.heap.size]?=some o:= λo=>heap_alloc_new wr o
        clear s1;cases hin:eT sc.lo sc.hi 0 1000000 with
        |false=>
         have HI:=dw hin;clear hin
         go_wp2_with(first
          |(go_at_call 32;refine(Lo.eB _ _ _ _).mono ?_;rintro e w1⟨rfl,rfl⟩;rw[zk.out])
          |(go_at_call 57;refine(Lo.jo _ _ _ _ _).mono ?_;rintro e w1⟨rfl,hb1⟩;rw[HI.out]))
         go_ret;exact⟨by rw[HD.out,aa (by rw[zk.out];simp),aj HI.out];rfl,WU.out.trans (((HB.out.alloc (by omega) _).trans (hb1.mono (by simp;omega))).mono (by omega))⟩
        |true=>
         have HI:=dw hin;clear hin
         go_wp2_with(first
          |(go_at_call 32;refine(Lo.eB _ _ _ _).mono ?_;rintro e w1⟨rfl,rfl⟩;rw[zk.out])
          |(go_at_call 57;refine(Lo.jo _ _ _ _ _).mono ?_;rintro e w1⟨rfl,hb1⟩;rw[HI.out]))
         have HB9:=dw ((HB.out.alloc (by omega) _).trans (hb1.mono (by simp;omega)));clear hb1 HB c1;go_roundw
         case rel=>exact⟨k+1,by omega,by go_num,by rw[HD.out,aa (by rw[zk.out];simp),aa (by rw[HI.out];simp)],HB9.out⟩
         case measure=>simp[intOf];omega
      .obtain rfl:k=b.dA.length:=by omega
       rw[aF]at hx;have WV:=dw hx;clear hx HX
       go_wp2_with fail
       go_ret;exact⟨by rw[<-WV.out];rfl,WU.out.trans (hb.mono (by omega))⟩
   .go_enter Lo.get Tryz.func26,Tryz.ntmps26
    go_wp2_with(first
     |(go_at_call 56;refine(Lo.tC iy.out (rh.out.keep λb o h=>dH HB2.out b o (by simp;omega)) (by have :=HB2.out.size;simp at this;omega) hg).mono ?_;rintro e w3⟨rfl,hb3⟩;rw[X3.out];have HB3:=dw (HB2.out.trans (hb3.mono HB2.out.size));clear hb3;have g1:=(dH HB3.out w.heap.size 1 (by simp)).trans (HC.out 1);have g3:=(dH HB3.out w.heap.size 3 (by simp)).trans (HC.out 3))
     |(go_at_call 55;refine(Lo.gQ (most:=12) (HA2.out.keep λb o h=>dH HB1.out b o (by simp;omega)) hl2 q2 (by have :=HB1.out.size;simp at this;omega) (by omega)).mono ?_;rintro e w2⟨rfl,hb2⟩;rw[X2.out];have HB2:=dw (HB1.out.trans (hb2.mono HB1.out.size));clear hb2;have f0:=(dH HB2.out w.heap.size 0 (by simp)).trans (HC.out 0);have f1:=(dH HB2.out w.heap.size 1 (by simp)).trans (HC.out 1);have f2:=(dH HB2.out w.heap.size 2 (by simp)).trans (HC.out 2);have f3:=(dH HB2.out w.heap.size 3 (by simp)).trans (HC.out 3))
     |(go_at_call 55;refine(Lo.gQ (most:=4) (HA1.out) hl1 q1 (by simp;omega) (by omega)).mono ?_;rintro e w1⟨rfl,hb1⟩;rw[X1.out];have d1:=(dH hb1 w.heap.size 1 (by simp)).trans (HC.out 1);have HB1:=dw hb1;clear hb1))
    go_ret;exact⟨by rw[<-HR.out,aj z3];rfl,(I8.out.trans (HB3.out.mono (by simp)))⟩
  .go_enter Lo.get Tryz.func26,Tryz.ntmps26
   go_wp2_with(first
    |(go_at_call 55;refine(Lo.gQ (most:=12) (HA2.out.keep λb o h=>dH HB1.out b o (by simp;omega)) hl2 q2 (by have :=HB1.out.size;simp at this;omega) (by omega)).mono ?_;rintro e w2⟨rfl,hb2⟩;rw[X2.out];have HB2:=dw (HB1.out.trans (hb2.mono HB1.out.size));clear hb2;have f0:=(dH HB2.out w.heap.size 0 (by simp)).trans (HC.out 0);have f1:=(dH HB2.out w.heap.size 1 (by simp)).trans (HC.out 1);have f2:=(dH HB2.out w.heap.size 2 (by simp)).trans (HC.out 2);have f3:=(dH HB2.out w.heap.size 3 (by simp)).trans (HC.out 3))
    |(go_at_call 55;refine(Lo.gQ (most:=4) (HA1.out) hl1 q1 (by simp;omega) (by omega)).mono ?_;rintro e w1⟨rfl,hb1⟩;rw[X1.out];have d1:=(dH hb1 w.heap.size 1 (by simp)).trans (HC.out 1);have HB1:=dw hb1;clear hb1))
   go_ret;exact⟨by rw[<-HR.out,aj z2];rfl,(I8.out.trans (HB2.out.mono (by simp)))⟩
 .go_enter Lo.get Tryz.func26,Tryz.ntmps26
  go_wp2_with(go_at_call 55;refine(Lo.gQ (most:=4) (HA1.out) hl1 q1 (by simp;omega) (by omega)).mono ?_;rintro e w1⟨rfl,hb1⟩;rw[X1.out];have d1:=(dH hb1 w.heap.size 1 (by simp)).trans (HC.out 1);have HB1:=dw hb1;clear hb1)
  go_ret;exact⟨by rw[<-HR.out,aj z1];rfl,(I8.out.trans (HB1.out.mono (by simp)))⟩
end
section
variable [Lo.St]
def Df:∀(ss:List eX)(i j:Nat),i<ss.length->j<4->(iW ss)[i*4+j]?=some (sU ss i j)
 | [],i,j,hi,_=>absurd hi (by simp)
 |x::ss,0,j,_,hj=>by
  match j,hj with
  |0,_=>rfl
  |1,_=>rfl
  |2,_=>rfl
  |3,_=>rfl
 |x::ss,i+1,j,hi,hj=>by have ih:=Df ss i j (by simpa using hi) hj;have e:iW (x::ss)= [.int .i64 x.lo,.int .i64 x.hi,.int .i64 (x.fr:Int),.int .i64 (x.to:Int)]++iW ss:=rfl;rw[e,List.getElem?_append_right (by simp;omega)];rw[show(i+1)*4+j - [Value.int .i64 x.lo,.int .i64 x.hi,.int .i64 (x.fr:Int),.int .i64 (x.to:Int)].length=i*4+j by simp;omega,ih];rfl
def ownsRow.rd{w:World}{base e size n B:Nat}{v:Value}{xs:List Value}{f:Nat->Nat->Value}(h:w.ownsRow base e size v n xs)(hf:∀i j,i<n->j<size->xs[i*size+j]?=some (f i j)):∃A cap,v=.slice A n cap∧n<=cap∧∀m,m<=n->(w.heap.size<=B->Rd w B size A m f):=by
 obtain⟨hl,h⟩:=h;rcases h with⟨rfl,rfl⟩|⟨g,cap,cur,rfl,hb,hg,h1,h2,h3,h4⟩
 .exact⟨none,0,rfl,aJ _, λm hm _ h=>absurd h (by omega)⟩
 .refine⟨_,cap,rfl,h1, λm hm hB _=>⟨g,0,rfl,aK (aI.1 hg).1 hB, λi j hi hj=>?_⟩⟩;have hx:=hf i j (by omega) hj;rw[<-h4]at hx;unfold World.cell?;simp only[hg];rw[List.getElem?_take]at hx;split at hx
  .rw[Nat.zero_add];simpa using hx
  .cases hx
def fQ.at{w:World}{b base st nd:Nat}{ss:List eX}{v:Value}(h:fQ w b base st nd ss v)(hok:∀x∈ss,x.ok)(hlen:ss.length<=64):∃A cap,v=.slice A ss.length cap∧jG w w.heap.size b ss st nd A cap:=by obtain⟨A,cap,rfl,_,hr⟩:=ownsRow.rd (B:=w.heap.size) (f:=sU ss) h.row (λi j hi hj=>Df ss i j hi hj);obtain⟨a,b,c,_⟩:=iG h.blk;exact⟨A,cap,rfl,(aI.1 h.blk).1,a,b,c,hr _ (aJ _) (aJ _),hok,hlen⟩
def MR(b:dO)(hand:Int)(hg:b.good):(fA b hand).length<=64:=by have :=hg.n8;have :=hg.eV;rw[yR];split<;>omega
def Dh(b:dO)(hand:Int)(hg:b.good):dZ b hand<=16:=by have :=hg.n8;unfold dZ;split<;>omega
def Lo.vH{w:World}{B:Nat}{b:dO}{v:gJ}{x:Value}(hx:x=dY b v)(hb:fC w B b v)(hB:B<=w.heap.size)(hg:b.good)(hand:Int)(hh: -1<=hand∧hand<=64):
 Calls Lo.prog 33 #[x,.int .i64 hand] w λe w'=>∃bw A cap,e=.returned (.pointer (some ⟨bw,0,none⟩))∧jG w' w'.heap.size bw (fA b hand) b.steps.length (dZ b hand) A cap∧Below w.heap.size w w':=by
 subst hx;refine(Lo.ER hb hB hg hand hh).mono λe w' h=>?_
 obtain⟨bw,v,e1,_,_,hw,hbe⟩:=h;obtain⟨A,cap,_,kj⟩:=hw.at (MN b hand hg) (MR b hand hg);exact⟨bw,A,cap,e1,kj,hbe⟩
def qC(w:World)(b:dO)(hand:Int)(e:Ending)(w':World):Prop:=
 if gN (fA b hand) (dZ b hand)=true then∃v,e=.returned (.tuple #[v,.int .i64 0])∧w'.ownsRow w.heap.size 33 2 v (fA b hand).length (gW (mG (fA b hand) (dZ b hand)))∧cS.dU w' v∧Below w.heap.size w w'
 else e=.returned (.tuple #[.slice none 0 0,.int .i64 9])∧Below w.heap.size w w'
def lN(b:dO)(v:gJ):Array Value:= #[.slice v.ah b.dJ.length v.ch,.slice v.ap b.dz.length v.cp,.slice v.iT b.steps.length v.cs,.slice v.ac b.dA.length v.cc]
def Lo.zR{w:World}{B:Nat}{b:dO}{v:gJ}{x:Value}(hx:x=dY b v)(hb:fC w B b v)(hB:B<=w.heap.size)(hg:b.good)(hand:Int)(hh: -1<=hand∧hand<=64):
 Calls Lo.prog 27 #[x,.int .i64 hand] w (qC w b hand):=by
 obtain⟨U,U2,U3,U4,U5,U6⟩:=Lo.facts;have C:=Lo.call Tryz.func33;have C2:=Lo.call Tryz.func34;have C3:=Lo.call Tryz.func58;subst hx;have hbv:Value.agg #[.slice v.ah b.dJ.length v.ch,.slice v.ap b.dz.length v.cp,.slice v.iT b.steps.length v.cs,.slice v.ac b.dA.length v.cc]=dY b v:=rfl;rw[<-hbv];have hb1:fC (w.alloc (.cells #[.slice v.ah b.dJ.length v.ch,.slice v.ap b.dz.length v.cp,.slice v.iT b.steps.length v.cs,.slice v.ac b.dA.length v.cc] 40)) B b v:=hb.keep λb o h=>dh _ _ _ (by show b<w.heap.size;omega)
 have iy:=dw hbv;have HB1:=dw hb1;have hnd:=Dh b hand hg;clear hbv hb1 hb;generalize v.ah=ah at iy HB1⊢;generalize v.ch=ch at iy HB1⊢;generalize v.ap=ap at iy HB1⊢;generalize v.cp=cp at iy HB1⊢;generalize v.iT=iT at iy HB1⊢;generalize v.cs=cs at iy HB1⊢;generalize v.ac=ac at iy HB1⊢;generalize v.cc=cc at iy HB1⊢;cases hho:gN (fA b hand) (dZ b hand)with
 |false=>
  have HH:=dw hho;clear hho;go_enter Lo.get Tryz.func27,Tryz.ntmps27
  go_wp2_with(first
   |(go_at_call 33;refine(Lo.vH iy.out HB1.out (by simp;omega) hg _ hh).mono ?_;rintro e w1⟨bw,A,cap,rfl,hw,hb1⟩;have HW:=dw hw;have HB2:=dw hb1;clear hw hb1)
   |(go_at_call 34;refine(Lo.oK HW.out (aJ _) hnd).mono ?_;rintro e w2⟨rfl,hb2⟩;rw[HH.out]))
  go_ret2
  show qC _ _ _ _ _;unfold qC;rw[aa (by rw[HH.out];simp)];exact⟨rfl,(((di _ _).alloc (aJ _) _).trans (HB2.out.mono (by simp))).trans (hb2.mono (by have :=HB2.out.size;simp at this;omega))⟩
 |true=>
  have HH:=dw hho;clear hho;go_enter Lo.get Tryz.func27,Tryz.ntmps27
  go_wp2_with(first
   |(go_at_call 33;refine(Lo.vH iy.out HB1.out (by simp;omega) hg _ hh).mono ?_;rintro e w1⟨bw,A,cap,rfl,hw,hb1⟩;have HW:=dw hw;have HB2:=dw hb1;clear hw hb1)
   |(go_at_call 34;refine(Lo.oK HW.out (aJ _) hnd).mono ?_;rintro e w2⟨rfl,hb2⟩;rw[HH.out];have HB3:=dw hb2;clear hb2)
   |(go_at_call 58;refine(Lo.OV (HW.out.keep λb o h=>dH HB3.out b o h) HB3.out.size hnd).mono ?_;rintro e w3⟨v,rfl,hown,hpl,hb3⟩;have HO:=dw hown;have HP:=dw hpl;have vR:=dw hb3;clear hown hpl hb3))
  go_ret2
  show qC _ _ _ _ _;unfold qC;rw[aj HH.out];have s2:=HB2.out.size;have s3:=HB3.out.size;simp at s2;exact⟨_,rfl,ownsRow.base HO.out (by omega),HP.out,((((di _ _).alloc (aJ _) _).trans (HB2.out.mono (by simp))).trans (HB3.out.mono (by omega))).trans (vR.out.mono (by omega))⟩
end
end Go.Proofs
namespace Go.Proofs
open Go Go.RowKit Go.Maps
section
def gT(p:Int):List (List Int)->Nat->Int
 | [],_=> -1
 |l::r,k=>if l.contains p=true then(k:Int)else gT p r (k+1)
def wF(p:Int)(L:List (List Int))(k:Nat)(h:k<L.length):gT p (L.drop k) k=if L[k].contains p=true then(k:Int)else gT p (L.drop (k+1)) (k+1):=by rw[aV h];rfl
def kP(p:Int):∀(L:List (List Int))(k:Nat),(L.any λl=>l.contains p)=false->gT p L k= -1
 | [],k,_=>rfl
 |l::r,k,h=>by rw[List.any_cons,Bool.or_eq_false_iff]at h;unfold gT;rw[aa (by rw[h.1];simp),kP p r _ h.2]
def kQ(p:Int):∀(L:List (List Int))(k:Nat),(L.any λl=>l.contains p)=true->∃n:Nat,gT p L k=(n:Int)
 | [],k,h=>by cases h
 |l::r,k,h=>by
  unfold gT
  by_cases hl:l.contains p=true
  .rw[aj hl];exact⟨k,rfl⟩
  .rw[aa hl];rw[List.any_cons,show l.contains p=false by simpa using hl,Bool.false_or]at h;exact kQ p r _ h
variable [Lo.St]
end
section
variable [Lo.St]
def cell_of{X:World}{b:Nat}{c:Array Value}{e:TypeId}{fr:Nat×Nat}(h:X.heap[b]?=some (.cells c e fr))(o:Nat){v:Value}(hv:c[o]?=some v:=by rfl):X.cell? ⟨b,o,none⟩=some v:=by unfold World.cell?;simp only[h];rw[hv];rfl
def fS{W:World}{p:Nat}{x y z u:Value}{t:TypeId}{fr:Nat×Nat}(h:W.heap[p]?=some (.cells #[x,y,z,u] t fr)):W.cell? ⟨p,0,none⟩=some x∧W.cell? ⟨p,1,none⟩=some y∧W.cell? ⟨p,2,none⟩=some z∧W.cell? ⟨p,3,none⟩=some u:=⟨cell_of h 0,cell_of h 1,cell_of h 2,cell_of h 3⟩
def cT{w:World}{B:Nat}{b:dO}{v:gJ}(hb:fC w B b v)(hB:B<=w.heap.size):∃X,w.alloc (.cells (lN b v) 40)=X∧X.heap.size=w.heap.size+1∧Below w.heap.size w X∧(∀W,Below X.heap.size X W->fC W B b v)∧
 ∀W,Below X.heap.size X W->W.heap[w.heap.size]?=some (.cells #[.slice v.ah b.dJ.length v.ch,.slice v.ap b.dz.length v.cp,.slice v.iT b.steps.length v.cs,.slice v.ac b.dA.length v.cc] 40):=by
 have s:=World.size_alloc w (.cells (lN b v) 40);have bX:Below w.heap.size w (w.alloc (.cells (lN b v) 40)):=(Below.refl _ _).alloc (Nat.le_refl _) _;exact⟨_,rfl,s,bX, λW hW=>hb.keep λd o h=>dH (bX.trans (hW.mono bX.size)) d o (by omega), λW hW=>(hW.block w.heap.size (by omega)).trans (World.alloc_heap_new _ _)⟩
def jR(w:World)(A:Option Addr)(n:Nat)(o:List Int):Prop:=Rd w w.heap.size 2 A n λi j=>.int .i64 ((o[2*i+j]?).getD 0)
def jR.below{w w':World}{A:Option Addr}{n:Nat}{o:List Int}(h:jR w A n o)(hb:Below w.heap.size w w'):jR w' A n o:= λhn=>by obtain⟨b,off,e,h1,h2⟩:=h hn;exact⟨b,off,e,aK h1 hb.size, λi j hi hj=>(dH hb _ _ h1).trans (h2 i j hi hj)⟩
def uU(o:List Int){n i j:Nat}(hl:o.length=2*n)(hi:i<n)(hj:j<2):(gW o)[i*2+j]?=some (.int .i64 ((o[2*i+j]?).getD 0)):=by rw[show i*2+j=2*i+j from by omega];exact sW o (by omega)
def Lo.vJ{w:World}{B:Nat}{b:dO}{v:gJ}{x:Value}(hx:x=dY b v)(hb:fC w B b v)(hB:B<=w.heap.size)(hg:b.good)(hand:Int)(hh: -1<=hand∧hand<=64)(hho:gN (fA b hand) (dZ b hand)=true):
 Calls Lo.prog 27 #[x,.int .i64 hand] w λe w'=>∃A cap,e=.returned (.tuple #[.slice A (fA b hand).length cap,.int .i64 0])∧(fA b hand).length<=cap∧(∀m,m<=(fA b hand).length->jR w' A m (mG (fA b hand) (dZ b hand)))∧Below w.heap.size w w':=by
 refine(Lo.zR hx hb hB hg hand hh).mono λe w' h=>?_
 unfold qC at h;rw[aj hho]at h;obtain⟨v,rfl,hown,_,hbe⟩:=h;obtain⟨A,cap,rfl,hc,hr⟩:=ownsRow.rd (B:=w'.heap.size) (f:= λi j=>.int .i64 (((mG (fA b hand) (dZ b hand))[2*i+j]?).getD 0)) hown (λi j hi hj=>uU _ (pV _ _) hi hj);exact⟨A,cap,rfl,hc, λm hm=>hr m hm (aJ _),hbe⟩
def Lo.K7{w:World}{B:Nat}{b:dO}{v:gJ}{x:Value}(hx:x=dY b v)(hb:fC w B b v)(hB:B<=w.heap.size)(hg:b.good)(hand:Int)(hh: -1<=hand∧hand<=64)(hho:gN (fA b hand) (dZ b hand)=true):
 Calls Lo.prog 27 #[x,.int .i64 hand] w λe w'=>∃A cap,e=.returned (.tuple #[.slice A (fA b hand).length cap,.int .i64 0])∧(fA b hand).length<=cap∧(∀m,m<=(fA b hand).length->jR w' A m (mG (fA b hand) (dZ b hand)))∧Below w.heap.size w w'∧∀m c,cS.dU w' (.slice A m c):=by
 refine(Lo.zR hx hb hB hg hand hh).mono λe w' h=>?_
 unfold qC at h;rw[aj hho]at h;obtain⟨v,rfl,hown,hpl,hbe⟩:=h;obtain⟨A,cap,rfl,hc,hr⟩:=ownsRow.rd (B:=w'.heap.size) (f:= λi j=>.int .i64 (((mG (fA b hand) (dZ b hand))[2*i+j]?).getD 0)) hown (λi j hi hj=>uU _ (pV _ _) hi hj);exact⟨A,cap,rfl,hc, λm hm=>hr m hm (aJ _),hbe, λ_ _ g hg=>hpl g (by cases A<;>exact hg)⟩
def Lo.Jh{w:World}{B:Nat}{b:dO}{v:gJ}{x:Value}(hx:x=dY b v)(hb:fC w B b v)(hB:B<=w.heap.size)(hg:b.good)(hand:Int)(hh: -1<=hand∧hand<=64)(hho:gN (fA b hand) (dZ b hand)=false):
 Calls Lo.prog 27 #[x,.int .i64 hand] w λe w'=>e=.returned (.tuple #[.slice none 0 0,.int .i64 9])∧Below w.heap.size w w':=by
 refine(Lo.zR hx hb hB hg hand hh).mono λe w' h=>?_
 unfold qC at h;rw[aa (by rw[hho];simp)]at h;exact h
def Lo.gV{w:World}{B:Nat}{b:dO}{v:gJ}{x:Value}(hx:x=dY b v)(hb:fC w B b v)(hB:B<=w.heap.size)(hg:b.small):
 Calls Lo.prog 26 #[x] w λe w'=>e=.returned (.int .i64 (fG b))∧Below w.heap.size w w':=hx ▸ Lo.wE hb hB hg
abbrev qR(b:dO):Bool:=gN (fA b (-1)) (dZ b (-1))
abbrev p8(b:dO):List Int:=mG (fA b (-1)) (dZ b (-1))
def p9(w:World)(b:dO)(e:Ending)(w':World):Prop:=
 Below w.heap.size w w'∧
 if fG b≠0 then e=.returned (.tuple #[.slice none 0 0,.int .i64 (fG b)])
 else if qR b=true then∃A cap,e=.returned (.tuple #[.slice A b.dz.length cap,.int .i64 0])∧jR w' A b.dz.length (p8 b)∧cS.dU w' (.slice A b.dz.length cap)
 else e=.returned (.tuple #[.slice none 0 0,.int .i64 9])
def Lo.K8{w:World}{B:Nat}{b:dO}{v:gJ}{x:Value}(hx:x=dY b v)(hb:fC w B b v)(hB:B<=w.heap.size)(hs:b.small):
 Calls Lo.prog 11 #[x] w (p9 w b):=by
 obtain⟨U,U2,U3,U4,U5,U6⟩:=Lo.facts;have C:=Lo.call Tryz.func26;have C2:=Lo.call Tryz.func27;subst hx;obtain⟨X,hX,sX,bX,hA,hC⟩:=cT hb hB;have HC:=Lib.hid hC;have HA:=Lib.hid hA;have HX:=Lib.hid (And.intro hX bX);clear hX bX hA hC hb;show Calls Lo.prog 11 #[Value.agg (lN b v)] w _;unfold lN;have hy:=HX.out.1;unfold lN at hy;obtain⟨f0,f1,f2,f3⟩:=fS (HC.out X (Below.refl _ _));go_enter Lo.get Tryz.func11,Tryz.ntmps11;go_wp2;refine(Lo.gV (b:=b) (v:=v) rfl (HA.out X (Below.refl _ _)) (by omega) hs).mono ?_
 rintro e w1⟨rfl,h1⟩;obtain⟨g0,g1,g2,g3⟩:=fS (HC.out w1 h1);have s1:=h1.size;have H1:=Lib.hid h1;clear h1 hy f0 f1 f2 f3;unfold p9
 by_cases hcf:fG b=0
 .have hg:=lM hs hcf;have hw1:=yR b (-1);rw[if_neg (by omega)]at hw1;have hwl:b.dz.length<=(fA b (-1)).length:=by omega
  have HF:=Lib.hid hcf;rw[hcf];clear hcf;cases hho:qR b with
  |false=>
   have HH:=Lib.hid hho;clear hho;go_wp2;refine(Lo.Jh (b:=b) (v:=v) rfl (HA.out w1 H1.out) (by omega) hg (-1) (by omega) HH.out).mono ?_
   rintro e w2⟨rfl,hb2⟩;go_wp2
   go_ret2
   exact⟨HX.out.2.trans ((H1.out.trans (hb2.mono s1)).mono (by omega)),by rw[if_neg (by rw[HF.out];simp),if_neg (by rw[HH.out];simp)];rfl⟩
  |true=>
   have HH:=Lib.hid hho;clear hho;go_wp2;refine(Lo.K7 (b:=b) (v:=v) rfl (HA.out w1 H1.out) (by omega) hg (-1) (by omega) HH.out).mono ?_
   rintro e w2⟨A,cap,rfl,hcap,hr,hb2,hpl⟩;have hpc:b.dz.length<=cap:=Nat.le_trans hwl hcap;have k1:=(dH hb2 _ _ (by omega)).trans g1;have HR:=Lib.hid (And.intro (hr _ hwl) (And.intro hpl hb2));clear hr hpl hb2;go_wp2
   go_ret2
   exact⟨HX.out.2.trans ((H1.out.trans (HR.out.2.2.mono s1)).mono (by omega)),by rw[if_neg (by rw[HF.out];simp),if_pos HH.out];exact⟨_,_,rfl,HR.out.1,HR.out.2.1 _ _⟩⟩
 .obtain⟨cx,hcx⟩:∃cx,fG b=cx:=⟨_,rfl⟩;rw[hcx];rw[hcx]at hcf;have HF:=Lib.hid hcx;clear hcx;go_wp2
  go_ret2
  exact⟨HX.out.2.trans (H1.out.mono (by omega)),by rw[if_pos (by rw[HF.out];exact hcf),HF.out];rfl⟩
def qU(o:List Int)(np:Nat):Nat->List Int
 |0=>[]
 |k+1=>qU o np k++ [(o[2*(np+2*k+1)]?).getD 0,(o[2*(np+2*k+1)+1]?).getD 0]
def Dk(o:List Int)(np:Nat):∀k,(qU o np k).length=2*k
 |0=>rfl
 |k+1=>by unfold qU;rw[List.length_append,Dk o np k];simp;omega
abbrev yY(b:dO):List Int:=qU (p8 b) b.dz.length b.steps.length
def qa(w:World)(b:dO)(e:Ending)(w':World):Prop:=
 Below w.heap.size w w'∧
 if fG b≠0 then e=.returned (.tuple #[.slice none 0 0,.int .i64 (fG b)])
 else if qR b=true then∃A cap,e=.returned (.tuple #[.slice A b.steps.length cap,.int .i64 0])∧jR w' A b.steps.length (yY b)∧cS.dU w' (.slice A b.steps.length cap)
 else e=.returned (.tuple #[.slice none 0 0,.int .i64 9])
def Lo.K9{w:World}{B:Nat}{b:dO}{v:gJ}{x:Value}(hx:x=dY b v)(hb:fC w B b v)(hB:B<=w.heap.size)(hs:b.small):
 Calls Lo.prog 16 #[x] w (qa w b):=by
 obtain⟨U,U2,U3,U4,U5,U6⟩:=Lo.facts;have C:=Lo.call Tryz.func26;have C2:=Lo.call Tryz.func27;obtain⟨i0,hi,hz0,hz1,hz2⟩:=info_parts Lo.Rx;subst hx;obtain⟨X,hX,sX,bX,hA,hC⟩:=cT hb hB;have HC:=Lib.hid hC;have HA:=Lib.hid hA;have HX:=Lib.hid (And.intro hX bX);clear hX bX hA hC hb;show Calls Lo.prog 16 #[Value.agg (lN b v)] w _;unfold lN;have hy:=HX.out.1;unfold lN at hy;obtain⟨f0,f1,f2,f3⟩:=fS (HC.out X (Below.refl _ _));go_enter Lo.get Tryz.func16,Tryz.ntmps16;go_wp2;refine(Lo.gV (b:=b) (v:=v) rfl (HA.out X (Below.refl _ _)) (by omega) hs).mono ?_
 rintro e w1⟨rfl,h1⟩;obtain⟨g0,g1,g2,g3⟩:=fS (HC.out w1 h1);have s1:=h1.size;have H1:=Lib.hid h1;clear h1 hy f0 f1 f2 f3;unfold qa
 by_cases hcf:fG b=0
 .have hg:=lM hs hcf;have hw1:=yR b (-1);rw[if_neg (by omega),Nat.add_zero]at hw1;have qT:=hg.n8;have bk:=hg.eV;have HF:=Lib.hid hcf;rw[hcf];clear hcf;cases hho:qR b with
  |false=>
   have HH:=Lib.hid hho;clear hho;go_wp2;refine(Lo.Jh (b:=b) (v:=v) rfl (HA.out w1 H1.out) (by omega) hg (-1) (by omega) HH.out).mono ?_
   rintro e w2⟨rfl,hb2⟩;go_wp2
   go_ret2
   exact⟨HX.out.2.trans ((H1.out.trans (hb2.mono s1)).mono (by omega)),by rw[if_neg (by rw[HF.out];simp),if_neg (by rw[HH.out];simp)];rfl⟩
  |true=>
   have HH:=Lib.hid hho;clear hho;go_wp2;refine(Lo.vJ (b:=b) (v:=v) rfl (HA.out w1 H1.out) (by omega) hg (-1) (by omega) HH.out).mono ?_
   rintro e w2⟨A,cap,rfl,hcap,hr,hb2⟩;rw[hw1];rw[hw1]at hcap hr;have HR:=Lib.hid (hr _ (Nat.le_refl _));have k1:=(dH hb2 _ _ (by omega)).trans g1;have k2:=(dH hb2 _ _ (by omega)).trans g2;clear hr;have sk:w.heap.size+1<=w2.heap.size:=by have :=hb2.size;omega
   have I8:=Lib.hid (HX.out.2.trans ((H1.out.trans (hb2.mono s1)).mono (by omega)));have hol:(p8 b).length=2*(b.dz.length+2*b.steps.length):=(pV _ _).trans (by rw[hw1]);generalize hos:mG (fA b (-1)) (dZ b (-1))=os at HR hol;have HOS:=Lib.hid hos;clear hb2 hos;go_wp2
   go_loopw [7,25] (λv i wr=>∃k:Nat,k<=b.steps.length∧i=.int .i64 (k:Int)∧wr.ownsRow w2.heap.size 33 2 v k (gW (qU os b.dz.length k))∧cS.dU wr v∧Below w2.heap.size w2 wr) (λ_ i _=>b.steps.length-(intOf i).toNat)
   case atStart=>exact⟨0,Nat.zero_le _,rfl,by simpa[qU,gW]using World.ownsRow_nil w2 w2.heap.size 33 2,cS.dU.nil _,Below.refl _ _⟩
   case round=>
    obtain⟨k,hk,rfl,hown,hpl,hb⟩:=hrel;have HP:=Lib.hid hpl;clear hpl
    by_cases hlt:k<b.steps.length
    .have hlt':(k:Int)<(b.steps.length:Int):=by omega
     obtain⟨bb,off,rfl,hbb,hc⟩:=(HR.out.below hb) (by omega);have g0:wr.cell? ⟨bb,off+(b.dz.length+2*k+1)*2,none⟩=some (.int .i64 ((os[2*(b.dz.length+2*k+1)+0]?).getD 0)):=hc (b.dz.length+2*k+1) 0 (by omega) (by omega);have g1:wr.cell? ⟨bb,off+(b.dz.length+2*k+1)*2+1,none⟩=some (.int .i64 ((os[2*(b.dz.length+2*k+1)+1]?).getD 0)):=hc (b.dz.length+2*k+1) 1 (by omega) (by omega);have hin:qU os b.dz.length (k+1)=qU os b.dz.length k++ [(os[2*(b.dz.length+2*k+1)+0]?).getD 0,(os[2*(b.dz.length+2*k+1)+1]?).getD 0]:=rfl;generalize(os[2*(b.dz.length+2*k+1)+0]?).getD 0=y0 at g0 hin;generalize(os[2*(b.dz.length+2*k+1)+1]?).getD 0=y1 at g1 hin;have e0:wr.cell? ⟨bb,off+(b.dz.length+2*k+1)*2,none⟩=some (.int .i64 y0):=g0;have e1:wr.cell? ⟨bb,off+(b.dz.length+2*k+1)*2+1,none⟩=some (.int .i64 y1):=g1;have d1:wr.cell? ⟨w.heap.size,1,none⟩=some (.slice v.ap b.dz.length v.cp):=(dH hb _ _ (by omega)).trans k1;have Yw:=hb.size;have HB:=Lib.hid hb;have HI:=Lib.hid hin;clear hb hc hin g0 g1
     go_wp2_with(first
      |(at_builtin;refine cS.fZ rfl _ _ 23 rfl w2.heap.size 33 i0 (.agg #[.int .i64 0,.int .i64 0]) 2 16 Lo.WS hi hz0 hz1 hz2 rfl (by decide) _ _ _ rfl (hown.alloc _) ⟨wr.heap.size,0,none⟩ 1 1 [.int .i64 y0,.int .i64 y1] rfl rfl ?c1 ?c2 ?c3 ?c4 ?c5 (HP.out.alloc _) ?c6 ?c7 ?_)
      |go_in)
     case c1=>
      intro j u hj
      match j,hj with
      |0,hj=>simp at hj;subst hj;simp[Addr.add]
      |1,hj=>simp at hj;subst hj;simp[Addr.add]
     case c2=>intro u hu;simp at hu;rcases hu with rfl|rfl<;>rfl
     case c3=>unfold maxLen;omega
     case c4=>omega
     case c5=>simp;omega
     case c6=>intro u hu;simp at hu;rcases hu with rfl|rfl<;>rfl
     case c7=>intro u hu;simp[Value.cells]at hu;subst hu;rfl
     intro v' w3 hown' hgrow _ hp';have Rw:=Lib.hid hp';clear hp';have R:=Lib.hid ((HB.out.alloc Yw _).grown hgrow (by simp;omega) (λj hj=>(hown.lt j hj).1));have RO:=Lib.hid hown';clear hown' hgrow hown HB;go_wp2;go_roundw
     case rel=>exact⟨k+1,by omega,by go_num,by rw[HI.out];simpa[gW]using RO.out,Rw.out,R.out⟩
     case measure=>simp[intOf];omega
    .obtain rfl:k=b.steps.length:=by omega
     obtain⟨A2,cap2,rfl,_,hr2⟩:=ownsRow.rd (B:=wr.heap.size) (f:= λi j=>.int .i64 (((qU os b.dz.length b.steps.length)[2*i+j]?).getD 0)) hown (λi j hi hj=>uU _ (Dk _ _ _) hi hj);have HR2:=Lib.hid (hr2 _ (Nat.le_refl _) (Nat.le_refl _));clear hr2 hown;go_wp2
     go_ret2
     show qa _ _ _ _;unfold qa;rw[if_neg (by rw[HF.out];simp),if_pos HH.out];refine⟨I8.out.trans (hb.mono (by omega)),_,_,rfl,?_,HP.out⟩;show jR wr _ _ (qU (mG (fA b (-1)) (dZ b (-1))) _ _);rw[HOS.out];exact HR2.out
 .obtain⟨cx,hcx⟩:∃cx,fG b=cx:=⟨_,rfl⟩;rw[hcx];rw[hcx]at hcf;have HF:=Lib.hid hcx;clear hcx;go_wp2
  go_ret2
  exact⟨HX.out.2.trans (H1.out.mono (by omega)),by rw[if_pos (by rw[HF.out];exact hcf),HF.out];rfl⟩
def Lo.R3:Lo.prog.underlying 52=some (.slice 64):=(Lo.underlying 52).trans (by kernel_rfl)
def Lo.YI:(Lo.prog.info? 64).map (λi=>(i.zero,i.size,i.bytes))=some (some (.int .i64 0),1,8):=by rw[Lo.info];kernel_rfl
def nU(lo hi limit:Int):Int:=if limit<lo then 1 else if hi<=limit then 2 else 0
abbrev zS(b:dO)(h:Nat):List Int:=mG (fA b h) (dZ b h)
def oG(b:dO)(limit:Int):Nat->List Int
 |0=>[]
 |h+1=>oG b limit h++ [nU (((zS b h)[2*(b.dz.length+2*b.steps.length)+0]?).getD 0) (((zS b h)[2*(b.dz.length+2*b.steps.length)+1]?).getD 0) limit]
def uV(b:dO)(limit:Int):∀h,(oG b limit h).length=h
 |0=>rfl
 |h+1=>by unfold oG;rw[List.length_append,uV b limit h];rfl
abbrev zT(b:dO)(limit:Int):List Int:=oG b limit b.dJ.length
def kz(w:World)(b:dO)(limit:Int)(e:Ending)(w':World):Prop:=
 Below w.heap.size w w'∧
 if fG b≠0 then e=.returned (.tuple #[.slice none 0 0,.int .i64 (fG b)])
 else if kH limit 0 1000000=false then e=.returned (.tuple #[.slice none 0 0,.int .i64 1])
 else if qR b=true then∃A cap,e=.returned (.tuple #[.slice A b.dJ.length cap,.int .i64 0])∧xJ w' w'.heap.size A (zT b limit)∧cS.dU w' (.slice A b.dJ.length cap)
 else e=.returned (.tuple #[.slice none 0 0,.int .i64 9])
def Ji(o:List Int){i:Nat}(hi:i<o.length):(gW o)[i*1+0]?=some (.int .i64 ((o[i]?).getD 0)):=by rw[Nat.mul_one,aH];exact sW o hi
def Gt{b:dO}(h:fG b=0):b.dJ.length<=4:=tY (EP h).1
def Lo.O0{w:World}{B:Nat}{b:dO}{v:gJ}{x:Value}(hx:x=dY b v)(hb:fC w B b v)(hB:B<=w.heap.size)(hs:b.small)(limit:Int)(YJ:fG b=0->qR b=true->∀h:Nat,h<b.dJ.length->gN (fA b h) (dZ b h)=true):
 Calls Lo.prog 17 #[x,.int .i64 limit] w (kz w b limit):=by
 obtain⟨U,U2,U3,U4,U5,U6⟩:=Lo.facts;have C:=Lo.call Tryz.func26;have C2:=Lo.call Tryz.func27;have C3:=Lo.call Tryz.func32;have C4:=Lo.call Tryz.func33;have C5:=Lo.call Tryz.func34;obtain⟨i0,hi,hz0,hz1,hz2⟩:=info_parts Lo.YI;subst hx;obtain⟨X,hX,sX,bX,hA,hC⟩:=cT hb hB;have HC:=Lib.hid hC;have HA:=Lib.hid hA;have HX:=Lib.hid (And.intro hX bX);clear hX bX hA hC hb;show Calls Lo.prog 17 #[Value.agg (lN b v),.int .i64 limit] w _;unfold lN;have hy:=HX.out.1;unfold lN at hy;obtain⟨f0,f1,f2,f3⟩:=fS (HC.out X (Below.refl _ _));go_enter Lo.get Tryz.func17,Tryz.ntmps17;go_wp2;refine(Lo.gV (b:=b) (v:=v) rfl (HA.out X (Below.refl _ _)) (by omega) hs).mono ?_
 rintro e w1⟨rfl,h1⟩;obtain⟨g0,g1,g2,g3⟩:=fS (HC.out w1 h1);have s1:=h1.size;have H1:=Lib.hid h1;clear h1 hy f0 f1 f2 f3;unfold kz
 by_cases hcf:fG b=0
 .have hg:=lM hs hcf;have hnh:=Gt hcf;have hnd:=Dh b (-1) hg;have HF:=Lib.hid hcf;have tk:=Lib.hid (YJ hcf);rw[hcf];clear hcf YJ;go_wp2;refine(Lo.eB _ _ _ _).mono ?_
  rintro e w2⟨rfl,rfl⟩;cases hbt:kH limit 0 1000000 with
  |false=>
   have zk:=Lib.hid hbt;clear hbt;go_wp2
   go_ret2
   exact⟨HX.out.2.trans (H1.out.mono (by omega)),by rw[if_neg (by rw[HF.out];simp),if_pos zk.out];rfl⟩
  |true=>
   have zk:=Lib.hid hbt;clear hbt;go_wp2;refine(Lo.vH (b:=b) (v:=v) rfl (HA.out w1 H1.out) (by omega) hg (-1) (by omega)).mono ?_
   rintro e w3⟨bw,A,cap,rfl,hw,hb3⟩;have s3:=hb3.size;have gc:=H1.out.trans (hb3.mono s1);clear g0 g1 g2 g3;obtain⟨g0,g1,g2,g3⟩:=fS (HC.out w3 gc);have H3:=Lib.hid (And.intro hw gc);clear hw hb3 gc;go_wp2;refine(Lo.oK H3.out.1 (Nat.le_refl _) hnd).mono ?_
   rintro e w4⟨rfl,hb4⟩;have h4:=H3.out.2.trans (hb4.mono (by omega))
   have hcb:∀j:Nat,w4.cell? ⟨w.heap.size,j,none⟩=(lN b v)[j]?:= λj=>by have h:=HC.out w4 h4;unfold World.cell?;simp only[h];rfl
   have s4:=h4.size;clear g0 g1 g2 g3;obtain⟨g0,g1,g2,g3⟩:=fS (HC.out w4 h4);have I8:=Lib.hid (HX.out.2.trans (h4.mono (by omega)));have vG:=Lib.hid (HA.out w4 h4);have Wc:=Lib.hid hcb;clear hcb h4 hb4;unfold lN at Wc;cases hho:gN (fA b (-1)) (dZ b (-1))with
   |false=>
    have HH:=Lib.hid hho;clear hho;go_wp2
    go_ret2
    exact⟨I8.out,by rw[if_neg (by rw[HF.out];simp),if_neg (by rw[zk.out];simp),if_neg (by show¬gN (fA b (-1)) (dZ b (-1))=true;rw[HH.out];simp)];rfl⟩
   |true=>
    have HH:=Lib.hid hho;clear hho;have qT:=hg.n8;have bk:=hg.eV;have sk:w.heap.size+1<=w4.heap.size:=by omega
    go_wp2
    go_loopw [7,28] (λu i wr=>∃k:Nat,k<=b.dJ.length∧i=.int .i64 (k:Int)∧wr.ownsRow w4.heap.size 64 1 u k (gW (oG b limit k))∧cS.dU wr u∧Below w4.heap.size w4 wr) (λ_ i _=>b.dJ.length-(intOf i).toNat)
    case atStart=>exact⟨0,Nat.zero_le _,rfl,by simpa[oG,gW]using World.ownsRow_nil w4 w4.heap.size 64 1,cS.dU.nil _,Below.refl _ _⟩
    case round=>
     obtain⟨k,hk,rfl,hown,hpl,hb⟩:=hrel;have HP:=Lib.hid hpl;have HO:=Lib.hid hown;have HB:=Lib.hid hb;clear hpl hown hb
     by_cases hlt:k<b.dJ.length
     .have hlt':(k:Int)<(b.dJ.length:Int):=by omega
      have hwl:=yR b k;rw[if_pos (by omega)]at hwl;have e0:=(dH HB.out w.heap.size 0 (by omega)).trans (Wc.out 0);have e1:=(dH HB.out w.heap.size 1 (by omega)).trans (Wc.out 1);have e2:=(dH HB.out w.heap.size 2 (by omega)).trans (Wc.out 2);have e3:=(dH HB.out w.heap.size 3 (by omega)).trans (Wc.out 3);have Yw:=HB.out.size;have hj:oG b limit (k+1)=oG b limit k++ [nU (((zS b k)[2*(b.dz.length+2*b.steps.length)+0]?).getD 0) (((zS b k)[2*(b.dz.length+2*b.steps.length)+1]?).getD 0) limit]:=rfl;generalize hy0:((zS b k)[2*(b.dz.length+2*b.steps.length)+0]?).getD 0=y0 at hj;generalize hy1:((zS b k)[2*(b.dz.length+2*b.steps.length)+1]?).getD 0=y1 at hj;have Y0:=Lib.hid hy0;have Y1:=Lib.hid hy1;have HJ:=Lib.hid hj;clear hj hy0 hy1
      by_cases q0:limit<y0
      .have hq:nU y0 y1 limit=1:=by unfold nU;rw[if_pos q0]
       have HQ:=Lib.hid hq;clear hq
       go_wp2_with(first
        |(go_at_call 27;refine(Lo.vJ rfl (vG.out.keep λb o h=>dH HB.out b o (by omega)) (by omega) hg k (by omega) (tk.out HH.out k hlt)).mono ?_;rintro e w5⟨A5,cap5,rfl,hcap,hr,hb5⟩;rw[hwl];rw[hwl]at hr;have hr:=hr _ (Nat.le_refl _);obtain⟨bb,off,rfl,hbb,hc⟩:=hr (by omega);have g0:w5.cell? ⟨bb,off+(b.dz.length+2*b.steps.length)*2,none⟩=some (.int .i64 y0):=by rw[<-Y0.out];exact hc (b.dz.length+2*b.steps.length) 0 (by omega) (by omega)
          have g1:w5.cell? ⟨bb,off+(b.dz.length+2*b.steps.length)*2+1,none⟩=some (.int .i64 y1):=by rw[<-Y1.out];exact hc (b.dz.length+2*b.steps.length) 1 (by omega) (by omega)
          have s5:wr.heap.size<=w5.heap.size:=hb5.size;have D6:=Lib.hid hb5;clear hb5 hc hr)
        |(at_builtin;refine cS.fZ rfl _ _ 52 rfl w4.heap.size 64 i0 (.int .i64 0) 1 8 Lo.R3 hi hz0 hz1 hz2 rfl (by decide) _ _ _ rfl (((ownsRow.below HO.out D6.out).alloc _).alloc _) ⟨w5.heap.size+1,0,none⟩ 1 1 [.int .i64 1] rfl rfl (by intro j u hj;match j,hj with |0,hj=>simp at hj;subst hj;simp[Addr.add]) (by intro u hu;simp at hu;subst hu;rfl) (by unfold maxLen;omega) (by omega) (by simp;omega) (((HP.out.keep λg hg=>D6.out.block g (HO.out.lt g hg).2).alloc _).alloc _) (by intro u hu;simp at hu;subst hu;rfl) (by intro u hu;simp[Value.cells]at hu;subst hu;rfl) ?_
          intro v' w6 hown' hgrow _ hp';have Rw:=Lib.hid hp';have Vj:=Lib.hid hown';have HG:=Lib.hid hgrow;clear hp' hown' hgrow)
        |go_in)
       go_roundw
       case rel=>exact⟨k+1,by omega,by go_num,by rw[HJ.out,HQ.out];simpa[gW]using Vj.out,Rw.out,(((HB.out.trans (D6.out.mono (by omega))).alloc (by omega) _).alloc (by simp;omega) _).grown HG.out (by simp;omega) (λj hj=>(HO.out.lt j hj).1)⟩
       case measure=>simp[intOf];omega
      .by_cases q1:y1<=limit
       .have hq:nU y0 y1 limit=2:=by unfold nU;rw[if_neg q0,if_pos q1]
        have HQ:=Lib.hid hq;clear hq
        go_wp2_with(first
         |(go_at_call 27;refine(Lo.vJ rfl (vG.out.keep λb o h=>dH HB.out b o (by omega)) (by omega) hg k (by omega) (tk.out HH.out k hlt)).mono ?_;rintro e w5⟨A5,cap5,rfl,hcap,hr,hb5⟩;rw[hwl];rw[hwl]at hr;have hr:=hr _ (Nat.le_refl _);obtain⟨bb,off,rfl,hbb,hc⟩:=hr (by omega);have g0:w5.cell? ⟨bb,off+(b.dz.length+2*b.steps.length)*2,none⟩=some (.int .i64 y0):=by rw[<-Y0.out];exact hc (b.dz.length+2*b.steps.length) 0 (by omega) (by omega)
           have g1:w5.cell? ⟨bb,off+(b.dz.length+2*b.steps.length)*2+1,none⟩=some (.int .i64 y1):=by rw[<-Y1.out];exact hc (b.dz.length+2*b.steps.length) 1 (by omega) (by omega)
           have s5:wr.heap.size<=w5.heap.size:=hb5.size;have D6:=Lib.hid hb5;clear hb5 hc hr)
         |(at_builtin;refine cS.fZ rfl _ _ 52 rfl w4.heap.size 64 i0 (.int .i64 0) 1 8 Lo.R3 hi hz0 hz1 hz2 rfl (by decide) _ _ _ rfl (((ownsRow.below HO.out D6.out).alloc _).alloc _) ⟨w5.heap.size+1,0,none⟩ 1 1 [.int .i64 2] rfl rfl (by intro j u hj;match j,hj with |0,hj=>simp at hj;subst hj;simp[Addr.add]) (by intro u hu;simp at hu;subst hu;rfl) (by unfold maxLen;omega) (by omega) (by simp;omega) (((HP.out.keep λg hg=>D6.out.block g (HO.out.lt g hg).2).alloc _).alloc _) (by intro u hu;simp at hu;subst hu;rfl) (by intro u hu;simp[Value.cells]at hu;subst hu;rfl) ?_
           intro v' w6 hown' hgrow _ hp';have Rw:=Lib.hid hp';have Vj:=Lib.hid hown';have HG:=Lib.hid hgrow;clear hp' hown' hgrow)
         |go_in)
        go_roundw
        case rel=>exact⟨k+1,by omega,by go_num,by rw[HJ.out,HQ.out];simpa[gW]using Vj.out,Rw.out,(((HB.out.trans (D6.out.mono (by omega))).alloc (by omega) _).alloc (by simp;omega) _).grown HG.out (by simp;omega) (λj hj=>(HO.out.lt j hj).1)⟩
        case measure=>simp[intOf];omega
       .have hq:nU y0 y1 limit=0:=by unfold nU;rw[if_neg q0,if_neg q1]
        have HQ:=Lib.hid hq;clear hq
        go_wp2_with(first
         |(go_at_call 27;refine(Lo.vJ rfl (vG.out.keep λb o h=>dH HB.out b o (by omega)) (by omega) hg k (by omega) (tk.out HH.out k hlt)).mono ?_;rintro e w5⟨A5,cap5,rfl,hcap,hr,hb5⟩;rw[hwl];rw[hwl]at hr;have hr:=hr _ (Nat.le_refl _);obtain⟨bb,off,rfl,hbb,hc⟩:=hr (by omega);have g0:w5.cell? ⟨bb,off+(b.dz.length+2*b.steps.length)*2,none⟩=some (.int .i64 y0):=by rw[<-Y0.out];exact hc (b.dz.length+2*b.steps.length) 0 (by omega) (by omega)
           have g1:w5.cell? ⟨bb,off+(b.dz.length+2*b.steps.length)*2+1,none⟩=some (.int .i64 y1):=by rw[<-Y1.out];exact hc (b.dz.length+2*b.steps.length) 1 (by omega) (by omega)
           have s5:wr.heap.size<=w5.heap.size:=hb5.size;have D6:=Lib.hid hb5;clear hb5 hc hr)
         |(at_builtin;refine cS.fZ rfl _ _ 52 rfl w4.heap.size 64 i0 (.int .i64 0) 1 8 Lo.R3 hi hz0 hz1 hz2 rfl (by decide) _ _ _ rfl (((ownsRow.below HO.out D6.out).alloc _).alloc _) ⟨w5.heap.size+1,0,none⟩ 1 1 [.int .i64 0] rfl rfl (by intro j u hj;match j,hj with |0,hj=>simp at hj;subst hj;simp[Addr.add]) (by intro u hu;simp at hu;subst hu;rfl) (by unfold maxLen;omega) (by omega) (by simp;omega) (((HP.out.keep λg hg=>D6.out.block g (HO.out.lt g hg).2).alloc _).alloc _) (by intro u hu;simp at hu;subst hu;rfl) (by intro u hu;simp[Value.cells]at hu;subst hu;rfl) ?_
           intro v' w6 hown' hgrow _ hp';have Rw:=Lib.hid hp';have Vj:=Lib.hid hown';have HG:=Lib.hid hgrow;clear hp' hown' hgrow)
         |go_in)
        go_roundw
        case rel=>exact⟨k+1,by omega,by go_num,by rw[HJ.out,HQ.out];simpa[gW]using Vj.out,Rw.out,(((HB.out.trans (D6.out.mono (by omega))).alloc (by omega) _).alloc (by simp;omega) _).grown HG.out (by simp;omega) (λj hj=>(HO.out.lt j hj).1)⟩
        case measure=>simp[intOf];omega
     .obtain rfl:k=b.dJ.length:=by omega
      obtain⟨A2,cap2,rfl,_,hr2⟩:=ownsRow.rd (B:=wr.heap.size) (f:= λi _=>.int .i64 (((oG b limit b.dJ.length)[i]?).getD 0)) HO.out (λi j hi hj=>(show j=0 by omega) ▸ Ji _ (by rw[uV];exact hi));have HR2:=Lib.hid (hr2 _ (Nat.le_refl _) (Nat.le_refl _));clear hr2;go_wp2
      go_ret2
      show kz _ _ _ _ _;unfold kz;rw[if_neg (by rw[HF.out];simp),if_neg (by rw[zk.out];simp),if_pos HH.out];refine⟨I8.out.trans (HB.out.mono (by omega)),_,_,rfl,?_,HP.out⟩;have :=HR2.out;unfold xJ;rw[uV];exact this
 .obtain⟨cx,hcx⟩:∃cx,fG b=cx:=⟨_,rfl⟩;rw[hcx];rw[hcx]at hcf;have HF:=Lib.hid hcx;clear hcx;go_wp2
  go_ret2
  exact⟨HX.out.2.trans (H1.out.mono (by omega)),by rw[if_pos (by rw[HF.out];exact hcf),HF.out];rfl⟩
def Be(b:dO)(k:Nat):dO:={ b with dA:=b.dA.take k }
def rV(b:dO):Nat->Nat->Int
 |0,_=> -1
 |f+1,k=>if qR (Be b k)=false then(k:Int)-1 else rV b f (k+1)
def Gv(b:dO):Int:=rV b (b.dA.length+1) 0
def YK{w:World}{B:Nat}{b:dO}{v:gJ}(h:fC w B b v)(k:Nat)(hk:k<=b.dA.length):fC w B (Be b k) v:=by
 have e:(b.dA.take k).length=k:=by rw[List.length_take];omega
 refine⟨h.dJ,h.dz,h.steps,h.ins,h.outs, λhn=>?_,h.lh,h.lp,h.ls,by have :=h.lc;show(b.dA.take k).length<=_;omega⟩;have hn:0<(b.dA.take k).length:=hn;obtain⟨bb,off,e1,h1,h2⟩:=h.dA (by omega);refine⟨bb,off,e1,h1, λi j hi hj=>?_⟩;have hi:i<(b.dA.take k).length:=hi;rw[h2 i j (by omega) hj];show _=some (vD (b.dA.take k) i j);unfold vD;rw[List.getElem?_take_of_lt (by omega)]
def R5{b:dO}(h:b.good)(k:Nat):(Be b k).good:=
 ⟨⟨h.dJ,h.dz,h.steps,by have :=h.dA;show(b.dA.take k).length<=64;rw[List.length_take];omega,h.ins,h.outs⟩,h.n8,h.eV, λs hs=>h.sc s (bE hs),h.st,h.ki,h.ko⟩
def Vo{w:World}{b:Nat}{x y z u:Value}{t:TypeId}(h:w.heap[b]?=some (.cells #[x,y,z,u] t)):w.cell? ⟨b,0,none⟩=some x∧w.cell? ⟨b,1,none⟩=some y∧w.cell? ⟨b,2,none⟩=some z∧w.cell? ⟨b,3,none⟩=some u∧w.frozen? ⟨b,3,none⟩=false:=by unfold World.cell? World.frozen?;simp only[h];exact⟨rfl,rfl,rfl,rfl,rfl⟩
def O1{w:World}{b:Nat}{x y z u u':Value}{t:TypeId}(h:w.heap[b]?=some (.cells #[x,y,z,u] t)):(w.setCell ⟨b,3,none⟩ u').heap[b]?=some (.cells #[x,y,z,u'] t):=heap_setCell_same w b 3 _ _ u' h
def nC(w:World)(b:dO)(e:Ending)(w':World):Prop:=
 Below w.heap.size w w'∧if fG b≠0 then e=.returned (.tuple #[.int .i64 0,.int .i64 (fG b)])else e=.returned (.tuple #[.int .i64 (Gv b),.int .i64 0])
def Lo.O3{w:World}{B:Nat}{b:dO}{v:gJ}{x:Value}(hx:x=dY b v)(hb:fC w B b v)(hB:B<=w.heap.size)(hs:b.small):
 Calls Lo.prog 18 #[x] w (nC w b):=by
 obtain⟨U,U2,U3,U4,U5,U6⟩:=Lo.facts;have C:=Lo.call Tryz.func26;have C2:=Lo.call Tryz.func33;have C3:=Lo.call Tryz.func34;have hlc:b.dA.length<=v.cc:=hb.lc;have HB0:=Lib.hid hb;have hl4:=hs.dA;subst hx;obtain⟨X,hX,sX,bX,hA,hC⟩:=cT hb hB;have HC:=Lib.hid hC;have HA:=Lib.hid hA;have HX:=Lib.hid (And.intro hX bX);clear hX bX hA hC hb;show Calls Lo.prog 18 #[Value.agg (lN b v)] w _;unfold lN;have hy:=HX.out.1;unfold lN at hy;obtain⟨f0,f1,f2,f3⟩:=fS (HC.out X (Below.refl _ _));go_enter Lo.get Tryz.func18,Tryz.ntmps18;go_wp2;refine(Lo.gV (b:=b) (v:=v) rfl (HA.out X (Below.refl _ _)) (by omega) hs).mono ?_
 rintro e w1⟨rfl,h1⟩;obtain⟨g0,g1,g2,g3⟩:=fS (HC.out w1 h1);have s1:=h1.size;have H1:=Lib.hid h1;clear h1 hy f0 f1 f2 f3;unfold nC
 by_cases hcf:fG b=0
 .have hg:=lM hs hcf;have HF:=Lib.hid hcf;rw[hcf];clear hcf;have dv:=Lib.hid (And.intro (HC.out w1 H1.out) (HX.out.2.trans (H1.out.mono (by omega))));have sk:w.heap.size+1<=w1.heap.size:=by omega
  go_wp2
  go_loopw [17] (λi wr=>∃k:Nat,∃x,k<=b.dA.length+1∧i=.int .i64 (k:Int)∧wr.heap[w.heap.size]?=some (.cells #[.slice v.ah b.dJ.length v.ch,.slice v.ap b.dz.length v.cp,.slice v.iT b.steps.length v.cs,x] 40)∧Below w.heap.size w wr∧w.heap.size+1<=wr.heap.size∧rV b (b.dA.length+1-k) k=Gv b) (λi _=>b.dA.length+1-(intOf i).toNat)
  case atStart=>exact⟨0,_,Nat.zero_le _,rfl,dv.out.1,dv.out.2,sk,rfl⟩
  case round=>
   obtain⟨k,x,hk,rfl,hbx,hb,hsz,wK⟩:=hrel
   by_cases hlt:k<b.dA.length+1
   .have hlt':(k:Int)<(b.dA.length:Int)+1:=by omega
    have hkn:k<=b.dA.length:=by omega
    have hkc:k<=v.cc:=by omega
    have hd:rV b (b.dA.length+1-k) k=if qR (Be b k)=false then(k:Int)-1 else rV b (b.dA.length+1-(k+1)) (k+1):=by rw[show b.dA.length+1-k=(b.dA.length-k)+1 from by omega,show b.dA.length+1-(k+1)=b.dA.length-k from by omega];rfl
    rw[wK]at hd;obtain⟨e0,e1,e2,e3,ef⟩:=Vo hbx;have nE:=O1 (u':=.slice v.ac k v.cc) hbx;have hbk:fC (wr.setCell ⟨w.heap.size,3,none⟩ (.slice v.ac k v.cc)) B (Be b k) v:=(YK HB0.out k hkn).keep λb o h=>(World.cell?_of_block (Below.heap_setCell _ _ _ _ (by show b≠w.heap.size;omega))).trans (dH hb b o (by omega))
    have hbs:Below w.heap.size w (wr.setCell ⟨w.heap.size,3,none⟩ (.slice v.ac k v.cc)):=hb.setCell (p:=⟨w.heap.size,3,none⟩) (Nat.le_refl _) _;have hss:(wr.setCell ⟨w.heap.size,3,none⟩ (.slice v.ac k v.cc)).heap.size=wr.heap.size:=by simp[World.setCell]
    have Bk:=R5 hg k;have hnd:=Dh (Be b k) (-1) Bk;have R6:Value.agg #[.slice v.ah b.dJ.length v.ch,.slice v.ap b.dz.length v.cp,.slice v.iT b.steps.length v.cs,.slice v.ac k v.cc]=dY (Be b k) v:=by unfold dY Be;rw[List.length_take,Nat.min_eq_left hkn]
    have HD:=Lib.hid hd;have HS:=Lib.hid nE;have gv:=Lib.hid hbk;have th:=Lib.hid hbs;have iy:=Lib.hid R6;clear hd nE hbk hbs R6 wK hbx hb;cases hho:gN (fA (Be b k) (-1)) (dZ (Be b k) (-1))with
    |false=>
     have HH:=Lib.hid hho;clear hho
     go_wp2_with(first
      |(go_at_call 33;refine(Lo.vH iy.out gv.out (by omega) Bk (-1) (by omega)).mono ?_;rintro e w3⟨bw,A,cap,rfl,hw,hb3⟩;have HW:=Lib.hid hw;have HB3:=Lib.hid hb3;clear hw hb3)
      |(go_at_call 34;refine(Lo.oK HW.out (Nat.le_refl _) hnd).mono ?_;rintro e w4⟨rfl,hb4⟩;rw[HH.out]))
     go_ret2
     show nC _ _ _ _;unfold nC;rw[if_neg (by rw[HF.out];simp)];refine⟨(th.out.trans (HB3.out.mono (by omega))).trans (hb4.mono (by have :=HB3.out.size;omega)),?_⟩;have :=HD.out;rw[if_pos HH.out]at this;rw[this];rfl
    |true=>
     have HH:=Lib.hid hho;clear hho
     go_wp2_with(first
      |(go_at_call 33;refine(Lo.vH iy.out gv.out (by omega) Bk (-1) (by omega)).mono ?_;rintro e w3⟨bw,A,cap,rfl,hw,hb3⟩;have HW:=Lib.hid hw;have HB3:=Lib.hid hb3;clear hw hb3)
      |(go_at_call 34;refine(Lo.oK HW.out (Nat.le_refl _) hnd).mono ?_;rintro e w4⟨rfl,hb4⟩;rw[HH.out];have vR:=Lib.hid hb4;clear hb4))
     have s3:=HB3.out.size;have s4:=vR.out.size;go_roundw
     case rel=>exact⟨k+1,_,by omega,by go_num,(vR.out.block _ (by omega)).trans ((HB3.out.block _ (by omega)).trans HS.out),(th.out.trans (HB3.out.mono (by omega))).trans (vR.out.mono (by omega)),by omega,by have :=HD.out;rw[if_neg (by show¬gN (fA (Be b k) (-1)) (dZ (Be b k) (-1))=false;rw[HH.out];simp)]at this;exact this.symm⟩
     case measure=>simp[intOf];omega
   .obtain rfl:k=b.dA.length+1:=by omega
    have hf:Gv b= -1:=by rw[<-wK,Nat.sub_self];rfl
    have HFF:=Lib.hid hf;clear hf wK;go_wp2
    go_ret2
    show nC _ _ _ _;unfold nC;rw[if_neg (by rw[HF.out];simp),HFF.out];exact⟨hb,rfl⟩
 .obtain⟨cx,hcx⟩:∃cx,fG b=cx:=⟨_,rfl⟩;rw[hcx];rw[hcx]at hcf;have HF:=Lib.hid hcx;clear hcx;go_wp2
  go_ret2
  exact⟨HX.out.2.trans (H1.out.mono (by omega)),by rw[if_pos (by rw[HF.out];exact hcf),HF.out];rfl⟩
end
section
def nZ(l:List Obj)(w:World):World:=l.foldl (λw o=>w.alloc o) w
def qD:∀(l:List Obj)(w:World),(nZ l w).heap.size=w.heap.size+l.length
 | [],w=>rfl
 |o::l,w=>by show(nZ l (w.alloc o)).heap.size=_;rw[qD l,show(w.alloc o).heap.size=w.heap.size+1 from Array.size_push ..];simp;omega
def Dl:∀(l:List Obj)(w:World)(b:Nat),b<w.heap.size->(nZ l w).heap[b]?=w.heap[b]?
 | [],w,b,_=>rfl
 |o::l,w,b,h=>by
  show(nZ l (w.alloc o)).heap[b]?=_
  rw[Dl l _ b (by rw[show(w.alloc o).heap.size=w.heap.size+1 from Array.size_push ..];omega)];exact cZ _ _ _ h
def jT:∀(l:List Obj)(w:World)(k:Nat),k<l.length->(nZ l w).heap[w.heap.size+k]?=l[k]?
 | [],w,k,h=>by simp at h
 |o::l,w,0,h=>by
  show(nZ l (w.alloc o)).heap[w.heap.size]?=_
  rw[Dl l _ _ (by rw[show(w.alloc o).heap.size=w.heap.size+1 from Array.size_push ..];omega)];show(w.heap.push o)[w.heap.size]?=some o
  simp
 |o::l,w,k+1,h=>by
  show(nZ l (w.alloc o)).heap[w.heap.size+(k+1)]?=_
  have :=jT l (w.alloc o) k (by simpa using h);rw[show(w.alloc o).heap.size=w.heap.size+1 from Array.size_push ..]at this;rw[show w.heap.size+(k+1)=w.heap.size+1+k from by omega,this];rfl
def mo(l:List Obj):∀w:World,Below w.heap.size w (nZ l w):=by
 induction l with
 |nil=>exactλw=>di _ _
 |cons o l ih=>exactλw=>((di _ _).alloc (aJ _) o).trans ((ih (w.alloc o)).mono (by rw[show(w.alloc o).heap.size=w.heap.size+1 from Array.size_push ..];omega))
def qV:dO where
 dJ:=[⟨#[97,110,97]⟩,⟨#[114,117,105]⟩]
 dz:=[⟨#[102,108,111,119,101,114,115]⟩,⟨#[114,101,100]⟩,⟨#[121,101,108,108,111,119]⟩,⟨#[109,111,114,101]⟩,⟨#[116,105,110]⟩]
 steps:=[⟨0,[],[0],100,120,0,0⟩,⟨0,[0],[1,2],0,0,0,10⟩,⟨1,[],[3],5,5,0,0⟩,⟨1,[1,3],[4],0,0,0,2⟩]
 dA:=[⟨0,105,110⟩,⟨2,90,90⟩,⟨4,14,16⟩]
def Uj(n:Nat):gJ where
 ah:=some ⟨n+1,0,none⟩
 ch:=2
 ap:=some ⟨n+2,0,none⟩
 cp:=5
 iT:=some ⟨n+13,0,none⟩
 cs:=4
 ac:=some ⟨n+17,0,none⟩
 cc:=3
 sv:= λi=>match i with
  |0=>⟨none,0,some ⟨n+3,0,none⟩,1⟩
  |1=>⟨some ⟨n+5,0,none⟩,1,some ⟨n+6,0,none⟩,2⟩
  |2=>⟨none,0,some ⟨n+8,0,none⟩,1⟩
  |_=>⟨some ⟨n+10,0,none⟩,2,some ⟨n+11,0,none⟩,1⟩
def La(n:Nat):List Obj:=
 [.cells #[.slice (some ⟨n+1,0,none⟩) 2 2,.slice (some ⟨n+2,0,none⟩) 5 5,.slice (some ⟨n+13,0,none⟩) 4 4,.slice (some ⟨n+17,0,none⟩) 3 3] 40,
  .cells #[.string ⟨#[97,110,97]⟩,.string ⟨#[114,117,105]⟩] 9,
  .cells #[.string ⟨#[102,108,111,119,101,114,115]⟩,.string ⟨#[114,101,100]⟩,.string ⟨#[121,101,108,108,111,119]⟩,.string ⟨#[109,111,114,101]⟩,.string ⟨#[116,105,110]⟩] 9,
  .cells #[.int .i64 0] 3,.cells #[.int .i64 100,.int .i64 120] 33,.cells #[.int .i64 0] 3,.cells #[.int .i64 1,.int .i64 2] 3,.cells #[.int .i64 0,.int .i64 10] 33,.cells #[.int .i64 3] 3,.cells #[.int .i64 5,.int .i64 5] 33,
  .cells #[.int .i64 1,.int .i64 3] 3,.cells #[.int .i64 4] 3,.cells #[.int .i64 0,.int .i64 2] 33,
  .cells #[.int .i64 0,.slice none 0 0,.slice (some ⟨n+3,0,none⟩) 1 1,.int .i64 100,.int .i64 120,.int .i64 0,.int .i64 0,.int .i64 0,.slice (some ⟨n+5,0,none⟩) 1 1,.slice (some ⟨n+6,0,none⟩) 2 2,.int .i64 0,.int .i64 0,.int .i64 0,.int .i64 10,
    .int .i64 1,.slice none 0 0,.slice (some ⟨n+8,0,none⟩) 1 1,.int .i64 5,.int .i64 5,.int .i64 0,.int .i64 0,.int .i64 1,.slice (some ⟨n+10,0,none⟩) 2 2,.slice (some ⟨n+11,0,none⟩) 1 1,.int .i64 0,.int .i64 0,.int .i64 0,.int .i64 2] 36,
  .cells #[.int .i64 105,.int .i64 110] 33,.cells #[.int .i64 90,.int .i64 90] 33,.cells #[.int .i64 14,.int .i64 16] 33,
  .cells #[.int .i64 0,.int .i64 105,.int .i64 110,.int .i64 2,.int .i64 90,.int .i64 90,.int .i64 4,.int .i64 14,.int .i64 16] 42]
variable [Lo.St]
def Lo.Bw(a b:Int)(w:World):Calls Lo.prog 8 #[.int .i64 a,.int .i64 b] w λe w'=>e=.returned (.agg #[.int .i64 a,.int .i64 b])∧w'=w.alloc (.cells #[.int .i64 a,.int .i64 b] 33):=by obtain⟨U,U2,U3,U4,U5,U6⟩:=Lo.facts;go_enter Lo.get Tryz.func8,Tryz.ntmps8;go_wp2;exact bodyPost_ret (v:=.agg #[.int .i64 a,.int .i64 b]) (by simp[results,Tryz.results10,go_sem,U,U2,U3,U4,U5,U6]) rfl ⟨rfl,rfl⟩
def Lo.Jj(w:World):Calls Lo.prog 15 #[] w λe w'=>e=.returned (dY qV (Uj w.heap.size))∧w'=nZ (La w.heap.size) w:=by
 obtain⟨U,U2,U3,U4,U5,U6⟩:=Lo.facts;have C:=Lo.call Tryz.func8;go_enter Lo.get Tryz.func15,Tryz.ntmps15
 go_wp2_with(go_at_call 8;refine(Lo.Bw _ _ _).mono ?_;rintro e w1⟨rfl,rfl⟩)
 have hf:Tryz.f15.results= #[ResultVar.cell 0 40]:=by unfold Tryz.f15;rfl
 obtain⟨n,hn⟩:∃n,n=w.heap.size:=⟨_,rfl⟩
 have hW:∀(T:List Value)(W:World),W=nZ (La w.heap.size) w->(results Tryz.f15 (Value.pointer (some ⟨w.heap.size,0,none⟩)::T).toArray).run Lo.prog W=.ok (dY qV (Uj w.heap.size)) W:=by
  intro T W hW
  have h0:W.heap[w.heap.size]?=some (.cells #[.slice (some ⟨w.heap.size+1,0,none⟩) 2 2,.slice (some ⟨w.heap.size+2,0,none⟩) 5 5,.slice (some ⟨w.heap.size+13,0,none⟩) 4 4,.slice (some ⟨w.heap.size+17,0,none⟩) 3 3] 40):=by rw[hW];exact jT (La w.heap.size) w 0 (by simp[La])
  have c0:W.cell? ⟨w.heap.size,0,none⟩=some (.slice (some ⟨w.heap.size+1,0,none⟩) 2 2):=by unfold World.cell?;simp only[h0];rfl
  have c1:W.cell? ⟨w.heap.size,1,none⟩=some (.slice (some ⟨w.heap.size+2,0,none⟩) 5 5):=by unfold World.cell?;simp only[h0];rfl
  have c2:W.cell? ⟨w.heap.size,2,none⟩=some (.slice (some ⟨w.heap.size+13,0,none⟩) 4 4):=by unfold World.cell?;simp only[h0];rfl
  have c3:W.cell? ⟨w.heap.size,3,none⟩=some (.slice (some ⟨w.heap.size+17,0,none⟩) 3 3):=by unfold World.cell?;simp only[h0];rfl
  clear hW h0;simp[results,hf,go_sem,U,U2,U3,U4,U5,U6,c0,c1,c2,c3,dY,qV,Uj]
 refine bodyPost_ret (v:=dY qV (Uj w.heap.size)) ?_ rfl ⟨rfl,?_⟩
 .exact hW _ _ rfl
 .rfl
end
def nI{W:World}{n:Nat}(h:∀k,k<18->W.heap[n+k]?=(La n)[k]?)(k:Nat)(hk:k<18)(c:Array Value)(e:TypeId)(hc:(La n)[k]?=some (.cells c e))(o:Nat):W.cell? ⟨n+k,o,none⟩=c[o]?:=by have :=(h k hk).trans hc;unfold World.cell?;simp only[this];cases c[o]?<;>rfl
def Gx{W:World}{n B:Nat}(h:∀k,k<18->W.heap[n+k]?=(La n)[k]?)(hB:n+18<=B):fC W B qV (Uj n):=by
 refine⟨λ_=>⟨n+1,0,rfl,by omega, λi j hi hj=>?_⟩, λ_=>⟨n+2,0,rfl,by omega, λi j hi hj=>?_⟩, λ_=>⟨n+13,0,rfl,by omega, λi j hi hj=>?_⟩, λi s hs=>?_, λi s hs=>?_, λ_=>⟨n+17,0,rfl,by omega, λi j hi hj=>?_⟩,aJ _,aJ _,aJ _,aJ _⟩
 .rw[nI h 1 (by omega) _ _ rfl];have hi:i<2:=hi;obtain rfl:j=0:=by omega
  obtain rfl|rfl:i=0∨i=1:=by omega
  all_goals rfl
 .rw[nI h 2 (by omega) _ _ rfl];have hi:i<5:=hi;obtain rfl:j=0:=by omega
  obtain rfl|rfl|rfl|rfl|rfl:i=0∨i=1∨i=2∨i=3∨i=4:=by omega
  all_goals rfl
 .rw[nI h 13 (by omega) _ _ rfl];have hi:i<4:=hi;obtain rfl|rfl|rfl|rfl:i=0∨i=1∨i=2∨i=3:=by omega
  all_goals obtain rfl|rfl|rfl|rfl|rfl|rfl|rfl:j=0∨j=1∨j=2∨j=3∨j=4∨j=5∨j=6:=by omega
  all_goals rfl
 .have hi:i<4:=(aY.1 hs).1;obtain rfl|rfl|rfl|rfl:i=0∨i=1∨i=2∨i=3:=by omega
  .cases hs;exactλh=>absurd h (by decide)
  .cases hs;refineλ_=>⟨n+5,0,rfl,by omega, λi j hi hj=>?_⟩
   rw[nI h 5 (by omega) _ _ rfl];have hi:i<1:=hi;obtain rfl:j=0:=by omega
   obtain rfl:i=0:=by omega
   rfl
  .cases hs;exactλh=>absurd h (by decide)
  .cases hs;refineλ_=>⟨n+10,0,rfl,by omega, λi j hi hj=>?_⟩
   rw[nI h 10 (by omega) _ _ rfl];have hi:i<2:=hi;obtain rfl:j=0:=by omega
   obtain rfl|rfl:i=0∨i=1:=by omega
   all_goals rfl
 .have hi:i<4:=(aY.1 hs).1;obtain rfl|rfl|rfl|rfl:i=0∨i=1∨i=2∨i=3:=by omega
  .cases hs;refineλ_=>⟨n+3,0,rfl,by omega, λi j hi hj=>?_⟩
   rw[nI h 3 (by omega) _ _ rfl];have hi:i<1:=hi;obtain rfl:j=0:=by omega
   obtain rfl:i=0:=by omega
   rfl
  .cases hs;refineλ_=>⟨n+6,0,rfl,by omega, λi j hi hj=>?_⟩
   rw[nI h 6 (by omega) _ _ rfl];have hi:i<2:=hi;obtain rfl:j=0:=by omega
   obtain rfl|rfl:i=0∨i=1:=by omega
   all_goals rfl
  .cases hs;refineλ_=>⟨n+8,0,rfl,by omega, λi j hi hj=>?_⟩
   rw[nI h 8 (by omega) _ _ rfl];have hi:i<1:=hi;obtain rfl:j=0:=by omega
   obtain rfl:i=0:=by omega
   rfl
  .cases hs;refineλ_=>⟨n+11,0,rfl,by omega, λi j hi hj=>?_⟩
   rw[nI h 11 (by omega) _ _ rfl];have hi:i<1:=hi;obtain rfl:j=0:=by omega
   obtain rfl:i=0:=by omega
   rfl
 .rw[nI h 17 (by omega) _ _ rfl];have hi:i<3:=hi;obtain rfl|rfl|rfl:i=0∨i=1∨i=2:=by omega
  all_goals obtain rfl|rfl|rfl:j=0∨j=1∨j=2:=by omega
  all_goals rfl
def Dm:fG qV=0:=by kernel_rfl
def Dn:qR qV=true:=by kernel_rfl
def R8:p8 qV= [105,110,9,13,90,90,5,5,14,16,105,110,0,0,0,0,2,10,5,5,0,0,0,0,0,2]:=by kernel_rfl
def Vp:yY qV= [0,0,2,10,0,0,0,2]:=by kernel_rfl
def Jl:zT qV 1= [1,0]:=by kernel_rfl
def R9:∀h:Nat,h<qV.dJ.length->gN (fA qV h) (dZ qV h)=true:= λh hh=>by
 have hh:h<2:=hh;have h0:gN (fA qV ((0:Nat):Int)) (dZ qV ((0:Nat):Int))=true:=by kernel_rfl
 have h1:gN (fA qV ((1:Nat):Int)) (dZ qV ((1:Nat):Int))=true:=by kernel_rfl
 obtain rfl|rfl:h=0∨h=1:=by omega
 .exact h0
 .exact h1
def lT:dO:={ qV with dA:=qV.dA++ [⟨1,14,20⟩] }
def EU:fG lT=0:=by kernel_rfl
def O4:Gv lT=3:=by kernel_rfl
def Dq:qV.small:=⟨by decide,by decide,by decide,by decide,by decide,by decide⟩
def EW:lT.small:=⟨by decide,by decide,by decide,by decide,by decide,by decide⟩
section
variable [Lo.St]
def Gy{l m:List Int}{k:Nat}(h1:k<l.length)(h2:k<m.length):(l.drop k=m.drop k)↔(l[k]=m[k]∧l.drop (k+1)=m.drop (k+1)):=by rw[aV h1,aV h2];exact List.cons_eq_cons
def Lo.Sa{w:World}{B:Nat}{A1 A2:Option Addr}{l1 l2:List Int}{c1 c2:Nat}(h1:xJ w B A1 l1)(h2:xJ w B A2 l2)(hl1:l1.length<=64)(hl2:l2.length<=64)(hB:B<=w.heap.size):
 Calls Lo.prog 22 #[.slice A1 l1.length c1,.slice A2 l2.length c2] w λe w'=>e=.returned (.bool (decide (l1=l2)))∧Below w.heap.size w w':=by
 obtain⟨U,U2,U3,U4,U5,U6⟩:=Lo.facts
 by_cases hlen:l1.length=l2.length
 .have d1:((l1.length:Int) !=(l2.length:Int))=false:=by simp;omega
  have HL:=dw hlen;clear hlen;go_enter Lo.get Tryz.func22,Tryz.ntmps22;go_wp2
  go_loopw [5] (λi wr=>∃k:Nat,k<=l1.length∧i=.int .i64 (k:Int)∧decide (l1.drop k=l2.drop k)=decide (l1=l2)∧Below w.heap.size w wr) (λi _=>l1.length-(intOf i).toNat)
  case atStart=>exact⟨0,bg _,rfl,rfl,di _ _⟩
  case round=>
   obtain⟨k,hk,rfl,hx,hb⟩:=hrel
   by_cases hlt:k<l1.length
   .have hlt2:k<l2.length:=HL.out ▸ hlt;have hlt':(k:Int)<(l1.length:Int):=by omega
    have xr:(k:Int)<(l2.length:Int):=by omega
    obtain⟨b1,o1,rfl,hb1,hc1⟩:=(h1.keep λb o h=>dH hb b o (by omega)) (by omega);obtain⟨b2,o2,rfl,hb2,hc2⟩:=(h2.keep λb o h=>dH hb b o (by omega)) (by omega);have r1:=PT hc1 hlt;have r2:=PT hc2 hlt2;have hd:decide (l1.drop k=l2.drop k)=decide (l1[k]=l2[k]∧l1.drop (k+1)=l2.drop (k+1)):=decide_eq_decide.2 (Gy hlt hlt2);rw[hx]at hd;have HB:=dw hb;clear hc1 hc2 h1 h2 hx hb;generalize l1[k]=x at r1 hd;generalize l2[k]=y at r2 hd
    by_cases hq:x=y
    .have d3:(x !=y)=false:=by simpa using hq
     have HD:=dw hd;have HQ:=dw hq;clear hd hq;go_wp2
     go_region
     all_goals go_wp2
     go_roundw
     case rel=>exact⟨k+1,by omega,by go_num,by rw[HD.out,HQ.out];simp,HB.out.drew⟩
     case measure=>simp[intOf];omega
    .have d3:(x !=y)=true:=by simpa using hq
     have HD:=dw hd;have HQ:=dw hq;clear hd hq;go_wp2
     go_region
     all_goals go_wp2
     go_ret;exact⟨by rw[HD.out];simp[HQ.out],HB.out.drew⟩
   .obtain rfl:k=l1.length:=by omega
    have e1:decide (l1=l2)=true:=by rw[<-hx,aF,HL.out,aF];rfl
    have HX:=dw (aM e1 hb);clear hx e1 hb;go_wp2;go_ret;exact⟨by rw[HX.out.1];rfl,HX.out.2⟩
 .have d1:((l1.length:Int) !=(l2.length:Int))=true:=by simp;omega
  have e1:decide (l1=l2)=false:=by simp;intro e;exact hlen (by rw[e])
  have HX:=dw e1;clear e1 hlen;go_enter Lo.get Tryz.func22,Tryz.ntmps22;go_wp2;go_ret;exact⟨by rw[HX.out];rfl,di _ _⟩
attribute [local instance] cS.noSh
def rW(c:Code):cS.Alike Tryz.prog (Tryz.prog.stub 5 c):=cS.Alike.stub _ _ _
def rX(c c':Code):cS.Alike (Tryz.prog.stub 5 c) ((Tryz.prog.stub 5 c).stub 19 c'):=cS.Alike.stub _ _ _
def Vq:Tryz.prog.eqGuardType Tryz.prog.depth 33=false:=by kernel_rfl
def Vr:Tryz.prog.stoodInHeld 33=false:=by kernel_rfl
def Vs:Tryz.prog.underlying 33=some (.struct (Tryz.prog.fieldsOf 33)):=by kernel_rfl
def Lo.ao9:Lo.prog.eqGuardType Lo.prog.depth 33=false:=by rw[Lo.iB,(rX _ _).depth,(rW _).depth,(rX _ _).eqGuardType,(rW _).eqGuardType];exact Vq
def Lo.ap0:Lo.prog.stoodInHeld 33=false:=by rw[Lo.iB,(rX _ _).stoodInHeld,(rW _).stoodInHeld];exact Vr
def Lo.iv:Lo.prog.fieldsOf 33=Tryz.prog.fieldsOf 33:=by unfold Program.fieldsOf;rw[Lo.iB,(rX _ _).underlying,(rW _).underlying]
def Lo.ap1:Lo.prog.underlying 33=some (.struct (Lo.prog.fieldsOf 33)):=by rw[Lo.iv,Lo.iB,(rX _ _).underlying,(rW _).underlying];exact Vs
abbrev YL(w:World)(B:Nat)(A:Option Addr)(n:Nat)(l:List Int):Prop:=Rd w B 2 A n λi j=>.int .i64 ((l[2*i+j]?).getD 0)
def xx(l:List Int)(k:Nat):Int×Int:=((l[2*k]?).getD 0,(l[2*k+1]?).getD 0)
def Dr(l m:List Int)(n:Nat):Nat->Bool
 |0=>true
 |k+1=>if xx l (n-(k+1))=xx m (n-(k+1))then Dr l m n k else false
def Sc(l m:List Int)(n:Nat):Bool:=Dr l m n n
def Lo.wH{w:World}{B:Nat}{A1 A2:Option Addr}{l1 l2:List Int}{n c1 c2:Nat}(h1:YL w B A1 n l1)(h2:YL w B A2 n l2)(hn:n<=64)(hB:B<=w.heap.size):
 Calls Lo.prog 21 #[.slice A1 n c1,.slice A2 n c2] w λe w'=>e=.returned (.bool (Sc l1 l2 n))∧Below w.heap.size w w':=by
 obtain⟨U,U2,U3,U4,U5,U6⟩:=Lo.facts;have d1:((n:Int) !=(n:Int))=false:=by simp
 have e1:=(@Lo.ao9 inferInstance);have e2:=(@Lo.ap1 inferInstance);have e3:=(@Lo.ap0 inferInstance);have e4:=(@Lo.iv inferInstance);go_enter Lo.get Tryz.func21,Tryz.ntmps21;go_wp2
 go_loopw [5] (λi wr=>∃k:Nat,k<=n∧i=.int .i64 (k:Int)∧Dr l1 l2 n (n-k)=Sc l1 l2 n∧Below w.heap.size w wr) (λi _=>n-(intOf i).toNat)
 case atStart=>exact⟨0,bg _,rfl,rfl,di _ _⟩
 case round=>
  obtain⟨k,hk,rfl,hx,hb⟩:=hrel
  by_cases hlt:k<n
  .have hlt':(k:Int)<(n:Int):=by omega
   obtain⟨b1,o1,rfl,hb1,hc1⟩:=(h1.keep λb o h=>dH hb b o (by omega)) (by omega);obtain⟨b2,o2,rfl,hb2,hc2⟩:=(h2.keep λb o h=>dH hb b o (by omega)) (by omega);have r1:=hc1 k 0 hlt (by omega);have r1':=hc1 k 1 hlt (by omega);have r2:=hc2 k 0 hlt (by omega);have r2':=hc2 k 1 hlt (by omega)
   have hd:Dr l1 l2 n (n-k)=if xx l1 k=xx l2 k then Dr l1 l2 n (n-(k+1))else false:=by rw[show n-k=(n-(k+1))+1 from by omega];show(if xx l1 (n-(n-(k+1)+1))=xx l2 (n-(n-(k+1)+1))then _ else _)=_;rw[show n-(n-(k+1)+1)=k from by omega]
   rw[hx]at hd;have HB:=dw hb;unfold xx at hd;clear hc1 hc2 h1 h2 hx hb;simp only[aH, <-Nat.add_assoc]at r1 r2 r1' r2';generalize(l1[2*k]?).getD 0=x at r1 hd;generalize(l1[2*k+1]?).getD 0=x' at r1' hd;generalize(l2[2*k]?).getD 0=y at r2 hd;generalize(l2[2*k+1]?).getD 0=y' at r2' hd
   by_cases hq:x=y
   .subst hq
    by_cases hq':x'=y'
    .subst hq';rw[aj rfl]at hd;have HD:=dw hd;clear hd;go_wp2
     go_region
     all_goals go_wp2
     go_roundw
     case rel=>exact⟨k+1,by omega,by go_num,by rw[HD.out],HB.out.drew⟩
     case measure=>simp[intOf];omega
    .rw[aa (by simp[hq'])]at hd;have d3:(x'==y')=false:=by simpa using hq'
     have HD:=dw hd;clear hd;go_wp2
     go_region
     all_goals go_wp2
     go_ret;exact⟨by rw[HD.out];rfl,HB.out.drew⟩
   .rw[aa (by simp[hq])]at hd;have d3:(x==y)=false:=by simpa using hq
    have HD:=dw hd;clear hd;go_wp2
    go_region
    all_goals go_wp2
    go_ret;exact⟨by rw[HD.out];rfl,HB.out.drew⟩
  .obtain rfl:k=n:=by omega
   have e1:Sc l1 l2 k=true:=by rw[<-hx,Nat.sub_self];rfl
   have HX:=dw (aM e1 hb);clear hx e1 hb;go_wp2;go_ret;exact⟨by rw[HX.out.1];rfl,HX.out.2⟩
end
section
variable [Lo.St]
def Lo.Sd(a b:Int)(ha:0<=a∧a<=1000000000)(hb:1<=b∧b<=1000000000)(w:World):Calls Lo.prog 49 #[.int .i64 a,.int .i64 b] w λe w'=>e=.returned (.int .i64 ((a+b-1)/ b))∧w'=w:=by
 obtain⟨U,U2,U3,U4,U5,U6⟩:=Lo.facts;obtain⟨a1,a2⟩:=ha;obtain⟨b1,b2⟩:=hb;have hb0:b≠0:=by omega
 go_enter Lo.get Tryz.func49,Tryz.ntmps49;go_wp2;go_ret;exact⟨rfl,rfl⟩
def zU(l:List Int)(a:Int):Int:=l.foldl max a
def EX(l:List Int)(k:Nat)(a:Int)(h:k<l.length):zU (l.drop k) a=zU (l.drop (k+1)) (max a l[k]):=by rw[aV h];rfl
def Lo.Vt{w:World}{B:Nat}{A:Option Addr}{l:List Int}{c:Nat}(h:xJ w B A l)(hl:0<l.length)(hl2:l.length<=64)(hB:B<=w.heap.size):
 Calls Lo.prog 50 #[.slice A l.length c] w λe w'=>e=.returned (.int .i64 (zU l ((l[0]?).getD 0)))∧Below w.heap.size w w':=by
 obtain⟨U,U2,U3,U4,U5,U6⟩:=Lo.facts;obtain⟨bb,off,rfl,hbb,hc⟩:=h hl;have r0:=PT hc hl;have hl':¬(l.length:Int)<1:=by omega
 have hl3:(0:Int)<(l.length:Int):=by omega
 have e0:(l[0]?).getD 0=l[0]:=by rw[aN hl];rfl
 have hm:zU (l.drop 1) l[0]=zU l ((l[0]?).getD 0):=by have :=EX l 0 l[0] hl;rw[List.drop_zero]at this;rw[e0,this];simp
 generalize l[0]=x0 at r0 hm;have HM:=dw hm;have HC:=dw hc;clear hm hc e0;simp only[aH]at r0;go_enter Lo.get Tryz.func50,Tryz.ntmps50;go_wp2
 go_loopw [3,4] (λi j wr=>∃(k:Nat)(x:Int),1<=k∧k<=l.length∧i=.int .i64 x∧j=.int .i64 (k:Int)∧zU (l.drop k) x=zU l ((l[0]?).getD 0)∧Below w.heap.size w wr) (λ_ j _=>l.length-(intOf j).toNat)
 case atStart=>exact⟨1,x0,by omega,by omega,rfl,rfl,HM.out,di _ _⟩
 case round=>
  obtain⟨k,x,hk1,hk,rfl,rfl,hx,hb⟩:=hrel
  by_cases hlt:k<l.length
  .have hlt':(k:Int)<(l.length:Int):=by omega
   have r1:=(dH hb bb (off+k) (by omega)).trans (PT HC.out hlt);rw[EX l k x hlt]at hx;have HB:=dw hb;clear hb r0;generalize l[k]=y at r1 hx;have HX:=dw hx;clear hx;go_wp2;go_roundw
   case rel=>exact⟨k+1,max x y,by omega,by omega,by congr 1;split<;>omega,by go_num,HX.out,HB.out⟩
   case measure=>simp[intOf];omega
  .obtain rfl:k=l.length:=by omega
   rw[aF]at hx;have HX:=dw (aM hx hb);clear hx hb r0;go_wp2;go_ret;refine⟨?_,HX.out.2⟩;rw[<-HX.out.1];rfl
def Lo.MU(a b:Int)(w:World):Calls Lo.prog 86 #[.agg #[.int .i64 a,.int .i64 b]] w λe w'=>e=.returned (.bool (!eT a b 0 1000000))∧Below w.heap.size w w':=by
 obtain⟨U,U2,U3,U4,U5,U6⟩:=Lo.facts;have C:=Lo.call Tryz.func57;go_enter Lo.get Tryz.func86,Tryz.ntmps86
 go_wp2_with(go_at_call 57;refine(Lo.jo _ _ _ _ _).mono ?_;rintro e w1⟨rfl,hb1⟩)
 go_ret;exact⟨rfl,((di _ _).alloc (aJ _) _).trans (hb1.mono (by simp))⟩
def zV{α:Type}(f:α->Bool):List α->Nat->Int
 | [],_=> -1
 |x::l,k=>if f x=true then(k:Int)else zV f l (k+1)
def MV{α:Type}(f:α->Bool)(ss:List α)(k:Nat):decide (0<=zV f ss k)=ss.any f:=by
 induction ss generalizing k with
 |nil=>rfl
 |cons x l ih=>
  unfold zV
  by_cases h:f x=true
  .rw[aj h];simp[h]
  .rw[aa h,ih];simp[h]
def EY{α:Type}(f:α->Bool)(ss:List α)(k:Nat)(h:k<ss.length):zV f (ss.drop k) k=if f ss[k]=true then(k:Int)else zV f (ss.drop (k+1)) (k+1):=by rw[aV h];rfl
def Sg(ps:List (Int×Int))(i j:Nat):Value:=match j with
 |0=>.int .i64 ((ps[i]?).getD (0,0)).1
 |_=>.int .i64 ((ps[i]?).getD (0,0)).2
abbrev YM(w:World)(B:Nat)(A:Option Addr)(ps:List (Int×Int)):Prop:=Rd w B 2 A ps.length (Sg ps)
def Si{w:World}{ps:List (Int×Int)}{bb off k:Nat}(hc:∀i j,i<ps.length->j<2->w.cell? ⟨bb,off+(i*2+j),none⟩=some (Sg ps i j))(hlt:k<ps.length):
 w.cell? ⟨bb,off+k*2,none⟩=some (.int .i64 ps[k].1)∧w.cell? ⟨bb,off+k*2+1,none⟩=some (.int .i64 ps[k].2):=by
 have h0:=hc k 0 hlt (by omega);have h1:=hc k 1 hlt (by omega);unfold Sg at h0 h1;rw[aN hlt]at h0 h1;exact⟨h0,h1⟩
def jU(p:Int×Int):Bool:=!eT p.1 p.2 0 1000000
def Lo.O5{w:World}{B:Nat}{ps:List (Int×Int)}{A:Option Addr}{cap:Nat}(hr:YM w B A ps)(hlen:ps.length<=64)(hB:B<=w.heap.size):
 Calls Lo.prog 90 #[.slice A ps.length cap,.func (.func 86) #[] #[]] w λe w'=>e=.returned (.int .i64 (zV jU ps 0))∧Below w.heap.size w w':=by
 obtain⟨U,U2,U3,U4,U5,U6⟩:=Lo.facts;have C:=Lo.call Tryz.func86;go_enter Lo.get Tryz.func90,Tryz.ntmps90;go_wp2
 go_loopw [8] (λi wr=>∃k:Nat,k<=ps.length∧i=.int .i64 (k:Int)∧zV jU (ps.drop k) k=zV jU ps 0∧Below w.heap.size w wr) (λi _=>ps.length-(intOf i).toNat)
 case atStart=>exact⟨0,bg _,rfl,rfl,di _ _⟩
 case round=>
  obtain⟨k,hk,rfl,hx,hb⟩:=hrel
  by_cases hlt:k<ps.length
  .obtain⟨bb,off,rfl,hbb,hc⟩:=(hr.keep (λb o h=>dH hb b o (by omega))) (by omega);obtain⟨k0,k1⟩:=Si hc hlt;rw[EY jU ps k hlt]at hx;generalize ps[k]=x at hx k0 k1;obtain⟨lo,hi⟩:=x;simp only at hx k0 k1;have hlt':(k:Int)<(ps.length:Int):=by omega
   have HB:=dw hb;clear hb hc hr
   by_cases hcr:jU (lo,hi)=true
   .rw[aj hcr]at hx;have HX:=dw hx;have d1:eT lo hi 0 1000000=false:=by unfold jU at hcr;simpa using hcr
    clear hx hcr
    go_wp2_with(go_at_call 86;refine(Lo.MU _ _ _).mono ?_;rintro e w1⟨rfl,hb1⟩;rw[d1])
    go_ret;exact⟨by rw[<-HX.out];rfl,HB.out.trans (hb1.mono HB.out.size)⟩
   .rw[aa hcr]at hx;have HX:=dw hx;have d1:eT lo hi 0 1000000=true:=by unfold jU at hcr;simpa using hcr
    clear hx hcr
    go_wp2_with(go_at_call 86;refine(Lo.MU _ _ _).mono ?_;rintro e w1⟨rfl,hb1⟩;rw[d1])
    go_roundw
    case rel=>exact⟨k+1,by omega,by go_num,HX.out,HB.out.trans (hb1.mono HB.out.size)⟩
    case measure=>simp[intOf];omega
  .obtain rfl:k=ps.length:=by omega
   have hx':(-1:Int)=zV jU ps 0:=by rw[<-hx,aF];rfl
   clear hx;have HX:=dw hx';clear hx';go_wp2;go_ret;exact⟨by rw[<-HX.out];rfl,hb⟩
def Lo.tF{w:World}{B:Nat}{ps:List (Int×Int)}{A:Option Addr}{cap:Nat}(hr:YM w B A ps)(hlen:ps.length<=64)(hB:B<=w.heap.size):
 Calls Lo.prog 52 #[.slice A ps.length cap,.func (.func 86) #[] #[]] w λe w'=>e=.returned (.bool (ps.any jU))∧Below w.heap.size w w':=by
 obtain⟨U,U2,U3,U4,U5,U6⟩:=Lo.facts;have C:=Lo.call Tryz.func90;go_enter Lo.get Tryz.func52,Tryz.ntmps52
 go_wp2_with(go_at_call 90;refine(Lo.O5 hr hlen hB).mono ?_;rintro e w1⟨rfl,hb1⟩)
 go_ret;exact⟨by rw[<-MV jU ps 0];rfl,hb1⟩
def cutAt(ps:List (Int×Int×Int))(i j:Nat):Value:=match j with
 |0=>.int .i64 ((ps[i]?).getD (0,0,0)).1
 |1=>.int .i64 ((ps[i]?).getD (0,0,0)).2.1
 |_=>.int .i64 ((ps[i]?).getD (0,0,0)).2.2
abbrev YN(w:World)(B:Nat)(A:Option Addr)(ps:List (Int×Int×Int)):Prop:=Rd w B 3 A ps.length (cutAt ps)
def Lb{w:World}{ps:List (Int×Int×Int)}{bb off k:Nat}(hc:∀i j,i<ps.length->j<3->w.cell? ⟨bb,off+(i*3+j),none⟩=some (cutAt ps i j))(hlt:k<ps.length):
 w.cell? ⟨bb,off+k*3,none⟩=some (.int .i64 ps[k].1)∧w.cell? ⟨bb,off+k*3+1,none⟩=some (.int .i64 ps[k].2.1)∧w.cell? ⟨bb,off+k*3+2,none⟩=some (.int .i64 ps[k].2.2):=by
 have h0:=hc k 0 hlt (by omega);have h1:=hc k 1 hlt (by omega);have h2:=hc k 2 hlt (by omega);unfold cutAt at h0 h1 h2;rw[aN hlt]at h0 h1 h2;exact⟨h0,h1,h2⟩
def jv(p:Int×Int×Int):Bool:=!(kH p.1 1 1000000&&eT p.2.1 p.2.2 0 1000)
def Lo.MW(p a b:Int)(w:World):Calls Lo.prog 88 #[.agg #[.int .i64 p,.int .i64 a,.int .i64 b]] w λe w'=>e=.returned (.bool (jv (p,a,b)))∧Below w.heap.size w w':=by
 obtain⟨U,U2,U3,U4,U5,U6⟩:=Lo.facts;have C:=Lo.call Tryz.func57;have C2:=Lo.call Tryz.func32;cases hq:kH p 1 1000000 with
 |true=>
  have HQ:=dw hq;go_enter Lo.get Tryz.func88,Tryz.ntmps88
  go_wp2_with(first
   |(go_at_call 32;refine(Lo.eB _ _ _ _).mono ?_;rintro e w1⟨rfl,rfl⟩;rw[HQ.out])
   |(go_at_call 57;refine(Lo.jo _ _ _ _ _).mono ?_;rintro e w1⟨rfl,hb1⟩))
  go_ret;exact⟨by unfold jv;simp[HQ.out],((di _ _).alloc (aJ _) _).trans (hb1.mono (by simp))⟩
 |false=>
  have HQ:=dw hq;go_enter Lo.get Tryz.func88,Tryz.ntmps88
  go_wp2_with(go_at_call 32;refine(Lo.eB _ _ _ _).mono ?_;rintro e w1⟨rfl,rfl⟩;rw[HQ.out])
  go_ret;exact⟨by unfold jv;simp[HQ.out],(di _ _).alloc (aJ _) _⟩
def Lo.O6{w:World}{B:Nat}{ps:List (Int×Int×Int)}{A:Option Addr}{cap:Nat}(hr:YN w B A ps)(hlen:ps.length<=64)(hB:B<=w.heap.size):
 Calls Lo.prog 105 #[.slice A ps.length cap,.func (.func 88) #[] #[]] w λe w'=>e=.returned (.int .i64 (zV jv ps 0))∧Below w.heap.size w w':=by
 obtain⟨U,U2,U3,U4,U5,U6⟩:=Lo.facts;have C:=Lo.call Tryz.func88;go_enter Lo.get Tryz.func105,Tryz.ntmps105;go_wp2
 go_loopw [8] (λi wr=>∃k:Nat,k<=ps.length∧i=.int .i64 (k:Int)∧zV jv (ps.drop k) k=zV jv ps 0∧Below w.heap.size w wr) (λi _=>ps.length-(intOf i).toNat)
 case atStart=>exact⟨0,bg _,rfl,rfl,di _ _⟩
 case round=>
  obtain⟨k,hk,rfl,hx,hb⟩:=hrel
  by_cases hlt:k<ps.length
  .obtain⟨bb,off,rfl,hbb,hc⟩:=(hr.keep (λb o h=>dH hb b o (by omega))) (by omega);obtain⟨k0,k1,k2⟩:=Lb hc hlt;rw[EY jv ps k hlt]at hx;generalize ps[k]=x at hx k0 k1 k2;obtain⟨pc,lo,hi⟩:=x;simp only at hx k0 k1 k2;have hlt':(k:Int)<(ps.length:Int):=by omega
   have HB:=dw hb;clear hb hc hr
   by_cases hcr:jv (pc,lo,hi)=true
   .rw[aj hcr]at hx;have HX:=dw hx;have d1:=hcr;clear hx hcr
    go_wp2_with(go_at_call 88;refine(Lo.MW _ _ _ _).mono ?_;rintro e w1⟨rfl,hb1⟩;rw[d1])
    go_ret;exact⟨by rw[<-HX.out];rfl,HB.out.trans (hb1.mono HB.out.size)⟩
   .rw[aa hcr]at hx;have HX:=dw hx;have d1:jv (pc,lo,hi)=false:=by simpa using hcr
    clear hx hcr
    go_wp2_with(go_at_call 88;refine(Lo.MW _ _ _ _).mono ?_;rintro e w1⟨rfl,hb1⟩;rw[d1])
    go_roundw
    case rel=>exact⟨k+1,by omega,by go_num,HX.out,HB.out.trans (hb1.mono HB.out.size)⟩
    case measure=>simp[intOf];omega
  .obtain rfl:k=ps.length:=by omega
   have hx':(-1:Int)=zV jv ps 0:=by rw[<-hx,aF];rfl
   clear hx;have HX:=dw hx';clear hx';go_wp2;go_ret;exact⟨by rw[<-HX.out];rfl,hb⟩
def Lo.xy{w:World}{B:Nat}{ps:List (Int×Int×Int)}{A:Option Addr}{cap:Nat}(hr:YN w B A ps)(hlen:ps.length<=64)(hB:B<=w.heap.size):
 Calls Lo.prog 87 #[.slice A ps.length cap,.func (.func 88) #[] #[]] w λe w'=>e=.returned (.bool (ps.any jv))∧Below w.heap.size w w':=by
 obtain⟨U,U2,U3,U4,U5,U6⟩:=Lo.facts;have C:=Lo.call Tryz.func105;go_enter Lo.get Tryz.func87,Tryz.ntmps87
 go_wp2_with(go_at_call 105;refine(Lo.O6 hr hlen hB).mono ?_;rintro e w1⟨rfl,hb1⟩)
 go_ret;exact⟨by rw[<-MV jv ps 0];rfl,hb1⟩
def fI(dI:List (Int×Int))(cs:List (Int×Int×Int))(limit:Int):Int:=
 if 6<dI.length then 2 else if kH cs.length 1 4=false then 2 else if dI.any jU=true then 1 else if cs.any jv=true then 1 else if kH limit 0 1000000=false then 1 else 0
def Lo.uW{w:World}{B:Nat}{dI:List (Int×Int)}{cs:List (Int×Int×Int)}{A1 A2:Option Addr}{c1 c2:Nat}(h1:YM w B A1 dI)(h2:YN w B A2 cs)(hl1:dI.length<=64)(hl2:cs.length<=64)(hB:B<=w.heap.size)(limit:Int):
 Calls Lo.prog 47 #[.slice A1 dI.length c1,.slice A2 cs.length c2,.int .i64 limit] w λe w'=>e=.returned (.int .i64 (fI dI cs limit))∧Below w.heap.size w w':=by
 obtain⟨U,U2,U3,U4,U5,U6⟩:=Lo.facts;have C:=Lo.call Tryz.func32;have C2:=Lo.call Tryz.func52;have C3:=Lo.call Tryz.func87
 by_cases q1:6<dI.length
 .have d1:(6:Int)<(dI.length:Int):=by omega
  have H:=dw q1;clear q1;go_enter Lo.get Tryz.func47,Tryz.ntmps47;go_wp2;go_ret;exact⟨by unfold fI;rw[aj H.out];rfl,di _ _⟩
 have d1:¬(6:Int)<(dI.length:Int):=by omega
 have H1:=dw q1;clear q1;cases q2:kH cs.length 1 4 with
 |false=>
  have H:=dw q2;clear q2;go_enter Lo.get Tryz.func47,Tryz.ntmps47
  go_wp2_with(go_at_call 32;refine(Lo.eB _ _ _ _).mono ?_;rintro e w1⟨rfl,rfl⟩;rw[H.out])
  go_ret;exact⟨by unfold fI;rw[aa H1.out,aj H.out];rfl,di _ _⟩
 |true=>
  have H2:=dw q2;clear q2;cases q3:dI.any jU with
  |true=>
   have H:=dw q3;clear q3;go_enter Lo.get Tryz.func47,Tryz.ntmps47
   go_wp2_with(first
    |(go_at_call 32;refine(Lo.eB _ _ _ _).mono ?_;rintro e w1⟨rfl,rfl⟩;rw[H2.out])
    |(go_at_call 52;refine(Lo.tF h1 hl1 hB).mono ?_;rintro e w1⟨rfl,hb1⟩;rw[H.out]))
   go_ret;exact⟨by unfold fI;rw[aa H1.out,aa (by rw[H2.out];simp),aj H.out];rfl,hb1⟩
  |false=>
   have H3:=dw q3;clear q3;cases q4:cs.any jv with
   |true=>
    have H:=dw q4;clear q4;go_enter Lo.get Tryz.func47,Tryz.ntmps47
    go_wp2_with(first
     |(go_at_call 32;refine(Lo.eB _ _ _ _).mono ?_;rintro e w1⟨rfl,rfl⟩;rw[H2.out])
     |(go_at_call 52;refine(Lo.tF h1 hl1 hB).mono ?_;rintro e w1⟨rfl,hb1⟩;rw[H3.out];have HB:=dw hb1;clear hb1)
     |(go_at_call 87;refine(Lo.xy (h2.keep λb o h=>dH HB.out b o (by omega)) hl2 (aS hB HB.out.size)).mono ?_;rintro e w2⟨rfl,hb2⟩;rw[H.out]))
    go_ret;exact⟨by unfold fI;rw[aa H1.out,aa (by rw[H2.out];simp),aa (by rw[H3.out];simp),aj H.out];rfl,HB.out.trans (hb2.mono HB.out.size)⟩
   |false=>
    have H4:=dw q4;clear q4;cases q5:kH limit 0 1000000 with
    |false=>
     have H:=dw q5;clear q5;go_enter Lo.get Tryz.func47,Tryz.ntmps47
     go_wp2_with(first
      |(go_at_call 32;refine(Lo.eB _ _ _ _).mono ?_;rintro e w1⟨rfl,rfl⟩;first|rw[H2.out]|rw[H.out])
      |(go_at_call 52;refine(Lo.tF h1 hl1 hB).mono ?_;rintro e w1⟨rfl,hb1⟩;rw[H3.out];have HB:=dw hb1;clear hb1)
      |(go_at_call 87;refine(Lo.xy (h2.keep λb o h=>dH HB.out b o (by omega)) hl2 (aS hB HB.out.size)).mono ?_;rintro e w2⟨rfl,hb2⟩;rw[H4.out];have HB2:=dw hb2;clear hb2))
     go_ret;exact⟨by unfold fI;rw[aa H1.out,aa (by rw[H2.out];simp),aa (by rw[H3.out];simp),aa (by rw[H4.out];simp),aj H.out];rfl,HB.out.trans (HB2.out.mono HB.out.size)⟩
    |true=>
     have H:=dw q5;clear q5;go_enter Lo.get Tryz.func47,Tryz.ntmps47
     go_wp2_with(first
      |(go_at_call 32;refine(Lo.eB _ _ _ _).mono ?_;rintro e w1⟨rfl,rfl⟩;first|rw[H2.out]|rw[H.out])
      |(go_at_call 52;refine(Lo.tF h1 hl1 hB).mono ?_;rintro e w1⟨rfl,hb1⟩;rw[H3.out];have HB:=dw hb1;clear hb1)
      |(go_at_call 87;refine(Lo.xy (h2.keep λb o h=>dH HB.out b o (by omega)) hl2 (aS hB HB.out.size)).mono ?_;rintro e w2⟨rfl,hb2⟩;rw[H4.out];have HB2:=dw hb2;clear hb2))
     go_ret;exact⟨by unfold fI;rw[aa H1.out,aa (by rw[H2.out];simp),aa (by rw[H3.out];simp),aa (by rw[H4.out];simp),aa (by rw[H.out];simp)];rfl,HB.out.trans (HB2.out.mono HB.out.size)⟩
def Lo.O7{w:World}{B:Nat}{bb off:Nat}{l:List Int}{c:Nat}(h:xJ w B (some ⟨bb,off,none⟩) l)(hl:0<l.length)(hl2:l.length<=64)(hB:B<=w.heap.size):
 Calls Lo.prog 51 #[.slice (some ⟨bb,off,none⟩) l.length c] w λe w'=>∃v,e=.returned v∧w'.ownsRow w.heap.size 3 1 v l.length (l.map λx=>.int .i64 x)∧cS.dU w' v∧Below w.heap.size w w':=by
 obtain⟨U,U2,U3,U4,U5,U6⟩:=Lo.facts;obtain⟨i0,hi,hz0,hz1,hz2⟩:=info_parts Lo.info3;have hE:∀W:World,Sem.run Lo.prog (binOp .eql 22 (.slice (some ⟨bb,off,none⟩) l.length c) (.slice none 0 0)) W=.ok (.bool false) W:= λW=>Go.run_eql_slice_nil W 22 3 _ _ _ Lo.I1
 obtain⟨b1,o1,e1,hb1,hc⟩:=h hl;cases e1
 have hown:(w.alloc (.cells #[] 3)).ownsRow w.heap.size 3 1 (.slice (some ⟨w.heap.size,0,none⟩) 0 0) 0 []:=by
  refine⟨rfl,.inr ⟨w.heap.size,0,#[],rfl,aJ _,?_,aJ _,?_,?_,?_⟩⟩
  .show(w.heap.push (.cells #[] 3))[w.heap.size]?=_
   simp
  all_goals simp
 have HO:=dw hown;have HC:=dw hc;clear hown hc;go_enter Lo.get Tryz.func51,Tryz.ntmps51
 go_wp2_with(first
  |(at_builtin;refine cS.fZ rfl _ _ 22 rfl w.heap.size 3 i0 (.int .i64 0) 1 8 Lo.I1 hi hz0 hz1 hz2 rfl (by decide) _ _ _ rfl HO.out ⟨bb,off,none⟩ l.length c (l.map λx=>.int .i64 x) rfl ?c0 ?c1 ?c2 ?c3 ?c4 ?c5 ?c8 ?c6 ?c7 ?_))
 case c1=>
  intro j x hx;have hj':=(aY.1 hx).1;have :=PT HC.out hj';rw[(aY.1 hx).2]at this;exact(dh _ _ _ (by show bb<w.heap.size;omega)).trans this
 case c2=>intro x _;rfl
 case c3=>unfold maxLen;omega
 case c4=>omega
 case c8=>
  intro g hg;obtain rfl:w.heap.size=g:=by simpa[Value.ownBlock]using hg
  exact⟨#[],3,by show(w.heap.push (.cells #[] 3))[w.heap.size]?=_;simp,by simp⟩
 case c6=>intro x _;rfl
 case c7=>rfl
 intro v' w1 h1 h2 h3 h4;have hb:=((di w.heap.size w).alloc (aJ _) (.cells #[] 3)).grown h2 (by show w.heap.size<=(w.heap.push _).size;simp) (λj hj=>by simp[Value.ownBlock]at hj;omega);have HR:=dw (aM h1 (aM h4 hb));clear h1 h2 h3 h4 hb;go_wp2;go_ret;exact⟨_,rfl,HR.out.1,HR.out.2.1,HR.out.2.2⟩
end
end Go.Proofs
