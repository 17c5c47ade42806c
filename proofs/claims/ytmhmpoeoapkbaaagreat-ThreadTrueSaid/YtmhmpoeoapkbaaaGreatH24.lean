/- Part 24. -/
import Derived.Lib.LazyBuf
import Derived.Test.YtmhmpoeoapkbaaaGreatH22
set_option maxRecDepth 100000
set_option maxHeartbeats 0
set_option linter.all false
namespace Go.Proofs
open Go Go.RowKit Go.Maps
section
def nZ(l:List Obj)(w:World):World:=l.foldl (λw o=>w.alloc o) w
theorem qD:∀(l:List Obj)(w:World),(nZ l w).heap.size=w.heap.size+l.length
 | [],w=>rfl
 |o::l,w=>by
  show(nZ l (w.alloc o)).heap.size=_;rw[qD l,show(w.alloc o).heap.size=w.heap.size+1 from Array.size_push ..];simp;omega
theorem Dl:∀(l:List Obj)(w:World)(b:Nat),b<w.heap.size->(nZ l w).heap[b]?=w.heap[b]?
 | [],w,b,_=>rfl
 |o::l,w,b,h=>by
  show(nZ l (w.alloc o)).heap[b]?=_
  rw[Dl l _ b (by rw[show(w.alloc o).heap.size=w.heap.size+1 from Array.size_push ..];omega)];exact cZ _ _ _ h
theorem jT:∀(l:List Obj)(w:World)(k:Nat),k<l.length->(nZ l w).heap[w.heap.size+k]?=l[k]?
 | [],w,k,h=>by simp at h
 |o::l,w,0,h=>by
  show(nZ l (w.alloc o)).heap[w.heap.size]?=_
  rw[Dl l _ _ (by rw[show(w.alloc o).heap.size=w.heap.size+1 from Array.size_push ..];omega)];show(w.heap.push o)[w.heap.size]?=some o
  simp
 |o::l,w,k+1,h=>by
  show(nZ l (w.alloc o)).heap[w.heap.size+(k+1)]?=_
  have :=jT l (w.alloc o) k (by simpa using h);rw[show(w.alloc o).heap.size=w.heap.size+1 from Array.size_push ..]at this;rw[show w.heap.size+(k+1)=w.heap.size+1+k from by omega,this];rfl
theorem mo(l:List Obj):∀w:World,Below w.heap.size w (nZ l w):=by
 induction l with
 |nil=>exactλw=>di _ _
 |cons o l ih=>exactλw=>((di _ _).alloc (aJ _) o).trans ((ih (w.alloc o)).mono (by rw[show(w.alloc o).heap.size=w.heap.size+1 from Array.size_push ..];omega))
def qV:dO where
 dJ:=[⟨#[97,110,97]⟩,⟨#[114,117,105]⟩]
 dz:=[⟨#[102,108,111,119,101,114,115]⟩,⟨#[114,101,100]⟩,⟨#[121,101,108,108,111,119]⟩,⟨#[109,111,114,101]⟩,⟨#[116,105,110]⟩]
 steps:=[⟨0,[],[0],100,120,0,0⟩,⟨0,[0],[1,2],0,0,0,10⟩,⟨1,[],[3],5,5,0,0⟩,⟨1,[1,3],[4],0,0,0,2⟩]
 dA:=[⟨0,105,110⟩,⟨2,90,90⟩,⟨4,14,16⟩]
def Uj(n:Nat):gJ where
 ah:=some ⟨n+1,0,none⟩
 ch:=2
 ap:=some ⟨n+2,0,none⟩
 cp:=5
 iT:=some ⟨n+13,0,none⟩
 cs:=4
 ac:=some ⟨n+17,0,none⟩
 cc:=3
 sv:= λi=>match i with
  |0=>⟨none,0,some ⟨n+3,0,none⟩,1⟩
  |1=>⟨some ⟨n+5,0,none⟩,1,some ⟨n+6,0,none⟩,2⟩
  |2=>⟨none,0,some ⟨n+8,0,none⟩,1⟩
  |_=>⟨some ⟨n+10,0,none⟩,2,some ⟨n+11,0,none⟩,1⟩
def La(n:Nat):List Obj:=
 [.cells #[.slice (some ⟨n+1,0,none⟩) 2 2,.slice (some ⟨n+2,0,none⟩) 5 5,.slice (some ⟨n+13,0,none⟩) 4 4,.slice (some ⟨n+17,0,none⟩) 3 3] 26,
  .cells #[.string ⟨#[97,110,97]⟩,.string ⟨#[114,117,105]⟩] 9,
  .cells #[.string ⟨#[102,108,111,119,101,114,115]⟩,.string ⟨#[114,101,100]⟩,.string ⟨#[121,101,108,108,111,119]⟩,.string ⟨#[109,111,114,101]⟩,.string ⟨#[116,105,110]⟩] 9,
  .cells #[.int .i64 0] 3,.cells #[.int .i64 100,.int .i64 120] 48,.cells #[.int .i64 0] 3,.cells #[.int .i64 1,.int .i64 2] 3,.cells #[.int .i64 0,.int .i64 10] 48,.cells #[.int .i64 3] 3,.cells #[.int .i64 5,.int .i64 5] 48,
  .cells #[.int .i64 1,.int .i64 3] 3,.cells #[.int .i64 4] 3,.cells #[.int .i64 0,.int .i64 2] 48,
  .cells #[.int .i64 0,.slice none 0 0,.slice (some ⟨n+3,0,none⟩) 1 1,.int .i64 100,.int .i64 120,.int .i64 0,.int .i64 0,.int .i64 0,.slice (some ⟨n+5,0,none⟩) 1 1,.slice (some ⟨n+6,0,none⟩) 2 2,.int .i64 0,.int .i64 0,.int .i64 0,.int .i64 10,
    .int .i64 1,.slice none 0 0,.slice (some ⟨n+8,0,none⟩) 1 1,.int .i64 5,.int .i64 5,.int .i64 0,.int .i64 0,.int .i64 1,.slice (some ⟨n+10,0,none⟩) 2 2,.slice (some ⟨n+11,0,none⟩) 1 1,.int .i64 0,.int .i64 0,.int .i64 0,.int .i64 2] 50,
  .cells #[.int .i64 105,.int .i64 110] 48,.cells #[.int .i64 90,.int .i64 90] 48,.cells #[.int .i64 14,.int .i64 16] 48,
  .cells #[.int .i64 0,.int .i64 105,.int .i64 110,.int .i64 2,.int .i64 90,.int .i64 90,.int .i64 4,.int .i64 14,.int .i64 16] 58]
variable [Lo.St]
theorem Lo.Bw(a b:Int)(w:World):Calls Lo.prog 20 #[.int .i64 a,.int .i64 b] w λe w'=>e=.returned (.agg #[.int .i64 a,.int .i64 b])∧w'=w.alloc (.cells #[.int .i64 a,.int .i64 b] 48):=by
 obtain⟨U,U2,U3,U4,U5,U6⟩:=Lo.facts;go_enter Lo.get Tryz.func20,Tryz.ntmps20;go_wp2;exact bodyPost_ret (v:=.agg #[.int .i64 a,.int .i64 b]) (by simp[results,Tryz.results10,go_sem,U,U2,U3,U4,U5,U6]) rfl ⟨rfl,rfl⟩
theorem Lo.Jj(w:World):Calls Lo.prog 19 #[] w λe w'=>e=.returned (dY qV (Uj w.heap.size))∧w'=nZ (La w.heap.size) w:=by
 obtain⟨U,U2,U3,U4,U5,U6⟩:=Lo.facts;have C:=Lo.call Tryz.func20;go_enter Lo.get Tryz.func19,Tryz.ntmps19
 go_wp2_with(go_at_call 20;refine(Lo.Bw _ _ _).mono ?_;rintro e w1⟨rfl,rfl⟩)
 have hf:Tryz.f19.results= #[ResultVar.cell 0 26]:=by unfold Tryz.f19;rfl
 obtain⟨n,hn⟩:∃n,n=w.heap.size:=⟨_,rfl⟩
 have hW:∀(T:List Value)(W:World),W=nZ (La w.heap.size) w->(results Tryz.f19 (Value.pointer (some ⟨w.heap.size,0,none⟩)::T).toArray).run Lo.prog W=.ok (dY qV (Uj w.heap.size)) W:=by
  intro T W hW
  have h0:W.heap[w.heap.size]?=some (.cells #[.slice (some ⟨w.heap.size+1,0,none⟩) 2 2,.slice (some ⟨w.heap.size+2,0,none⟩) 5 5,.slice (some ⟨w.heap.size+13,0,none⟩) 4 4,.slice (some ⟨w.heap.size+17,0,none⟩) 3 3] 26):=by
   rw[hW];exact jT (La w.heap.size) w 0 (by simp[La])
  have c0:W.cell? ⟨w.heap.size,0,none⟩=some (.slice (some ⟨w.heap.size+1,0,none⟩) 2 2):=by unfold World.cell?;simp only[h0];rfl
  have c1:W.cell? ⟨w.heap.size,1,none⟩=some (.slice (some ⟨w.heap.size+2,0,none⟩) 5 5):=by unfold World.cell?;simp only[h0];rfl
  have c2:W.cell? ⟨w.heap.size,2,none⟩=some (.slice (some ⟨w.heap.size+13,0,none⟩) 4 4):=by unfold World.cell?;simp only[h0];rfl
  have c3:W.cell? ⟨w.heap.size,3,none⟩=some (.slice (some ⟨w.heap.size+17,0,none⟩) 3 3):=by unfold World.cell?;simp only[h0];rfl
  clear hW h0;simp[results,hf,go_sem,U,U2,U3,U4,U5,U6,c0,c1,c2,c3,dY,qV,Uj]
 refine bodyPost_ret (v:=dY qV (Uj w.heap.size)) ?_ rfl ⟨rfl,?_⟩
 .exact hW _ _ rfl
 .rfl
end
theorem nI{W:World}{n:Nat}(h:∀k,k<18->W.heap[n+k]?=(La n)[k]?)(k:Nat)(hk:k<18)(c:Array Value)(e:TypeId)(hc:(La n)[k]?=some (.cells c e))(o:Nat):W.cell? ⟨n+k,o,none⟩=c[o]?:=by
 have :=(h k hk).trans hc;unfold World.cell?;simp only[this];cases c[o]?<;>rfl
theorem Gx{W:World}{n B:Nat}(h:∀k,k<18->W.heap[n+k]?=(La n)[k]?)(hB:n+18<=B):fC W B qV (Uj n):=by
 refine⟨λ_=>⟨n+1,0,rfl,by omega, λi j hi hj=>?_⟩, λ_=>⟨n+2,0,rfl,by omega, λi j hi hj=>?_⟩, λ_=>⟨n+13,0,rfl,by omega, λi j hi hj=>?_⟩, λi s hs=>?_, λi s hs=>?_, λ_=>⟨n+17,0,rfl,by omega, λi j hi hj=>?_⟩,aJ _,aJ _,aJ _,aJ _⟩
 .rw[nI h 1 (by omega) _ _ rfl];have hi:i<2:=hi;obtain rfl:j=0:=by omega
  obtain rfl|rfl:i=0∨i=1:=by omega
  all_goals rfl
 .rw[nI h 2 (by omega) _ _ rfl];have hi:i<5:=hi;obtain rfl:j=0:=by omega
  obtain rfl|rfl|rfl|rfl|rfl:i=0∨i=1∨i=2∨i=3∨i=4:=by omega
  all_goals rfl
 .rw[nI h 13 (by omega) _ _ rfl];have hi:i<4:=hi;obtain rfl|rfl|rfl|rfl:i=0∨i=1∨i=2∨i=3:=by omega
  all_goals obtain rfl|rfl|rfl|rfl|rfl|rfl|rfl:j=0∨j=1∨j=2∨j=3∨j=4∨j=5∨j=6:=by omega
  all_goals rfl
 .have hi:i<4:=(aY.1 hs).1;obtain rfl|rfl|rfl|rfl:i=0∨i=1∨i=2∨i=3:=by omega
  .cases hs;exactλh=>absurd h (by decide)
  .cases hs;refineλ_=>⟨n+5,0,rfl,by omega, λi j hi hj=>?_⟩
   rw[nI h 5 (by omega) _ _ rfl];have hi:i<1:=hi;obtain rfl:j=0:=by omega
   obtain rfl:i=0:=by omega
   rfl
  .cases hs;exactλh=>absurd h (by decide)
  .cases hs;refineλ_=>⟨n+10,0,rfl,by omega, λi j hi hj=>?_⟩
   rw[nI h 10 (by omega) _ _ rfl];have hi:i<2:=hi;obtain rfl:j=0:=by omega
   obtain rfl|rfl:i=0∨i=1:=by omega
   all_goals rfl
 .have hi:i<4:=(aY.1 hs).1;obtain rfl|rfl|rfl|rfl:i=0∨i=1∨i=2∨i=3:=by omega
  .cases hs;refineλ_=>⟨n+3,0,rfl,by omega, λi j hi hj=>?_⟩
   rw[nI h 3 (by omega) _ _ rfl];have hi:i<1:=hi;obtain rfl:j=0:=by omega
   obtain rfl:i=0:=by omega
   rfl
  .cases hs;refineλ_=>⟨n+6,0,rfl,by omega, λi j hi hj=>?_⟩
   rw[nI h 6 (by omega) _ _ rfl];have hi:i<2:=hi;obtain rfl:j=0:=by omega
   obtain rfl|rfl:i=0∨i=1:=by omega
   all_goals rfl
  .cases hs;refineλ_=>⟨n+8,0,rfl,by omega, λi j hi hj=>?_⟩
   rw[nI h 8 (by omega) _ _ rfl];have hi:i<1:=hi;obtain rfl:j=0:=by omega
   obtain rfl:i=0:=by omega
   rfl
  .cases hs;refineλ_=>⟨n+11,0,rfl,by omega, λi j hi hj=>?_⟩
   rw[nI h 11 (by omega) _ _ rfl];have hi:i<1:=hi;obtain rfl:j=0:=by omega
   obtain rfl:i=0:=by omega
   rfl
 .rw[nI h 17 (by omega) _ _ rfl];have hi:i<3:=hi;obtain rfl|rfl|rfl:i=0∨i=1∨i=2:=by omega
  all_goals obtain rfl|rfl|rfl:j=0∨j=1∨j=2:=by omega
  all_goals rfl
theorem Dm:fG qV=0:=by kernel_rfl
theorem Dn:qR qV=true:=by kernel_rfl
theorem R8:p8 qV= [105,110,9,13,90,90,5,5,14,16,105,110,0,0,0,0,2,10,5,5,0,0,0,0,0,2]:=by kernel_rfl
theorem Vp:yY qV= [0,0,2,10,0,0,0,2]:=by kernel_rfl
theorem Jl:zT qV 1= [1,0]:=by kernel_rfl
theorem R9:∀h:Nat,h<qV.dJ.length->gN (fA qV h) (dZ qV h)=true:= λh hh=>by
 have hh:h<2:=hh;have h0:gN (fA qV ((0:Nat):Int)) (dZ qV ((0:Nat):Int))=true:=by kernel_rfl
 have h1:gN (fA qV ((1:Nat):Int)) (dZ qV ((1:Nat):Int))=true:=by kernel_rfl
 obtain rfl|rfl:h=0∨h=1:=by omega
 .exact h0
 .exact h1
def lT:dO:={ qV with dA:=qV.dA++ [⟨1,14,20⟩] }
theorem EU:fG lT=0:=by kernel_rfl
theorem O4:Gv lT=3:=by kernel_rfl
theorem Dq:qV.small:=⟨by decide,by decide,by decide,by decide,by decide,by decide⟩
theorem EW:lT.small:=⟨by decide,by decide,by decide,by decide,by decide,by decide⟩
section
variable [Lo.St]
theorem Gy{l m:List Int}{k:Nat}(h1:k<l.length)(h2:k<m.length):(l.drop k=m.drop k)↔(l[k]=m[k]∧l.drop (k+1)=m.drop (k+1)):=by
 rw[aV h1,aV h2];exact List.cons_eq_cons
theorem Lo.Sa{w:World}{B:Nat}{A1 A2:Option Addr}{l1 l2:List Int}{c1 c2:Nat}(h1:xJ w B A1 l1)(h2:xJ w B A2 l2)(hl1:l1.length<=64)(hl2:l2.length<=64)(hB:B<=w.heap.size):
 Calls Lo.prog 23 #[.slice A1 l1.length c1,.slice A2 l2.length c2] w λe w'=>e=.returned (.bool (decide (l1=l2)))∧Below w.heap.size w w':=by
 obtain⟨U,U2,U3,U4,U5,U6⟩:=Lo.facts
 by_cases hlen:l1.length=l2.length
 .have d1:((l1.length:Int) !=(l2.length:Int))=false:=by simp;omega
  have HL:=dw hlen;clear hlen;go_enter Lo.get Tryz.func23,Tryz.ntmps23;go_wp2
  go_loopw [5] (λi wr=>∃k:Nat,k<=l1.length∧i=.int .i64 (k:Int)∧decide (l1.drop k=l2.drop k)=decide (l1=l2)∧Below w.heap.size w wr) (λi _=>l1.length-(intOf i).toNat)
  case atStart=>exact⟨0,bg _,rfl,rfl,di _ _⟩
  case round=>
   obtain⟨k,hk,rfl,hx,hb⟩:=hrel
   by_cases hlt:k<l1.length
   .have hlt2:k<l2.length:=HL.out ▸ hlt;have hlt':(k:Int)<(l1.length:Int):=by omega
    have af8:(k:Int)<(l2.length:Int):=by omega
    obtain⟨b1,o1,rfl,hb1,hc1⟩:=(h1.keep λb o h=>dH hb b o (by omega)) (by omega);obtain⟨b2,o2,rfl,hb2,hc2⟩:=(h2.keep λb o h=>dH hb b o (by omega)) (by omega);have r1:=PT hc1 hlt;have r2:=PT hc2 hlt2;have hd:decide (l1.drop k=l2.drop k)=decide (l1[k]=l2[k]∧l1.drop (k+1)=l2.drop (k+1)):=decide_eq_decide.2 (Gy hlt hlt2);rw[hx]at hd;have HB:=dw hb;clear hc1 hc2 h1 h2 hx hb;generalize l1[k]=x at r1 hd;generalize l2[k]=y at r2 hd
    by_cases hq:x=y
    .have d3:(x !=y)=false:=by simpa using hq
     have HD:=dw hd;have HQ:=dw hq;clear hd hq;go_wp2
     go_region
     all_goals go_wp2
     go_roundw
     case rel=>exact⟨k+1,by omega,by go_num,by rw[HD.out,HQ.out];simp,HB.out.drew⟩
     case measure=>simp[intOf];omega
    .have d3:(x !=y)=true:=by simpa using hq
     have HD:=dw hd;have HQ:=dw hq;clear hd hq;go_wp2
     go_region
     all_goals go_wp2
     go_ret;exact⟨by rw[HD.out];simp[HQ.out],HB.out.drew⟩
   .obtain rfl:k=l1.length:=by omega
    have e1:decide (l1=l2)=true:=by
     rw[<-hx,aF,HL.out,aF];rfl
    have HX:=dw (aM e1 hb);clear hx e1 hb;go_wp2;go_ret;exact⟨by rw[HX.out.1];rfl,HX.out.2⟩
 .have d1:((l1.length:Int) !=(l2.length:Int))=true:=by simp;omega
  have e1:decide (l1=l2)=false:=by
   simp;intro e;exact hlen (by rw[e])
  have HX:=dw e1;clear e1 hlen;go_enter Lo.get Tryz.func23,Tryz.ntmps23;go_wp2;go_ret;exact⟨by rw[HX.out];rfl,di _ _⟩
attribute [local instance] Par.noSh
theorem rW(c:Code):Par.Alike Tryz.prog (Tryz.prog.stub 6 c):=Par.Alike.stub _ _ _
theorem rX(c c':Code):Par.Alike (Tryz.prog.stub 6 c) ((Tryz.prog.stub 6 c).stub 13 c'):=Par.Alike.stub _ _ _
theorem Vq:Tryz.prog.eqGuardType Tryz.prog.depth 48=false:=by kernel_rfl
theorem Vr:Tryz.prog.stoodInHeld 48=false:=by kernel_rfl
theorem Vs:Tryz.prog.underlying 48=some (.struct (Tryz.prog.fieldsOf 48)):=by kernel_rfl
theorem Lo.ao9:Lo.prog.eqGuardType Lo.prog.depth 48=false:=by
 rw[Lo.iB,(rX _ _).depth,(rW _).depth,(rX _ _).eqGuardType,(rW _).eqGuardType];exact Vq
theorem Lo.ap0:Lo.prog.stoodInHeld 48=false:=by
 rw[Lo.iB,(rX _ _).stoodInHeld,(rW _).stoodInHeld];exact Vr
theorem Lo.ag9:Lo.prog.fieldsOf 48=Tryz.prog.fieldsOf 48:=by
 unfold Program.fieldsOf;rw[Lo.iB,(rX _ _).underlying,(rW _).underlying]
theorem Lo.ap1:Lo.prog.underlying 48=some (.struct (Lo.prog.fieldsOf 48)):=by
 rw[Lo.ag9,Lo.iB,(rX _ _).underlying,(rW _).underlying];exact Vs
abbrev YL(w:World)(B:Nat)(A:Option Addr)(n:Nat)(l:List Int):Prop:=Rd w B 2 A n λi j=>.int .i64 ((l[2*i+j]?).getD 0)
def xx(l:List Int)(k:Nat):Int×Int:=((l[2*k]?).getD 0,(l[2*k+1]?).getD 0)
def Dr(l m:List Int)(n:Nat):Nat->Bool
 |0=>true
 |k+1=>if xx l (n-(k+1))=xx m (n-(k+1))then Dr l m n k else false
def Sc(l m:List Int)(n:Nat):Bool:=Dr l m n n
theorem Lo.wH{w:World}{B:Nat}{A1 A2:Option Addr}{l1 l2:List Int}{n c1 c2:Nat}(h1:YL w B A1 n l1)(h2:YL w B A2 n l2)(hn:n<=64)(hB:B<=w.heap.size):
 Calls Lo.prog 22 #[.slice A1 n c1,.slice A2 n c2] w λe w'=>e=.returned (.bool (Sc l1 l2 n))∧Below w.heap.size w w':=by
 obtain⟨U,U2,U3,U4,U5,U6⟩:=Lo.facts;have d1:((n:Int) !=(n:Int))=false:=by simp
 have e1:=(@Lo.ao9 inferInstance);have e2:=(@Lo.ap1 inferInstance);have e3:=(@Lo.ap0 inferInstance);have e4:=(@Lo.ag9 inferInstance);go_enter Lo.get Tryz.func22,Tryz.ntmps22;go_wp2
 go_loopw [5] (λi wr=>∃k:Nat,k<=n∧i=.int .i64 (k:Int)∧Dr l1 l2 n (n-k)=Sc l1 l2 n∧Below w.heap.size w wr) (λi _=>n-(intOf i).toNat)
 case atStart=>exact⟨0,bg _,rfl,rfl,di _ _⟩
 case round=>
  obtain⟨k,hk,rfl,hx,hb⟩:=hrel
  by_cases hlt:k<n
  .have hlt':(k:Int)<(n:Int):=by omega
   obtain⟨b1,o1,rfl,hb1,hc1⟩:=(h1.keep λb o h=>dH hb b o (by omega)) (by omega);obtain⟨b2,o2,rfl,hb2,hc2⟩:=(h2.keep λb o h=>dH hb b o (by omega)) (by omega);have r1:=hc1 k 0 hlt (by omega);have r1':=hc1 k 1 hlt (by omega);have r2:=hc2 k 0 hlt (by omega);have r2':=hc2 k 1 hlt (by omega)
   have hd:Dr l1 l2 n (n-k)=if xx l1 k=xx l2 k then Dr l1 l2 n (n-(k+1))else false:=by
    rw[show n-k=(n-(k+1))+1 from by omega];show(if xx l1 (n-(n-(k+1)+1))=xx l2 (n-(n-(k+1)+1))then _ else _)=_;rw[show n-(n-(k+1)+1)=k from by omega]
   rw[hx]at hd;have HB:=dw hb;unfold xx at hd;clear hc1 hc2 h1 h2 hx hb;simp only[aH, <-Nat.add_assoc]at r1 r2 r1' r2';generalize(l1[2*k]?).getD 0=x at r1 hd;generalize(l1[2*k+1]?).getD 0=x' at r1' hd;generalize(l2[2*k]?).getD 0=y at r2 hd;generalize(l2[2*k+1]?).getD 0=y' at r2' hd
   by_cases hq:x=y
   .subst hq
    by_cases hq':x'=y'
    .subst hq';rw[aj rfl]at hd;have HD:=dw hd;clear hd;go_wp2
     go_region
     all_goals go_wp2
     go_roundw
     case rel=>exact⟨k+1,by omega,by go_num,by rw[HD.out],HB.out.drew⟩
     case measure=>simp[intOf];omega
    .rw[aa (by simp[hq'])]at hd;have d3:(x'==y')=false:=by simpa using hq'
     have HD:=dw hd;clear hd;go_wp2
     go_region
     all_goals go_wp2
     go_ret;exact⟨by rw[HD.out];rfl,HB.out.drew⟩
   .rw[aa (by simp[hq])]at hd;have d3:(x==y)=false:=by simpa using hq
    have HD:=dw hd;clear hd;go_wp2
    go_region
    all_goals go_wp2
    go_ret;exact⟨by rw[HD.out];rfl,HB.out.drew⟩
  .obtain rfl:k=n:=by omega
   have e1:Sc l1 l2 k=true:=by
    rw[<-hx,Nat.sub_self];rfl
   have HX:=dw (aM e1 hb);clear hx e1 hb;go_wp2;go_ret;exact⟨by rw[HX.out.1];rfl,HX.out.2⟩
end
section
variable [Lo.St]
theorem Lo.Sd(a b:Int)(ha:0<=a∧a<=1000000000)(hb:1<=b∧b<=1000000000)(w:World):Calls Lo.prog 48 #[.int .i64 a,.int .i64 b] w λe w'=>e=.returned (.int .i64 ((a+b-1)/ b))∧w'=w:=by
 obtain⟨U,U2,U3,U4,U5,U6⟩:=Lo.facts;obtain⟨a1,a2⟩:=ha;obtain⟨b1,b2⟩:=hb;have hb0:b≠0:=by omega
 go_enter Lo.get Tryz.func48,Tryz.ntmps48;go_wp2;go_ret;exact⟨rfl,rfl⟩
def zU(l:List Int)(a:Int):Int:=l.foldl max a
theorem EX(l:List Int)(k:Nat)(a:Int)(h:k<l.length):zU (l.drop k) a=zU (l.drop (k+1)) (max a l[k]):=by
 rw[aV h];rfl
theorem Lo.Vt{w:World}{B:Nat}{A:Option Addr}{l:List Int}{c:Nat}(h:xJ w B A l)(hl:0<l.length)(hl2:l.length<=64)(hB:B<=w.heap.size):
 Calls Lo.prog 49 #[.slice A l.length c] w λe w'=>e=.returned (.int .i64 (zU l ((l[0]?).getD 0)))∧Below w.heap.size w w':=by
 obtain⟨U,U2,U3,U4,U5,U6⟩:=Lo.facts;obtain⟨bb,off,rfl,hbb,hc⟩:=h hl;have r0:=PT hc hl;have hl':¬(l.length:Int)<1:=by omega
 have hl3:(0:Int)<(l.length:Int):=by omega
 have e0:(l[0]?).getD 0=l[0]:=by rw[aN hl];rfl
 have hm:zU (l.drop 1) l[0]=zU l ((l[0]?).getD 0):=by
  have :=EX l 0 l[0] hl;rw[List.drop_zero]at this;rw[e0,this];simp
 generalize l[0]=x0 at r0 hm;have HM:=dw hm;have HC:=dw hc;clear hm hc e0;simp only[aH]at r0;go_enter Lo.get Tryz.func49,Tryz.ntmps49;go_wp2
 go_loopw [3,4] (λi j wr=>∃(k:Nat)(x:Int),1<=k∧k<=l.length∧i=.int .i64 x∧j=.int .i64 (k:Int)∧zU (l.drop k) x=zU l ((l[0]?).getD 0)∧Below w.heap.size w wr) (λ_ j _=>l.length-(intOf j).toNat)
 case atStart=>exact⟨1,x0,by omega,by omega,rfl,rfl,HM.out,di _ _⟩
 case round=>
  obtain⟨k,x,hk1,hk,rfl,rfl,hx,hb⟩:=hrel
  by_cases hlt:k<l.length
  .have hlt':(k:Int)<(l.length:Int):=by omega
   have r1:=(dH hb bb (off+k) (by omega)).trans (PT HC.out hlt);rw[EX l k x hlt]at hx;have HB:=dw hb;clear hb r0;generalize l[k]=y at r1 hx;have HX:=dw hx;clear hx;go_wp2;go_roundw
   case rel=>exact⟨k+1,max x y,by omega,by omega,by congr 1;split<;>omega,by go_num,HX.out,HB.out⟩
   case measure=>simp[intOf];omega
  .obtain rfl:k=l.length:=by omega
   rw[aF]at hx;have HX:=dw (aM hx hb);clear hx hb r0;go_wp2;go_ret;refine⟨?_,HX.out.2⟩;rw[<-HX.out.1];rfl
theorem Lo.MU(a b:Int)(w:World):Calls Lo.prog 81 #[.agg #[.int .i64 a,.int .i64 b]] w λe w'=>e=.returned (.bool (!eT a b 0 1000000))∧Below w.heap.size w w':=by
 obtain⟨U,U2,U3,U4,U5,U6⟩:=Lo.facts;have C:=Lo.call Tryz.func53;go_enter Lo.get Tryz.func81,Tryz.ntmps81
 go_wp2_with(go_at_call 53;refine(Lo.jo _ _ _ _ _).mono ?_;rintro e w1⟨rfl,hb1⟩)
 go_ret;exact⟨rfl,((di _ _).alloc (aJ _) _).trans (hb1.mono (by simp))⟩
def zV{α:Type}(f:α->Bool):List α->Nat->Int
 | [],_=> -1
 |x::l,k=>if f x=true then(k:Int)else zV f l (k+1)
theorem MV{α:Type}(f:α->Bool)(ss:List α)(k:Nat):decide (0<=zV f ss k)=ss.any f:=by
 induction ss generalizing k with
 |nil=>rfl
 |cons x l ih=>
  unfold zV
  by_cases h:f x=true
  .rw[aj h];simp[h]
  .rw[aa h,ih];simp[h]
theorem EY{α:Type}(f:α->Bool)(ss:List α)(k:Nat)(h:k<ss.length):zV f (ss.drop k) k=if f ss[k]=true then(k:Int)else zV f (ss.drop (k+1)) (k+1):=by
 rw[aV h];rfl
def Sg(ps:List (Int×Int))(i j:Nat):Value:=match j with
 |0=>.int .i64 ((ps[i]?).getD (0,0)).1
 |_=>.int .i64 ((ps[i]?).getD (0,0)).2
abbrev YM(w:World)(B:Nat)(A:Option Addr)(ps:List (Int×Int)):Prop:=Rd w B 2 A ps.length (Sg ps)
theorem Si{w:World}{ps:List (Int×Int)}{bb off k:Nat}(hc:∀i j,i<ps.length->j<2->w.cell? ⟨bb,off+(i*2+j),none⟩=some (Sg ps i j))(hlt:k<ps.length):
 w.cell? ⟨bb,off+k*2,none⟩=some (.int .i64 ps[k].1)∧w.cell? ⟨bb,off+k*2+1,none⟩=some (.int .i64 ps[k].2):=by
 have h0:=hc k 0 hlt (by omega);have h1:=hc k 1 hlt (by omega);unfold Sg at h0 h1;rw[aN hlt]at h0 h1;exact⟨h0,h1⟩
def jU(p:Int×Int):Bool:=!eT p.1 p.2 0 1000000
theorem Lo.O5{w:World}{B:Nat}{ps:List (Int×Int)}{A:Option Addr}{cap:Nat}(hr:YM w B A ps)(hlen:ps.length<=64)(hB:B<=w.heap.size):
 Calls Lo.prog 99 #[.slice A ps.length cap,.func (.func 81) #[] #[]] w λe w'=>e=.returned (.int .i64 (zV jU ps 0))∧Below w.heap.size w w':=by
 obtain⟨U,U2,U3,U4,U5,U6⟩:=Lo.facts;have C:=Lo.call Tryz.func81;go_enter Lo.get Tryz.func99,Tryz.ntmps99;go_wp2
 go_loopw [8] (λi wr=>∃k:Nat,k<=ps.length∧i=.int .i64 (k:Int)∧zV jU (ps.drop k) k=zV jU ps 0∧Below w.heap.size w wr) (λi _=>ps.length-(intOf i).toNat)
 case atStart=>exact⟨0,bg _,rfl,rfl,di _ _⟩
 case round=>
  obtain⟨k,hk,rfl,hx,hb⟩:=hrel
  by_cases hlt:k<ps.length
  .obtain⟨bb,off,rfl,hbb,hc⟩:=(hr.keep (λb o h=>dH hb b o (by omega))) (by omega);obtain⟨k0,k1⟩:=Si hc hlt;rw[EY jU ps k hlt]at hx;generalize ps[k]=x at hx k0 k1;obtain⟨lo,hi⟩:=x;simp only at hx k0 k1;have hlt':(k:Int)<(ps.length:Int):=by omega
   have HB:=dw hb;clear hb hc hr
   by_cases hcr:jU (lo,hi)=true
   .rw[aj hcr]at hx;have HX:=dw hx;have d1:eT lo hi 0 1000000=false:=by unfold jU at hcr;simpa using hcr
    clear hx hcr
    go_wp2_with(go_at_call 81;refine(Lo.MU _ _ _).mono ?_;rintro e w1⟨rfl,hb1⟩;rw[d1])
    go_ret;exact⟨by rw[<-HX.out];rfl,HB.out.trans (hb1.mono HB.out.size)⟩
   .rw[aa hcr]at hx;have HX:=dw hx;have d1:eT lo hi 0 1000000=true:=by unfold jU at hcr;simpa using hcr
    clear hx hcr
    go_wp2_with(go_at_call 81;refine(Lo.MU _ _ _).mono ?_;rintro e w1⟨rfl,hb1⟩;rw[d1])
    go_roundw
    case rel=>exact⟨k+1,by omega,by go_num,HX.out,HB.out.trans (hb1.mono HB.out.size)⟩
    case measure=>simp[intOf];omega
  .obtain rfl:k=ps.length:=by omega
   have hx':(-1:Int)=zV jU ps 0:=by rw[<-hx,aF];rfl
   clear hx;have HX:=dw hx';clear hx';go_wp2;go_ret;exact⟨by rw[<-HX.out];rfl,hb⟩
theorem Lo.tF{w:World}{B:Nat}{ps:List (Int×Int)}{A:Option Addr}{cap:Nat}(hr:YM w B A ps)(hlen:ps.length<=64)(hB:B<=w.heap.size):
 Calls Lo.prog 80 #[.slice A ps.length cap,.func (.func 81) #[] #[]] w λe w'=>e=.returned (.bool (ps.any jU))∧Below w.heap.size w w':=by
 obtain⟨U,U2,U3,U4,U5,U6⟩:=Lo.facts;have C:=Lo.call Tryz.func99;go_enter Lo.get Tryz.func80,Tryz.ntmps80
 go_wp2_with(go_at_call 99;refine(Lo.O5 hr hlen hB).mono ?_;rintro e w1⟨rfl,hb1⟩)
 go_ret;exact⟨by rw[<-MV jU ps 0];rfl,hb1⟩
def cutAt(ps:List (Int×Int×Int))(i j:Nat):Value:=match j with
 |0=>.int .i64 ((ps[i]?).getD (0,0,0)).1
 |1=>.int .i64 ((ps[i]?).getD (0,0,0)).2.1
 |_=>.int .i64 ((ps[i]?).getD (0,0,0)).2.2
abbrev YN(w:World)(B:Nat)(A:Option Addr)(ps:List (Int×Int×Int)):Prop:=Rd w B 3 A ps.length (cutAt ps)
theorem Lb{w:World}{ps:List (Int×Int×Int)}{bb off k:Nat}(hc:∀i j,i<ps.length->j<3->w.cell? ⟨bb,off+(i*3+j),none⟩=some (cutAt ps i j))(hlt:k<ps.length):
 w.cell? ⟨bb,off+k*3,none⟩=some (.int .i64 ps[k].1)∧w.cell? ⟨bb,off+k*3+1,none⟩=some (.int .i64 ps[k].2.1)∧w.cell? ⟨bb,off+k*3+2,none⟩=some (.int .i64 ps[k].2.2):=by
 have h0:=hc k 0 hlt (by omega);have h1:=hc k 1 hlt (by omega);have h2:=hc k 2 hlt (by omega);unfold cutAt at h0 h1 h2;rw[aN hlt]at h0 h1 h2;exact⟨h0,h1,h2⟩
def jv(p:Int×Int×Int):Bool:=!(kH p.1 1 1000000&&eT p.2.1 p.2.2 0 1000)
theorem Lo.MW(p a b:Int)(w:World):Calls Lo.prog 83 #[.agg #[.int .i64 p,.int .i64 a,.int .i64 b]] w λe w'=>e=.returned (.bool (jv (p,a,b)))∧Below w.heap.size w w':=by
 obtain⟨U,U2,U3,U4,U5,U6⟩:=Lo.facts;have C:=Lo.call Tryz.func53;have C2:=Lo.call Tryz.func27;cases hq:kH p 1 1000000 with
 |true=>
  have HQ:=dw hq;go_enter Lo.get Tryz.func83,Tryz.ntmps83
  go_wp2_with(first
   |(go_at_call 27;refine(Lo.eB _ _ _ _).mono ?_;rintro e w1⟨rfl,rfl⟩;rw[HQ.out])
   |(go_at_call 53;refine(Lo.jo _ _ _ _ _).mono ?_;rintro e w1⟨rfl,hb1⟩))
  go_ret;exact⟨by unfold jv;simp[HQ.out],((di _ _).alloc (aJ _) _).trans (hb1.mono (by simp))⟩
 |false=>
  have HQ:=dw hq;go_enter Lo.get Tryz.func83,Tryz.ntmps83
  go_wp2_with(go_at_call 27;refine(Lo.eB _ _ _ _).mono ?_;rintro e w1⟨rfl,rfl⟩;rw[HQ.out])
  go_ret;exact⟨by unfold jv;simp[HQ.out],(di _ _).alloc (aJ _) _⟩
theorem Lo.O6{w:World}{B:Nat}{ps:List (Int×Int×Int)}{A:Option Addr}{cap:Nat}(hr:YN w B A ps)(hlen:ps.length<=64)(hB:B<=w.heap.size):
 Calls Lo.prog 100 #[.slice A ps.length cap,.func (.func 83) #[] #[]] w λe w'=>e=.returned (.int .i64 (zV jv ps 0))∧Below w.heap.size w w':=by
 obtain⟨U,U2,U3,U4,U5,U6⟩:=Lo.facts;have C:=Lo.call Tryz.func83;go_enter Lo.get Tryz.func100,Tryz.ntmps100;go_wp2
 go_loopw [8] (λi wr=>∃k:Nat,k<=ps.length∧i=.int .i64 (k:Int)∧zV jv (ps.drop k) k=zV jv ps 0∧Below w.heap.size w wr) (λi _=>ps.length-(intOf i).toNat)
 case atStart=>exact⟨0,bg _,rfl,rfl,di _ _⟩
 case round=>
  obtain⟨k,hk,rfl,hx,hb⟩:=hrel
  by_cases hlt:k<ps.length
  .obtain⟨bb,off,rfl,hbb,hc⟩:=(hr.keep (λb o h=>dH hb b o (by omega))) (by omega);obtain⟨k0,k1,k2⟩:=Lb hc hlt;rw[EY jv ps k hlt]at hx;generalize ps[k]=x at hx k0 k1 k2;obtain⟨pc,lo,hi⟩:=x;simp only at hx k0 k1 k2;have hlt':(k:Int)<(ps.length:Int):=by omega
   have HB:=dw hb;clear hb hc hr
   by_cases hcr:jv (pc,lo,hi)=true
   .rw[aj hcr]at hx;have HX:=dw hx;have d1:=hcr;clear hx hcr
    go_wp2_with(go_at_call 83;refine(Lo.MW _ _ _ _).mono ?_;rintro e w1⟨rfl,hb1⟩;rw[d1])
    go_ret;exact⟨by rw[<-HX.out];rfl,HB.out.trans (hb1.mono HB.out.size)⟩
   .rw[aa hcr]at hx;have HX:=dw hx;have d1:jv (pc,lo,hi)=false:=by simpa using hcr
    clear hx hcr
    go_wp2_with(go_at_call 83;refine(Lo.MW _ _ _ _).mono ?_;rintro e w1⟨rfl,hb1⟩;rw[d1])
    go_roundw
    case rel=>exact⟨k+1,by omega,by go_num,HX.out,HB.out.trans (hb1.mono HB.out.size)⟩
    case measure=>simp[intOf];omega
  .obtain rfl:k=ps.length:=by omega
   have hx':(-1:Int)=zV jv ps 0:=by rw[<-hx,aF];rfl
   clear hx;have HX:=dw hx';clear hx';go_wp2;go_ret;exact⟨by rw[<-HX.out];rfl,hb⟩
theorem Lo.xy{w:World}{B:Nat}{ps:List (Int×Int×Int)}{A:Option Addr}{cap:Nat}(hr:YN w B A ps)(hlen:ps.length<=64)(hB:B<=w.heap.size):
 Calls Lo.prog 82 #[.slice A ps.length cap,.func (.func 83) #[] #[]] w λe w'=>e=.returned (.bool (ps.any jv))∧Below w.heap.size w w':=by
 obtain⟨U,U2,U3,U4,U5,U6⟩:=Lo.facts;have C:=Lo.call Tryz.func100;go_enter Lo.get Tryz.func82,Tryz.ntmps82
 go_wp2_with(go_at_call 100;refine(Lo.O6 hr hlen hB).mono ?_;rintro e w1⟨rfl,hb1⟩)
 go_ret;exact⟨by rw[<-MV jv ps 0];rfl,hb1⟩
def fI(dI:List (Int×Int))(cs:List (Int×Int×Int))(limit:Int):Int:=
 if 6<dI.length then 2 else if kH cs.length 1 4=false then 2 else if dI.any jU=true then 1 else if cs.any jv=true then 1 else if kH limit 0 1000000=false then 1 else 0
theorem Lo.uW{w:World}{B:Nat}{dI:List (Int×Int)}{cs:List (Int×Int×Int)}{A1 A2:Option Addr}{c1 c2:Nat}(h1:YM w B A1 dI)(h2:YN w B A2 cs)(hl1:dI.length<=64)(hl2:cs.length<=64)(hB:B<=w.heap.size)(limit:Int):
 Calls Lo.prog 46 #[.slice A1 dI.length c1,.slice A2 cs.length c2,.int .i64 limit] w λe w'=>e=.returned (.int .i64 (fI dI cs limit))∧Below w.heap.size w w':=by
 obtain⟨U,U2,U3,U4,U5,U6⟩:=Lo.facts;have C:=Lo.call Tryz.func27;have C2:=Lo.call Tryz.func80;have C3:=Lo.call Tryz.func82
 by_cases q1:6<dI.length
 .have d1:(6:Int)<(dI.length:Int):=by omega
  have H:=dw q1;clear q1;go_enter Lo.get Tryz.func46,Tryz.ntmps46;go_wp2;go_ret;exact⟨by unfold fI;rw[aj H.out];rfl,di _ _⟩
 have d1:¬(6:Int)<(dI.length:Int):=by omega
 have H1:=dw q1;clear q1;cases q2:kH cs.length 1 4 with
 |false=>
  have H:=dw q2;clear q2;go_enter Lo.get Tryz.func46,Tryz.ntmps46
  go_wp2_with(go_at_call 27;refine(Lo.eB _ _ _ _).mono ?_;rintro e w1⟨rfl,rfl⟩;rw[H.out])
  go_ret;exact⟨by unfold fI;rw[aa H1.out,aj H.out];rfl,di _ _⟩
 |true=>
  have H2:=dw q2;clear q2;cases q3:dI.any jU with
  |true=>
   have H:=dw q3;clear q3;go_enter Lo.get Tryz.func46,Tryz.ntmps46
   go_wp2_with(first
    |(go_at_call 27;refine(Lo.eB _ _ _ _).mono ?_;rintro e w1⟨rfl,rfl⟩;rw[H2.out])
    |(go_at_call 80;refine(Lo.tF h1 hl1 hB).mono ?_;rintro e w1⟨rfl,hb1⟩;rw[H.out]))
   go_ret;exact⟨by unfold fI;rw[aa H1.out,aa (by rw[H2.out];simp),aj H.out];rfl,hb1⟩
  |false=>
   have H3:=dw q3;clear q3;cases q4:cs.any jv with
   |true=>
    have H:=dw q4;clear q4;go_enter Lo.get Tryz.func46,Tryz.ntmps46
    go_wp2_with(first
     |(go_at_call 27;refine(Lo.eB _ _ _ _).mono ?_;rintro e w1⟨rfl,rfl⟩;rw[H2.out])
     |(go_at_call 80;refine(Lo.tF h1 hl1 hB).mono ?_;rintro e w1⟨rfl,hb1⟩;rw[H3.out];have HB:=dw hb1;clear hb1)
     |(go_at_call 82;refine(Lo.xy (h2.keep λb o h=>dH HB.out b o (by omega)) hl2 (aS hB HB.out.size)).mono ?_;rintro e w2⟨rfl,hb2⟩;rw[H.out]))
    go_ret;exact⟨by unfold fI;rw[aa H1.out,aa (by rw[H2.out];simp),aa (by rw[H3.out];simp),aj H.out];rfl,HB.out.trans (hb2.mono HB.out.size)⟩
   |false=>
    have H4:=dw q4;clear q4;cases q5:kH limit 0 1000000 with
    |false=>
     have H:=dw q5;clear q5;go_enter Lo.get Tryz.func46,Tryz.ntmps46
     go_wp2_with(first
      |(go_at_call 27;refine(Lo.eB _ _ _ _).mono ?_;rintro e w1⟨rfl,rfl⟩;first|rw[H2.out]|rw[H.out])
      |(go_at_call 80;refine(Lo.tF h1 hl1 hB).mono ?_;rintro e w1⟨rfl,hb1⟩;rw[H3.out];have HB:=dw hb1;clear hb1)
      |(go_at_call 82;refine(Lo.xy (h2.keep λb o h=>dH HB.out b o (by omega)) hl2 (aS hB HB.out.size)).mono ?_;rintro e w2⟨rfl,hb2⟩;rw[H4.out];have HB2:=dw hb2;clear hb2))
     go_ret;exact⟨by unfold fI;rw[aa H1.out,aa (by rw[H2.out];simp),aa (by rw[H3.out];simp),aa (by rw[H4.out];simp),aj H.out];rfl,HB.out.trans (HB2.out.mono HB.out.size)⟩
    |true=>
     have H:=dw q5;clear q5;go_enter Lo.get Tryz.func46,Tryz.ntmps46
     go_wp2_with(first
      |(go_at_call 27;refine(Lo.eB _ _ _ _).mono ?_;rintro e w1⟨rfl,rfl⟩;first|rw[H2.out]|rw[H.out])
      |(go_at_call 80;refine(Lo.tF h1 hl1 hB).mono ?_;rintro e w1⟨rfl,hb1⟩;rw[H3.out];have HB:=dw hb1;clear hb1)
      |(go_at_call 82;refine(Lo.xy (h2.keep λb o h=>dH HB.out b o (by omega)) hl2 (aS hB HB.out.size)).mono ?_;rintro e w2⟨rfl,hb2⟩;rw[H4.out];have HB2:=dw hb2;clear hb2))
     go_ret;exact⟨by unfold fI;rw[aa H1.out,aa (by rw[H2.out];simp),aa (by rw[H3.out];simp),aa (by rw[H4.out];simp),aa (by rw[H.out];simp)];rfl,HB.out.trans (HB2.out.mono HB.out.size)⟩
theorem Lo.O7{w:World}{B:Nat}{bb off:Nat}{l:List Int}{c:Nat}(h:xJ w B (some ⟨bb,off,none⟩) l)(hl:0<l.length)(hl2:l.length<=64)(hB:B<=w.heap.size):
 Calls Lo.prog 50 #[.slice (some ⟨bb,off,none⟩) l.length c] w λe w'=>∃v,e=.returned v∧w'.ownsRow w.heap.size 3 1 v l.length (l.map λx=>.int .i64 x)∧Par.dU w' v∧Below w.heap.size w w':=by
 obtain⟨U,U2,U3,U4,U5,U6⟩:=Lo.facts;obtain⟨i0,hi,hz0,hz1,hz2⟩:=info_parts Lo.info3;have hE:∀W:World,Sem.run Lo.prog (binOp .eql 33 (.slice (some ⟨bb,off,none⟩) l.length c) (.slice none 0 0)) W=.ok (.bool false) W:= λW=>Go.run_eql_slice_nil W 33 3 _ _ _ Lo.I1
 obtain⟨b1,o1,e1,hb1,hc⟩:=h hl;cases e1
 have hown:(w.alloc (.cells #[] 3)).ownsRow w.heap.size 3 1 (.slice (some ⟨w.heap.size,0,none⟩) 0 0) 0 []:=by
  refine⟨rfl,.inr ⟨w.heap.size,0,#[],rfl,aJ _,?_,aJ _,?_,?_,?_⟩⟩
  .show(w.heap.push (.cells #[] 3))[w.heap.size]?=_
   simp
  all_goals simp
 have HO:=dw hown;have HC:=dw hc;clear hown hc;go_enter Lo.get Tryz.func50,Tryz.ntmps50
 go_wp2_with(first
  |(at_builtin;refine Par.fZ rfl _ _ 33 rfl w.heap.size 3 i0 (.int .i64 0) 1 8 Lo.I1 hi hz0 hz1 hz2 rfl (by decide) _ _ _ rfl HO.out ⟨bb,off,none⟩ l.length c (l.map λx=>.int .i64 x) rfl ?c0 ?c1 ?c2 ?c3 ?c4 ?c5 ?c8 ?c6 ?c7 ?_))
 case c1=>
  intro j x hx;have hj':=(aY.1 hx).1;have :=PT HC.out hj';rw[(aY.1 hx).2]at this;exact(dh _ _ _ (by show bb<w.heap.size;omega)).trans this
 case c2=>intro x _;rfl
 case c3=>unfold maxLen;omega
 case c4=>omega
 case c8=>
  intro g hg;obtain rfl:w.heap.size=g:=by simpa[Value.ownBlock]using hg
  exact⟨#[],3,by show(w.heap.push (.cells #[] 3))[w.heap.size]?=_;simp,by simp⟩
 case c6=>intro x _;rfl
 case c7=>rfl
 intro v' w1 h1 h2 h3 h4;have hb:=((di w.heap.size w).alloc (aJ _) (.cells #[] 3)).grown h2 (by show w.heap.size<=(w.heap.push _).size;simp) (λj hj=>by simp[Value.ownBlock]at hj;omega);have HR:=dw (aM h1 (aM h4 hb));clear h1 h2 h3 h4 hb;go_wp2;go_ret;exact⟨_,rfl,HR.out.1,HR.out.2.1,HR.out.2.2⟩
end
end Go.Proofs
