/- Part 3. -/
import Derived.RangeFuncRecord
import Derived.Test.YtmjjkglekbfbjaaGreatH25
import Derived.BigRegion
import Derived.BigQuiet
import Derived.Deep.DeepMust
set_option maxRecDepth 100000
set_option maxHeartbeats 0
set_option linter.all false
section
namespace Go.Proofs
open Go Go.RowKit Go.Maps
variable [Lo.St]
abbrev df(b:dO)(v:gJ):Value:=.agg #[.slice v.ah b.dJ.length v.ch,.slice v.ap b.dz.length v.cp,.slice v.iT b.steps.length v.cs,.slice v.ac b.dA.length v.cc]
def pN{l:List jD}{k:Nat}(h:k<l.length)(p:Int):je (l.take (k+1)) p=PU p (je (l.take k) p) l[k]:=by unfold je;rw[List.take_succ_eq_append_getElem h,List.foldl_append];rfl
def cP{W:World}{p:Nat}{x y:Value}{t:TypeId}(h:W.heap[p]?=some (.cells #[x,y] t)):W.cell? ⟨p,0,none⟩=some x∧W.cell? ⟨p,1,none⟩=some y∧W.frozen? ⟨p,0,none⟩=false∧W.frozen? ⟨p,1,none⟩=false:=by
 have f:∀j,W.frozen? ⟨p,j,none⟩=false:= λj=>by unfold World.frozen?;simp only[h];simp
 exact⟨by unfold World.cell?;simp only[h];rfl,by unfold World.cell?;simp only[h];rfl,f 0,f 1⟩
def set2{W:World}{p:Nat}{x y a b:Value}{t:TypeId}(h:W.heap[p]?=some (.cells #[x,y] t)):((W.setCell ⟨p,0,none⟩ a).setCell ⟨p,1,none⟩ b).heap[p]?=some (.cells #[a,b] t):=
 heap_setCell_same _ p 1 _ t _ (heap_setCell_same W p 0 _ t _ h)
def Lo.d7{w:World}{B:Nat}{b:dO}{v:gJ}{x:Value}{p:Int}(hx:x=dY b v)(hb:fC w B b v)(hB:B<=w.heap.size)(hg:b.small):
 Calls Lo.prog 104 #[x,.int .i64 p] w λe w'=>e=.returned (.agg #[.int .i64 (je b.dA p).1,.int .i64 (je b.dA p).2])∧Below w.heap.size w w':=by
 obtain⟨U,U2,U3,U4,U5,U6⟩:=Lo.facts;subst hx;obtain⟨X,hX⟩:∃X,w.alloc (.cells (lN b v) 26)=X:=⟨_,rfl⟩;have hb1:fC X B b v:=hX ▸ hb.keep λb o h=>World.cell?_alloc_past _ _ _ (by show b<w.heap.size;omega)
 have h3:X.cell? ⟨w.heap.size,3,none⟩=some (.slice v.ac b.dA.length v.cc):=by rw[<-hX,World.cell?_alloc_at _ _ _ _ rfl];rfl
 have hw:Below w.heap.size w X:=hX ▸ (Below.refl _ _).alloc (Nat.le_refl _) _;have hs:=hg.dA;have HB:=Lib.hid (And.intro hb1 (And.intro h3 (And.intro hw hX)));clear hb hb1 h3 hw hX;show Calls Lo.prog 104 #[Value.agg (lN b v),.int .i64 p] w _;unfold lN;go_enter Lo.get Tryz.func104,Tryz.ntmps104;go_wp2;change Code.wp _ _ _ _ (((w.alloc (.cells (lN b v) 26)).alloc _).alloc _);rw[HB.out.2.2.2];obtain⟨Y,hY⟩:∃Y,(X.alloc (.cells #[.int .i64 0,.int .i64 0] 38)).alloc (.cells #[.int .i64 0,.int .i64 1000000] 38)=Y:=⟨_,rfl⟩;have sX:X.heap.size=w.heap.size+1:=by rw[<-HB.out.2.2.2];simp
 have y1:Y.heap[w.heap.size+1]?=some (.cells #[.int .i64 0,.int .i64 0] 38):=by rw[<-hY,Below.heap_alloc _ _ _ (by simp;omega), <-sX];exact World.alloc_heap_new _ _
 have y2:Y.heap[w.heap.size+1+1]?=some (.cells #[.int .i64 0,.int .i64 1000000] 38):=by rw[<-hY,show w.heap.size+1+1=(X.alloc (.cells #[.int .i64 0,.int .i64 0] 38)).heap.size by simp;omega];exact World.alloc_heap_new _ _
 have bY:Below X.heap.size X Y:=hY ▸ ((Below.refl _ _).alloc (Nat.le_refl _) _).alloc (by simp) _;have sY:Y.heap.size=w.heap.size+3:=by rw[<-hY];simp;omega
 rw[hY];have HY:=Lib.hid (And.intro y1 (And.intro y2 bY));clear hY y1 y2 bY
 go_loopw [6] (λi wr=>∃k:Nat,k<=b.dA.length∧i=.int .i64 (k:Int)∧wr.heap[w.heap.size+1+1]?=some (.cells #[.int .i64 (je (b.dA.take k) p).1,.int .i64 (je (b.dA.take k) p).2] 38)∧Below (w.heap.size+2) Y wr) (λi _=>b.dA.length-(intOf i).toNat)
 case atStart=>exact⟨0,Nat.zero_le _,rfl,HY.out.2.1,Below.refl _ _⟩
 case round=>
  obtain⟨k,hk,rfl,hx,hb⟩:=hrel;have c3:wr.cell? ⟨w.heap.size,3,none⟩=some (.slice v.ac b.dA.length v.cc):=(dH hb _ _ (by omega)).trans ((dH HY.out.2.2 _ _ (by omega)).trans HB.out.2.1);obtain⟨x0,x1,z0,z1⟩:=cP hx
  by_cases hlt:k<b.dA.length
  .have hlt':(k:Int)<(b.dA.length:Int):=by omega
   obtain⟨bb,off,e,hbb,hc⟩:=HB.out.1.dA (by omega);rw[e]at c3;obtain⟨r0,r1,r2⟩:=CU hc hlt;have bX:=HY.out.2.2.trans (hb.mono (by omega));replace r0:=(dH bX bb _ (by omega)).trans r0;replace r1:=(dH bX bb _ (by omega)).trans r1;replace r2:=(dH bX bb _ (by omega)).trans r2;have hd:=pN hlt p;generalize b.dA[k]=s at r0 r1 r2 hd;obtain⟨sp,lo,hi⟩:=s;unfold PU at hd;simp only at r0 r1 r2 hd;generalize je (b.dA.take k) p=d at x0 x1 hd hx;obtain⟨d0,d1⟩:=d;simp only at x0 x1 hd hx;have HR:=Lib.hid (And.intro hb hx);clear hb hc hx bX e
   by_cases hq:sp=p
   .rw[if_pos hq]at hd;have HD:=Lib.hid hd;clear hd;go_wp2
    go_region
    rw[show(if d0<lo then lo else d0)=max d0 lo by split<;>omega,show(if hi<d1 then hi else d1)=min d1 hi by split<;>omega];go_wp2;go_roundw
    case rel=>exact⟨k+1,by omega,by go_num,by rw[HD.out];exact set2 HR.out.2,((HR.out.1.setCell (p:=⟨w.heap.size+1+1,0,none⟩) (by show w.heap.size+2<=w.heap.size+1+1;omega) _).setCell (p:=⟨w.heap.size+1+1,1,none⟩) (by show w.heap.size+2<=w.heap.size+1+1;omega) _).drew⟩
    case measure=>simp[intOf];omega
   .rw[if_neg hq]at hd;have HD:=Lib.hid hd;clear hd;go_wp2;go_roundw
    case rel=>exact⟨k+1,by omega,by go_num,by rw[HD.out];exact HR.out.2,HR.out.1⟩
    case measure=>simp[intOf];omega
  .obtain rfl:k=b.dA.length:=by omega
   rw[List.take_length]at x0 x1 hx;have y1:wr.heap[w.heap.size+1]?=_:=(hb.block _ (by omega)).trans HY.out.1
   obtain⟨y10,y11,z2,z3⟩:=cP y1;have HR:=Lib.hid (And.intro hb y1);clear hb hx y1;go_wp2;obtain⟨Z,hZ⟩:∃Z,(wr.setCell ⟨w.heap.size+1,0,none⟩ (.int .i64 (je b.dA p).1)).setCell ⟨w.heap.size+1,1,none⟩ (.int .i64 (je b.dA p).2)=Z:=⟨_,rfl⟩;obtain⟨q0,q1, -, -⟩:=cP (hZ ▸ set2 HR.out.2);rw[hZ];have hf:Tryz.f104.results= #[ResultVar.cell 4 38]:=by unfold Tryz.f104;rfl
   refine bodyPost_ret (v:=.agg #[.int .i64 (je b.dA p).1,.int .i64 (je b.dA p).2]) ?_ rfl ⟨rfl,?_⟩
   .simp[results,hf,go_sem,U,U2,U3,U4,U5,U6,q0,q1]
   .rw[<-hZ];exact((HB.out.2.2.1.trans ((HY.out.2.2.trans (HR.out.1.mono (by omega))).mono (by omega))).setCell (p:=⟨w.heap.size+1,0,none⟩) (by show w.heap.size<=w.heap.size+1;omega) _).setCell (p:=⟨w.heap.size+1,1,none⟩) (by show w.heap.size<=w.heap.size+1;omega) _
end Go.Proofs
end
section
namespace Go.Proofs
open Go Go.RowKit Go.Maps
variable [Lo.St]
def eX.way(x:eX):Nat->Value
 |0=>.int .i64 (x.fr:Int)
 |1=>.int .i64 (x.to:Int)
 |2=>.int .i64 x.lo
 |_=>.int .i64 x.hi
def i7(ss:List eX)(i j:Nat):Value:=((ss[i]?).getD ⟨0,0,0,0⟩).way j
abbrev Lz(w:World)(B:Nat)(A:Option Addr)(ss:List eX):Prop:=Rd w B 4 A ss.length (i7 ss)
def ZJ{w:World}{bb off k:Nat}{ss:List eX}(hc:∀i j,i<ss.length->j<4->w.cell? ⟨bb,off+(i*4+j),none⟩=some (i7 ss i j))(hlt:k<ss.length):
 w.cell? ⟨bb,off+k*4,none⟩=some (.int .i64 (ss[k].fr:Int))∧w.cell? ⟨bb,off+k*4+1,none⟩=some (.int .i64 (ss[k].to:Int))∧w.cell? ⟨bb,off+k*4+2,none⟩=some (.int .i64 ss[k].lo)∧w.cell? ⟨bb,off+k*4+3,none⟩=some (.int .i64 ss[k].hi):=by
 have e:∀j,j<4->w.cell? ⟨bb,off+(k*4+j),none⟩=some (ss[k].way j):= λj hj=>by rw[hc k j hlt hj];unfold i7;rw[List.getElem?_eq_getElem hlt];rfl
 exact⟨e 0 (by omega),e 1 (by omega),e 2 (by omega),e 3 (by omega)⟩
def XS(s:Nat)(gS:Int)(k:Nat)(x:eX)(n:Int×Int):Int×Int:=
 if(k:Int)=gS then n else if bit s x.fr=bit s x.to then n else if bit s x.to=1 then(n.1+x.hi,n.2)else(n.1,n.2+x.lo)
def P0(ss:List eX)(s:Nat)(gS:Int):Nat->Int×Int
 |0=>(0,0)
 |k+1=>match ss[k]? with |some x=>XS s gS k x (P0 ss s gS k)|none=>P0 ss s gS k
def pP{s:Nat}{gS:Int}{k:Nat}{x:eX}{n:Int×Int}(hx:x.ok):n.1<=(XS s gS k x n).1∧(XS s gS k x n).1<=n.1+8000000∧n.2<=(XS s gS k x n).2∧(XS s gS k x n).2<=n.2+8000000:=by
 obtain⟨a,b,c,d,_⟩:=hx;unfold XS;split
 .omega
 .split
  .omega
  .split<;>dsimp only <;>omega
def oA{ss:List eX}(h:∀x∈ss,x.ok)(s:Nat)(gS:Int):∀k,0<=(P0 ss s gS k).1∧(P0 ss s gS k).1<=8000000*k∧0<=(P0 ss s gS k).2∧(P0 ss s gS k).2<=8000000*k
 |0=>by simp[P0]
 |k+1=>by
  have ih:=oA h s gS k;unfold P0;split
  .rename_i x e;have :=pP (s:=s) (gS:=gS) (k:=k) (n:=P0 ss s gS k) (h x (List.mem_of_getElem? e));omega
  .omega
def pA(s i:Nat):(((s:Int)/ 2^ i).tmod 2==1)=decide (bit s i=1):=by
 have e3:((s:Int)/ 2^ i)=((s/ 2^ i:Nat):Int):=by simp
 rw[e3,Int.tmod_eq_emod_of_nonneg (Int.natCast_nonneg (s/ 2^ i))];unfold bit
 by_cases h:s/ 2^ i%2=1
 .rw[decide_eq_true h,beq_iff_eq];omega
 .rw[decide_eq_false h,beq_eq_false_iff_ne];omega
def eR(s:Nat)(gS:Int)(k:Nat)(x:eX)(n:Int×Int):XS s gS k x n=if(k:Int)=gS then n else if decide (bit s x.fr=1)=decide (bit s x.to=1)then n else if decide (bit s x.to=1)=true then(n.1+x.hi,n.2)else(n.1,n.2+x.lo):=by
 have h1:=KG s x.fr;have h2:=KG s x.to
 have e:(decide (bit s x.fr=1)=decide (bit s x.to=1))=(bit s x.fr=bit s x.to):=by simp only[decide_eq_decide,eq_iff_iff];omega
 unfold XS;simp only[e,decide_eq_true_eq]
def Lo.xF{w:World}{B:Nat}{ss:List eX}{A:Option Addr}{cap:Nat}{s:Nat}{gS:Int}(hr:Lz w B A ss)(hok:∀x∈ss,x.ok)(hl:ss.length<=64)(hB:B<=w.heap.size)(hs:s<2^ 63):
 Calls Lo.prog 79 #[.slice A ss.length cap,.int .i64 (s:Int),.int .i64 gS] w λe w'=>e=.returned (.tuple #[.int .i64 (P0 ss s gS ss.length).1,.int .i64 (P0 ss s gS ss.length).2])∧Below w.heap.size w w':=by
 obtain⟨U,U2,U3,U4,U5,U6⟩:=Lo.facts;go_enter Lo.get Tryz.func79,Tryz.ntmps79;go_wp2
 go_loopw [8,9,10] (λa c i wr=>∃k:Nat,k<=ss.length∧i=.int .i64 (k:Int)∧a=.int .i64 (P0 ss s gS k).1∧c=.int .i64 (P0 ss s gS k).2∧Below w.heap.size w wr) (λ_ _ i _=>ss.length-(intOf i).toNat)
 case atStart=>exact⟨0,Nat.zero_le _,rfl,rfl,rfl,Below.refl _ _⟩
 case round=>
  obtain⟨k,hk,rfl,rfl,rfl,hb⟩:=hrel
  by_cases hlt:k<ss.length
  .have hlt':(k:Int)<(ss.length:Int):=by omega
   obtain⟨bb,off,rfl,hbb,hc⟩:=(hr.keep λb o h=>dH hb b o (by omega)) (by omega);obtain⟨r0,r1,r2,r3⟩:=ZJ hc hlt;have hx:=hok ss[k] (List.getElem_mem hlt)
   have hd:P0 ss s gS (k+1)=XS s gS k ss[k] (P0 ss s gS k):=by show(match ss[k]? with |some x=>_|none=>_)=_;rw[List.getElem?_eq_getElem hlt]
   obtain⟨n1,n2,n3,n4⟩:=oA hok s gS k;generalize P0 ss s gS k=d at hd n1 n2 n3 n4;obtain⟨d0,d1⟩:=d;generalize ss[k]=x at r0 r1 r2 r3 hx hd;obtain⟨lo,hi,fr,to⟩:=x;obtain⟨x1,x2,x3,x4,x5,x6⟩:=hx;simp only at r0 r1 r2 r3 x1 x2 x3 x4 x5 x6 n1 n2 n3 n4;rw[eR]at hd;have e1:=pA s fr;have e2:=pA s to;simp only at hd;generalize decide (bit s fr=1)=bf at hd e1;generalize decide (bit s to=1)=bt at hd e2;have HE:=Lib.hid (And.intro e1 e2);have w1:IntKind.i64.wrap (d0+hi)=d0+hi:=by rw[IntKind.wrap_i64];omega
   have w2:IntKind.i64.wrap (d1+lo)=d1+lo:=by rw[IntKind.wrap_i64];omega
   have HR:=Lib.hid (And.intro hb hd);clear hb hd hc hr e1 e2;go_wp2
   go_quiet(fail)
   rw[HE.out.1,HE.out.2]
   by_cases hw:(k:Int)=gS
   .have HD:=Lib.hid (HR.out.2.trans (if_pos hw));go_wp2;go_roundw
    case rel=>exact⟨k+1,by omega,by go_num,by rw[HD.out],by rw[HD.out],below_drewN HR.out.1 _⟩
    case measure=>simp[intOf];omega
   .have HD:=Lib.hid (HR.out.2.trans (if_neg hw));cases bf<;>cases bt
    .have HF:=Lib.hid (HD.out.trans (if_pos rfl));go_wp2;go_roundw
     case rel=>exact⟨k+1,by omega,by go_num,by rw[HF.out],by rw[HF.out],below_drewN HR.out.1 _⟩
     case measure=>simp[intOf];omega
    .have HF:=Lib.hid (HD.out.trans ((if_neg (by decide)).trans (if_pos rfl)));go_wp2;go_roundw
     case rel=>exact⟨k+1,by omega,by go_num,by rw[HF.out],by rw[HF.out],below_drewN HR.out.1 _⟩
     case measure=>simp[intOf];omega
    .have HF:=Lib.hid (HD.out.trans ((if_neg (by decide)).trans (if_neg (by decide))));go_wp2;go_roundw
     case rel=>exact⟨k+1,by omega,by go_num,by rw[HF.out],by rw[HF.out],below_drewN HR.out.1 _⟩
     case measure=>simp[intOf];omega
    .have HF:=Lib.hid (HD.out.trans (if_pos rfl));go_wp2;go_roundw
     case rel=>exact⟨k+1,by omega,by go_num,by rw[HF.out],by rw[HF.out],below_drewN HR.out.1 _⟩
     case measure=>simp[intOf];omega
  .obtain rfl:k=ss.length:=by omega
   have HR:=Lib.hid hb;clear hb;go_wp2
   go_ret2
   exact⟨rfl,HR.out⟩
end Go.Proofs
end
section
namespace Go.Proofs
open Go Go.RowKit Go.Maps
variable [Lo.St]
def A4(ss:List eX)(s:Nat):∀k,k<=ss.length->(P0 ss s (-1) k).2-(P0 ss s (-1) k).1=gM (ss.take k) s
 |0,_=>rfl
 |k+1,hk=>by
  have ih:=A4 ss s k (by omega);have h1:=KG s ss[k].fr;have h2:=KG s ss[k].to;rw[KH ss s k (by omega), <-ih];show(match ss[k]? with |some x=>XS s (-1) k x (P0 ss s (-1) k)|none=>P0 ss s (-1) k).2-(match ss[k]? with |some x=>XS s (-1) k x (P0 ss s (-1) k)|none=>P0 ss s (-1) k).1=_;rw[List.getElem?_eq_getElem (by omega)];dsimp only;unfold XS OJ kJ;rw[if_neg (by omega)];split
  .rename_i e;rw[if_neg (by rw[if_neg (by omega),if_neg (by omega)];decide),if_neg (by rw[if_neg (by omega),if_neg (by omega)];decide)]
  .split
   .rw[if_pos (by rw[if_pos (by omega)])];dsimp only;omega
   .rw[if_neg (by rw[if_neg (by omega),if_pos (by omega)];decide),if_pos (by rw[if_neg (by omega),if_pos (by omega)])];dsimp only;omega
def GF(ss:List eX)(s:Nat):(P0 ss s (-1) ss.length).2-(P0 ss s (-1) ss.length).1=gM ss s:=by
 have :=A4 ss s ss.length (Nat.le_refl _)
 rwa [List.take_length]at this
def i6{ss:List eX}{k:Nat}(h:k<ss.length):iQ (ss.take (k+1))=(iQ (ss.take k)||decide (ss[k].lo> ss[k].hi)):=by unfold iQ;rw[List.take_succ_eq_append_getElem h,List.any_append];simp
def j7{ss:List eX}{k:Nat}(h:k<ss.length)(hx:ss[k].lo> ss[k].hi):iQ ss=true:=by unfold iQ;exact List.any_eq_true.2 ⟨_,List.getElem_mem h,by simpa using hx⟩
def bK(nd:Nat)(h:nd<=16):IntKind.i64.wrap ((2:Int)^ nd)=((2^ nd:Nat):Int):=by
 have h1:(2:Nat)^ nd<=2^ 16:=Nat.pow_le_pow_right (by decide) h;have h2:(2:Int)^ nd=((2^ nd:Nat):Int):=by simp
 rw[h2,IntKind.wrap_i64];generalize 2^ nd=m at h1⊢;omega
end Go.Proofs
end
section
namespace Go.Proofs
open Go Go.RowKit
def N1(p:Int):∀(L:List (List Int))(k:Nat),decide (gT p L k<0)=!(L.any λl=>l.contains p)
 | [],k=>by simp[gT]
 |l::r,k=>by
  unfold gT
  by_cases h:l.contains p=true
  .rw[if_pos h,List.any_cons,h,Bool.true_or];exact decide_eq_false (by omega)
  .rw[if_neg h,N1 p r,List.any_cons,show l.contains p=false by simpa using h,Bool.false_or]
end Go.Proofs
end
section
namespace Go.Proofs
open Go Go.RowKit Go.Maps
variable [Lo.St]
def B4{p i:Int}:∀(m:List Int)(l:List (Int×Int)),qg (l++m.map λq=>(q,i)) p=if m.contains p=true then some i else qg l p
 | [],l=>by simp
 |q::r,l=>by
  have e:l++(q::r).map (λq=>(q,i))=(l++ [(q,i)])++r.map λq=>(q,i):=by simp
  rw[e,B4 r,uO]
  by_cases h:r.contains p=true
  .rw[if_pos h,if_pos (by rw[List.contains_cons,h];simp)]
  .rw[if_neg h]
   by_cases h2:q=p
   .rw[if_pos h2,if_pos (by rw[List.contains_cons,h2];simp)]
   .rw[if_neg h2,if_neg (λhh=>by
     rw[List.contains_cons,Bool.or_eq_true]at hh;rcases hh with hh|hh
     .exact h2 (eq_of_beq hh).symm
     .exact h hh)]
def O2(p:Int)(l:List Int):∀(L:List (List Int))(k:Nat),gT p (L++ [l]) k=if gT p L k<0 then(if l.contains p=true then((k+L.length:Nat):Int)else -1)else gT p L k
 | [],k=>by show(if l.contains p=true then(k:Int)else -1)=_;rw[if_pos (show gT p [] k<0 from(by decide:(-1:Int)<0))];rfl
 |a::L,k=>by
  show(if a.contains p=true then(k:Int)else gT p (L++ [l]) (k+1))=if(if a.contains p=true then(k:Int)else gT p L (k+1))<0 then _ else(if a.contains p=true then(k:Int)else gT p L (k+1))
  by_cases h:a.contains p=true
  .rw[if_pos h,if_pos h,if_neg (by omega)]
  .rw[if_neg h,if_neg h,O2 p l L (k+1),List.length_cons,show k+1+L.length=k+(L.length+1) by omega]
def d9{f:dW->List Int}{ss:List dW}{k:Nat}(h:k<ss.length):fP f ss (k+1)=fP f ss k++(f ss[k]).map λq=>(q,(k:Int)):=by rw[fP,List.getElem?_eq_getElem h]
def V2{f:dW->List Int}{ss:List dW}(hn:(ss.flatMap f).Nodup)(p:Int):∀k,k<=ss.length->qg (fP f ss k) p=if gT p ((ss.take k).map f) 0<0 then none else some (gT p ((ss.take k).map f) 0)
 |0,_=>by simp[fP,qg,gT]
 |k+1,hk=>by
  have ih:=V2 hn p k (by omega);rw[d9 (by omega),B4,ih,List.take_succ_eq_append_getElem (by omega),List.map_append,List.map_cons,List.map_nil,O2];have hl:((ss.take k).map f).length=k:=by simp;omega
  rw[hl,Nat.zero_add]
  by_cases h:(f ss[k]).contains p=true
  .rw[if_pos h,if_pos h]
   have hneg:gT p ((ss.take k).map f) 0<0:=by
    have :=N1 p ((ss.take k).map f) 0
    by_cases q:gT p ((ss.take k).map f) 0<0
    .exact q
    .rw[decide_eq_false q]at this;exfalso
     have h2:(((ss.take k).map f).any λl=>l.contains p)=true:=by
      cases e:((ss.take k).map f).any λl=>l.contains p with
      |true=>rfl
      |false=>rw[e]at this;cases this
     obtain⟨l,hl1,hl2⟩:=List.any_eq_true.1 h2;obtain⟨s,hs1,rfl⟩:=List.mem_map.1 hl1;have hd:((ss.take k).flatMap f++(ss.drop k).flatMap f).Nodup:=by rw[<-List.flatMap_append,List.take_append_drop];exact hn
     refine(List.nodup_append.1 hd).2.2 p (List.mem_flatMap.2 ⟨s,hs1,by simpa using hl2⟩) p (List.mem_flatMap.2 ⟨ss[k],?_,by simpa using h⟩) rfl;rw[List.drop_eq_getElem_cons (by omega)];exact List.mem_cons_self ..
   rw[if_pos hneg,if_neg (by omega)]
  .rw[if_neg h,if_neg h]
   by_cases q:gT p ((ss.take k).map f) 0<0
   .rw[if_pos q,if_pos q,if_pos (by decide)]
   .rw[if_neg q,if_neg q,if_neg q]
def i9{b:dO}(h:(jr b.dJ.length b.dz.length b.steps [] []).1=0):∀k,k<=b.steps.length->Ju b k
 |0,_=> λj _ h=>absurd h (Nat.not_lt_zero _)
 |k+1,hk=>by
  have ih:=i9 h k (by omega);refine Pg ih (by omega) ?_
  by_cases q:mq b k b.steps[k]=0
  .exact q
  .have e:=Pd (show k<b.steps.length by omega) q;rw[<-tK ih (by omega),xA,h]at e;exact absurd e.symm q
def E4{np:Nat}{M:List Int}:∀{l U:List Int},U.Nodup->(oD np M l U).1=0->(U++l).Nodup
 | [],U,h,_=>by simpa using h
 |p::r,U,h,h2=>by
  unfold oD at h2
  by_cases q1:kH p 0 ((np:Int)-1)=false
  .rw[if_pos q1]at h2;cases h2
  rw[if_neg q1]at h2
  by_cases q2:M.contains p=false
  .rw[if_pos q2]at h2;cases h2
  rw[if_neg q2]at h2
  by_cases q3:U.contains p=true
  .rw[if_pos q3]at h2;cases h2
  rw[if_neg q3]at h2
  have hU:(U++ [p]).Nodup:=List.nodup_append.2 ⟨h,by simp, λa ha c hc=>by obtain rfl:=List.mem_singleton.1 hc;rintro rfl;exact q3 (by simpa using ha)⟩
  have :=E4 hU h2
  rwa [List.append_assoc]at this
def G4{b:dO}(h:Ju b b.steps.length):∀k,k<=b.steps.length->(mM b k).Nodup
 |0,_=>by unfold mM;simp
 |k+1,hk=>by
  have ih:=G4 h k (by omega);have hf:=h k (by omega) (by omega);rw[Ll b (by omega)];refine E4 (np:=b.dz.length) (M:=gB b k) ih ?_
  unfold mq at hf
  by_cases q1:kH b.steps[k].hand 0 ((b.dJ.length:Int)-1)=false
  .rw[if_pos q1]at hf;cases hf
  rw[if_neg q1]at hf
  by_cases q2:(oD b.dz.length (gB b k) b.steps[k].ins (mM b k)).1=0
  .exact q2
  .rw[if_pos q2]at hf;exact absurd hf q2
def m7{b:dO}(hc:fG b=0){p:Nat}(hp:p<b.dz.length):gT p (b.steps.map dW.outs) 0=((tq b.steps p).toNat:Int)∧0<=gT p (b.steps.map dW.outs) 0:=by
 obtain⟨-,h2,h3⟩:=CX (EP hc).2.2.1;have hok:=i9 h2 _ (Nat.le_refl _);obtain⟨n1,n2⟩:=Dw hok (Nat.le_refl _);have e2:(jr b.dJ.length b.dz.length b.steps [] []).2=gB b b.steps.length:=by rw[<-xA,tK hok (Nat.le_refl _),E9]
 have hm:(gB b b.steps.length).contains (p:Int)=true:=by
  cases e:(gB b b.steps.length).contains (p:Int)with
  |true=>rfl
  |false=>rw[e2]at h3;exact absurd (Pf n1 n2 hp e) h3
 have hfl:gB b b.steps.length=b.steps.flatMap dW.outs:=by unfold gB;rw[List.take_length]
 rw[hfl]at n1 hm;have hl:=V2 n1 (p:Int) b.steps.length (Nat.le_refl _);rw[List.take_length]at hl
 have hge:¬gT p (b.steps.map dW.outs) 0<0:= λq=>by
  have :=N1 p (b.steps.map dW.outs) 0;rw[decide_eq_true q]at this
  have e:((b.steps.map dW.outs).any λl=>l.contains (p:Int))=true:=by rw[<-nJ, <-List.flatMap_def];exact hm
  rw[e]at this;cases this
 rw[if_neg hge]at hl;unfold tq;rw[hl];exact⟨by show _=((gT p (b.steps.map dW.outs) 0).toNat:Int);omega,by omega⟩
def m9{b:dO}(hc:fG b=0)(p:Nat):qO b.steps p=if gT p (b.steps.map dW.ins) 0<0 then none else some (gT p (b.steps.map dW.ins) 0):=by
 obtain⟨-,h2,h3⟩:=CX (EP hc).2.2.1;have hok:=i9 h2 _ (Nat.le_refl _);have n1:=G4 hok _ (Nat.le_refl _);have hfl:mM b b.steps.length=b.steps.flatMap dW.ins:=by unfold mM;rw[List.take_length]
 rw[hfl]at n1;have hl:=V2 n1 (p:Int) b.steps.length (Nat.le_refl _)
 rwa [List.take_length]at hl
end Go.Proofs
end
section
namespace Go.Proofs
open Go Go.RowKit Go.Maps
section
variable {P:Program} {w:World}
def I0{ops:Array Oper}{o:Oper}{a:Act}{K:Act->World->Prop}{Q:Exit->Act->World->Prop}{E:Prop}(hgd:o.guard=none)(s x:Operand)(t:TypeId)
 (ho:o.op=.call { callee:=.builtin .append,args:= #[s,x],argTypes:= #[t,t] })
 (base:Nat) (e:TypeId) (i:TypeInfo) (z:Value) (size bytes:Nat) (ht:P.underlying t=some (.slice e)) (hi:P.info? e=some i) (hz:i.zero=some z)
 (hsize:i.size=size) (hby:i.bytes=bytes) (hzs:z.cells.size=size) (hsz:0<size)
 (v:Value) (n:Nat) (xs:List Value) (hs:a.eval s=v) (hown:w.ownsRow base e size v n xs)
 (A:Option Addr) (m c:Nat) (news:List Value) (hx:a.eval x=.slice A m c) (hl:news.length=m*size) (hnews:∀ad,A=some ad->∀j u,news[j]?=some u->w.cell? (ad.add j)=some u) (h0:A=none->m=0) (h1:∀u∈news,u.oneCell'=true)
 (h63:n+m<=maxLen) (hbytes:(n+m)*bytes<=140737488355328) (hbase:base<=w.heap.size)
 (h:∀v' w',w'.ownsRow base e size v' (n+m) (xs++news)->w.grownBy w' v.ownBlock->K (a.put o.dst v') w'):
 if Region.wanted o (yielded ops a.tmps)=true then Oper.wp P o a w K Q else E:=by
 cases A with
 |some ad=>exact cS.PK hgd s x t ho base e i z size bytes ht hi hz hsize hby hzs hsz v n xs hs hown ad m c news hx hl (hnews ad rfl) h1 h63 hbytes hbase h
 |none=>
  obtain rfl:=h0 rfl;obtain rfl:news= []:=List.eq_nil_of_length_eq_zero (by simpa using hl);have hw:Region.wanted o (yielded ops a.tmps)=true:=by simp[Region.wanted,hgd]
  rw[if_pos hw]
  have hrun:(Builtin.append_ #[t,t] o.type #[v,.slice none 0 c]).run P w=.ok v w:=by
   rcases hown.2 with⟨rfl,rfl⟩|⟨g,cap,cur,rfl,_,_,hnc,_⟩
   .simp[Builtin.append_,run_underlying ht,sizeOf,typeInfo,hi,Builtin.lenOf,Builtin.firstCells]
   .simp[Builtin.append_,run_underlying ht,sizeOf,typeInfo,hi,Builtin.lenOf,Builtin.firstCells,hnc,storeCells]
  unfold Oper.wp execOp;simp only[ho,resolve,invoke,builtin,Sem.run_bind,Sem.run_pure,Result.andThen_ok,List.map_toArray,List.map_cons,List.map_nil,hs,hx,hrun];exact h _ _ (by rw[List.append_nil];exact hown) (pX _ _)
end
end Go.Proofs
end
section
namespace Go.Proofs
open Go Go.RowKit Go.Maps
variable [Lo.St]
def Lo.p7:Lo.prog.underlying 129=some (.slice 132):=(Lo.underlying 129).trans (by kernel_rfl)
def Lo.rN:(Lo.prog.info? 132).map (λi=>(i.zero,i.size,i.bytes))=some (some (.agg #[.int .i64 0,.int .i64 0,.int .i64 0,.int .i64 0]),4,32):=by rw[Lo.info];kernel_rfl
def B0(ss:List eX):List Value:=ss.flatMap λx=>[.int .i64 (x.fr:Int),.int .i64 (x.to:Int),.int .i64 x.lo,.int .i64 x.hi]
def M4:∀(ss:List eX)(i j:Nat),i<ss.length->j<4->(B0 ss)[i*4+j]?=some (i7 ss i j)
 |x::r,0,j,_,hj=>by
  obtain rfl|rfl|rfl|rfl:j=0∨j=1∨j=2∨j=3:=by omega
  all_goals rfl
 |x::r,i+1,j,hi,hj=>by
  show([_,_,_,_]++B0 r)[(i+1)*4+j]?=_
  rw[List.getElem?_append_right (by simp;omega)];have :=M4 r i j (by simpa using hi) hj;rw[show(i+1)*4+j - [Value.int .i64 (x.fr:Int),.int .i64 (x.to:Int),.int .i64 x.lo,.int .i64 x.hi].length=i*4+j by simp;omega,this];rfl
def K1{l:List eX}{u:Value}(h:u∈B0 l):u.oneCell'=true:=by unfold B0 at h;obtain⟨x,_,hx⟩:=List.mem_flatMap.1 h;simp only[List.mem_cons,List.not_mem_nil,or_false]at hx;rcases hx with rfl|rfl|rfl|rfl<;>rfl
def B5{w:World}{base base' e size n:Nat}{v:Value}{xs:List Value}(h:w.ownsRow base e size v n xs)(hb:base'<=base):w.ownsRow base' e size v n xs:=by obtain⟨h1,h2⟩:=h;refine⟨h1,h2.imp id ?_⟩;rintro⟨g,cap,cur,a,b,c,d⟩;exact⟨g,cap,cur,a,Nat.le_trans hb b,c,d⟩
def T1(l r:List eX):B0 (l++r)=B0 l++B0 r:=by unfold B0;rw[List.flatMap_append]
def Lo.PF{w:World}{B:Nat}{b:dO}{v:gJ}{x:Value}{hand:Int}(hx:x=dY b v)(hb:fC w B b v)(hB:B<=w.heap.size)(hs:b.small)(hc:fG b=0)(hh: -1<=hand∧hand<=64):
 Calls Lo.prog 78 #[x,.int .i64 hand] w λe w'=>∃v',e=.returned v'∧w'.ownsRow w.heap.size 132 4 v' (fA b hand).length (B0 (fA b hand))∧Below w.heap.size w w':=by
 obtain⟨U,U2,U3,U4,U5,U6⟩:=Lo.facts;have C:=Lo.call Tryz.func102;have C2:=Lo.call Tryz.func76;have C3:=Lo.call Tryz.func104;obtain⟨i0,hi,hz0,hz1,hz2⟩:=info_parts Lo.rN;have hg:=lM hs hc;have qT:=hg.n8;have bk:=hg.eV;subst hx;obtain⟨X,hX,sX,bX,hA,hC⟩:=cT hb hB;have HC:=Lib.hid hC;have HA:=Lib.hid hA;have HX:=Lib.hid (And.intro hX bX);clear hX bX hA hC hb;show Calls Lo.prog 78 #[Value.agg (lN b v),_] w _;unfold lN;go_enter Lo.get Tryz.func78,Tryz.ntmps78;go_wp2;have hy:=HX.out.1;unfold lN at hy;rw[hy];clear hy;have hst:=hs.steps
 go_loopw [6,7] (λo i wr=>∃k:Nat,k<=b.dz.length∧i=.int .i64 (k:Int)∧wr.ownsRow X.heap.size 132 4 o k (B0 (eG b k))∧Below X.heap.size X wr) (λ_ i _=>b.dz.length-(intOf i).toNat)
 case atStart=>exact⟨0,Nat.zero_le _,rfl,World.ownsRow_nil _ _ _ _,Below.refl _ _⟩
 case round=>
  obtain⟨k,hk,rfl,hown,hbw⟩:=hrel;obtain⟨f0,f1,f2,f3⟩:=fS (HC.out wr hbw)
  by_cases hlt:k<b.dz.length
  .have hlt':(k:Int)<(b.dz.length:Int):=by omega
   obtain⟨m1,m2⟩:=m7 hc hlt;have u1:=m9 hc k;have hpl:eG b (k+1)=eG b k++ [mh b k]:=by unfold eG;rw[List.range_succ,List.map_append];rfl
   have hps:mh b k=⟨(je b.dA k).1,(je b.dA k).2,(tq b.steps k).toNat,((qO b.steps k).getD b.steps.length).toNat⟩:=rfl
   have vn:∀W,Below X.heap.size X W->Calls Lo.prog 76 #[df b v,.int .i64 (k:Int),.int .i64 (b.steps.length:Int)] W λe w'=>e=.returned (.int .i64 ((tq b.steps k).toNat:Int))∧Below W.heap.size W w':= λW hW=>by have h:=Lo.rU (x:=df b v) (p:=(k:Int)) rfl (HA.out W hW) (by have :=hW.size;omega) hs (Nat.le_refl _);rw[List.take_length,m1]at h;exact h
   have wn:∀W,Below X.heap.size X W->Calls Lo.prog 102 #[df b v,.int .i64 (k:Int),.int .i64 (b.steps.length:Int)] W λe w'=>e=.returned (.int .i64 (gT k (b.steps.map dW.ins) 0))∧Below W.heap.size W w':= λW hW=>by have h:=Lo.Dj (x:=df b v) (p:=(k:Int)) rfl (HA.out W hW) (by have :=hW.size;omega) hs (Nat.le_refl _);rw[List.take_length]at h;exact h
   have kB:∀W,Below X.heap.size X W->Calls Lo.prog 104 #[df b v,.int .i64 (k:Int)] W λe w'=>e=.returned (.agg #[.int .i64 (je b.dA k).1,.int .i64 (je b.dA k).2])∧Below W.heap.size W w':= λW hW=>Lo.d7 rfl (HA.out W hW) (by have :=hW.size;omega) hs
   rw[u1]at hps;generalize gT (k:Int) (b.steps.map dW.ins) 0=F at wn hps;obtain⟨us,RN⟩:∃us:Nat,((if F<0 then none else some F:Option Int).getD b.steps.length).toNat=us:=⟨_,rfl⟩;rw[RN]at hps;generalize(tq b.steps k).toNat=mk at vn hps;generalize(je b.dA k).1=lo at kB hps;generalize(je b.dA k).2=up at kB hps;have HK:=Lib.hid (And.intro vn (And.intro wn kB));have HP:=Lib.hid (And.intro hpl hps);have HW:=Lib.hid (And.intro hown hbw);clear vn wn kB hpl hps m1 m2 u1 hown hbw
   by_cases hF:F<0
   .have tP:us=b.steps.length:=by rw[if_pos hF]at RN;simp at RN;omega
    clear RN;subst tP
    go_wp2_with(go_at_call 102;with_reducible refine(HK.out.2.1 wr HW.out.2).mono ?_;rintro e w1⟨rfl,h1⟩;obtain⟨f0,f1,f2,f3⟩:=fS (HC.out w1 (HW.out.2.trans (h1.mono HW.out.2.size))))
    have hb1:=HW.out.2.trans (h1.mono HW.out.2.size);have hown1:=ownsRow.below HW.out.1 h1;have H1:=Lib.hid (And.intro hb1 hown1);have s1:=hb1.size;clear hb1 hown1 h1
    go_region_law (first
     |(go_simp;go_at_call 76;go_must(
       with_reducible refine(HK.out.1 _ ?b1).mono ?_
       case b1=>exact H1.out.1.drew
       rintro e w3⟨rfl,h3⟩;replace h3:Below w1.heap.size w1 w3:=((Below.refl w1.heap.size w1).drew).trans h3;obtain⟨f0,f1,f2,f3⟩:=fS (HC.out w3 (H1.out.1.trans (Below.mono h3 s1)));have H3:=Lib.hid h3;clear h3))
     |(go_simp;go_at_call 104;go_must(
       with_reducible refine(HK.out.2.2 _ ?b1).mono ?_
       case b1=>exact H1.out.1.trans (H3.out.mono s1)
       rintro e w4⟨rfl,h4⟩;have hb4:=(H1.out.1.trans (H3.out.mono s1)).trans (h4.mono (Nat.le_trans s1 H3.out.size));have AA:=ownsRow.below (ownsRow.below H1.out.2 H3.out) h4;obtain⟨f0,f1,f2,f3⟩:=fS (HC.out w4 hb4);have H4:=Lib.hid (And.intro hb4 AA);have s4:=hb4.size;clear h4 hb4 AA))
     |(refine I0 rfl (.tmp 28) (.tmp 38) 129 rfl X.heap.size 132 i0 (.agg #[.int .i64 0,.int .i64 0,.int .i64 0,.int .i64 0]) 4 32 Lo.p7 hi hz0 hz1 hz2 rfl (by decide) _ k (B0 (eG b k)) rfl (H4.out.2.alloc _) (some ⟨_,0,none⟩) 1 1 (B0 [⟨lo,up,mk,b.steps.length⟩]) rfl rfl ?hn (λe=>by cases e) (λu hu=>K1 hu) (by unfold maxLen;omega) (by omega) (by simp;omega) ?_
       case hn=>
        intro ad e;cases e;exact World.news_of_block (t:=132) (fr:=(0,0)) (cs:= #[.int .i64 (mk:Int),.int .i64 (b.steps.length:Int),.int .i64 lo,.int .i64 up]) (World.alloc_heap_new _ _)
       intro v5 w5 a1 a2;have hb5:=Below.grown (H4.out.1.alloc s4 _) a2 (by simp;omega) (λj hj=>(H4.out.2.lt j hj).1);have H5:=Lib.hid (And.intro hb5 a1);clear hb5 a1 a2))
    all_goals
     go_wp2;go_roundw
    all_goals first
     |exact⟨k+1,by omega,by go_num,by rw[HP.out.1,T1,HP.out.2];exact H5.out.2,H5.out.1⟩
     |(simp[intOf];omega)
   .have tP:F=(us:Int):=by rw[if_neg hF]at RN;simp at RN;omega
    clear RN;subst tP
    go_wp2_with(go_at_call 102;with_reducible refine(HK.out.2.1 wr HW.out.2).mono ?_;rintro e w1⟨rfl,h1⟩;obtain⟨f0,f1,f2,f3⟩:=fS (HC.out w1 (HW.out.2.trans (h1.mono HW.out.2.size))))
    have hb1:=HW.out.2.trans (h1.mono HW.out.2.size);have hown1:=ownsRow.below HW.out.1 h1;have H1:=Lib.hid (And.intro hb1 hown1);have s1:=hb1.size;clear hb1 hown1 h1
    go_region_law (first
     |(go_simp;go_at_call 76;go_must(
       with_reducible refine(HK.out.1 _ ?b1).mono ?_
       case b1=>exact H1.out.1.drew
       rintro e w3⟨rfl,h3⟩;replace h3:Below w1.heap.size w1 w3:=((Below.refl w1.heap.size w1).drew).trans h3;obtain⟨f0,f1,f2,f3⟩:=fS (HC.out w3 (H1.out.1.trans (Below.mono h3 s1)));have H3:=Lib.hid h3;clear h3))
     |(go_simp;go_at_call 104;go_must(
       with_reducible refine(HK.out.2.2 _ ?b1).mono ?_
       case b1=>exact H1.out.1.trans (H3.out.mono s1)
       rintro e w4⟨rfl,h4⟩;have hb4:=(H1.out.1.trans (H3.out.mono s1)).trans (h4.mono (Nat.le_trans s1 H3.out.size));have AA:=ownsRow.below (ownsRow.below H1.out.2 H3.out) h4;obtain⟨f0,f1,f2,f3⟩:=fS (HC.out w4 hb4);have H4:=Lib.hid (And.intro hb4 AA);have s4:=hb4.size;clear h4 hb4 AA))
     |(refine I0 rfl (.tmp 28) (.tmp 38) 129 rfl X.heap.size 132 i0 (.agg #[.int .i64 0,.int .i64 0,.int .i64 0,.int .i64 0]) 4 32 Lo.p7 hi hz0 hz1 hz2 rfl (by decide) _ k (B0 (eG b k)) rfl (H4.out.2.alloc _) (some ⟨_,0,none⟩) 1 1 (B0 [⟨lo,up,mk,us⟩]) rfl rfl ?hn (λe=>by cases e) (λu hu=>K1 hu) (by unfold maxLen;omega) (by omega) (by simp;omega) ?_
       case hn=>
        intro ad e;cases e;exact World.news_of_block (t:=132) (fr:=(0,0)) (cs:= #[.int .i64 (mk:Int),.int .i64 (us:Int),.int .i64 lo,.int .i64 up]) (World.alloc_heap_new _ _)
       intro v5 w5 a1 a2;have hb5:=Below.grown (H4.out.1.alloc s4 _) a2 (by simp;omega) (λj hj=>(H4.out.2.lt j hj).1);have H5:=Lib.hid (And.intro hb5 a1);clear hb5 a1 a2))
    all_goals
     go_wp2;go_roundw
    all_goals first
     |exact⟨k+1,by omega,by go_num,by rw[HP.out.1,T1,HP.out.2];exact H5.out.2,H5.out.1⟩
     |(simp[intOf];omega)
  .obtain rfl:k=b.dz.length:=by omega
   have HW:=Lib.hid (And.intro hown hbw);clear hown hbw;go_wp2
   go_loopw [6,9] (λo i wr=>∃k:Nat,k<=b.steps.length∧i=.int .i64 (k:Int)∧wr.ownsRow X.heap.size 132 4 o (b.dz.length+2*k) (B0 (eG b b.dz.length++fq b hand k))∧Below X.heap.size X wr) (λ_ i _=>b.steps.length-(intOf i).toNat)
   case atStart=>exact⟨0,Nat.zero_le _,rfl,by show wr.ownsRow _ _ _ _ _ (B0 (eG b b.dz.length++ []));rw[List.append_nil];exact HW.out.1,HW.out.2⟩
   case round=>
    obtain⟨k,hk,rfl,hown,hbw⟩:=hrel;obtain⟨f0,f1,f2,f3⟩:=fS (HC.out _ hbw);have s1:=hbw.size
    by_cases hlt:k<b.steps.length
    .have hlt':(k:Int)<(b.steps.length:Int):=by omega
     obtain⟨bb,off,e,hbb,hcl⟩:=(HA.out _ hbw).steps (by omega);obtain⟨r0, -, -,r3,r4,r5,r6⟩:=sZ hcl hlt
     have hss:fq b hand (k+1)=fq b hand k++nT b.steps.length hand k b.steps[k]:=by rw[fq,List.getElem?_eq_getElem hlt]
     generalize b.steps[k]=s at r0 r3 r4 r5 r6 hss;rw[e]at f2;have hcw:B0 (eG b b.dz.length++fq b hand (k+1))=B0 (eG b b.dz.length++fq b hand k)++B0 (nT b.steps.length hand k s):=by rw[hss, <-List.append_assoc,T1]
     have HR:=Lib.hid (And.intro hown (And.intro hbw hcw));clear hown hbw hcw hss hcl e
     by_cases hq:s.hand=hand
     .have eK:nT b.steps.length hand k s= [⟨s.g0,s.g1,b.steps.length,k⟩,⟨s.l0,s.l1,k,b.steps.length+1⟩]:=by unfold nT;rw[if_pos hq]
      have HST:=Lib.hid eK;clear eK;go_wp2
      go_region_law (first
       |(refine I0 rfl (.tmp 56) (.tmp 75) 129 rfl X.heap.size 132 i0 (.agg #[.int .i64 0,.int .i64 0,.int .i64 0,.int .i64 0]) 4 32 Lo.p7 hi hz0 hz1 hz2 rfl (by decide) _ (b.dz.length+2*k) (B0 (eG b b.dz.length++fq b hand k)) rfl ((HR.out.1.alloc _).drew) (some ⟨_,0,none⟩) 2 2 (B0 [⟨s.g0,s.g1,b.steps.length,k⟩,⟨s.l0,s.l1,k,b.steps.length+1⟩]) rfl rfl ?hn (λe=>by cases e) (λu hu=>K1 hu) (by unfold maxLen;omega) (by omega) (by simp;omega) ?_
         case hn=>
          intro ad e;cases e;exact World.news_of_block (t:=132) (fr:=(0,0)) (cs:= #[.int .i64 (b.steps.length:Int),.int .i64 (k:Int),.int .i64 s.g0,.int .i64 s.g1,.int .i64 (k:Int),.int .i64 ((b.steps.length+1:Nat):Int),.int .i64 s.l0,.int .i64 s.l1]) (World.alloc_heap_new _ _)
         intro v5 w5 a1 a2;have hb5:=Below.grown ((HR.out.2.1.drew.alloc s1 _)) a2 (by simp;omega) (λj hj=>(HR.out.1.lt j hj).1);have H5:=Lib.hid (And.intro hb5 a1);clear hb5 a1 a2))
      all_goals
       go_wp2;go_roundw
      all_goals first
       |exact⟨k+1,by omega,by go_num,by rw[HR.out.2.2,HST.out];exact H5.out.2,H5.out.1⟩
       |(simp[intOf];omega)
     .have eK:nT b.steps.length hand k s= [⟨s.g0,s.g1,b.steps.length,k⟩,⟨s.l0,s.l1,k,b.steps.length⟩]:=by unfold nT;rw[if_neg hq]
      have HST:=Lib.hid eK;clear eK;go_wp2
      go_region_law (first
       |(refine I0 rfl (.tmp 56) (.tmp 75) 129 rfl X.heap.size 132 i0 (.agg #[.int .i64 0,.int .i64 0,.int .i64 0,.int .i64 0]) 4 32 Lo.p7 hi hz0 hz1 hz2 rfl (by decide) _ (b.dz.length+2*k) (B0 (eG b b.dz.length++fq b hand k)) rfl ((HR.out.1.alloc _).drew) (some ⟨_,0,none⟩) 2 2 (B0 [⟨s.g0,s.g1,b.steps.length,k⟩,⟨s.l0,s.l1,k,b.steps.length⟩]) rfl rfl ?hn (λe=>by cases e) (λu hu=>K1 hu) (by unfold maxLen;omega) (by omega) (by simp;omega) ?_
         case hn=>
          intro ad e;cases e;exact World.news_of_block (t:=132) (fr:=(0,0)) (cs:= #[.int .i64 (b.steps.length:Int),.int .i64 (k:Int),.int .i64 s.g0,.int .i64 s.g1,.int .i64 (k:Int),.int .i64 ((b.steps.length:Nat):Int),.int .i64 s.l0,.int .i64 s.l1]) (World.alloc_heap_new _ _)
         intro v5 w5 a1 a2;have hb5:=Below.grown ((HR.out.2.1.drew.alloc s1 _)) a2 (by simp;omega) (λj hj=>(HR.out.1.lt j hj).1);have H5:=Lib.hid (And.intro hb5 a1);clear hb5 a1 a2))
      all_goals
       go_wp2;go_roundw
      all_goals first
       |exact⟨k+1,by omega,by go_num,by rw[HR.out.2.2,HST.out];exact H5.out.2,H5.out.1⟩
       |(simp[intOf];omega)
    .obtain rfl:k=b.steps.length:=by omega
     have HR:=Lib.hid (And.intro hown hbw);clear hown hbw;have hX0:Below w.heap.size w X:=HX.out.2
     by_cases hh0:0<=hand
     .have hwl:fA b hand=eG b b.dz.length++fq b hand b.steps.length++ [⟨0,8000000,b.steps.length+1,b.steps.length⟩]:=by unfold fA;rw[if_pos hh0]
      have hln:=yR b hand;rw[if_pos hh0]at hln;have HL:=Lib.hid (And.intro hwl (And.intro hln hX0));clear hwl hln hX0
      go_wp2_with(at_builtin;refine wpList_append_own _ rfl _ _ 129 rfl X.heap.size 132 i0 (.agg #[.int .i64 0,.int .i64 0,.int .i64 0,.int .i64 0]) 4 32 Lo.p7 hi hz0 hz1 hz2 rfl (by decide) _ (b.dz.length+2*b.steps.length) (B0 (eG b b.dz.length++fq b hand b.steps.length)) rfl (HR.out.1.alloc _) ⟨wr.heap.size,0,none⟩ 1 1 (B0 [⟨0,8000000,b.steps.length+1,b.steps.length⟩]) rfl rfl (World.news_of_block (t:=132) (fr:=(0,0)) (cs:= #[.int .i64 ((b.steps.length+1:Nat):Int),.int .i64 (b.steps.length:Int),.int .i64 0,.int .i64 8000000]) (World.alloc_heap_new _ _)) (λu hu=>K1 hu) (by unfold maxLen;omega) (by omega) (by simp;omega) ?_)
      intro v5 w5 a1 a2 _;have hb5:=Below.grown (HR.out.2.alloc s1 _) a2 (by simp;omega) (λj hj=>(HR.out.1.lt j hj).1);have H5:=Lib.hid (And.intro a1 (HL.out.2.2.trans (hb5.mono (by omega))));clear a1 a2 hb5;go_wp2;go_ret;exact⟨v5,rfl,by rw[HL.out.1,T1];exact(by have h:=B5 H5.out.1 (base':=w.heap.size) (by omega);rwa [<-HL.out.2.1,HL.out.1]at h),H5.out.2⟩
     .have hwl:fA b hand=eG b b.dz.length++fq b hand b.steps.length:=by unfold fA;rw[if_neg hh0,List.append_nil]
      have hln:=yR b hand;rw[if_neg hh0]at hln;have HL:=Lib.hid (And.intro hwl (And.intro hln hX0));clear hwl hln hX0;go_wp2;go_ret;exact⟨u6,rfl,by rw[HL.out.1];exact(by have h:=B5 HR.out.1 (base':=w.heap.size) (by omega);rwa [<-show(fA b hand).length=b.dz.length+2*b.steps.length from HL.out.2.1,HL.out.1]at h),HL.out.2.2.trans (HR.out.2.mono (by omega))⟩
end Go.Proofs
end
section
namespace Go.Proofs
open Go Go.RowKit Go.Maps
variable [Lo.St]
def Lo.rK{w:World}{B:Nat}{b:dO}{v:gJ}{x:Value}{hand:Int}(hx:x=dY b v)(hb:fC w B b v)(hB:B<=w.heap.size)(hs:b.small)(hc:fG b=0)(hh: -1<=hand∧hand<=64):
 Calls Lo.prog 78 #[x,.int .i64 hand] w λe w'=>∃A cap,e=.returned (.slice A (fA b hand).length cap)∧Lz w' w'.heap.size A (fA b hand)∧Below w.heap.size w w':=by
 refine(Lo.PF hx hb hB hs hc hh).mono ?_
 rintro e w'⟨v',rfl,hown,hbl⟩;obtain⟨A,cap,rfl, -,hr⟩:=ownsRow.rd (B:=w'.heap.size) (f:=i7 (fA b hand)) hown (λi j hi hj=>M4 _ i j hi hj);exact⟨A,cap,rfl,hr _ (Nat.le_refl _) (Nat.le_refl _),hbl⟩
end Go.Proofs
end
section
namespace Go.Proofs
open Go Go.RowKit Go.Maps
variable [Lo.St]
def R1(n:Nat):Int->List Int->Int
 |_,[]=>0
 |p,x::l=>if kH x 0 ((n:Int)-1)=false then 6 else if x<=p then 7 else R1 n x l
def A0(l:List Int):Nat:=(l.map λx=>2^ x.toNat).sum
def N0(l:List Int):Nat->Int
 |0=> -1
 |k+1=>l.getD k 0
def GP(w:World)(b:dO)(l:List Int)(eO:Bool)(e:Ending)(w':World):Prop:=
 Below w.heap.size w w'∧
 if fG b≠0 then e=.returned (.tuple #[.bool false,.int .i64 (fG b)])
 else if R1 b.steps.length (-1) l≠0 then e=.returned (.tuple #[.bool false,.int .i64 (R1 b.steps.length (-1) l)])
 else e=.returned (.tuple #[.bool (gP (fA b (-1)) (b.steps.length+1) (A0 l) eO),.int .i64 0])
def PP(s x:Nat)(h:s<2^ x)(hx:x<62):bits .or .u64 (s:Int) ((2^ x:Nat):Int)=((s+2^ x:Nat):Int):=by have h2:(2:Nat)^ x<2^ 62:=Nat.pow_lt_pow_right (by decide) hx;have h3:=(bits_nat .u64 63 (by decide) Bu s (2^ x) (by omega) (by omega)).2;rw[h3];have :=Nat.two_pow_add_eq_or_of_lt h 1;rw[Nat.mul_one]at this;rw[Nat.or_comm, <-this,Nat.add_comm]
def L5{l:List Int}{k:Nat}(h:k<l.length):A0 (l.take (k+1))=A0 (l.take k)+2^ (l[k]).toNat:=by unfold A0;rw[List.take_succ_eq_append_getElem h,List.map_append,List.sum_append];simp
def E2{n k:Nat}{l:List Int}{p:Int}(h:k<l.length):R1 n p (l.drop k)=if kH l[k] 0 ((n:Int)-1)=false then 6 else if l[k]<=p then 7 else R1 n l[k] (l.drop (k+1)):=by rw[List.drop_eq_getElem_cons h];rfl
def J1{l:List Int}{k:Nat}(h:k<l.length):N0 l (k+1)=l[k]:=by simp[N0,h]
structure dT(n:Nat)(l:List Int)(k s:Nat):Prop where
 eq:R1 n (-1) l=R1 n (N0 l k) (l.drop k)
 val:s=A0 (l.take k)
 lt:s<2^ (N0 l k+1).toNat
 p1: -1<=N0 l k
 p2:N0 l k<=n-1
def dT.start(n:Nat)(l:List Int):dT n l 0 0:=⟨rfl,rfl,by simp[N0],by simp[N0],by simp[N0];omega⟩
def dT.step{n k s:Nat}{l:List Int}(h:dT n l k s)(hk:k<l.length)(h1:kH l[k] 0 ((n:Int)-1)=true)(h2:¬l[k]<=N0 l k):dT n l (k+1) (s+2^ (l[k]).toNat)∧s<2^ (l[k]).toNat:=by
 obtain⟨e,hs,lt,p1,p2⟩:=h;have hb:0<=l[k]∧l[k]<=(n:Int)-1:=by simpa[kH]using h1
 have hm:s<2^ (l[k]).toNat:=Nat.lt_of_lt_of_le lt (Nat.pow_le_pow_right (by decide) (by omega));refine⟨⟨?_,?_,?_,?_,?_⟩,hm⟩
 .rw[e,E2 hk,if_neg (by rw[h1];simp),if_neg h2,J1 hk]
 .rw[L5 hk,hs]
 .rw[J1 hk,show(l[k]+1).toNat=(l[k]).toNat+1 by omega,Nat.pow_succ];omega
 .rw[J1 hk];omega
 .rw[J1 hk];omega
def dT.last{n:Nat}{l:List Int}{s:Nat}(h:dT n l l.length s):R1 n (-1) l=0∧s=A0 l∧s<2^ n:=by obtain⟨e,hs,lt,p1,p2⟩:=h;rw[List.drop_length]at e;rw[List.take_length]at hs;exact⟨e,hs,Nat.lt_of_lt_of_le lt (Nat.pow_le_pow_right (by decide) (by omega))⟩
def Lo.r7{w:World}{B:Nat}{b:dO}{v:gJ}{x:Value}{A:Option Addr}{l:List Int}{cl:Nat}{eO:Bool}(hx:x=dY b v)(hb:fC w B b v)(hB:B<=w.heap.size)(hs:b.small)(hr:xJ w B A l)(hl:l.length<=64):
 Calls Lo.prog 9 #[x,.slice A l.length cl,.bool eO] w (GP w b l eO):=by
 obtain⟨U,U2,U3,U4,U5,U6⟩:=Lo.facts;have C:=Lo.call Tryz.func19;have C2:=Lo.call Tryz.func37;have C3:=Lo.call Tryz.func20;have C4:=Lo.call Tryz.func28;subst hx;obtain⟨X,hX,sX,bX,hA,hC⟩:=cT hb hB;have HC:=Lib.hid hC;have HA:=Lib.hid hA;have HX:=Lib.hid (And.intro hX bX);have HR:=Lib.hid hr;clear hX bX hA hC hb hr;obtain⟨f0,f1,f2,f3⟩:=fS (HC.out X (Below.refl _ _));show Calls Lo.prog 9 #[Value.agg (lN b v),_,_] w _;unfold lN;go_enter Lo.get Tryz.func9,Tryz.ntmps9;go_wp2;have hy:=HX.out.1;unfold lN at hy;rw[hy];clear hy;refine(Lo.gV (b:=b) (v:=v) (B:=B) rfl (HA.out X (Below.refl _ _)) (by omega) hs).mono ?_
 rintro e w1⟨rfl,h1⟩;obtain⟨f0,f1,f2,f3⟩:=fS (HC.out w1 h1);obtain⟨cx,hcx⟩:∃cx,fG b=cx:=⟨_,rfl⟩;rw[hcx]
 by_cases z:cx=0
 case neg=>
  have z2:(cx==0)=false:=by simpa using z
  have WV:=Lib.hid (And.intro hcx h1);clear hcx h1;go_wp2
  go_ret2
  refine⟨HX.out.2.trans (WV.out.2.mono (by omega)),?_⟩;rw[if_pos (by rw[WV.out.1];exact z),WV.out.1];rfl
 subst z;have hg:=lM hs hcx;have qT:=hg.n8;have WV:=Lib.hid (And.intro hcx (And.intro h1 hg));clear hcx h1 hg;go_wp2;go_wp2;have CT:X.heap.size<=w1.heap.size:=WV.out.2.1.size
 go_loopw [9,19] (λs i wr=>∃k q:Nat,k<=l.length∧i=.int .i64 (k:Int)∧s=.int .u64 (q:Int)∧dT b.steps.length l k q∧Below w1.heap.size w1 wr) (λ_ i _=>l.length-(intOf i).toNat)
 case atStart=>exact⟨0,0,Nat.zero_le _,rfl,rfl,dT.start _ _,Below.refl _ _⟩
 case round=>
  obtain⟨k,q,hk,rfl,rfl,hp,hbw⟩:=hrel;have rS:=WV.out.2.1.trans (hbw.mono CT);obtain⟨f0,f1,f2,f3⟩:=fS (HC.out wr rS);have szr:w1.heap.size<=wr.heap.size:=hbw.size;have hrr:xJ wr B A l:=HR.out.keep λd o h=>dH (HX.out.2.trans (rS.mono HX.out.2.size)) d o (by omega)
  have HW:=Lib.hid (And.intro hbw rS);clear hbw rS
  by_cases hlt:k<l.length
  .have hlt':(k:Int)<(l.length:Int):=by omega
   obtain⟨b1,o1,rfl,hb1,hc1⟩:=hrr (by omega);have r1:=PT hc1 hlt
   have r2:∀j:Nat,k=j+1->wr.cell? ⟨b1,o1+j,none⟩=some (.int .i64 (N0 l k)):= λj hj=>by subst hj;rw[PT hc1 (by omega),J1 (by omega)]
   have HP:=Lib.hid hp;have HK:=Lib.hid hc1;have wl:IntKind.i64.wrap ((b.steps.length:Int)-1)=(b.steps.length:Int)-1:=by rw[IntKind.wrap_i64];omega
   have hbl:Below w.heap.size w wr:=HX.out.2.trans (HW.out.2.mono (by omega));have zQ:=Lib.hid hbl;have RT:=Lib.hid hlt;clear hc1 hbl hp hrr;obtain⟨x,hx⟩:∃x,l[k]'hlt=x:=⟨_,rfl⟩;replace r1:wr.cell? ⟨b1,o1+k,none⟩=some (.int .i64 x):=by rw[<-hx];exact r1
   have bT:=Lib.hid hx;clear hx;go_wp2;refine(Lo.eB _ _ _ _).mono ?_
   rintro e w1'⟨rfl,rfl⟩;cases hbt:kH x 0 ((b.steps.length:Int)-1)with
   |false=>
    have HB:=Lib.hid hbt;clear hbt;go_wp2
    go_ret2
    refine⟨zQ.out,?_⟩;have h6:R1 b.steps.length (-1) l=6:=by rw[HP.out.eq,E2 RT.out,bT.out,if_pos HB.out]
    rw[if_neg (by rw[WV.out.1];simp),if_pos (by rw[h6];decide),h6];rfl
   |true=>
    have hx0:0<=x∧x<=(b.steps.length:Int)-1:=by simpa[kH]using hbt
    have HB:=Lib.hid hbt;clear hbt;obtain⟨p,hpv⟩:∃p,N0 l k=p:=⟨_,rfl⟩;rw[hpv]at r2;have bU:=Lib.hid hpv;clear hpv
    by_cases hle:x<=p
    .obtain⟨j,rfl⟩:∃j,k=j+1:=by
      cases k with
      |zero=>have :=bU.out;simp[N0]at this;omega
      |succ j=>exact⟨j,rfl⟩
     have r3:=r2 j rfl;have d1:decide (((j+1:Nat):Int)> 0)=true:=decide_eq_true (by omega);have d2:decide (x<=p)=true:=decide_eq_true hle;have wj:IntKind.i64.wrap (((j+1:Nat):Int)-1)=(j:Int):=by rw[IntKind.wrap_i64];omega
     have hj':(j:Int)<(l.length:Int):=by omega
     have cU:=Lib.hid hle;clear hle;go_wp2
     go_ret2
     refine⟨zQ.out,?_⟩;have h6:R1 b.steps.length (-1) l=7:=by rw[HP.out.eq,E2 RT.out,bT.out,if_neg (by rw[HB.out];simp),bU.out,if_pos cU.out]
     rw[if_neg (by rw[WV.out.1];simp),if_pos (by rw[h6];decide),h6];rfl
    .obtain⟨n,rfl⟩:∃n:Nat,x=(n:Int):=⟨x.toNat,by omega⟩;have hst:=HP.out.step RT.out (by rw[bT.out];exact HB.out) (by rw[bT.out,bU.out];exact hle);rw[bT.out,Int.toNat_natCast]at hst;have hsh:=vC n (by omega);have hor:=PP q n hst.2 (by omega);have HST:=Lib.hid hst.1;clear hst;have fin:True:=trivial;cases k with
     |zero=>
      have cU:=Lib.hid hle;clear hle;go_wp2;go_roundw
      case rel=>exact⟨1,q+2^ n,by omega,by go_num,by rw[show((2:Int)^ n)=((2^ n:Nat):Int)from by simp,hor],HST.out,HW.out.1⟩
      case measure=>simp[intOf];omega
     |succ j=>
      have r3:=r2 j rfl;have d1:decide (((j+1:Nat):Int)> 0)=true:=decide_eq_true (by omega);have d2:decide ((n:Int)<=p)=false:=decide_eq_false hle;have wj:IntKind.i64.wrap (((j+1:Nat):Int)-1)=(j:Int):=by rw[IntKind.wrap_i64];omega
      have hj':(j:Int)<(l.length:Int):=by omega
      have cU:=Lib.hid hle;clear hle;go_wp2;go_roundw
      case rel=>exact⟨j+1+1,q+2^ n,by omega,by go_num,by rw[show((2:Int)^ n)=((2^ n:Nat):Int)from by simp,hor],HST.out,HW.out.1⟩
      case measure=>simp[intOf];omega
  .obtain rfl:k=l.length:=by omega
   have HP:=Lib.hid hp.last;have hq1:q<2^ (b.steps.length+1):=Nat.lt_trans hp.last.2.2 (Nat.pow_lt_pow_right (by decide) (by omega));have zQ:=Lib.hid (HX.out.2.trans (HW.out.2.mono (by omega)));clear hp hrr;go_wp2;refine(Lo.vH (b:=b) (v:=v) (B:=B) rfl (HA.out wr HW.out.2) (by omega) WV.out.2.2 (-1) (by omega)).mono ?_
   rintro e w2⟨bw,Aw,cap,rfl,hw,hb2⟩;have HB2:=Lib.hid hb2;clear hb2;have hn1:dZ b (-1)=b.steps.length+1:=if_neg (by omega);rw[hn1]at hw;have HWW:=Lib.hid hw;clear hw;go_wp2;refine(Lo.KN HWW.out (Nat.le_refl _) (by omega) q hq1 eO).mono ?_
   rintro e w3⟨rfl,hb3⟩;go_wp2
   go_ret2
   refine⟨(zQ.out.trans (HB2.out.mono zQ.out.size)).trans (hb3.mono (Nat.le_trans zQ.out.size HB2.out.size)),?_⟩;rw[if_neg (by rw[WV.out.1];simp),if_neg (by rw[HP.out.1];simp),HP.out.2.1];rfl
end Go.Proofs
end
section
namespace Go.Proofs
open Go Go.RowKit Go.Maps
variable [Lo.St]
def AK{l:List Int}:∀k,A0 (l.take k)<=A0 l:= λk=>by
 have h:A0 l=A0 (l.take k)+A0 (l.drop k):=by unfold A0;rw[<-List.sum_append, <-List.map_append,List.take_append_drop]
 omega
def Lo.M5{w:World}{B:Nat}{A:Option Addr}{l:List Int}{cl:Nat}(hr:xJ w B A l)(hl:l.length<=64)(hB:B<=w.heap.size)(hx:∀x∈l,0<=x∧x<40)(hb:A0 l<2^ 40):
 Calls Lo.prog 36 #[.slice A l.length cl] w λe w'=>e=.returned (.int .i64 (A0 l:Int))∧Below w.heap.size w w':=by
 obtain⟨U,U2,U3,U4,U5,U6⟩:=Lo.facts;have HR:=Lib.hid (And.intro hr (And.intro hx hb));clear hr hx hb;go_enter Lo.get Tryz.func36,Tryz.ntmps36;go_wp2
 go_loopw [3,4] (λn i wr=>∃k:Nat,k<=l.length∧n=.int .i64 (A0 (l.take k):Int)∧i=.int .i64 (k:Int)∧Below w.heap.size w wr) (λ_ i _=>l.length-(intOf i).toNat)
 case atStart=>exact⟨0,Nat.zero_le _,rfl,rfl,Below.refl _ _⟩
 case round=>
  obtain⟨k,hk,rfl,rfl,hbw⟩:=hrel;have HW:=Lib.hid hbw;clear hbw
  by_cases hlt:k<l.length
  .have hlt':(k:Int)<(l.length:Int):=by omega
   obtain⟨b1,o1,rfl,hb1,hc1⟩:=(HR.out.1.keep λd o h=>dH HW.out d o (by omega)) (by omega);have r1:=PT hc1 hlt;have hbt:=L5 hlt;have hle:=AK (l:=l) (k+1);have hx:=HR.out.2.1 _ (List.getElem_mem hlt);have h40:=HR.out.2.2;obtain⟨n,hn⟩:∃n:Nat,l[k]=(n:Int):=⟨l[k].toNat,by omega⟩;rw[hn]at r1 hbt hx;rw[Int.toNat_natCast]at hbt;obtain⟨p,hp⟩:∃p,(2:Nat)^ n=p:=⟨_,rfl⟩;have hpi:((2:Int)^ n)=(p:Int):=by rw[<-hp];simp
   rw[hp]at hbt;have hw1:IntKind.i64.wrap ((2:Int)^ n)=(p:Int):=by rw[hpi,IntKind.wrap_i64];omega
   have hw2:IntKind.i64.wrap ((A0 (l.take k):Int)+(p:Int))=(A0 (l.take (k+1)):Int):=by rw[IntKind.wrap_i64];omega
   clear hc1 hle h40 hn hpi hp;generalize A0 (l.take k)=s at hw2 hbt;generalize hs2:A0 (l.take (k+1))=s2 at hw2 hbt;go_wp2;go_roundw
   case rel=>exact⟨k+1,by omega,by first|(rw[hs2];go_num)|(rw[hs2]),by go_num,HW.out⟩
   case measure=>simp[intOf];omega
  .obtain rfl:k=l.length:=by omega
   rw[List.take_length];go_wp2;go_ret;exact⟨rfl,HW.out⟩
def Lo.N3{w:World}{B:Nat}{b:dO}{v:gJ}{x:Value}{s:Nat}{eO:Bool}(hx:x=dY b v)(hb:fC w B b v)(hB:B<=w.heap.size)(hs:b.small)(hc:fG b=0)(hs2:s<2^ b.steps.length):
 Calls Lo.prog 35 #[x,.int .i64 (s:Int),.bool eO] w λe w'=>e=.returned (.bool (gP (fA b (-1)) (b.steps.length+1) s eO))∧Below w.heap.size w w':=by
 obtain⟨U,U2,U3,U4,U5,U6⟩:=Lo.facts;have C:=Lo.call Tryz.func78;have C2:=Lo.call Tryz.func79;have hg:=lM hs hc;have qT:=hg.n8;subst hx;obtain⟨X,hX,sX,bX,hA,hC⟩:=cT hb hB;have HC:=Lib.hid hC;have HA:=Lib.hid hA;have HX:=Lib.hid (And.intro hX bX);clear hX bX hA hC hb;obtain⟨f0,f1,f2,f3⟩:=fS (HC.out X (Below.refl _ _));show Calls Lo.prog 35 #[Value.agg (lN b v),_,_] w _;unfold lN;go_enter Lo.get Tryz.func35,Tryz.ntmps35;go_wp2;have hy:=HX.out.1;unfold lN at hy;rw[hy];clear hy;have hok:=MN b (-1) hg;have hle:=MR b (-1) hg;have HK:=Lib.hid (And.intro hok hle);clear hok;refine(Lo.rK (b:=b) (v:=v) (B:=B) (hand:= -1) rfl (HA.out _ (Below.refl _ _)) (by omega) hs hc (by omega)).mono ?_
 rintro e w3⟨A,cap,rfl,hr,h3⟩;obtain⟨f0,f1,f2,f3⟩:=fS (HC.out w3 h3);have hnn:b.steps.length<=16:=by omega
 have HM:=Lib.hid hc;clear hc;generalize hss:fA b (-1)=ss at hr hle HK;generalize hn:b.steps.length=n at *;have H3:=Lib.hid (And.intro h3 hr);have JT:=h3.size;clear h3 hr
 by_cases hz:s=0
 .subst hz;have hp:∀c,iQ ss=c->gP ss (n+1) 0 eO=(!eO&&c):= λc h=>by unfold gP;rw[if_pos rfl,h]
  have HP:=Lib.hid hp;clear hp;go_wp2
  go_loopw [8] (λi wr=>∃k:Nat,k<=ss.length∧i=.int .i64 (k:Int)∧iQ (ss.take k)=false∧Below w3.heap.size w3 wr) (λi _=>ss.length-(intOf i).toNat)
  case atStart=>exact⟨0,Nat.zero_le _,rfl,rfl,Below.refl _ _⟩
  case round=>
   obtain⟨k,hk,rfl,hcr,hbw⟩:=hrel;have HB:=Lib.hid hbw;clear hbw;have zQ:=Lib.hid (HX.out.2.trans ((H3.out.1.trans (HB.out.mono JT)).mono (by omega)))
   by_cases hlt:k<ss.length
   .have hlt':(k:Int)<(ss.length:Int):=by omega
    obtain⟨bb,off,e,hbb,hcc⟩:=(H3.out.2.keep λb o h=>dH HB.out b o (by omega)) (by omega);subst e;obtain⟨r0,r1,r2,r3⟩:=ZJ hcc hlt;have ht:=i6 hlt
    by_cases hx:ss[k].lo> ss[k].hi
    .have hx':ss[k].hi<ss[k].lo:=hx;have HS:=Lib.hid (HP.out true (j7 hlt hx));clear hcc ht hx hcr;generalize ss[k]=x at r0 r1 r2 r3 hx';go_wp2
     go_quiet(fail)
     go_wp2;go_ret;exact⟨by rw[hss,hn,HS.out];cases eO<;>rfl,below_drewN zQ.out _⟩
    .have HT:=Lib.hid (show iQ (ss.take (k+1))=false by rw[ht,hcr];simpa using hx);have hx':¬ss[k].hi<ss[k].lo:=hx;clear hcc ht hx hcr;generalize ss[k]=x at r0 r1 r2 r3 hx';go_wp2
     go_quiet(fail)
     go_wp2;go_roundw
     case rel=>exact⟨k+1,by omega,by go_num,HT.out,below_drewN HB.out _⟩
     case measure=>simp[intOf];omega
   .obtain rfl:k=ss.length:=by omega
    rw[List.take_length]at hcr;have HS:=Lib.hid (HP.out false hcr);clear hcr;go_wp2;go_ret;exact⟨by rw[hss,hn,HS.out];cases eO<;>rfl,zQ.out⟩
 .have z0:((s:Int)==0)=false:=by simp;omega
  have hpn:(2:Nat)^ n<=2^ 16:=Nat.pow_le_pow_right (by decide) hnn
  have hfl:∀s':Nat,s'<2^ 63->Calls Lo.prog 79 #[.slice A ss.length cap,.int .i64 (s':Int),.int .i64 (-1)] w3 λe w'=>(∃p q,e=.returned (.tuple #[.int .i64 p,.int .i64 q])∧q-p=gM ss s')∧Below w3.heap.size w3 w':= λs' h63=>
   (Lo.xF (cap:=cap) (gS:= -1) H3.out.2 HK.out.1 HK.out.2 (Nat.le_refl _) h63).mono λe w' ⟨h1,h2⟩=>⟨⟨_,_,h1,GF ss s'⟩,h2⟩
  have HF:=Lib.hid hfl;clear hfl;cases eO with
  |false=>
   have hp:gP ss (n+1) s false=decide (0<gM ss s):=by unfold gP;rw[if_neg hz];rfl
   have HP:=Lib.hid hp;clear hp hz;go_wp2;refine(HF.out s (by omega)).mono ?_
   rintro e w4⟨⟨p,q,rfl,hpq⟩,h4⟩;have HQ:=Lib.hid (And.intro hpq h4);clear hpq h4;go_wp2;go_ret
   exact⟨by rw[hss,hn,HP.out, <-HQ.out.1, <-show decide (p<q)=decide (0<q-p)from decide_eq_decide.2 (by omega)];rfl,HX.out.2.trans ((H3.out.1.trans (HQ.out.2.mono JT)).mono (by omega))⟩
  |true=>
   obtain⟨N,hN⟩:∃N,N=n+1:=⟨_,rfl⟩;obtain⟨p1,hp1⟩:∃p1,(2:Nat)^ N=p1:=⟨_,rfl⟩;obtain⟨q1,hq1⟩:∃q1,p1-1=q1:=⟨_,rfl⟩;obtain⟨s',hs'⟩:∃s',q1-s=s':=⟨_,rfl⟩;have hp:gP ss (n+1) s true=decide (0<gM ss s'):=by unfold gP;rw[if_neg hz, <-hN,hp1,hq1,hs'];rfl
   have hp2:p1=2*2^ n:=by rw[<-hp1,hN,Nat.pow_succ];omega
   have w1:IntKind.i64.wrap ((n:Int)+1)=(N:Int):=by rw[IntKind.wrap_i64];omega
   have w2:IntKind.i64.wrap ((2:Int)^ N)=(p1:Int):=by rw[bK N (by omega),hp1]
   generalize(2:Nat)^ n=p0 at hpn hp2 hs2;have w3':IntKind.i64.wrap ((p1:Int)-1)=(q1:Int):=by rw[IntKind.wrap_i64];omega
   have w4:IntKind.i64.wrap ((q1:Int)-(s:Int))=(s':Int):=by rw[IntKind.wrap_i64];omega
   have h63:s'<2^ 63:=by omega
   have RR:N<=16:=by omega
   have HP:=Lib.hid hp;clear hp hz hs' hN hp1 hq1 hp2;go_wp2
   with_reducible refine(HF.out s' h63).mono ?_
   rintro e w4⟨⟨p,q,rfl,hpq⟩,h4⟩;have HQ:=Lib.hid (And.intro hpq h4);clear hpq h4;go_wp2;go_ret
   exact⟨by rw[hss,hn,HP.out, <-HQ.out.1, <-show decide (p<q)=decide (0<q-p)from decide_eq_decide.2 (by omega)];rfl,HX.out.2.trans ((H3.out.1.trans (HQ.out.2.mono JT)).mono (by omega))⟩
end Go.Proofs
end
