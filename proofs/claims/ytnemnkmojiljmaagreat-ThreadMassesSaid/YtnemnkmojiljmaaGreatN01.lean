/- Part 1. -/
import Derived.RangeFuncRecord
import Derived.Test.YtnemnkmojiljmaaGreatH19
import Derived.Test.YtnemnkmojiljmaaGreatH21
import Derived.Test.YtnemnkmojiljmaaGreatH18
set_option maxRecDepth 100000
set_option maxHeartbeats 0
set_option linter.all false
section
namespace Go.Proofs
open Go Go.RowKit Go.Maps
variable [Lo.St]
abbrev bkV (b:dO) (v:gJ):Value:=.agg #[.slice v.ah b.dJ.length v.ch,.slice v.ap b.dz.length v.cp,.slice v.iT b.steps.length v.cs,.slice v.ac b.dA.length v.cc]
theorem book_box {w:World} {B:Nat} {b:dO} {v:gJ} (hb:fC w B b v) (hB:B<=w.heap.size):∃X,w.alloc (.cells (lN b v) 26)=X∧X.heap.size=w.heap.size+1∧Below w.heap.size w X∧(∀W,Below X.heap.size X W->fC W B b v)∧
 ∀W,Below X.heap.size X W->W.heap[w.heap.size]?=some (.cells #[.slice v.ah b.dJ.length v.ch,.slice v.ap b.dz.length v.cp,.slice v.iT b.steps.length v.cs,.slice v.ac b.dA.length v.cc] 26):=by
 have s:=World.size_alloc w (.cells (lN b v) 26);have bX:Below w.heap.size w (w.alloc (.cells (lN b v) 26)):=(Below.refl _ _).alloc (Nat.le_refl _) _;exact ⟨_,rfl,s,bX, λW hW=>hb.keep λd o h=>dH (bX.trans (hW.mono bX.size)) d o (by omega), λW hW=>(hW.block w.heap.size (by omega)).trans (World.alloc_heap_new _ _)⟩
theorem bd_take {l:List jD} {k:Nat} (h:k<l.length) (p:Int):je (l.take (k+1)) p=PU p (je (l.take k) p) l[k]:=by
 unfold je;rw [List.take_succ_eq_append_getElem h,List.foldl_append];rfl
theorem box2 {W:World} {p:Nat} {x y:Value} {t:TypeId} (h:W.heap[p]?=some (.cells #[x,y] t)):W.cell? ⟨p,0,none⟩=some x∧W.cell? ⟨p,1,none⟩=some y∧W.frozen? ⟨p,0,none⟩=false∧W.frozen? ⟨p,1,none⟩=false:=by
 have f:∀j,W.frozen? ⟨p,j,none⟩=false:= λj=>by unfold World.frozen?;simp only [h];simp
 exact ⟨by unfold World.cell?;simp only [h];rfl,by unfold World.cell?;simp only [h];rfl,f 0,f 1⟩
theorem set2 {W:World} {p:Nat} {x y a b:Value} {t:TypeId} (h:W.heap[p]?=some (.cells #[x,y] t)):((W.setCell ⟨p,0,none⟩ a).setCell ⟨p,1,none⟩ b).heap[p]?=some (.cells #[a,b] t):=
 heap_setCell_same _ p 1 _ t _ (heap_setCell_same W p 0 _ t _ h)
theorem Lo.rbounds_any {w:World} {B:Nat} {b:dO} {v:gJ} {x:Value} {p:Int} (hx:x=dY b v) (hb:fC w B b v) (hB:B<=w.heap.size) (hg:b.small):
 Calls Lo.prog 82 #[x,.int .i64 p] w λe w'=>e= .returned (.agg #[.int .i64 (je b.dA p).1,.int .i64 (je b.dA p).2])∧Below w.heap.size w w':=by
 obtain ⟨U,U2,U3,U4,U5,U6⟩:=Lo.facts;subst hx;obtain ⟨X,hX⟩:∃X,w.alloc (.cells (lN b v) 26)=X:=⟨_,rfl⟩;have hb1:fC X B b v:=hX ▸ hb.keep λb o h=>World.cell?_alloc_past _ _ _ (by show b<w.heap.size;omega)
 have h3:X.cell? ⟨w.heap.size,3,none⟩=some (.slice v.ac b.dA.length v.cc):=by rw [<-hX,World.cell?_alloc_at _ _ _ _ rfl];rfl
 have hw:Below w.heap.size w X:=hX ▸ (Below.refl _ _).alloc (Nat.le_refl _) _;have hs:=hg.dA;have HB:=Lib.hid (And.intro hb1 (And.intro h3 (And.intro hw hX)));clear hb hb1 h3 hw hX;show Calls Lo.prog 82 #[Value.agg (lN b v),.int .i64 p] w _;unfold lN;go_enter Lo.get Tryz.func82,Tryz.ntmps82;go_wp2;change Code.wp _ _ _ _ (((w.alloc (.cells (lN b v) 26)).alloc _).alloc _);rw [HB.out.2.2.2];obtain ⟨Y,hY⟩:∃Y,(X.alloc (.cells #[.int .i64 0,.int .i64 0] 51)).alloc (.cells #[.int .i64 0,.int .i64 1000000] 51)=Y:=⟨_,rfl⟩;have sX:X.heap.size=w.heap.size+1:=by rw [<-HB.out.2.2.2];simp
 have y1:Y.heap[w.heap.size+1]?=some (.cells #[.int .i64 0,.int .i64 0] 51):=by
  rw [<-hY,Below.heap_alloc _ _ _ (by simp;omega), <-sX];exact World.alloc_heap_new _ _
 have y2:Y.heap[w.heap.size+1+1]?=some (.cells #[.int .i64 0,.int .i64 1000000] 51):=by
  rw [<-hY,show w.heap.size+1+1=(X.alloc (.cells #[.int .i64 0,.int .i64 0] 51)).heap.size by simp;omega];exact World.alloc_heap_new _ _
 have bY:Below X.heap.size X Y:=hY ▸ ((Below.refl _ _).alloc (Nat.le_refl _) _).alloc (by simp) _;have sY:Y.heap.size=w.heap.size+3:=by rw [<-hY];simp;omega
 rw [hY];have HY:=Lib.hid (And.intro y1 (And.intro y2 bY));clear hY y1 y2 bY
 go_loopw [6] (λi wr=>∃k:Nat,k<=b.dA.length∧i= .int .i64 (k:Int)∧wr.heap[w.heap.size+1+1]?=some (.cells #[.int .i64 (je (b.dA.take k) p).1,.int .i64 (je (b.dA.take k) p).2] 51)∧Below (w.heap.size+2) Y wr) (λi _=>b.dA.length - (intOf i).toNat)
 case atStart=>exact ⟨0,Nat.zero_le _,rfl,HY.out.2.1,Below.refl _ _⟩
 case round=>
  obtain ⟨k,hk,rfl,hx,hb⟩:=hrel;have c3:wr.cell? ⟨w.heap.size,3,none⟩=some (.slice v.ac b.dA.length v.cc):=(dH hb _ _ (by omega)).trans ((dH HY.out.2.2 _ _ (by omega)).trans HB.out.2.1);obtain ⟨x0,x1,z0,z1⟩:=box2 hx
  by_cases hlt:k<b.dA.length
  ·have hlt':(k:Int)<(b.dA.length:Int):=by omega
   obtain ⟨bb,off,e,hbb,hc⟩:=HB.out.1.dA (by omega);rw [e] at c3;obtain ⟨r0,r1,r2⟩:=CU hc hlt;have bX:=HY.out.2.2.trans (hb.mono (by omega));replace r0:=(dH bX bb _ (by omega)).trans r0;replace r1:=(dH bX bb _ (by omega)).trans r1;replace r2:=(dH bX bb _ (by omega)).trans r2;have hd:=bd_take hlt p;generalize b.dA[k]=s at r0 r1 r2 hd;obtain ⟨sp,lo,hi⟩:=s;unfold PU at hd;simp only at r0 r1 r2 hd;generalize je (b.dA.take k) p=d at x0 x1 hd hx;obtain ⟨d0,d1⟩:=d;simp only at x0 x1 hd hx;have HR:=Lib.hid (And.intro hb hx);clear hb hc hx bX e
   by_cases hq:sp=p
   ·rw [if_pos hq] at hd;have HD:=Lib.hid hd;clear hd;go_wp2
    go_region
    rw [show (if d0<lo then lo else d0)=max d0 lo by split<;>omega,show (if hi<d1 then hi else d1)=min d1 hi by split<;>omega];go_wp2;go_roundw
    case rel=>exact ⟨k+1,by omega,by go_num,by rw [HD.out];exact set2 HR.out.2,((HR.out.1.setCell (p:=⟨w.heap.size+1+1,0,none⟩) (by show w.heap.size+2<=w.heap.size+1+1;omega) _).setCell (p:=⟨w.heap.size+1+1,1,none⟩) (by show w.heap.size+2<=w.heap.size+1+1;omega) _).drew⟩
    case measure=>simp [intOf];omega
   ·rw [if_neg hq] at hd;have HD:=Lib.hid hd;clear hd;go_wp2;go_roundw
    case rel=>exact ⟨k+1,by omega,by go_num,by rw [HD.out];exact HR.out.2,HR.out.1⟩
    case measure=>simp [intOf];omega
  ·obtain rfl:k=b.dA.length:=by omega
   rw [List.take_length] at x0 x1 hx;have y1:wr.heap[w.heap.size+1]?=_:=(hb.block _ (by omega)).trans HY.out.1
   obtain ⟨y10,y11,z2,z3⟩:=box2 y1;have HR:=Lib.hid (And.intro hb y1);clear hb hx y1;go_wp2;obtain ⟨Z,hZ⟩:∃Z,(wr.setCell ⟨w.heap.size+1,0,none⟩ (.int .i64 (je b.dA p).1)).setCell ⟨w.heap.size+1,1,none⟩ (.int .i64 (je b.dA p).2)=Z:=⟨_,rfl⟩;obtain ⟨q0,q1, -, -⟩:=box2 (hZ ▸ set2 HR.out.2);rw [hZ];have hf:Tryz.f82.results= #[ResultVar.cell 4 51]:=by unfold Tryz.f82;rfl
   refine bodyPost_ret (v:=.agg #[.int .i64 (je b.dA p).1,.int .i64 (je b.dA p).2]) ?_ rfl ⟨rfl,?_⟩
   ·simp [results,hf,go_sem,U,U2,U3,U4,U5,U6,q0,q1]
   ·rw [<-hZ];exact ((HB.out.2.2.1.trans ((HY.out.2.2.trans (HR.out.1.mono (by omega))).mono (by omega))).setCell (p:=⟨w.heap.size+1,0,none⟩) (by show w.heap.size<=w.heap.size+1;omega) _).setCell (p:=⟨w.heap.size+1,1,none⟩) (by show w.heap.size<=w.heap.size+1;omega) _
end Go.Proofs
end
section
namespace Go.Proofs
open Go Go.RowKit Go.Maps
variable [Lo.St]
def eX.way (x:eX):Nat->Value
 |0=>.int .i64 (x.fr:Int)
 |1=>.int .i64 (x.to:Int)
 |2=>.int .i64 x.lo
 |_=>.int .i64 x.hi
def wayAt (ss:List eX) (i j:Nat):Value:=((ss[i]?).getD ⟨0,0,0,0⟩).way j
abbrev RdW (w:World) (B:Nat) (A:Option Addr) (ss:List eX):Prop:=Rd w B 4 A ss.length (wayAt ss)
theorem rd_way {w:World} {bb off k:Nat} {ss:List eX} (hc:∀i j,i<ss.length->j<4->w.cell? ⟨bb,off+(i*4+j),none⟩=some (wayAt ss i j)) (hlt:k<ss.length):
 w.cell? ⟨bb,off+k*4,none⟩=some (.int .i64 (ss[k].fr:Int))∧w.cell? ⟨bb,off+k*4+1,none⟩=some (.int .i64 (ss[k].to:Int))∧w.cell? ⟨bb,off+k*4+2,none⟩=some (.int .i64 ss[k].lo)∧w.cell? ⟨bb,off+k*4+3,none⟩=some (.int .i64 ss[k].hi):=by
 have e:∀j,j<4->w.cell? ⟨bb,off+(k*4+j),none⟩=some (ss[k].way j):= λj hj=>by
  rw [hc k j hlt hj];unfold wayAt;rw [List.getElem?_eq_getElem hlt];rfl
 exact ⟨e 0 (by omega),e 1 (by omega),e 2 (by omega),e 3 (by omega)⟩
def fl1 (s:Nat) (θN:Int) (k:Nat) (x:eX) (n:Int×Int):Int×Int:=
 if (k:Int)=θN then n else if bit s x.fr=bit s x.to then n else if bit s x.to=1 then (n.1+x.hi,n.2) else (n.1,n.2+x.lo)
def flAt (ss:List eX) (s:Nat) (θN:Int):Nat->Int×Int
 |0=>(0,0)
 |k+1=>match ss[k]? with |some x=>fl1 s θN k x (flAt ss s θN k)|none=>flAt ss s θN k
theorem fl1_bd {s:Nat} {θN:Int} {k:Nat} {x:eX} {n:Int×Int} (hx:x.ok):n.1<=(fl1 s θN k x n).1∧(fl1 s θN k x n).1<=n.1+8000000∧n.2<=(fl1 s θN k x n).2∧(fl1 s θN k x n).2<=n.2+8000000:=by
 obtain ⟨a,b,c,d,_⟩:=hx;unfold fl1;split
 ·omega
 ·split
  ·omega
  ·split<;>dsimp only <;>omega
theorem flAt_bd {ss:List eX} (h:∀x∈ss,x.ok) (s:Nat) (θN:Int):∀k,0<=(flAt ss s θN k).1∧(flAt ss s θN k).1<=8000000*k∧0<=(flAt ss s θN k).2∧(flAt ss s θN k).2<=8000000*k
 |0=>by simp [flAt]
 |k+1=>by
  have ih:=flAt_bd h s θN k;unfold flAt;split
  ·rename_i x e;have :=fl1_bd (s:=s) (θN:=θN) (k:=k) (n:=flAt ss s θN k) (h x (List.mem_of_getElem? e));omega
  ·omega
theorem bit_mod (s i:Nat):(((s:Int) / 2 ^ i).tmod 2==1)=decide (bit s i=1):=by
 have e3:((s:Int) / 2 ^ i)=((s / 2 ^ i:Nat):Int):=by simp
 rw [e3,Int.tmod_eq_emod_of_nonneg (Int.natCast_nonneg (s / 2 ^ i))];unfold bit
 by_cases h:s / 2 ^ i%2=1
 ·rw [decide_eq_true h,beq_iff_eq];omega
 ·rw [decide_eq_false h,beq_eq_false_iff_ne];omega
theorem fl1_b (s:Nat) (θN:Int) (k:Nat) (x:eX) (n:Int×Int):fl1 s θN k x n=if (k:Int)=θN then n else if decide (bit s x.fr=1)=decide (bit s x.to=1) then n else if decide (bit s x.to=1)=true then (n.1+x.hi,n.2) else (n.1,n.2+x.lo):=by
 have h1:=KG s x.fr;have h2:=KG s x.to
 have e:(decide (bit s x.fr=1)=decide (bit s x.to=1))=(bit s x.fr=bit s x.to):=by
  simp only [decide_eq_decide,eq_iff_iff];omega
 unfold fl1;simp only [e,decide_eq_true_eq]
theorem Lo.rflow_any {w:World} {B:Nat} {ss:List eX} {A:Option Addr} {cap:Nat} {s:Nat} {θN:Int} (hr:RdW w B A ss) (hok:∀x∈ss,x.ok) (hl:ss.length<=64) (hB:B<=w.heap.size) (hs:s<2 ^ 63):
 Calls Lo.prog 81 #[.slice A ss.length cap,.int .i64 (s:Int),.int .i64 θN] w λe w'=>e= .returned (.tuple #[.int .i64 (flAt ss s θN ss.length).1,.int .i64 (flAt ss s θN ss.length).2])∧Below w.heap.size w w':=by
 obtain ⟨U,U2,U3,U4,U5,U6⟩:=Lo.facts;go_enter Lo.get Tryz.func81,Tryz.ntmps81;go_wp2
 go_loopw [8,9,10] (λa c i wr=>∃k:Nat,k<=ss.length∧i= .int .i64 (k:Int)∧a= .int .i64 (flAt ss s θN k).1∧c= .int .i64 (flAt ss s θN k).2∧Below w.heap.size w wr) (λ_ _ i _=>ss.length - (intOf i).toNat)
 case atStart=>exact ⟨0,Nat.zero_le _,rfl,rfl,rfl,Below.refl _ _⟩
 case round=>
  obtain ⟨k,hk,rfl,rfl,rfl,hb⟩:=hrel
  by_cases hlt:k<ss.length
  ·have hlt':(k:Int)<(ss.length:Int):=by omega
   obtain ⟨bb,off,rfl,hbb,hc⟩:=(hr.keep λb o h=>dH hb b o (by omega)) (by omega);obtain ⟨r0,r1,r2,r3⟩:=rd_way hc hlt;have hx:=hok ss[k] (List.getElem_mem hlt)
   have hd:flAt ss s θN (k+1)=fl1 s θN k ss[k] (flAt ss s θN k):=by
    show (match ss[k]? with |some x=>_|none=>_)=_;rw [List.getElem?_eq_getElem hlt]
   obtain ⟨n1,n2,n3,n4⟩:=flAt_bd hok s θN k;generalize flAt ss s θN k=d at hd n1 n2 n3 n4;obtain ⟨d0,d1⟩:=d;generalize ss[k]=x at r0 r1 r2 r3 hx hd;obtain ⟨lo,hi,fr,to⟩:=x;obtain ⟨x1,x2,x3,x4,x5,x6⟩:=hx;simp only at r0 r1 r2 r3 x1 x2 x3 x4 x5 x6 n1 n2 n3 n4;rw [fl1_b] at hd;have e1:=bit_mod s fr;have e2:=bit_mod s to;simp only at hd;generalize decide (bit s fr=1)=bf at hd e1;generalize decide (bit s to=1)=bt at hd e2;have HE:=Lib.hid (And.intro e1 e2);have w1:IntKind.i64.wrap (d0+hi)=d0+hi:=by rw [IntKind.wrap_i64];omega
   have w2:IntKind.i64.wrap (d1+lo)=d1+lo:=by rw [IntKind.wrap_i64];omega
   have HR:=Lib.hid (And.intro hb hd);clear hb hd hc hr e1 e2;go_wp2
   go_quiet (fail)
   rw [HE.out.1,HE.out.2]
   by_cases hw:(k:Int)=θN
   ·have HD:=Lib.hid (HR.out.2.trans (if_pos hw));go_wp2;go_roundw
    case rel=>exact ⟨k+1,by omega,by go_num,by rw [HD.out],by rw [HD.out],below_drewN HR.out.1 _⟩
    case measure=>simp [intOf];omega
   ·have HD:=Lib.hid (HR.out.2.trans (if_neg hw));cases bf<;>cases bt
    ·have HF:=Lib.hid (HD.out.trans (if_pos rfl));go_wp2;go_roundw
     case rel=>exact ⟨k+1,by omega,by go_num,by rw [HF.out],by rw [HF.out],below_drewN HR.out.1 _⟩
     case measure=>simp [intOf];omega
    ·have HF:=Lib.hid (HD.out.trans ((if_neg (by decide)).trans (if_pos rfl)));go_wp2;go_roundw
     case rel=>exact ⟨k+1,by omega,by go_num,by rw [HF.out],by rw [HF.out],below_drewN HR.out.1 _⟩
     case measure=>simp [intOf];omega
    ·have HF:=Lib.hid (HD.out.trans ((if_neg (by decide)).trans (if_neg (by decide))));go_wp2;go_roundw
     case rel=>exact ⟨k+1,by omega,by go_num,by rw [HF.out],by rw [HF.out],below_drewN HR.out.1 _⟩
     case measure=>simp [intOf];omega
    ·have HF:=Lib.hid (HD.out.trans (if_pos rfl));go_wp2;go_roundw
     case rel=>exact ⟨k+1,by omega,by go_num,by rw [HF.out],by rw [HF.out],below_drewN HR.out.1 _⟩
     case measure=>simp [intOf];omega
  ·obtain rfl:k=ss.length:=by omega
   have HR:=Lib.hid hb;clear hb;go_wp2
   go_ret2
   exact ⟨rfl,HR.out⟩
end Go.Proofs
end
section
namespace Go.Proofs
open Go Go.RowKit Go.Maps
variable [Lo.St]
theorem flow_short (ss:List eX) (s:Nat):∀k,k<=ss.length->(flAt ss s (-1) k).2 - (flAt ss s (-1) k).1=gM (ss.take k) s
 |0,_=>rfl
 |k+1,hk=>by
  have ih:=flow_short ss s k (by omega);have h1:=KG s ss[k].fr;have h2:=KG s ss[k].to;rw [KH ss s k (by omega), <-ih];show (match ss[k]? with |some x=>fl1 s (-1) k x (flAt ss s (-1) k)|none=>flAt ss s (-1) k).2 - (match ss[k]? with |some x=>fl1 s (-1) k x (flAt ss s (-1) k)|none=>flAt ss s (-1) k).1=_;rw [List.getElem?_eq_getElem (by omega)];dsimp only;unfold fl1 OJ kJ;rw [if_neg (by omega)];split
  ·rename_i e;rw [if_neg (by rw [if_neg (by omega),if_neg (by omega)];decide),if_neg (by rw [if_neg (by omega),if_neg (by omega)];decide)]
  ·split
   ·rw [if_pos (by rw [if_pos (by omega)])];dsimp only;omega
   ·rw [if_neg (by rw [if_neg (by omega),if_pos (by omega)];decide),if_pos (by rw [if_neg (by omega),if_pos (by omega)])];dsimp only;omega
theorem flow_full (ss:List eX) (s:Nat):(flAt ss s (-1) ss.length).2 - (flAt ss s (-1) ss.length).1=gM ss s:=by
 have :=flow_short ss s ss.length (Nat.le_refl _)
 rwa [List.take_length] at this
theorem crossed_take {ss:List eX} {k:Nat} (h:k<ss.length):iQ (ss.take (k+1))=(iQ (ss.take k)||decide (ss[k].lo > ss[k].hi)):=by
 unfold iQ;rw [List.take_succ_eq_append_getElem h,List.any_append];simp
theorem crossed_yes {ss:List eX} {k:Nat} (h:k<ss.length) (hx:ss[k].lo > ss[k].hi):iQ ss=true:=by
 unfold iQ;exact List.any_eq_true.2 ⟨_,List.getElem_mem h,by simpa using hx⟩
theorem wrap_shl (nd:Nat) (h:nd<=16):IntKind.i64.wrap ((2:Int) ^ nd)=((2 ^ nd:Nat):Int):=by
 have h1:(2:Nat) ^ nd<=2 ^ 16:=Nat.pow_le_pow_right (by decide) h;have h2:(2:Int) ^ nd=((2 ^ nd:Nat):Int):=by simp
 rw [h2,IntKind.wrap_i64];generalize 2 ^ nd=m at h1 ⊢;omega
theorem Lo.rcan_any {w:World} {B:Nat} {ss:List eX} {A:Option Addr} {cap nd:Nat} (hr:RdW w B A ss) (hok:∀x∈ss,x.ok) (hl:ss.length<=64) (hB:B<=w.heap.size) (hnd:nd<=16):
 Calls Lo.prog 80 #[.slice A ss.length cap,.int .i64 (nd:Int)] w λe w'=>e= .returned (.bool (gN ss nd))∧Below w.heap.size w w':=by
 obtain ⟨U,U2,U3,U4,U5,U6⟩:=Lo.facts;have C:=Lo.call Tryz.func81;have hp:(2:Nat) ^ nd<=2 ^ 16:=Nat.pow_le_pow_right (by decide) hnd;have hsh:=wrap_shl nd hnd;go_enter Lo.get Tryz.func80,Tryz.ntmps80;go_wp2
 go_loopw [5] (λi wr=>∃k:Nat,k<=ss.length∧i= .int .i64 (k:Int)∧iQ (ss.take k)=false∧Below w.heap.size w wr) (λi _=>ss.length - (intOf i).toNat)
 case atStart=>exact ⟨0,Nat.zero_le _,rfl,rfl,Below.refl _ _⟩
 case round=>
  obtain ⟨k,hk,rfl,hcr,hbw⟩:=hrel;have HB:=Lib.hid hbw;clear hbw
  by_cases hlt:k<ss.length
  ·have hlt':(k:Int)<(ss.length:Int):=by omega
   obtain ⟨bb,off,e,hbb,hc⟩:=(hr.keep λb o h=>dH HB.out b o (by omega)) (by omega);subst e;obtain ⟨r0,r1,r2,r3⟩:=rd_way hc hlt;have ht:=crossed_take hlt
   by_cases hx:ss[k].lo > ss[k].hi
   ·have hres:gN ss nd=false:=by unfold gN;rw [crossed_yes hlt hx];rfl
    have hx':ss[k].hi<ss[k].lo:=hx;have HS:=Lib.hid hres;clear hc hr ht hx hres hcr;generalize ss[k]=x at r0 r1 r2 r3 hx';go_wp2
    go_quiet (fail)
    go_wp2;go_ret;exact ⟨by rw [HS.out];rfl,below_drewN HB.out _⟩
   ·have HT:=Lib.hid (show iQ (ss.take (k+1))=false by rw [ht,hcr];simpa using hx);have hx':¬ss[k].hi<ss[k].lo:=hx;clear hc hr ht hx hcr;generalize ss[k]=x at r0 r1 r2 r3 hx';go_wp2
    go_quiet (fail)
    go_wp2;go_roundw
    case rel=>exact ⟨k+1,by omega,by go_num,HT.out,below_drewN HB.out _⟩
    case measure=>simp [intOf];omega
  ·obtain rfl:k=ss.length:=by omega
   rw [List.take_length] at hcr;have hres:gN ss nd=sV ss (2 ^ nd):=by unfold gN;rw [hcr];rfl
   have HC:=Lib.hid (And.intro hres (And.intro hr hok));clear hcr hres hr hok;go_wp2;generalize hm:2 ^ nd=m at hp hsh HC
   go_loopw [6] (λi wr=>∃k:Nat,k<=m∧i= .int .i64 (k:Int)∧sV ss k=true∧Below w.heap.size w wr) (λi _=>m - (intOf i).toNat)
   case atStart=>exact ⟨0,Nat.zero_le _,rfl,rfl,HB.out⟩
   case round=>
    obtain ⟨k,hk,rfl,hf,hb⟩:=hrel
    by_cases hlt:k<m
    ·have hlt':(k:Int)<(m:Int):=by omega
     have hr:=HC.out.2.1.keep λb o h=>dH hb b o (by omega)
     have HF:=Lib.hid (And.intro hf (And.intro hb hr));have Z5:B<=wr.heap.size:=Nat.le_trans hB hb.size;have OQ:k<2 ^ 63:=by omega
     have hfs:=flow_full ss k;have HW:=Lib.hid (Lo.rflow_any (cap:=cap) (θN:= -1) hr HC.out.2.2 hl Z5 OQ);clear hf hb hr;generalize flAt ss k (-1) ss.length=d at hfs HW;obtain ⟨d0,d1⟩:=d;simp only at hfs
     by_cases hq:d0<d1
     ·have HQ:=Lib.hid hfs;clear hfs
      go_wp2_with (go_at_call 81;refine HW.out.mono ?_;rintro e w2 ⟨rfl,hb2⟩)
      go_ret;refine ⟨?_,HF.out.2.1.trans (hb2.mono HF.out.2.1.size)⟩;rw [HC.out.1,OP ss hlt (by have :=HQ.out;omega)];rfl
     ·have HQ:=Lib.hid hfs;clear hfs
      go_wp2_with (go_at_call 81;refine HW.out.mono ?_;rintro e w2 ⟨rfl,hb2⟩)
      go_roundw
      case rel=>exact ⟨k+1,by omega,by go_num,by rw [IZ,HF.out.1,decide_eq_true (by have :=HQ.out;omega)];rfl,HF.out.2.1.trans (hb2.mono HF.out.2.1.size)⟩
      case measure=>simp [intOf];omega
    ·obtain rfl:k=m:=by omega
     have HF:=Lib.hid (And.intro hf hb);clear hf hb;go_wp2;go_ret;exact ⟨by rw [HC.out.1,HF.out.1];rfl,HF.out.2⟩
end Go.Proofs
end
