/- Part 1. -/
import Derived.RangeFuncRecord
import Derived.Test.YtnemnkmojiljmaaGreatH27
set_option maxRecDepth 100000
set_option maxHeartbeats 0
set_option linter.all false
section
namespace Go.Proofs
open Go Go.RowKit Go.Maps
variable [Lo.St]
abbrev bkV (b:dO) (v:gJ):Value:=.agg #[.slice v.ah b.dJ.length v.ch,.slice v.ap b.dz.length v.cp,.slice v.iT b.steps.length v.cs,.slice v.ac b.dA.length v.cc]
theorem book_box {w:World} {B:Nat} {b:dO} {v:gJ} (hb:fC w B b v) (hB:B<=w.heap.size):∃X,w.alloc (.cells (lN b v) 26)=X∧X.heap.size=w.heap.size+1∧Below w.heap.size w X∧(∀W,Below X.heap.size X W->fC W B b v)∧
 ∀W,Below X.heap.size X W->W.heap[w.heap.size]?=some (.cells #[.slice v.ah b.dJ.length v.ch,.slice v.ap b.dz.length v.cp,.slice v.iT b.steps.length v.cs,.slice v.ac b.dA.length v.cc] 26):=by
 have s:=World.size_alloc w (.cells (lN b v) 26);have bX:Below w.heap.size w (w.alloc (.cells (lN b v) 26)):=(Below.refl _ _).alloc (Nat.le_refl _) _;exact ⟨_,rfl,s,bX, λW hW=>hb.keep λd o h=>dH (bX.trans (hW.mono bX.size)) d o (by omega), λW hW=>(hW.block w.heap.size (by omega)).trans (World.alloc_heap_new _ _)⟩
theorem bd_take {l:List jD} {k:Nat} (h:k<l.length) (p:Int):je (l.take (k+1)) p=PU p (je (l.take k) p) l[k]:=by
 unfold je;rw [List.take_succ_eq_append_getElem h,List.foldl_append];rfl
theorem box2 {W:World} {p:Nat} {x y:Value} {t:TypeId} (h:W.heap[p]?=some (.cells #[x,y] t)):W.cell? ⟨p,0,none⟩=some x∧W.cell? ⟨p,1,none⟩=some y∧W.frozen? ⟨p,0,none⟩=false∧W.frozen? ⟨p,1,none⟩=false:=by
 have f:∀j,W.frozen? ⟨p,j,none⟩=false:= λj=>by unfold World.frozen?;simp only [h];simp
 exact ⟨by unfold World.cell?;simp only [h];rfl,by unfold World.cell?;simp only [h];rfl,f 0,f 1⟩
theorem set2 {W:World} {p:Nat} {x y a b:Value} {t:TypeId} (h:W.heap[p]?=some (.cells #[x,y] t)):((W.setCell ⟨p,0,none⟩ a).setCell ⟨p,1,none⟩ b).heap[p]?=some (.cells #[a,b] t):=
 heap_setCell_same _ p 1 _ t _ (heap_setCell_same W p 0 _ t _ h)
theorem Lo.rbounds_any {w:World} {B:Nat} {b:dO} {v:gJ} {x:Value} {p:Int} (hx:x=dY b v) (hb:fC w B b v) (hB:B<=w.heap.size) (hg:b.small):
 Calls Lo.prog 82 #[x,.int .i64 p] w λe w'=>e= .returned (.agg #[.int .i64 (je b.dA p).1,.int .i64 (je b.dA p).2])∧Below w.heap.size w w':=by
 obtain ⟨U,U2,U3,U4,U5,U6⟩:=Lo.facts;subst hx;obtain ⟨X,hX⟩:∃X,w.alloc (.cells (lN b v) 26)=X:=⟨_,rfl⟩;have hb1:fC X B b v:=hX ▸ hb.keep λb o h=>World.cell?_alloc_past _ _ _ (by show b<w.heap.size;omega)
 have h3:X.cell? ⟨w.heap.size,3,none⟩=some (.slice v.ac b.dA.length v.cc):=by rw [<-hX,World.cell?_alloc_at _ _ _ _ rfl];rfl
 have hw:Below w.heap.size w X:=hX ▸ (Below.refl _ _).alloc (Nat.le_refl _) _;have hs:=hg.dA;have HB:=Lib.hid (And.intro hb1 (And.intro h3 (And.intro hw hX)));clear hb hb1 h3 hw hX;show Calls Lo.prog 82 #[Value.agg (lN b v),.int .i64 p] w _;unfold lN;go_enter Lo.get Tryz.func82,Tryz.ntmps82;go_wp2;change Code.wp _ _ _ _ (((w.alloc (.cells (lN b v) 26)).alloc _).alloc _);rw [HB.out.2.2.2];obtain ⟨Y,hY⟩:∃Y,(X.alloc (.cells #[.int .i64 0,.int .i64 0] 51)).alloc (.cells #[.int .i64 0,.int .i64 1000000] 51)=Y:=⟨_,rfl⟩;have sX:X.heap.size=w.heap.size+1:=by rw [<-HB.out.2.2.2];simp
 have y1:Y.heap[w.heap.size+1]?=some (.cells #[.int .i64 0,.int .i64 0] 51):=by
  rw [<-hY,Below.heap_alloc _ _ _ (by simp;omega), <-sX];exact World.alloc_heap_new _ _
 have y2:Y.heap[w.heap.size+1+1]?=some (.cells #[.int .i64 0,.int .i64 1000000] 51):=by
  rw [<-hY,show w.heap.size+1+1=(X.alloc (.cells #[.int .i64 0,.int .i64 0] 51)).heap.size by simp;omega];exact World.alloc_heap_new _ _
 have bY:Below X.heap.size X Y:=hY ▸ ((Below.refl _ _).alloc (Nat.le_refl _) _).alloc (by simp) _;have sY:Y.heap.size=w.heap.size+3:=by rw [<-hY];simp;omega
 rw [hY];have HY:=Lib.hid (And.intro y1 (And.intro y2 bY));clear hY y1 y2 bY
 go_loopw [6] (λi wr=>∃k:Nat,k<=b.dA.length∧i= .int .i64 (k:Int)∧wr.heap[w.heap.size+1+1]?=some (.cells #[.int .i64 (je (b.dA.take k) p).1,.int .i64 (je (b.dA.take k) p).2] 51)∧Below (w.heap.size+2) Y wr) (λi _=>b.dA.length - (intOf i).toNat)
 case atStart=>exact ⟨0,Nat.zero_le _,rfl,HY.out.2.1,Below.refl _ _⟩
 case round=>
  obtain ⟨k,hk,rfl,hx,hb⟩:=hrel;have c3:wr.cell? ⟨w.heap.size,3,none⟩=some (.slice v.ac b.dA.length v.cc):=(dH hb _ _ (by omega)).trans ((dH HY.out.2.2 _ _ (by omega)).trans HB.out.2.1);obtain ⟨x0,x1,z0,z1⟩:=box2 hx
  by_cases hlt:k<b.dA.length
  ·have hlt':(k:Int)<(b.dA.length:Int):=by omega
   obtain ⟨bb,off,e,hbb,hc⟩:=HB.out.1.dA (by omega);rw [e] at c3;obtain ⟨r0,r1,r2⟩:=CU hc hlt;have bX:=HY.out.2.2.trans (hb.mono (by omega));replace r0:=(dH bX bb _ (by omega)).trans r0;replace r1:=(dH bX bb _ (by omega)).trans r1;replace r2:=(dH bX bb _ (by omega)).trans r2;have hd:=bd_take hlt p;generalize b.dA[k]=s at r0 r1 r2 hd;obtain ⟨sp,lo,hi⟩:=s;unfold PU at hd;simp only at r0 r1 r2 hd;generalize je (b.dA.take k) p=d at x0 x1 hd hx;obtain ⟨d0,d1⟩:=d;simp only at x0 x1 hd hx;have HR:=Lib.hid (And.intro hb hx);clear hb hc hx bX e
   by_cases hq:sp=p
   ·rw [if_pos hq] at hd;have HD:=Lib.hid hd;clear hd;go_wp2
    go_region
    rw [show (if d0<lo then lo else d0)=max d0 lo by split<;>omega,show (if hi<d1 then hi else d1)=min d1 hi by split<;>omega];go_wp2;go_roundw
    case rel=>exact ⟨k+1,by omega,by go_num,by rw [HD.out];exact set2 HR.out.2,((HR.out.1.setCell (p:=⟨w.heap.size+1+1,0,none⟩) (by show w.heap.size+2<=w.heap.size+1+1;omega) _).setCell (p:=⟨w.heap.size+1+1,1,none⟩) (by show w.heap.size+2<=w.heap.size+1+1;omega) _).drew⟩
    case measure=>simp [intOf];omega
   ·rw [if_neg hq] at hd;have HD:=Lib.hid hd;clear hd;go_wp2;go_roundw
    case rel=>exact ⟨k+1,by omega,by go_num,by rw [HD.out];exact HR.out.2,HR.out.1⟩
    case measure=>simp [intOf];omega
  ·obtain rfl:k=b.dA.length:=by omega
   rw [List.take_length] at x0 x1 hx;have y1:wr.heap[w.heap.size+1]?=_:=(hb.block _ (by omega)).trans HY.out.1
   obtain ⟨y10,y11,z2,z3⟩:=box2 y1;have HR:=Lib.hid (And.intro hb y1);clear hb hx y1;go_wp2;obtain ⟨Z,hZ⟩:∃Z,(wr.setCell ⟨w.heap.size+1,0,none⟩ (.int .i64 (je b.dA p).1)).setCell ⟨w.heap.size+1,1,none⟩ (.int .i64 (je b.dA p).2)=Z:=⟨_,rfl⟩;obtain ⟨q0,q1, -, -⟩:=box2 (hZ ▸ set2 HR.out.2);rw [hZ];have hf:Tryz.f82.results= #[ResultVar.cell 4 51]:=by unfold Tryz.f82;rfl
   refine bodyPost_ret (v:=.agg #[.int .i64 (je b.dA p).1,.int .i64 (je b.dA p).2]) ?_ rfl ⟨rfl,?_⟩
   ·simp [results,hf,go_sem,U,U2,U3,U4,U5,U6,q0,q1]
   ·rw [<-hZ];exact ((HB.out.2.2.1.trans ((HY.out.2.2.trans (HR.out.1.mono (by omega))).mono (by omega))).setCell (p:=⟨w.heap.size+1,0,none⟩) (by show w.heap.size<=w.heap.size+1;omega) _).setCell (p:=⟨w.heap.size+1,1,none⟩) (by show w.heap.size<=w.heap.size+1;omega) _
end Go.Proofs
end
section
namespace Go.Proofs
open Go Go.RowKit Go.Maps
variable [Lo.St]
def eX.way (x:eX):Nat->Value
 |0=>.int .i64 (x.fr:Int)
 |1=>.int .i64 (x.to:Int)
 |2=>.int .i64 x.lo
 |_=>.int .i64 x.hi
def wayAt (ss:List eX) (i j:Nat):Value:=((ss[i]?).getD ⟨0,0,0,0⟩).way j
abbrev RdW (w:World) (B:Nat) (A:Option Addr) (ss:List eX):Prop:=Rd w B 4 A ss.length (wayAt ss)
theorem rd_way {w:World} {bb off k:Nat} {ss:List eX} (hc:∀i j,i<ss.length->j<4->w.cell? ⟨bb,off+(i*4+j),none⟩=some (wayAt ss i j)) (hlt:k<ss.length):
 w.cell? ⟨bb,off+k*4,none⟩=some (.int .i64 (ss[k].fr:Int))∧w.cell? ⟨bb,off+k*4+1,none⟩=some (.int .i64 (ss[k].to:Int))∧w.cell? ⟨bb,off+k*4+2,none⟩=some (.int .i64 ss[k].lo)∧w.cell? ⟨bb,off+k*4+3,none⟩=some (.int .i64 ss[k].hi):=by
 have e:∀j,j<4->w.cell? ⟨bb,off+(k*4+j),none⟩=some (ss[k].way j):= λj hj=>by
  rw [hc k j hlt hj];unfold wayAt;rw [List.getElem?_eq_getElem hlt];rfl
 exact ⟨e 0 (by omega),e 1 (by omega),e 2 (by omega),e 3 (by omega)⟩
def fl1 (s:Nat) (θN:Int) (k:Nat) (x:eX) (n:Int×Int):Int×Int:=
 if (k:Int)=θN then n else if bit s x.fr=bit s x.to then n else if bit s x.to=1 then (n.1+x.hi,n.2) else (n.1,n.2+x.lo)
def flAt (ss:List eX) (s:Nat) (θN:Int):Nat->Int×Int
 |0=>(0,0)
 |k+1=>match ss[k]? with |some x=>fl1 s θN k x (flAt ss s θN k)|none=>flAt ss s θN k
theorem fl1_bd {s:Nat} {θN:Int} {k:Nat} {x:eX} {n:Int×Int} (hx:x.ok):n.1<=(fl1 s θN k x n).1∧(fl1 s θN k x n).1<=n.1+8000000∧n.2<=(fl1 s θN k x n).2∧(fl1 s θN k x n).2<=n.2+8000000:=by
 obtain ⟨a,b,c,d,_⟩:=hx;unfold fl1;split
 ·omega
 ·split
  ·omega
  ·split<;>dsimp only <;>omega
theorem flAt_bd {ss:List eX} (h:∀x∈ss,x.ok) (s:Nat) (θN:Int):∀k,0<=(flAt ss s θN k).1∧(flAt ss s θN k).1<=8000000*k∧0<=(flAt ss s θN k).2∧(flAt ss s θN k).2<=8000000*k
 |0=>by simp [flAt]
 |k+1=>by
  have ih:=flAt_bd h s θN k;unfold flAt;split
  ·rename_i x e;have :=fl1_bd (s:=s) (θN:=θN) (k:=k) (n:=flAt ss s θN k) (h x (List.mem_of_getElem? e));omega
  ·omega
theorem bit_mod (s i:Nat):(((s:Int) / 2 ^ i).tmod 2==1)=decide (bit s i=1):=by
 have e3:((s:Int) / 2 ^ i)=((s / 2 ^ i:Nat):Int):=by simp
 rw [e3,Int.tmod_eq_emod_of_nonneg (Int.natCast_nonneg (s / 2 ^ i))];unfold bit
 by_cases h:s / 2 ^ i%2=1
 ·rw [decide_eq_true h,beq_iff_eq];omega
 ·rw [decide_eq_false h,beq_eq_false_iff_ne];omega
theorem fl1_b (s:Nat) (θN:Int) (k:Nat) (x:eX) (n:Int×Int):fl1 s θN k x n=if (k:Int)=θN then n else if decide (bit s x.fr=1)=decide (bit s x.to=1) then n else if decide (bit s x.to=1)=true then (n.1+x.hi,n.2) else (n.1,n.2+x.lo):=by
 have h1:=KG s x.fr;have h2:=KG s x.to
 have e:(decide (bit s x.fr=1)=decide (bit s x.to=1))=(bit s x.fr=bit s x.to):=by
  simp only [decide_eq_decide,eq_iff_iff];omega
 unfold fl1;simp only [e,decide_eq_true_eq]
theorem Lo.rflow_any {w:World} {B:Nat} {ss:List eX} {A:Option Addr} {cap:Nat} {s:Nat} {θN:Int} (hr:RdW w B A ss) (hok:∀x∈ss,x.ok) (hl:ss.length<=64) (hB:B<=w.heap.size) (hs:s<2 ^ 63):
 Calls Lo.prog 81 #[.slice A ss.length cap,.int .i64 (s:Int),.int .i64 θN] w λe w'=>e= .returned (.tuple #[.int .i64 (flAt ss s θN ss.length).1,.int .i64 (flAt ss s θN ss.length).2])∧Below w.heap.size w w':=by
 obtain ⟨U,U2,U3,U4,U5,U6⟩:=Lo.facts;go_enter Lo.get Tryz.func81,Tryz.ntmps81;go_wp2
 go_loopw [8,9,10] (λa c i wr=>∃k:Nat,k<=ss.length∧i= .int .i64 (k:Int)∧a= .int .i64 (flAt ss s θN k).1∧c= .int .i64 (flAt ss s θN k).2∧Below w.heap.size w wr) (λ_ _ i _=>ss.length - (intOf i).toNat)
 case atStart=>exact ⟨0,Nat.zero_le _,rfl,rfl,rfl,Below.refl _ _⟩
 case round=>
  obtain ⟨k,hk,rfl,rfl,rfl,hb⟩:=hrel
  by_cases hlt:k<ss.length
  ·have hlt':(k:Int)<(ss.length:Int):=by omega
   obtain ⟨bb,off,rfl,hbb,hc⟩:=(hr.keep λb o h=>dH hb b o (by omega)) (by omega);obtain ⟨r0,r1,r2,r3⟩:=rd_way hc hlt;have hx:=hok ss[k] (List.getElem_mem hlt)
   have hd:flAt ss s θN (k+1)=fl1 s θN k ss[k] (flAt ss s θN k):=by
    show (match ss[k]? with |some x=>_|none=>_)=_;rw [List.getElem?_eq_getElem hlt]
   obtain ⟨n1,n2,n3,n4⟩:=flAt_bd hok s θN k;generalize flAt ss s θN k=d at hd n1 n2 n3 n4;obtain ⟨d0,d1⟩:=d;generalize ss[k]=x at r0 r1 r2 r3 hx hd;obtain ⟨lo,hi,fr,to⟩:=x;obtain ⟨x1,x2,x3,x4,x5,x6⟩:=hx;simp only at r0 r1 r2 r3 x1 x2 x3 x4 x5 x6 n1 n2 n3 n4;rw [fl1_b] at hd;have e1:=bit_mod s fr;have e2:=bit_mod s to;simp only at hd;generalize decide (bit s fr=1)=bf at hd e1;generalize decide (bit s to=1)=bt at hd e2;have HE:=Lib.hid (And.intro e1 e2);have w1:IntKind.i64.wrap (d0+hi)=d0+hi:=by rw [IntKind.wrap_i64];omega
   have w2:IntKind.i64.wrap (d1+lo)=d1+lo:=by rw [IntKind.wrap_i64];omega
   have HR:=Lib.hid (And.intro hb hd);clear hb hd hc hr e1 e2;go_wp2
   go_quiet (fail)
   rw [HE.out.1,HE.out.2]
   by_cases hw:(k:Int)=θN
   ·have HD:=Lib.hid (HR.out.2.trans (if_pos hw));go_wp2;go_roundw
    case rel=>exact ⟨k+1,by omega,by go_num,by rw [HD.out],by rw [HD.out],below_drewN HR.out.1 _⟩
    case measure=>simp [intOf];omega
   ·have HD:=Lib.hid (HR.out.2.trans (if_neg hw));cases bf<;>cases bt
    ·have HF:=Lib.hid (HD.out.trans (if_pos rfl));go_wp2;go_roundw
     case rel=>exact ⟨k+1,by omega,by go_num,by rw [HF.out],by rw [HF.out],below_drewN HR.out.1 _⟩
     case measure=>simp [intOf];omega
    ·have HF:=Lib.hid (HD.out.trans ((if_neg (by decide)).trans (if_pos rfl)));go_wp2;go_roundw
     case rel=>exact ⟨k+1,by omega,by go_num,by rw [HF.out],by rw [HF.out],below_drewN HR.out.1 _⟩
     case measure=>simp [intOf];omega
    ·have HF:=Lib.hid (HD.out.trans ((if_neg (by decide)).trans (if_neg (by decide))));go_wp2;go_roundw
     case rel=>exact ⟨k+1,by omega,by go_num,by rw [HF.out],by rw [HF.out],below_drewN HR.out.1 _⟩
     case measure=>simp [intOf];omega
    ·have HF:=Lib.hid (HD.out.trans (if_pos rfl));go_wp2;go_roundw
     case rel=>exact ⟨k+1,by omega,by go_num,by rw [HF.out],by rw [HF.out],below_drewN HR.out.1 _⟩
     case measure=>simp [intOf];omega
  ·obtain rfl:k=ss.length:=by omega
   have HR:=Lib.hid hb;clear hb;go_wp2
   go_ret2
   exact ⟨rfl,HR.out⟩
end Go.Proofs
end
section
namespace Go.Proofs
open Go Go.RowKit Go.Maps
variable [Lo.St]
theorem flow_short (ss:List eX) (s:Nat):∀k,k<=ss.length->(flAt ss s (-1) k).2 - (flAt ss s (-1) k).1=gM (ss.take k) s
 |0,_=>rfl
 |k+1,hk=>by
  have ih:=flow_short ss s k (by omega);have h1:=KG s ss[k].fr;have h2:=KG s ss[k].to;rw [KH ss s k (by omega), <-ih];show (match ss[k]? with |some x=>fl1 s (-1) k x (flAt ss s (-1) k)|none=>flAt ss s (-1) k).2 - (match ss[k]? with |some x=>fl1 s (-1) k x (flAt ss s (-1) k)|none=>flAt ss s (-1) k).1=_;rw [List.getElem?_eq_getElem (by omega)];dsimp only;unfold fl1 OJ kJ;rw [if_neg (by omega)];split
  ·rename_i e;rw [if_neg (by rw [if_neg (by omega),if_neg (by omega)];decide),if_neg (by rw [if_neg (by omega),if_neg (by omega)];decide)]
  ·split
   ·rw [if_pos (by rw [if_pos (by omega)])];dsimp only;omega
   ·rw [if_neg (by rw [if_neg (by omega),if_pos (by omega)];decide),if_pos (by rw [if_neg (by omega),if_pos (by omega)])];dsimp only;omega
theorem flow_full (ss:List eX) (s:Nat):(flAt ss s (-1) ss.length).2 - (flAt ss s (-1) ss.length).1=gM ss s:=by
 have :=flow_short ss s ss.length (Nat.le_refl _)
 rwa [List.take_length] at this
theorem crossed_take {ss:List eX} {k:Nat} (h:k<ss.length):iQ (ss.take (k+1))=(iQ (ss.take k)||decide (ss[k].lo > ss[k].hi)):=by
 unfold iQ;rw [List.take_succ_eq_append_getElem h,List.any_append];simp
theorem crossed_yes {ss:List eX} {k:Nat} (h:k<ss.length) (hx:ss[k].lo > ss[k].hi):iQ ss=true:=by
 unfold iQ;exact List.any_eq_true.2 ⟨_,List.getElem_mem h,by simpa using hx⟩
theorem wrap_shl (nd:Nat) (h:nd<=16):IntKind.i64.wrap ((2:Int) ^ nd)=((2 ^ nd:Nat):Int):=by
 have h1:(2:Nat) ^ nd<=2 ^ 16:=Nat.pow_le_pow_right (by decide) h;have h2:(2:Int) ^ nd=((2 ^ nd:Nat):Int):=by simp
 rw [h2,IntKind.wrap_i64];generalize 2 ^ nd=m at h1 ⊢;omega
theorem Lo.rcan_any {w:World} {B:Nat} {ss:List eX} {A:Option Addr} {cap nd:Nat} (hr:RdW w B A ss) (hok:∀x∈ss,x.ok) (hl:ss.length<=64) (hB:B<=w.heap.size) (hnd:nd<=16):
 Calls Lo.prog 80 #[.slice A ss.length cap,.int .i64 (nd:Int)] w λe w'=>e= .returned (.bool (gN ss nd))∧Below w.heap.size w w':=by
 obtain ⟨U,U2,U3,U4,U5,U6⟩:=Lo.facts;have C:=Lo.call Tryz.func81;have hp:(2:Nat) ^ nd<=2 ^ 16:=Nat.pow_le_pow_right (by decide) hnd;have hsh:=wrap_shl nd hnd;go_enter Lo.get Tryz.func80,Tryz.ntmps80;go_wp2
 go_loopw [5] (λi wr=>∃k:Nat,k<=ss.length∧i= .int .i64 (k:Int)∧iQ (ss.take k)=false∧Below w.heap.size w wr) (λi _=>ss.length - (intOf i).toNat)
 case atStart=>exact ⟨0,Nat.zero_le _,rfl,rfl,Below.refl _ _⟩
 case round=>
  obtain ⟨k,hk,rfl,hcr,hbw⟩:=hrel;have HB:=Lib.hid hbw;clear hbw
  by_cases hlt:k<ss.length
  ·have hlt':(k:Int)<(ss.length:Int):=by omega
   obtain ⟨bb,off,e,hbb,hc⟩:=(hr.keep λb o h=>dH HB.out b o (by omega)) (by omega);subst e;obtain ⟨r0,r1,r2,r3⟩:=rd_way hc hlt;have ht:=crossed_take hlt
   by_cases hx:ss[k].lo > ss[k].hi
   ·have hres:gN ss nd=false:=by unfold gN;rw [crossed_yes hlt hx];rfl
    have hx':ss[k].hi<ss[k].lo:=hx;have HS:=Lib.hid hres;clear hc hr ht hx hres hcr;generalize ss[k]=x at r0 r1 r2 r3 hx';go_wp2
    go_quiet (fail)
    go_wp2;go_ret;exact ⟨by rw [HS.out];rfl,below_drewN HB.out _⟩
   ·have HT:=Lib.hid (show iQ (ss.take (k+1))=false by rw [ht,hcr];simpa using hx);have hx':¬ss[k].hi<ss[k].lo:=hx;clear hc hr ht hx hcr;generalize ss[k]=x at r0 r1 r2 r3 hx';go_wp2
    go_quiet (fail)
    go_wp2;go_roundw
    case rel=>exact ⟨k+1,by omega,by go_num,HT.out,below_drewN HB.out _⟩
    case measure=>simp [intOf];omega
  ·obtain rfl:k=ss.length:=by omega
   rw [List.take_length] at hcr;have hres:gN ss nd=sV ss (2 ^ nd):=by unfold gN;rw [hcr];rfl
   have HC:=Lib.hid (And.intro hres (And.intro hr hok));clear hcr hres hr hok;go_wp2;generalize hm:2 ^ nd=m at hp hsh HC
   go_loopw [6] (λi wr=>∃k:Nat,k<=m∧i= .int .i64 (k:Int)∧sV ss k=true∧Below w.heap.size w wr) (λi _=>m - (intOf i).toNat)
   case atStart=>exact ⟨0,Nat.zero_le _,rfl,rfl,HB.out⟩
   case round=>
    obtain ⟨k,hk,rfl,hf,hb⟩:=hrel
    by_cases hlt:k<m
    ·have hlt':(k:Int)<(m:Int):=by omega
     have hr:=HC.out.2.1.keep λb o h=>dH hb b o (by omega)
     have HF:=Lib.hid (And.intro hf (And.intro hb hr));have Z5:B<=wr.heap.size:=Nat.le_trans hB hb.size;have OQ:k<2 ^ 63:=by omega
     have hfs:=flow_full ss k;have HW:=Lib.hid (Lo.rflow_any (cap:=cap) (θN:= -1) hr HC.out.2.2 hl Z5 OQ);clear hf hb hr;generalize flAt ss k (-1) ss.length=d at hfs HW;obtain ⟨d0,d1⟩:=d;simp only at hfs
     by_cases hq:d0<d1
     ·have HQ:=Lib.hid hfs;clear hfs
      go_wp2_with (go_at_call 81;refine HW.out.mono ?_;rintro e w2 ⟨rfl,hb2⟩)
      go_ret;refine ⟨?_,HF.out.2.1.trans (hb2.mono HF.out.2.1.size)⟩;rw [HC.out.1,OP ss hlt (by have :=HQ.out;omega)];rfl
     ·have HQ:=Lib.hid hfs;clear hfs
      go_wp2_with (go_at_call 81;refine HW.out.mono ?_;rintro e w2 ⟨rfl,hb2⟩)
      go_roundw
      case rel=>exact ⟨k+1,by omega,by go_num,by rw [IZ,HF.out.1,decide_eq_true (by have :=HQ.out;omega)];rfl,HF.out.2.1.trans (hb2.mono HF.out.2.1.size)⟩
      case measure=>simp [intOf];omega
    ·obtain rfl:k=m:=by omega
     have HF:=Lib.hid (And.intro hf hb);clear hf hb;go_wp2;go_ret;exact ⟨by rw [HC.out.1,HF.out.1];rfl,HF.out.2⟩
end Go.Proofs
end
section
namespace Go.Proofs
open Go Go.RowKit
variable [Lo.St]
def lO9 (o:List Int) (k:Nat):Int:=(o[2*k]?).getD 0
def hI9 (o:List Int) (k:Nat):Int:=(o[2*k+1]?).getD 0
def loS (ss:List eX) (s:Nat) (x:eX) (a:Int):Int:=if kJ s x.fr x.to=1 then max a (gM ss s+x.hi) else a
def hiS (ss:List eX) (s:Nat) (x:eX) (a:Int):Int:=if kJ s x.fr x.to=2 then min a (x.lo - gM ss s) else a
theorem spanAt_at {ss:List eX} {s:Nat} {o:List Int} (ho:o.length=2*ss.length) {j k:Nat} {x:eX} (hx:ss[j]?=some x):
 lO9 (xm ss s o j) k=(if k=j then loS ss s x (lO9 o k) else lO9 o k)∧hI9 (xm ss s o j) k=if k=j then hiS ss s x (hI9 o k) else hI9 o k:=by
 have hj:=(List.getElem?_eq_some_iff.1 hx).1;unfold xm;rw [hx];dsimp only;unfold lO9 hI9 loS hiS
 by_cases e:k=j
 ·subst e;rw [if_pos rfl,if_pos rfl]
  by_cases h1:kJ s x.fr x.to=1
  ·rw [if_pos h1,if_pos h1,if_neg (by rw [h1];decide),List.getElem?_set_self (by omega),List.getElem?_set_ne (by omega)];exact ⟨rfl,rfl⟩
  ·rw [if_neg h1,if_neg h1]
   by_cases h2:kJ s x.fr x.to=2
   ·rw [if_pos h2,if_pos h2,List.getElem?_set_self (by omega),List.getElem?_set_ne (by omega)];exact ⟨rfl,rfl⟩
   ·rw [if_neg h2,if_neg h2];exact ⟨rfl,rfl⟩
 ·rw [if_neg e,if_neg e];split
  ·rw [List.getElem?_set_ne (by omega),List.getElem?_set_ne (by omega)];exact ⟨rfl,rfl⟩
  ·split
   ·rw [List.getElem?_set_ne (by omega),List.getElem?_set_ne (by omega)];exact ⟨rfl,rfl⟩
   ·exact ⟨rfl,rfl⟩
theorem rowTo_at {ss:List eX} {s:Nat} {o:List Int} (ho:o.length=2*ss.length) {k:Nat} {x:eX} (hx:ss[k]?=some x):∀j,j<=ss.length->
 lO9 (tX ss s o j) k=(if k<j then loS ss s x (lO9 o k) else lO9 o k)∧hI9 (tX ss s o j) k=if k<j then hiS ss s x (hI9 o k) else hI9 o k
 |0,_=>⟨rfl,rfl⟩
 |j+1,hj=>by
  obtain ⟨h1,h2⟩:=rowTo_at ho hx (s:=s) j (by omega);obtain ⟨h3,h4⟩:=spanAt_at (s:=s) (o:=tX ss s o j) ((zN ss s o j).trans ho) (k:=k) (List.getElem?_eq_getElem (show j<ss.length by omega));unfold tX;rw [h3,h4,h1,h2]
  by_cases e:k=j
  ·subst e;rw [List.getElem?_eq_getElem (show k<ss.length by omega)] at hx;have hx:=Option.some.inj hx;rw [hx];simp
  ·by_cases hlt:k<j
   ·rw [if_neg e,if_neg e,if_pos hlt,if_pos (by omega),if_pos hlt,if_pos (by omega)];exact ⟨rfl,rfl⟩
   ·rw [if_neg e,if_neg e,if_neg hlt,if_neg (by omega),if_neg hlt,if_neg (by omega)];exact ⟨rfl,rfl⟩
theorem initTo_at {ss:List eX} {k:Nat} {x:eX} (hx:ss[k]?=some x):∀j,j<=ss.length->k<j->lO9 (nY ss j) k=x.lo∧hI9 (nY ss j) k=x.hi
 |j+1,hj,hk=>by
  have hl:=CR ss j (by omega);unfold nY lO9 hI9;rw [List.getElem?_eq_getElem (show j<ss.length by omega)];dsimp only
  by_cases e:k=j
  ·subst e;rw [List.getElem?_eq_getElem (show k<ss.length by omega)] at hx;rw [Option.some.inj hx];rw [List.getElem?_append_right (by omega),List.getElem?_append_right (by omega),hl];simp
  ·rw [List.getElem?_append_left (by omega),List.getElem?_append_left (by omega)];exact initTo_at hx j (by omega) (by omega)
theorem sh1_add (s:Nat) (n:Int) (x:eX):OJ s n x=n+OJ s 0 x:=by
 unfold OJ;split
 ·omega
 ·split<;>omega
end Go.Proofs
end
section
namespace Go.Proofs
open Go Go.RowKit Go.Maps
section
variable {P:Program} {w:World}
theorem step_append_opt {ops:Array Oper} {o:Oper} {a:Act} {K:Act->World->Prop} {Q:Exit->Act->World->Prop} {E:Prop} (hgd:o.guard=none) (s x:Operand) (t:TypeId)
 (ho:o.op= .call { callee:=.builtin .append,args:= #[s,x],argTypes:= #[t,t] })
 (base:Nat) (e:TypeId) (i:TypeInfo) (z:Value) (size bytes:Nat) (ht:P.underlying t=some (.slice e)) (hi:P.info? e=some i) (hz:i.zero=some z)
 (hsize:i.size=size) (hby:i.bytes=bytes) (hzs:z.cells.size=size) (hsz:0<size)
 (v:Value) (n:Nat) (xs:List Value) (hs:a.eval s=v) (hown:w.ownsRow base e size v n xs)
 (A:Option Addr) (m c:Nat) (news:List Value) (hx:a.eval x= .slice A m c) (hl:news.length=m*size) (hnews:∀ad,A=some ad->∀j u,news[j]?=some u->w.cell? (ad.add j)=some u) (h0:A=none->m=0) (h1:∀u∈news,u.oneCell'=true)
 (h63:n+m<=maxLen) (hbytes:(n+m)*bytes<=140737488355328) (hbase:base<=w.heap.size)
 (h:∀v' w',w'.ownsRow base e size v' (n+m) (xs++news)->w.grownBy w' v.ownBlock->K (a.put o.dst v') w'):
 if Region.wanted o (yielded ops a.tmps)=true then Oper.wp P o a w K Q else E:=by
 cases A with
 |some ad=>exact Par.PK hgd s x t ho base e i z size bytes ht hi hz hsize hby hzs hsz v n xs hs hown ad m c news hx hl (hnews ad rfl) h1 h63 hbytes hbase h
 |none=>
  obtain rfl:=h0 rfl;obtain rfl:news= []:=List.eq_nil_of_length_eq_zero (by simpa using hl);have hw:Region.wanted o (yielded ops a.tmps)=true:=by simp [Region.wanted,hgd]
  rw [if_pos hw]
  have hrun:(Builtin.append_ #[t,t] o.type #[v,.slice none 0 c]).run P w= .ok v w:=by
   rcases hown.2 with ⟨rfl,rfl⟩|⟨g,cap,cur,rfl,_,_,hnc,_⟩
   ·simp [Builtin.append_,run_underlying ht,sizeOf,typeInfo,hi,Builtin.lenOf,Builtin.firstCells]
   ·simp [Builtin.append_,run_underlying ht,sizeOf,typeInfo,hi,Builtin.lenOf,Builtin.firstCells,hnc,storeCells]
  unfold Oper.wp execOp;simp only [ho,resolve,invoke,builtin,Sem.run_bind,Sem.run_pure,Result.andThen_ok,List.map_toArray,List.map_cons,List.map_nil,hs,hx,hrun];exact h _ _ (by rw [List.append_nil];exact hown) (pX _ _)
end
end Go.Proofs
end
section
namespace Go.Proofs
open Go Go.RowKit Go.Maps
variable [Lo.St]
theorem fl1_sh {s k:Nat} {θN:Int} (x:eX) (n:Int×Int) (h:(k:Int)≠θN):(fl1 s θN k x n).2 - (fl1 s θN k x n).1=n.2 - n.1+OJ s 0 x:=by
 have h1:=KG s x.fr;have h2:=KG s x.to;unfold fl1 OJ kJ;rw [if_neg h];split
 ·rw [if_neg (by rw [if_neg (by omega),if_neg (by omega)];decide),if_neg (by rw [if_neg (by omega),if_neg (by omega)];decide)];omega
 ·split
  ·rw [if_pos (by rw [if_pos (by omega)])];dsimp only;omega
  ·rw [if_neg (by rw [if_neg (by omega),if_pos (by omega)];decide),if_pos (by rw [if_neg (by omega),if_pos (by omega)])];dsimp only;omega
theorem flow_wo {ss:List eX} {k:Nat} {x:eX} (hx:ss[k]?=some x) (s:Nat):∀j,j<=ss.length->(flAt ss s k j).2 - (flAt ss s k j).1=gM (ss.take j) s - if k<j then OJ s 0 x else 0
 |0,_=>by simp [flAt,gM]
 |j+1,hj=>by
  have ih:=flow_wo hx s j (by omega);rw [KH ss s j (by omega),sh1_add]
  have e:flAt ss s k (j+1)=fl1 s k j ss[j] (flAt ss s k j):=by
   show (match ss[j]? with |some x=>_|none=>_)=_;rw [List.getElem?_eq_getElem (by omega)]
  rw [e]
  by_cases q:j=k
  ·subst q;rw [List.getElem?_eq_getElem (by omega)] at hx;have hx:=Option.some.inj hx;have e2:fl1 s (j:Int) j ss[j] (flAt ss s j j)=flAt ss s j j:=by unfold fl1;rw [if_pos rfl]
   rw [e2,ih,if_neg (by omega),if_pos (by omega),hx];omega
  ·rw [fl1_sh _ _ (by omega),ih]
   by_cases q2:k<j
   ·rw [if_pos q2,if_pos (by omega)];omega
   ·rw [if_neg q2,if_neg (by omega)];omega
theorem flow_wo' {ss:List eX} {k:Nat} {x:eX} (hx:ss[k]?=some x) (s:Nat):(flAt ss s k ss.length).2 - (flAt ss s k ss.length).1=gM ss s - OJ s 0 x:=by
 have :=flow_wo hx s ss.length (Nat.le_refl _)
 rwa [List.take_length,if_pos (List.getElem?_eq_some_iff.1 hx).1] at this
theorem sets_step {ss:List eX} {k:Nat} {x:eX} (hx:ss[k]?=some x) (m:Nat):lO9 (nA ss (m+1)) k=loS ss m x (lO9 (nA ss m) k)∧hI9 (nA ss (m+1)) k=hiS ss m x (hI9 (nA ss m) k):=by
 obtain ⟨h1,h2⟩:=rowTo_at (s:=m) (o:=nA ss m) (pV ss m) hx ss.length (Nat.le_refl _);have hk:=(List.getElem?_eq_some_iff.1 hx).1;rw [if_pos hk] at h1 h2;exact ⟨h1,h2⟩
theorem span_step {ss:List eX} {k:Nat} {x:eX} (hx:ss[k]?=some x) (m:Nat):
 (lO9 (nA ss (m+1)) k=if decide (bit m x.fr=1)=false∧decide (bit m x.to=1)=true then max (lO9 (nA ss m) k) ((flAt ss m k ss.length).2 - (flAt ss m k ss.length).1) else lO9 (nA ss m) k)∧
 (hI9 (nA ss (m+1)) k=if decide (bit m x.fr=1)=true∧decide (bit m x.to=1)=false then min (hI9 (nA ss m) k) ((flAt ss m k ss.length).1 - (flAt ss m k ss.length).2) else hI9 (nA ss m) k):=by
 obtain ⟨h1,h2⟩:=sets_step hx m;have hf:=flow_wo' hx m;have b1:=KG m x.fr;have b2:=KG m x.to;rw [h1,h2];unfold loS hiS;simp only [decide_eq_true_eq,decide_eq_false_iff_not];unfold OJ at hf
 have s1:kJ m x.fr x.to=1↔(¬bit m x.fr=1∧bit m x.to=1):=by
  unfold kJ
  by_cases q:bit m x.fr<bit m x.to
  ·rw [if_pos q];exact ⟨λ_=>by omega, λ_=>rfl⟩
  ·rw [if_neg q];exact ⟨λh=>(by split at h<;>cases h), λh=>by omega⟩
 have s2:kJ m x.fr x.to=2↔(bit m x.fr=1∧¬bit m x.to=1):=by
  unfold kJ
  by_cases q:bit m x.fr<bit m x.to
  ·rw [if_pos q];exact ⟨λh=>(by cases h), λh=>by omega⟩
  ·rw [if_neg q]
   by_cases q2:bit m x.fr > bit m x.to
   ·rw [if_pos q2];exact ⟨λ_=>by omega, λ_=>rfl⟩
   ·rw [if_neg q2];exact ⟨λh=>(by cases h), λh=>by omega⟩
 by_cases q1:kJ m x.fr x.to=1
 ·have q2:¬kJ m x.fr x.to=2:=by rw [q1];decide
  rw [if_pos q1] at hf;rw [if_pos q1,if_neg q2,if_pos (s1.1 q1),if_neg (λh=>q2 (s2.2 h))];exact ⟨by rw [show gM ss m+x.hi=(flAt ss m k ss.length).2 - (flAt ss m k ss.length).1 by omega],rfl⟩
 ·rw [if_neg q1] at hf;rw [if_neg q1,if_neg (λh=>q1 (s1.2 h))]
  by_cases q2:kJ m x.fr x.to=2
  ·rw [if_pos q2] at hf;rw [if_pos q2,if_pos (s2.1 q2)];exact ⟨rfl,by rw [show x.lo - gM ss m=(flAt ss m k ss.length).1 - (flAt ss m k ss.length).2 by omega]⟩
  ·rw [if_neg q2,if_neg (λh=>q2 (s2.2 h))];exact ⟨rfl,rfl⟩
theorem Lo.rspan_any {w:World} {B:Nat} {ss:List eX} {A:Option Addr} {cap nd k:Nat} (hr:RdW w B A ss) (hok:∀x∈ss,x.ok) (hl:ss.length<=64) (hB:B<=w.heap.size) (hnd:nd<=16) (hk:k<ss.length):
 Calls Lo.prog 45 #[.slice A ss.length cap,.int .i64 (nd:Int),.int .i64 (k:Int)] w λe w'=>e= .returned (.agg #[.int .i64 (lO9 (mG ss nd) k),.int .i64 (hI9 (mG ss nd) k)])∧Below w.heap.size w w':=by
 obtain ⟨U,U2,U3,U4,U5,U6⟩:=Lo.facts;have C:=Lo.call Tryz.func81;have hp:(2:Nat) ^ nd<=2 ^ 16:=Nat.pow_le_pow_right (by decide) hnd;have hsh:=wrap_shl nd hnd;have hk':(k:Int)<(ss.length:Int):=by omega
 have HR:=Lib.hid hr;obtain ⟨bb,off,rfl,hbb,hc⟩:=hr (by omega);obtain ⟨r0,r1,r2,r3⟩:=rd_way hc hk;have hxk:ss[k]?=some ss[k]:=List.getElem?_eq_getElem hk
 have hxo:=hok ss[k] (List.getElem_mem hk);generalize ss[k]=x at r0 r1 r2 r3 hxk hxo;obtain ⟨lo,hi,fr,to⟩:=x;obtain ⟨x1,x2,x3,x4,x5,x6⟩:=hxo;simp only at r0 r1 r2 r3 x1 x2 x3 x4 x5 x6;have r3:w.cell? ⟨bb,off+k*4+2+1,none⟩=some (.int .i64 hi):=r3;have hbw:bb<w.heap.size:=by omega
 have i0:=initTo_at hxk ss.length (Nat.le_refl _) hk;have HX:=Lib.hid (And.intro hxk (And.intro hok i0));clear hc hxk hok i0;go_enter Lo.get Tryz.func45,Tryz.ntmps45;go_wp2;obtain ⟨Y,hY⟩:∃Y,(w.alloc (.cells #[.int .i64 0,.int .i64 0] 51)).alloc (.cells #[.int .i64 lo,.int .i64 hi] 51)=Y:=⟨_,rfl⟩
 have y1:Y.heap[w.heap.size]?=some (.cells #[.int .i64 0,.int .i64 0] 51):=by
  rw [<-hY,Below.heap_alloc _ _ _ (by simp)];exact World.alloc_heap_new _ _
 have y2:Y.heap[w.heap.size+1]?=some (.cells #[.int .i64 lo,.int .i64 hi] 51):=by
  rw [<-hY,show w.heap.size+1=(w.alloc (.cells #[.int .i64 0,.int .i64 0] 51)).heap.size by simp];exact World.alloc_heap_new _ _
 have bY:Below w.heap.size w Y:=hY ▸ ((Below.refl _ _).alloc (Nat.le_refl _) _).alloc (by simp) _;have sY:Y.heap.size=w.heap.size+2:=by rw [<-hY];simp
 rw [hY];have HY:=Lib.hid (And.intro y1 (And.intro y2 bY));clear hY y1 y2 bY;have hmm:nA ss (2 ^ nd)=mG ss nd:=rfl;have HM:=Lib.hid hmm;clear hmm;generalize hm:2 ^ nd=m at hp hsh HM
 go_loopw [8] (λi wr=>∃s:Nat,s<=m∧i= .int .i64 (s:Int)∧wr.heap[w.heap.size+1]?=some (.cells #[.int .i64 (lO9 (nA ss s) k),.int .i64 (hI9 (nA ss s) k)] 51)∧Below (w.heap.size+1) Y wr) (λi _=>m - (intOf i).toNat)
 case atStart=>exact ⟨0,Nat.zero_le _,rfl,by show _=some (Obj.cells #[.int .i64 (lO9 (nY ss ss.length) k),.int .i64 (hI9 (nY ss ss.length) k)] 51);rw [HX.out.2.2.1,HX.out.2.2.2];exact HY.out.2.1,Below.refl _ _⟩
 case round=>
  obtain ⟨s,hs,rfl,hxb,hb⟩:=hrel;obtain ⟨q0,q1,z0,z1⟩:=box2 hxb
  by_cases hlt:s<m
  ·have hlt':(s:Int)<(m:Int):=by omega
   have bw:Below w.heap.size w wr:=HY.out.2.2.trans (hb.mono (by omega));replace r0:=(dH bw bb _ hbw).trans r0;replace r1:=(dH bw bb _ hbw).trans r1;have Z5:B<=wr.heap.size:=Nat.le_trans hB bw.size;have OQ:s<2 ^ 63:=by omega
   have hw:= λW (hW:Below w.heap.size w W)=>Lo.rflow_any (w:=W) (s:=s) (cap:=cap) (θN:=(k:Int)) (HR.out.keep λb o h=>dH hW b o (by omega)) HX.out.2.1 hl (Nat.le_trans hB hW.size) OQ
   have hst:=span_step HX.out.1 s;have hbd:=flAt_bd HX.out.2.1 s (k:Int) ss.length;have e1:=bit_mod s fr;have e2:=bit_mod s to;simp only at hst;generalize flAt ss s (k:Int) ss.length=d at hw hst hbd;generalize lO9 (nA ss s) k=l at hst q0 hxb;generalize hI9 (nA ss s) k=h at hst q1 hxb;generalize decide (bit s fr=1)=bf at hst e1;generalize decide (bit s to=1)=bt at hst e2;obtain ⟨d0,d1⟩:=d;simp only at hst hbd hw;obtain ⟨n1,n2,n3,n4⟩:=hbd;have w1:IntKind.i64.wrap (d0 - d1)=d0 - d1:=by rw [IntKind.wrap_i64];omega
   have w2:IntKind.i64.wrap (d1 - d0)=d1 - d0:=by rw [IntKind.wrap_i64];omega
   have HE:=Lib.hid (And.intro e1 e2);have HW:=Lib.hid hw;have HB:=Lib.hid (And.intro hb (And.intro hxb bw));have HS:=Lib.hid hst;have hwr:w.heap.size+1<wr.heap.size:=by have :=hb.size;omega
   clear e1 e2 hw hb hxb bw hst q0 q1 z0 z1 r2 r3;go_wp2
   go_quiet (fail)
   rw [HE.out.1,HE.out.2];obtain ⟨V,hV⟩:∃V,wr.drewN nq=V:=⟨_,rfl⟩;have bV:Below wr.heap.size wr V:=hV ▸ below_drewN (Below.refl _ _) _;rw [hV];clear hV;have bwV:Below w.heap.size w V:=HB.out.2.2.trans (bV.mono HB.out.2.2.size);have bYV:Below (w.heap.size+1) Y V:=HB.out.1.trans (bV.mono (by omega));have hxV:V.heap[w.heap.size+1]?=_:=(bV.block _ hwr).trans HB.out.2.1
   have HV:=Lib.hid (And.intro bwV (And.intro bYV hxV));clear bwV bYV hxV bV HB;cases bf<;>cases bt
   ·go_wp2_with (go_at_call 81;refine (HW.out V HV.out.1).mono ?_;rintro e V2 ⟨rfl,hb2⟩)
    go_roundw
    case rel=>exact ⟨s+1,by omega,by go_num,by rw [HS.out.1,HS.out.2];exact (hb2.block _ (by have :=HV.out.2.1.size;omega)).trans HV.out.2.2,HV.out.2.1.trans (hb2.mono (by have :=HV.out.2.1.size;omega))⟩
    case measure=>simp [intOf];omega
   ·go_wp2_with (go_at_call 81;refine (HW.out V HV.out.1).mono ?_;rintro e V2 ⟨rfl,hb2⟩;have hx2:=(hb2.block _ (by have :=HV.out.2.1.size;omega)).trans HV.out.2.2;obtain ⟨q0,q1,z0,z1⟩:=box2 hx2;have H2:=Lib.hid (And.intro hb2 hx2);clear hb2 hx2)
    rw [show (if l<d1 - d0 then d1 - d0 else l)=max l (d1 - d0) by split<;>omega];go_roundw
    case rel=>exact ⟨s+1,by omega,by go_num,by rw [HS.out.1,HS.out.2];exact heap_setCell_same _ _ 0 _ _ _ H2.out.2,(HV.out.2.1.trans (H2.out.1.mono (by have :=HV.out.2.1.size;omega))).setCell (p:=⟨w.heap.size+1,0,none⟩) (Nat.le_refl _) _⟩
    case measure=>simp [intOf];omega
   ·go_wp2_with (go_at_call 81;refine (HW.out V HV.out.1).mono ?_;rintro e V2 ⟨rfl,hb2⟩;have hx2:=(hb2.block _ (by have :=HV.out.2.1.size;omega)).trans HV.out.2.2;obtain ⟨q0,q1,z0,z1⟩:=box2 hx2;have H2:=Lib.hid (And.intro hb2 hx2);clear hb2 hx2)
    rw [show (if d0 - d1<h then d0 - d1 else h)=min h (d0 - d1) by split<;>omega];go_roundw
    case rel=>exact ⟨s+1,by omega,by go_num,by rw [HS.out.1,HS.out.2];exact heap_setCell_same _ _ 1 _ _ _ H2.out.2,(HV.out.2.1.trans (H2.out.1.mono (by have :=HV.out.2.1.size;omega))).setCell (p:=⟨w.heap.size+1,1,none⟩) (Nat.le_refl _) _⟩
    case measure=>simp [intOf];omega
   ·go_wp2_with (go_at_call 81;refine (HW.out V HV.out.1).mono ?_;rintro e V2 ⟨rfl,hb2⟩)
    go_roundw
    case rel=>exact ⟨s+1,by omega,by go_num,by rw [HS.out.1,HS.out.2];exact (hb2.block _ (by have :=HV.out.2.1.size;omega)).trans HV.out.2.2,HV.out.2.1.trans (hb2.mono (by have :=HV.out.2.1.size;omega))⟩
    case measure=>simp [intOf];omega
  ·obtain rfl:s=m:=by omega
   rw [HM.out] at hxb q0 q1;have yr:wr.heap[w.heap.size]?=_:=(hb.block _ (by omega)).trans HY.out.1
   obtain ⟨y10,y11,z2,z3⟩:=box2 yr;have HZ:=Lib.hid (And.intro hb yr);clear hb hxb yr;go_wp2;obtain ⟨Z,hZ⟩:∃Z,(wr.setCell ⟨w.heap.size,0,none⟩ (.int .i64 (lO9 (mG ss nd) k))).setCell ⟨w.heap.size,1,none⟩ (.int .i64 (hI9 (mG ss nd) k))=Z:=⟨_,rfl⟩;obtain ⟨v0,v1, -, -⟩:=box2 (hZ ▸ set2 HZ.out.2);rw [hZ];have hf:Tryz.f45.results= #[ResultVar.cell 6 51]:=by unfold Tryz.f45;rfl
   refine bodyPost_ret (v:=.agg #[.int .i64 (lO9 (mG ss nd) k),.int .i64 (hI9 (mG ss nd) k)]) ?_ rfl ⟨rfl,?_⟩
   ·simp [results,hf,go_sem,U,U2,U3,U4,U5,U6,v0,v1]
   ·rw [<-hZ];exact ((HY.out.2.2.trans (HZ.out.1.mono (by omega))).setCell (p:=⟨w.heap.size,0,none⟩) (Nat.le_refl _) _).setCell (p:=⟨w.heap.size,1,none⟩) (Nat.le_refl _) _
end Go.Proofs
end
section
namespace Go.Proofs
open Go Go.RowKit
theorem firstHas_neg' (p:Int):∀(L:List (List Int)) (k:Nat),decide (gT p L k<0)=!(L.any λl=>l.contains p)
 | [],k=>by simp [gT]
 |l::r,k=>by
  unfold gT
  by_cases h:l.contains p=true
  ·rw [if_pos h,List.any_cons,h,Bool.true_or];exact decide_eq_false (by omega)
  ·rw [if_neg h,firstHas_neg' p r,List.any_cons,show l.contains p=false by simpa using h,Bool.false_or]
end Go.Proofs
end
section
namespace Go.Proofs
open Go Go.RowKit Go.Maps
variable [Lo.St]
theorem lastOf_map {p i:Int}:∀(m:List Int) (l:List (Int×Int)),qg (l++m.map λq=>(q,i)) p=if m.contains p=true then some i else qg l p
 | [],l=>by simp
 |q::r,l=>by
  have e:l++(q::r).map (λq=>(q,i))=(l++ [(q,i)])++r.map λq=>(q,i):=by simp
  rw [e,lastOf_map r,uO]
  by_cases h:r.contains p=true
  ·rw [if_pos h,if_pos (by rw [List.contains_cons,h];simp)]
  ·rw [if_neg h]
   by_cases h2:q=p
   ·rw [if_pos h2,if_pos (by rw [List.contains_cons,h2];simp)]
   ·rw [if_neg h2,if_neg (λhh=>by
     rw [List.contains_cons,Bool.or_eq_true] at hh;rcases hh with hh|hh
     ·exact h2 (eq_of_beq hh).symm
     ·exact h hh)]
theorem firstHas_snoc (p:Int) (l:List Int):∀(L:List (List Int)) (k:Nat),gT p (L++ [l]) k=if gT p L k<0 then (if l.contains p=true then ((k+L.length:Nat):Int) else -1) else gT p L k
 | [],k=>by
   show (if l.contains p=true then (k:Int) else -1)=_;rw [if_pos (show gT p [] k<0 from (by decide:(-1:Int)<0))];rfl
 |a::L,k=>by
  show (if a.contains p=true then (k:Int) else gT p (L++ [l]) (k+1))=if (if a.contains p=true then (k:Int) else gT p L (k+1))<0 then _ else (if a.contains p=true then (k:Int) else gT p L (k+1))
  by_cases h:a.contains p=true
  ·rw [if_pos h,if_pos h,if_neg (by omega)]
  ·rw [if_neg h,if_neg h,firstHas_snoc p l L (k+1),List.length_cons,show k+1+L.length=k+(L.length+1) by omega]
theorem putsTo_one {f:dW->List Int} {ss:List dW} {k:Nat} (h:k<ss.length):fP f ss (k+1)=fP f ss k++(f ss[k]).map λq=>(q,(k:Int)):=by
 rw [fP,List.getElem?_eq_getElem h]
theorem first_last {f:dW->List Int} {ss:List dW} (hn:(ss.flatMap f).Nodup) (p:Int):∀k,k<=ss.length->qg (fP f ss k) p=if gT p ((ss.take k).map f) 0<0 then none else some (gT p ((ss.take k).map f) 0)
 |0,_=>by simp [fP,qg,gT]
 |k+1,hk=>by
  have ih:=first_last hn p k (by omega);rw [putsTo_one (by omega),lastOf_map,ih,List.take_succ_eq_append_getElem (by omega),List.map_append,List.map_cons,List.map_nil,firstHas_snoc];have hl:((ss.take k).map f).length=k:=by simp;omega
  rw [hl,Nat.zero_add]
  by_cases h:(f ss[k]).contains p=true
  ·rw [if_pos h,if_pos h]
   have hneg:gT p ((ss.take k).map f) 0<0:=by
    have :=firstHas_neg' p ((ss.take k).map f) 0
    by_cases q:gT p ((ss.take k).map f) 0<0
    ·exact q
    ·rw [decide_eq_false q] at this;exfalso
     have h2:(((ss.take k).map f).any λl=>l.contains p)=true:=by
      cases e:((ss.take k).map f).any λl=>l.contains p with
      |true=>rfl
      |false=>rw [e] at this;cases this
     obtain ⟨l,hl1,hl2⟩:=List.any_eq_true.1 h2;obtain ⟨s,hs1,rfl⟩:=List.mem_map.1 hl1;have hd:((ss.take k).flatMap f++(ss.drop k).flatMap f).Nodup:=by rw [<-List.flatMap_append,List.take_append_drop];exact hn
     refine (List.nodup_append.1 hd).2.2 p (List.mem_flatMap.2 ⟨s,hs1,by simpa using hl2⟩) p (List.mem_flatMap.2 ⟨ss[k],?_,by simpa using h⟩) rfl;rw [List.drop_eq_getElem_cons (by omega)];exact List.mem_cons_self ..
   rw [if_pos hneg,if_neg (by omega)]
  ·rw [if_neg h,if_neg h]
   by_cases q:gT p ((ss.take k).map f) 0<0
   ·rw [if_pos q,if_pos q,if_pos (by decide)]
   ·rw [if_neg q,if_neg q,if_neg q]
theorem ok_all {b:dO} (h:(jr b.dJ.length b.dz.length b.steps [] []).1=0):∀k,k<=b.steps.length->Ju b k
 |0,_=> λj _ h=>absurd h (Nat.not_lt_zero _)
 |k+1,hk=>by
  have ih:=ok_all h k (by omega);refine Pg ih (by omega) ?_
  by_cases q:mq b k b.steps[k]=0
  ·exact q
  ·have e:=Pd (show k<b.steps.length by omega) q;rw [<-tK ih (by omega),xA,h] at e;exact absurd e.symm q
theorem insF_nodup {np:Nat} {M:List Int}:∀{l U:List Int},U.Nodup->(oD np M l U).1=0->(U++l).Nodup
 | [],U,h,_=>by simpa using h
 |p::r,U,h,h2=>by
  unfold oD at h2
  by_cases q1:kH p 0 ((np:Int) - 1)=false
  ·rw [if_pos q1] at h2;cases h2
  rw [if_neg q1] at h2
  by_cases q2:M.contains p=false
  ·rw [if_pos q2] at h2;cases h2
  rw [if_neg q2] at h2
  by_cases q3:U.contains p=true
  ·rw [if_pos q3] at h2;cases h2
  rw [if_neg q3] at h2
  have hU:(U++ [p]).Nodup:=List.nodup_append.2 ⟨h,by simp, λa ha c hc=>by
   obtain rfl:=List.mem_singleton.1 hc;rintro rfl;exact q3 (by simpa using ha)⟩
  have :=insF_nodup hU h2
  rwa [List.append_assoc] at this
theorem usedL_good {b:dO} (h:Ju b b.steps.length):∀k,k<=b.steps.length->(mM b k).Nodup
 |0,_=>by unfold mM;simp
 |k+1,hk=>by
  have ih:=usedL_good h k (by omega);have hf:=h k (by omega) (by omega);rw [Ll b (by omega)];refine insF_nodup (np:=b.dz.length) (M:=gB b k) ih ?_
  unfold mq at hf
  by_cases q1:kH b.steps[k].hand 0 ((b.dJ.length:Int) - 1)=false
  ·rw [if_pos q1] at hf;cases hf
  rw [if_neg q1] at hf
  by_cases q2:(oD b.dz.length (gB b k) b.steps[k].ins (mM b k)).1=0
  ·exact q2
  ·rw [if_pos q2] at hf;exact absurd hf q2
theorem maker_first {b:dO} (hc:fG b=0) {p:Nat} (hp:p<b.dz.length):gT p (b.steps.map dW.outs) 0=((tq b.steps p).toNat:Int)∧0<=gT p (b.steps.map dW.outs) 0:=by
 obtain ⟨-,h2,h3⟩:=CX (EP hc).2.2.1;have hok:=ok_all h2 _ (Nat.le_refl _);obtain ⟨n1,n2⟩:=Dw hok (Nat.le_refl _);have e2:(jr b.dJ.length b.dz.length b.steps [] []).2=gB b b.steps.length:=by rw [<-xA,tK hok (Nat.le_refl _),E9]
 have hm:(gB b b.steps.length).contains (p:Int)=true:=by
  cases e:(gB b b.steps.length).contains (p:Int) with
  |true=>rfl
  |false=>rw [e2] at h3;exact absurd (Pf n1 n2 hp e) h3
 have hfl:gB b b.steps.length=b.steps.flatMap dW.outs:=by unfold gB;rw [List.take_length]
 rw [hfl] at n1 hm;have hl:=first_last n1 (p:Int) b.steps.length (Nat.le_refl _);rw [List.take_length] at hl
 have hge:¬gT p (b.steps.map dW.outs) 0<0:= λq=>by
  have :=firstHas_neg' p (b.steps.map dW.outs) 0;rw [decide_eq_true q] at this
  have e:((b.steps.map dW.outs).any λl=>l.contains (p:Int))=true:=by
   rw [<-nJ, <-List.flatMap_def];exact hm
  rw [e] at this;cases this
 rw [if_neg hge] at hl;unfold tq;rw [hl];exact ⟨by show _=((gT p (b.steps.map dW.outs) 0).toNat:Int);omega,by omega⟩
theorem user_first {b:dO} (hc:fG b=0) (p:Nat):qO b.steps p=if gT p (b.steps.map dW.ins) 0<0 then none else some (gT p (b.steps.map dW.ins) 0):=by
 obtain ⟨-,h2,h3⟩:=CX (EP hc).2.2.1;have hok:=ok_all h2 _ (Nat.le_refl _);have n1:=usedL_good hok _ (Nat.le_refl _);have hfl:mM b b.steps.length=b.steps.flatMap dW.ins:=by unfold mM;rw [List.take_length]
 rw [hfl] at n1;have hl:=first_last n1 (p:Int) b.steps.length (Nat.le_refl _)
 rwa [List.take_length] at hl
end Go.Proofs
end
