/- Part 3. -/
import Derived.Test.YtnemnkmojiljmaaGreatB02
set_option maxRecDepth 100000
set_option maxHeartbeats 0
set_option linter.all false
namespace Go.Proofs
open Go Go.RowKit
section
variable [Lo.St]
def rO (n l h:Int):Bool:=decide (l<=n)&&decide (n<=h)
theorem Lo.eZ (n l h:Int) (w:World):Calls Lo.prog 49 #[.int .i64 n,.int .i64 l,.int .i64 h] w λe w'=>e= .returned (.bool (rO n l h))∧w=w':=by
 have U:=Lo.underlying;have U2:=Lo.runUnderlying
 by_cases h1:l<=n
 ·have hd:decide (l<=n)=true:=by simpa using h1
  go_enter Lo.func49,Tryz.ntmps49;go_wp2;go_ret;exact ⟨by simp [rO,hd],rfl⟩
 ·have hd:decide (l<=n)=false:=by simpa using h1
  go_enter Lo.func49,Tryz.ntmps49;go_wp2;go_ret;exact ⟨by simp [rO,hd],rfl⟩
end
section
variable [Lo.St]
theorem Lo.R6 (a b c d:Int) (w:World):Calls Lo.prog 87 #[.agg #[.int .i64 a,.int .i64 b],.agg #[.int .i64 c,.int .i64 d]] w λe w'=>e= .returned (.agg #[.int .i64 (max a c),.int .i64 (min b d)])∧Below w.heap.size w w':=by
 obtain ⟨U,U2,U3,U4,U5,U6⟩:=Lo.facts;go_enter Lo.func87,Tryz.ntmps87;go_wp2
 all_goals exact bodyPost_ret (v:=.agg #[.int .i64 (max a c),.int .i64 (min b d)]) (by simp [results,Tryz.results52,go_sem,U,U2,U3,U4,U5,U6];first |done|omega|(constructor<;>omega)) rfl ⟨rfl,(((di _ _).alloc (aJ _) _).alloc (by simp) _).alloc (by simp;omega) _⟩
theorem Lo.oQ (a b:Int) (w:World):Calls Lo.prog 88 #[.agg #[.int .i64 a,.int .i64 b]] w λe w'=>e= .returned (.agg #[.int .i64 a,.int .i64 b])∧Below w.heap.size w w':=by
 obtain ⟨U,U2,U3,U4,U5,U6⟩:=Lo.facts;go_enter Lo.func88,Tryz.ntmps88;go_wp2;exact bodyPost_ret (v:=.agg #[.int .i64 a,.int .i64 b]) (by simp [results,Tryz.results53,go_sem,U,U2,U3,U4,U5,U6]) rfl ⟨rfl,((di _ _).alloc (aJ _) _).alloc (by simp) _⟩
theorem Lo.BD (a b f t:Int) (w:World):Calls Lo.prog 122 #[.agg #[.int .i64 a,.int .i64 b,.int .i64 f,.int .i64 t]] w λe w'=>e= .returned (.bool (decide (a > b)))∧Below w.heap.size w w':=by
 obtain ⟨U,U2,U3,U4,U5,U6⟩:=Lo.facts;go_enter Lo.func122,Tryz.ntmps122;go_wp2;go_ret;exact ⟨rfl,(di _ _).alloc (aJ _) _⟩
def bit (s:Nat) (i:Nat):Nat:=s / 2 ^ i%2
theorem MQ (s i:Nat):bit s i<2:=Nat.mod_lt _ (by decide)
theorem ED (n:Int) (h₀:0<=n) (h₁:n<2 ^ 63):IntKind.u64.wrap n=n:=by rw [IntKind.wrap_u64];omega
theorem Jy (s i:Nat) (h:s<2 ^ 63):bits .and .u64 ((s:Int) / 2 ^ i) 1=((bit s i:Nat):Int):=by
 have h1:s / 2 ^ i<=s:=Nat.div_le_self _ _;have e3:((s:Int) / 2 ^ i)=((s / 2 ^ i:Nat):Int):=by simp
 rw [e3];unfold bit;generalize s / 2 ^ i=m at h1;have h2:=Go.bits_mask .u64 63 (by decide) ED 1 (by decide) (m:Int) (by omega) (by omega);have e:((2:Int) ^ 1 - 1)=1:=by decide
 have e2:((2:Int) ^ 1)=2:=by decide
 rw [e,e2] at h2;rw [h2];simp
theorem below_drewN {B:Nat} {w w':World} (h:Below B w w') (n:Nat):Below B w (w'.drewN n):=⟨h.os,h.tape,h.output,h.size,h.block⟩
def nG (s f t:Nat):Int:=if bit s f<bit s t then 1 else if bit s f > bit s t then 2 else 0
theorem Lo.Zu (a b:Int) (f t s:Nat) (w:World) (hf:f<64) (ht:t<64) (hs:s<2 ^ 63):Calls Lo.prog 117 #[.agg #[.int .i64 a,.int .i64 b,.int .i64 (f:Int),.int .i64 (t:Int)],.int .u64 (s:Int)] w λe w'=>e= .returned (.int .i64 (nG s f t))∧Below w.heap.size w w':=by
 obtain ⟨U,U2,U3,U4,U5,U6⟩:=Lo.facts;have b1:=Jy s f hs;have b2:=Jy s t hs;have c1:=MQ s f;have c2:=MQ s t;generalize hx:bit s f=x at b1 c1;generalize hy:bit s t=y at b2 c2;have hsd:nG s f t=if x<y then 1 else if x > y then 2 else 0:=by unfold nG;rw [hx,hy]
 rw [hsd];clear hsd hx hy;rcases Nat.lt_trichotomy x y with h|h|h
 ·have d1:decide ((x:Int)<(y:Int))=true:=by simpa using h
  rw [aj h];go_enter Lo.func117,Tryz.ntmps117;go_wp2
  go_quiet (fail)
  go_wp2;go_ret;exact ⟨rfl,below_drewN ((di _ _).alloc (aJ _) _) _⟩
 ·subst h;rw [aa (Nat.lt_irrefl _),aa (Nat.lt_irrefl _)];go_enter Lo.func117,Tryz.ntmps117;go_wp2
  go_quiet (fail)
  go_wp2;go_ret;exact ⟨rfl,below_drewN ((di _ _).alloc (aJ _) _) _⟩
 ·have d1:decide ((x:Int)<(y:Int))=false:=by simp;omega
  have d2:decide ((y:Int)<(x:Int))=true:=by simp;omega
  rw [aa (by omega),aj h];go_enter Lo.func117,Tryz.ntmps117;go_wp2
  go_quiet (fail)
  go_wp2;go_ret;exact ⟨rfl,below_drewN ((di _ _).alloc (aJ _) _) _⟩
end
section
variable [Lo.St]
def Rd (w:World) (B size:Nat) (A:Option Addr) (n:Nat) (f:Nat->Nat->Value):Prop:=
 0<n->∃b off,A=some ⟨b,off,none⟩∧b<B∧∀i j,i<n->j<size->w.cell? ⟨b,off+(i*size+j),none⟩=some (f i j)
theorem Rd.keep {w w':World} {B size:Nat} {A:Option Addr} {n:Nat} {f:Nat->Nat->Value} (h:Rd w B size A n f) (hk:∀b o,b<B->w'.cell? ⟨b,o,none⟩=w.cell? ⟨b,o,none⟩):Rd w' B size A n f:= λhn=>by
 obtain ⟨b,off,e,hb,hc⟩:=h hn;exact ⟨b,off,e,hb, λi j hi hj=>(hk _ _ hb).trans (hc i j hi hj)⟩
theorem dU {W w1:World} {B:Nat} (hb:Below B W w1):∀b o,b<B->w1.cell? ⟨b,o,none⟩=W.cell? ⟨b,o,none⟩:= λb o h=>hb.cell (p:=⟨b,o,none⟩) h
theorem EE {W w1:World} {B:Nat} (hb:Below B W w1):∀b o,b<B->w1.frozen? ⟨b,o,none⟩=W.frozen? ⟨b,o,none⟩:= λb o h=>hb.frozen (p:=⟨b,o,none⟩) h
structure fI where
 lo:Int
 hi:Int
 fr:Nat
 to:Nat
 deriving DecidableEq
def fI.cells (x:fI):Nat->Value
 |0=>.int .i64 x.lo
 |1=>.int .i64 x.hi
 |2=>.int .i64 (x.fr:Int)
 |_=>.int .i64 (x.to:Int)
def xA (ss:List fI) (i j:Nat):Value:=((ss[i]?).getD ⟨0,0,0,0⟩).cells j
def fI.ok (x:fI):Prop:=0<=x.lo∧x.lo<=8000000∧0<=x.hi∧x.hi<=8000000∧x.fr<64∧x.to<64
def V9 (s:Nat) (n:Int) (x:fI):Int:=if nG s x.fr x.to=1 then n - x.hi else if nG s x.fr x.to=2 then n+x.lo else n
def gQ (ss:List fI) (s:Nat):Int:=ss.foldl (V9 s) 0
structure lV (w:World) (B b:Nat) (ss:List fI) (steps nodes:Nat) (A:Option Addr) (cap:Nat):Prop where
 lt:b<B
 c0:w.cell? ⟨b,0,none⟩=some (.slice A ss.length cap)
 c1:w.cell? ⟨b,1,none⟩=some (.int .i64 (steps:Int))
 c2:w.cell? ⟨b,2,none⟩=some (.int .i64 (nodes:Int))
 rd:Rd w B 4 A ss.length (xA ss)
 ok:∀x∈ss,x.ok
 len:ss.length<=64
theorem KC (ss:List fI) (s:Nat) (h:∀x∈ss,x.ok):∀n:Int, -8000000*ss.length<=(ss.foldl (V9 s) n) - n∧(ss.foldl (V9 s) n) - n<=8000000*ss.length:=by
 induction ss with
 |nil=>intro n;simp
 |cons x ss ih=>
  intro n;have :=ih (λy hy=>h y (aR _ hy)) (V9 s n x);obtain ⟨a,b,c,d,_⟩:=h x (aQ ..);simp only [List.foldl_cons,List.length_cons];have e: -8000000<=V9 s n x - n∧V9 s n x - n<=8000000:=by unfold V9;split<;>(try split)<;>omega
  omega
theorem MR (ss:List fI) (s k:Nat) (h:k<ss.length):gQ (ss.take (k+1)) s=V9 s (gQ (ss.take k) s) ss[k]:=by
 unfold gQ;rw [bz h,List.foldl_append];rfl
theorem Lo.OG (q:Int) (a b:Int) (f t s:Nat) (w:World) (hf:f<64) (ht:t<64) (hs:s<2 ^ 63) (h:nG s f t=q):Calls Lo.prog 117 #[.agg #[.int .i64 a,.int .i64 b,.int .i64 (f:Int),.int .i64 (t:Int)],.int .u64 (s:Int)] w λe w'=>e= .returned (.int .i64 q)∧Below w.heap.size w w':=h ▸ Lo.Zu a b f t s w hf ht hs
theorem Lo.wE {w:World} {B b:Nat} {ss:List fI} {st nd:Nat} {A:Option Addr} {cap:Nat} (hw:lV w B b ss st nd A cap) (hB:B<=w.heap.size) (s:Nat) (hs:s<2 ^ 63):
 Calls Lo.prog 90 #[.pointer (some ⟨b,0,none⟩),.int .u64 (s:Int)] w λe w'=>e= .returned (.int .i64 (gQ ss s))∧Below w.heap.size w w':=by
 obtain ⟨U,U2,U3,U4,U5,U6⟩:=Lo.facts;have c0:=hw.c0;have hlen:=hw.len;go_enter Lo.func90,Tryz.ntmps90;go_wp2
 go_loopw [5,13] (λn i wr=>∃k:Nat,k<=ss.length∧i= .int .i64 (k:Int)∧n= .int .i64 (gQ (ss.take k) s)∧Below w.heap.size w wr) (λ_ i _=>ss.length - (intOf i).toNat)
 case atStart=>exact ⟨0,bn _,rfl,rfl,di _ _⟩
 case round=>
  obtain ⟨k,hk,rfl,rfl,hb⟩:=hrel
  by_cases hlt:k<ss.length
  ·obtain ⟨bb,off,rfl,hbb,hc⟩:=hw.rd (by omega);have hx:=hw.ok ss[k] (aY hlt);have ht:=MR ss s k hlt;have hbd:=KC (ss.take k) s (λy hy=>hw.ok y (bF hy)) 0;have hl:(ss.take k).length=k:=by simp;omega
   rw [hl] at hbd;have e0:(ss.take k).foldl (V9 s) 0=gQ (ss.take k) s:=rfl;rw [e0] at hbd;clear e0 hl;have hg:ss[k]?=some ss[k]:=aO hlt
   generalize ss[k]=x at hx ht hg;obtain ⟨lo,hi,fr,to⟩:=x;obtain ⟨x1,x2,x3,x4,x5,x6⟩:=hx;simp only at x1 x2 x3 x4 x5 x6
   have cell:∀j,j<4->wr.cell? ⟨bb,off+(k*4+j),none⟩=some (fI.cells ⟨lo,hi,fr,to⟩ j):= λj hj=>by
    rw [dU hb _ _ (by omega),hc k j hlt hj];unfold xA;rw [hg];rfl
   have k0:wr.cell? ⟨bb,off+k*4,none⟩=some (.int .i64 lo):=cell 0 (by omega);have k1:wr.cell? ⟨bb,off+k*4+1,none⟩=some (.int .i64 hi):=cell 1 (by omega);have k2:wr.cell? ⟨bb,off+k*4+2,none⟩=some (.int .i64 (fr:Int)):=cell 2 (by omega);have k3:wr.cell? ⟨bb,off+k*4+3,none⟩=some (.int .i64 (to:Int)):=cell 3 (by omega);have hlt':(k:Int)<(ss.length:Int):=by omega
   have hBw:w.heap.size<=wr.heap.size:=hb.size;have HT:=dw ht;have HB:=dw hb;have HC:=dw hc;have HG:=dw hg;clear ht hb hc hg cell c0;generalize gQ (ss.take k) s=n at hbd HT;have C:=Lo.call117
   have hq:nG s fr to=1∨nG s fr to=2∨nG s fr to=0:=by
    unfold nG;split
    ·exact .inl rfl
    ·split
     ·exact .inr (.inl rfl)
     ·exact .inr (.inr rfl)
   rcases hq with hq|hq|hq
   all_goals
    have HQ:=dw hq;clear hq
    go_wp2_with (go_at_call 117;refine (Lo.OG _ _ _ _ _ _ _ x5 x6 hs HQ.out).mono ?_;rintro e w1 ⟨rfl,hb1⟩;have hc1:=dU hb1)
    go_roundw
    case rel=>exact ⟨k+1,by omega,by go_num,by rw [HT.out];simp [V9,HQ.out],(HB.out.alloc hBw _).trans (hb1.mono (by simp;omega))⟩
    case measure=>simp [intOf];omega
  ·obtain rfl:k=ss.length:=by omega
   rw [List.take_length];clear c0;go_wp2;go_ret;exact ⟨rfl,hb⟩
end
section
variable [Lo.St]
theorem Jz {w:World} {B:Nat} {ss:List fI} {bb off k:Nat} (hc:∀i j,i<ss.length->j<4->w.cell? ⟨bb,off+(i*4+j),none⟩=some (xA ss i j)) (hlt:k<ss.length):
 w.cell? ⟨bb,off+k*4,none⟩=some (.int .i64 ss[k].lo)∧w.cell? ⟨bb,off+k*4+1,none⟩=some (.int .i64 ss[k].hi)∧w.cell? ⟨bb,off+k*4+2,none⟩=some (.int .i64 (ss[k].fr:Int))∧w.cell? ⟨bb,off+k*4+3,none⟩=some (.int .i64 (ss[k].to:Int)):=by
 have hg:ss[k]?=some ss[k]:=aO hlt
 have cell:∀j,j<4->w.cell? ⟨bb,off+(k*4+j),none⟩=some (fI.cells ss[k] j):= λj hj=>by
  rw [hc k j hlt hj];unfold xA;rw [hg];rfl
 exact ⟨cell 0 (by omega),cell 1 (by omega),cell 2 (by omega),cell 3 (by omega)⟩
def ng (ss:List fI):Bool:=ss.any λx=>decide (x.lo > x.hi)
def oU:List fI->Nat->Int
 | [],_=> -1
 |x::l,k=>if x.lo > x.hi then (k:Int) else oU l (k+1)
theorem KD (ss:List fI) (k:Nat):decide (0<=oU ss k)=ng ss:=by
 induction ss generalizing k with
 |nil=>rfl
 |cons x l ih=>
  unfold oU ng
  by_cases h:x.lo > x.hi
  ·rw [aj h];simp [h]
  ·rw [aa h,ih];simp [h,ng]
theorem Hz (ss:List fI) (k:Nat) (h:k<ss.length):oU (ss.drop k) k=if ss[k].lo > ss[k].hi then (k:Int) else oU (ss.drop (k+1)) (k+1):=by
 rw [aW h];rfl
theorem Lo.PZ {w:World} {B:Nat} {ss:List fI} {A:Option Addr} {cap:Nat} (hr:Rd w B 4 A ss.length (xA ss)) (hlen:ss.length<=64) (hB:B<=w.heap.size):
 Calls Lo.prog 135 #[.slice A ss.length cap,.func (.func 122) #[] #[]] w λe w'=>e= .returned (.int .i64 (oU ss 0))∧Below w.heap.size w w':=by
 obtain ⟨U,U2,U3,U4,U5,U6⟩:=Lo.facts;have C:=Lo.call122;go_enter Lo.func135,Tryz.ntmps135;go_wp2
 go_loopw [8] (λi wr=>∃k:Nat,k<=ss.length∧i= .int .i64 (k:Int)∧oU (ss.drop k) k=oU ss 0∧Below w.heap.size w wr) (λi _=>ss.length - (intOf i).toNat)
 case atStart=>exact ⟨0,bn _,rfl,rfl,di _ _⟩
 case round=>
  obtain ⟨k,hk,rfl,hx,hb⟩:=hrel
  by_cases hlt:k<ss.length
  ·obtain ⟨bb,off,rfl,hbb,hc⟩:=(hr.keep (λb o h=>dU hb b o (by omega))) (by omega);obtain ⟨k0,k1,k2,k3⟩:=Jz (B:=B) hc hlt;rw [Hz ss k hlt] at hx;generalize ss[k]=x at hx k0 k1 k2 k3;obtain ⟨lo,hi,fr,to⟩:=x;simp only at hx k0 k1 k2 k3;have hlt':(k:Int)<(ss.length:Int):=by omega
   have HB:=dw hb;clear hb hc hr
   by_cases hcr:lo > hi
   ·rw [aj hcr] at hx;have HX:=dw hx;have d1:decide (lo > hi)=true:=by simpa using hcr
    clear hx
    go_wp2_with (go_at_call 122;refine (Lo.BD _ _ _ _ _).mono ?_;rintro e w1 ⟨rfl,hb1⟩)
    go_ret;exact ⟨by rw [HX.out];rfl,HB.out.trans (hb1.mono HB.out.size)⟩
   ·rw [aa hcr] at hx;have HX:=dw hx;have d1:decide (lo > hi)=false:=by simpa using hcr
    clear hx
    go_wp2_with (go_at_call 122;refine (Lo.BD _ _ _ _ _).mono ?_;rintro e w1 ⟨rfl,hb1⟩)
    go_roundw
    case rel=>exact ⟨k+1,by omega,by go_num,HX.out,HB.out.trans (hb1.mono HB.out.size)⟩
    case measure=>simp [intOf];omega
  ·obtain rfl:k=ss.length:=by omega
   have hx':(-1:Int)=oU ss 0:=by rw [<-hx,aF];rfl
   clear hx;have HX:=dw hx';clear hx';go_wp2;go_ret;exact ⟨by rw [HX.out];rfl,hb⟩
end
section
variable [Lo.St]
theorem Lo.MU {w:World} {B:Nat} {ss:List fI} {A:Option Addr} {cap:Nat} (hr:Rd w B 4 A ss.length (xA ss)) (hlen:ss.length<=64) (hB:B<=w.heap.size):
 Calls Lo.prog 121 #[.slice A ss.length cap,.func (.func 122) #[] #[]] w λe w'=>e= .returned (.bool (ng ss))∧Below w.heap.size w w':=by
 obtain ⟨U,U2,U3,U4,U5,U6⟩:=Lo.facts;have C:=Lo.call135;go_enter Lo.func121,Tryz.ntmps121
 go_wp2_with (go_at_call 135;refine (Lo.PZ hr hlen hB).mono ?_;rintro e w1 ⟨rfl,hb1⟩)
 go_ret;exact ⟨by rw [<-KD ss 0];rfl,hb1⟩
theorem lV.keep {w w':World} {B b:Nat} {ss:List fI} {st nd:Nat} {A:Option Addr} {cap:Nat} (h:lV w B b ss st nd A cap) (hk:∀b o,b<B->w'.cell? ⟨b,o,none⟩=w.cell? ⟨b,o,none⟩):lV w' B b ss st nd A cap:=
 ⟨h.lt,(hk _ _ h.lt).trans h.c0,(hk _ _ h.lt).trans h.c1,(hk _ _ h.lt).trans h.c2,h.rd.keep hk,h.ok,h.len⟩
theorem Lo.yM {w:World} {B b:Nat} {ss:List fI} {st nd:Nat} {A:Option Addr} {cap:Nat} (hw:lV w B b ss st nd A cap) (hB:B<=w.heap.size):
 Calls Lo.prog 89 #[.pointer (some ⟨b,0,none⟩)] w λe w'=>e= .returned (.bool (ng ss))∧Below w.heap.size w w':=by
 obtain ⟨U,U2,U3,U4,U5,U6⟩:=Lo.facts;have C:=Lo.call121;have c0:=hw.c0;go_enter Lo.func89,Tryz.ntmps89
 go_wp2_with (go_at_call 121;refine (Lo.MU hw.rd hw.len hB).mono ?_;rintro e w1 ⟨rfl,hb1⟩)
 go_ret;exact ⟨rfl,hb1⟩
def yN (ss:List fI) (m:Nat):Bool:=(List.range m).all λs=>decide (gQ ss s<=0)
theorem KE (ss:List fI) (k:Nat):yN ss (k+1)=(yN ss k&&decide (gQ ss k<=0)):=by
 unfold yN;rw [List.range_succ,List.all_append];simp
theorem P5 (ss:List fI) {k m:Nat} (h:k<m) (hk:¬gQ ss k<=0):yN ss m=false:=by
 unfold yN;rw [List.all_eq_false];exact ⟨k,List.mem_range.2 h,by simpa using hk⟩
def jC (ss:List fI) (nd:Nat):Bool:=!ng ss&&yN ss (2 ^ nd)
theorem Ip (ss:List fI) (s:Nat) (h:∀x∈ss,x.ok) (hl:ss.length<=64): -512000000<=gQ ss s∧gQ ss s<=512000000:=by
 have :=KC ss s h 0;unfold gQ;omega
theorem zu (nd:Nat) (h:nd<63):IntKind.u64.wrap ((2:Int) ^ nd)=((2 ^ nd:Nat):Int):=by
 have h1:(2:Nat) ^ nd<2 ^ 63:=Nat.pow_lt_pow_right (by decide) h;have h2:(2:Int) ^ nd=((2 ^ nd:Nat):Int):=by simp
 rw [h2];exact ED _ (Int.natCast_nonneg _) (by exact_mod_cast h1)
theorem Lo.uk {w:World} {B b:Nat} {ss:List fI} {st nd:Nat} {A:Option Addr} {cap:Nat} (hw:lV w B b ss st nd A cap) (hB:B<=w.heap.size) (hnd:nd<=16):
 Calls Lo.prog 57 #[.pointer (some ⟨b,0,none⟩)] w λe w'=>e= .returned (.bool (jC ss nd))∧Below w.heap.size w w':=by
 obtain ⟨U,U2,U3,U4,U5,U6⟩:=Lo.facts;have C:=Lo.call89;have C2:=Lo.call90;have hp:(2:Nat) ^ nd<=2 ^ 16:=Nat.pow_le_pow_right (by decide) hnd;cases hcr:ng ss with
 |true=>
  have hres:jC ss nd=false:=by unfold jC;rw [hcr];rfl
  rw [hres];go_enter Lo.func57,Tryz.ntmps57
  go_wp2_with (go_at_call 89;refine (Lo.yM hw hB).mono ?_;rintro e w1 ⟨rfl,hb1⟩;rw [hcr])
  go_ret;exact ⟨rfl,hb1⟩
 |false=>
  have hres:jC ss nd=yN ss (2 ^ nd):=by unfold jC;rw [hcr];rfl
  rw [hres];clear hres;have hsh:=zu nd (by omega);go_enter Lo.func57,Tryz.ntmps57
  go_wp2_with (go_at_call 89;refine (Lo.yM hw hB).mono ?_;rintro e w1 ⟨rfl,hb1⟩;rw [hcr];have c2:=(dU hb1 _ _ (aK hw.lt hB)).trans hw.c2)
  rw [show ((2:Int) ^ nd)=((2 ^ nd:Nat):Int) from by simp];generalize hm:2 ^ nd=m at hp;have c2':=c2;clear c2 hsh
  go_loopw [11] (λi wr=>∃k:Nat,k<=m∧i= .int .u64 (k:Int)∧yN ss k=true∧Below w.heap.size w wr) (λi _=>m - (intOf i).toNat)
  case atStart=>exact ⟨0,bn _,rfl,rfl,hb1⟩
  case round=>
   obtain ⟨k,hk,rfl,hf,hb⟩:=hrel
   by_cases hlt:k<m
   ·have hlt':(k:Int)<(m:Int):=by omega
    have HF:=dw hf;have HB:=dw hb;have hwk:=hw.keep (λb o h=>dU hb b o (by omega));have hBk:B<=wr.heap.size:=aT hB hb.size;have P6:k<2 ^ 63:=by omega
    clear hf hb hb1 c2'
    by_cases hq:gQ ss k<=0
    ·have HQ:=dw hq;have d1:decide (0<gQ ss k)=false:=by simpa using hq
     clear hq
     go_wp2_with (go_at_call 90;refine (Lo.wE hwk hBk k P6).mono ?_;rintro e w2 ⟨rfl,hb2⟩)
     go_roundw
     case rel=>exact ⟨k+1,by omega,by go_num,by rw [KE,HF.out];simpa using HQ.out,HB.out.trans (hb2.mono HB.out.size)⟩
     case measure=>simp [intOf];omega
    ·have HQ:=dw hq;have d1:decide (0<gQ ss k)=true:=by simp;omega
     clear hq
     go_wp2_with (go_at_call 90;refine (Lo.wE hwk hBk k P6).mono ?_;rintro e w2 ⟨rfl,hb2⟩)
     go_ret;exact ⟨by rw [hm,P5 ss hlt (Int.not_le.2 HQ.out)];rfl,HB.out.trans (hb2.mono HB.out.size)⟩
   ·obtain rfl:k=m:=by omega
    go_wp2;go_ret;exact ⟨by rw [hm,hf];rfl,hb⟩
end
section
variable [Lo.St]
def gT (ss:List fI) (nd set:Nat) (fu:Bool):Bool:=
 if set=0 then !fu&&ng ss else if fu then decide (0<gQ ss (2 ^ nd - 1 - set)) else decide (0<gQ ss set)
theorem Lo.P7 {w:World} {B b:Nat} {ss:List fI} {st nd:Nat} {A:Option Addr} {cap:Nat} (hw:lV w B b ss st nd A cap) (hB:B<=w.heap.size):
 Calls Lo.prog 65 #[.pointer (some ⟨b,0,none⟩),.int .u64 0,.bool false] w λe w'=>e= .returned (.bool (ng ss))∧Below w.heap.size w w':=by
 have U:=Lo.underlying;have U2:=Lo.runUnderlying;have C:=Lo.call89;go_enter Lo.func65,Tryz.ntmps65
 go_wp2_with (go_at_call 89;refine (Lo.yM hw hB).mono ?_;rintro e w1 ⟨rfl,hb1⟩)
 go_ret;exact ⟨rfl,hb1⟩
theorem Lo.P8 {w:World} {b:Nat}:Calls Lo.prog 65 #[.pointer (some ⟨b,0,none⟩),.int .u64 0,.bool true] w λe w'=>e= .returned (.bool false)∧Below w.heap.size w w':=by
 have U:=Lo.underlying;have U2:=Lo.runUnderlying;go_enter Lo.func65,Tryz.ntmps65;go_wp2;go_ret;exact ⟨rfl,di _ _⟩
theorem Lo.R7 {w:World} {B b:Nat} {ss:List fI} {st nd:Nat} {A:Option Addr} {cap:Nat} (hw:lV w B b ss st nd A cap) (hB:B<=w.heap.size) (set:Nat) (h0:0<set) (oh:set<2 ^ 63):
 Calls Lo.prog 65 #[.pointer (some ⟨b,0,none⟩),.int .u64 (set:Int),.bool false] w λe w'=>e= .returned (.bool (decide (0<gQ ss set)))∧Below w.heap.size w w':=by
 have U:=Lo.underlying;have U2:=Lo.runUnderlying;have C:=Lo.call90;have d0:((set:Int)==0)=false:=by simp;omega
 go_enter Lo.func65,Tryz.ntmps65
 go_wp2_with (go_at_call 90;refine (Lo.wE hw hB set oh).mono ?_;rintro e w1 ⟨rfl,hb1⟩)
 go_ret;exact ⟨rfl,hb1⟩
theorem Lo.R8 {w:World} {B b:Nat} {ss:List fI} {st nd:Nat} {A:Option Addr} {cap:Nat} (hw:lV w B b ss st nd A cap) (hB:B<=w.heap.size) (hnd:nd<=16) (set:Nat) (h0:0<set) (oh:set<2 ^ nd):
 Calls Lo.prog 65 #[.pointer (some ⟨b,0,none⟩),.int .u64 (set:Int),.bool true] w λe w'=>e= .returned (.bool (decide (0<gQ ss (2 ^ nd - 1 - set))))∧Below w.heap.size w w':=by
 obtain ⟨U,U2,U3,U4,U5,U6⟩:=Lo.facts;have C:=Lo.call90;have d0:((set:Int)==0)=false:=by simp;omega
 have c2:=hw.c2;have hp:(2:Nat) ^ nd<=65536:=Nat.pow_le_pow_right (n:=2) (by decide) hnd;have hsh:=zu nd (by omega)
 have ez:IntKind.u64.wrap (IntKind.u64.wrap ((2:Int) ^ nd - 1) - (set:Int))=((2 ^ nd - 1 - set:Nat):Int):=by
  rw [show ((2:Int) ^ nd)=((2 ^ nd:Nat):Int) from by simp];generalize 2 ^ nd=m at *;rw [ED ((m:Int) - 1) (by omega) (by omega),ED _ (by omega) (by omega)];omega
 have P6:2 ^ nd - 1 - set<2 ^ 63:=by omega
 go_enter Lo.func65,Tryz.ntmps65
 go_wp2_with (go_at_call 90;refine (Lo.wE hw hB _ P6).mono ?_;rintro e w1 ⟨rfl,hb1⟩)
 go_ret;exact ⟨rfl,hb1⟩
theorem Lo.MV {w:World} {B b:Nat} {ss:List fI} {st nd:Nat} {A:Option Addr} {cap:Nat} (hw:lV w B b ss st nd A cap) (hB:B<=w.heap.size) (hnd:nd<=16) (set:Nat) (oh:set<2 ^ nd) (fu:Bool):
 Calls Lo.prog 65 #[.pointer (some ⟨b,0,none⟩),.int .u64 (set:Int),.bool fu] w λe w'=>e= .returned (.bool (gT ss nd set fu))∧Below w.heap.size w w':=by
 have hp:(2:Nat) ^ nd<=65536:=Nat.pow_le_pow_right (n:=2) (by decide) hnd;unfold gT
 by_cases h0:set=0
 ·subst h0;cases fu
  ·simpa using Lo.P7 hw hB
  ·simpa using Lo.P8
 ·cases fu
  ·rw [aa h0];exact Lo.R7 hw hB set (by omega) (by omega)
  ·rw [aa h0];exact Lo.R8 hw hB hnd set (by omega) oh
end
end Go.Proofs
