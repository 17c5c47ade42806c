/- Part 18. -/
import Derived.StillTailTactics
import Derived.Test.YtnemnkmojiljmaaGreatG17
set_option maxRecDepth 100000
set_option maxHeartbeats 0
set_option linter.all false
namespace Go.Proofs
open Go Go.RowKit
section
variable [Lo.St]
def nQ (n l h:Int):Bool:=decide (l<=n)&&decide (n<=h)
theorem Lo.fo (n l h:Int) (w:World):Calls Lo.prog 49 #[.int .i64 n,.int .i64 l,.int .i64 h] w λe w'=>e= .returned (.bool (nQ n l h))∧w=w':=by
 have U:=Lo.underlying;have U2:=Lo.runUnderlying
 by_cases h1:l<=n
 ·have hd:decide (l<=n)=true:=by simpa using h1
  go_enter Lo.get Tryz.func49,Tryz.ntmps49;go_wp2;go_ret;exact ⟨by simp [nQ,hd],rfl⟩
 ·have hd:decide (l<=n)=false:=by simpa using h1
  go_enter Lo.get Tryz.func49,Tryz.ntmps49;go_wp2;go_ret;exact ⟨by simp [nQ,hd],rfl⟩
end
section
variable [Lo.St]
theorem Lo.Vo (a b c d:Int) (w:World):Calls Lo.prog 87 #[.agg #[.int .i64 a,.int .i64 b],.agg #[.int .i64 c,.int .i64 d]] w λe w'=>e= .returned (.agg #[.int .i64 (max a c),.int .i64 (min b d)])∧Below w.heap.size w w':=by
 obtain ⟨U,U2,U3,U4,U5,U6⟩:=Lo.facts;go_enter Lo.get Tryz.func87,Tryz.ntmps87;go_wp2
 all_goals exact bodyPost_ret (v:=.agg #[.int .i64 (max a c),.int .i64 (min b d)]) (by simp [results,Tryz.results52,go_sem,U,U2,U3,U4,U5,U6];first |done|omega|(constructor<;>omega)) rfl ⟨rfl,(((dz _ _).alloc (aJ _) _).alloc (by simp) _).alloc (by simp;omega) _⟩
theorem Lo.pY (a b:Int) (w:World):Calls Lo.prog 88 #[.agg #[.int .i64 a,.int .i64 b]] w λe w'=>e= .returned (.agg #[.int .i64 a,.int .i64 b])∧Below w.heap.size w w':=by
 obtain ⟨U,U2,U3,U4,U5,U6⟩:=Lo.facts;go_enter Lo.get Tryz.func88,Tryz.ntmps88;go_wp2;exact bodyPost_ret (v:=.agg #[.int .i64 a,.int .i64 b]) (by simp [results,Tryz.results53,go_sem,U,U2,U3,U4,U5,U6]) rfl ⟨rfl,((dz _ _).alloc (aJ _) _).alloc (by simp) _⟩
theorem Lo.Dh (a b f t:Int) (w:World):Calls Lo.prog 122 #[.agg #[.int .i64 a,.int .i64 b,.int .i64 f,.int .i64 t]] w λe w'=>e= .returned (.bool (decide (a > b)))∧Below w.heap.size w w':=by
 obtain ⟨U,U2,U3,U4,U5,U6⟩:=Lo.facts;go_enter Lo.get Tryz.func122,Tryz.ntmps122;go_wp2;go_ret;exact ⟨rfl,(dz _ _).alloc (aJ _) _⟩
def bit (s:Nat) (i:Nat):Nat:=s / 2 ^ i%2
theorem OG (s i:Nat):bit s i<2:=Nat.mod_lt _ (by decide)
theorem FL (n:Int) (h₀:0<=n) (h₁:n<2 ^ 63):IntKind.u64.wrap n=n:=by rw [IntKind.wrap_u64];omega
theorem KN (s i:Nat) (h:s<2 ^ 63):bits .and .u64 ((s:Int) / 2 ^ i) 1=((bit s i:Nat):Int):=by
 have h1:s / 2 ^ i<=s:=Nat.div_le_self _ _;have e3:((s:Int) / 2 ^ i)=((s / 2 ^ i:Nat):Int):=by simp
 rw [e3];unfold bit;generalize s / 2 ^ i=m at h1;have h2:=Go.bits_mask .u64 63 (by decide) FL 1 (by decide) (m:Int) (by omega) (by omega);have e:((2:Int) ^ 1 - 1)=1:=by decide
 have e2:((2:Int) ^ 1)=2:=by decide
 rw [e,e2] at h2;rw [h2];simp
theorem below_drewN {B:Nat} {w w':World} (h:Below B w w') (n:Nat):Below B w (w'.drewN n):=⟨h.os,h.tape,h.output,h.size,h.block⟩
def nT (s f t:Nat):Int:=if bit s f<bit s t then 1 else if bit s f > bit s t then 2 else 0
theorem Lo.af7 (a b:Int) (f t s:Nat) (w:World) (hf:f<64) (ht:t<64) (hs:s<2 ^ 63):Calls Lo.prog 117 #[.agg #[.int .i64 a,.int .i64 b,.int .i64 (f:Int),.int .i64 (t:Int)],.int .u64 (s:Int)] w λe w'=>e= .returned (.int .i64 (nT s f t))∧Below w.heap.size w w':=by
 obtain ⟨U,U2,U3,U4,U5,U6⟩:=Lo.facts;have b1:=KN s f hs;have b2:=KN s t hs;have c1:=OG s f;have c2:=OG s t;generalize hx:bit s f=x at b1 c1;generalize hy:bit s t=y at b2 c2;have hsd:nT s f t=if x<y then 1 else if x > y then 2 else 0:=by unfold nT;rw [hx,hy]
 rw [hsd];clear hsd hx hy;rcases Nat.lt_trichotomy x y with h|h|h
 ·have d1:decide ((x:Int)<(y:Int))=true:=by simpa using h
  rw [aj h];go_enter Lo.get Tryz.func117,Tryz.ntmps117;go_wp2
  go_quiet (fail)
  go_wp2;go_ret;exact ⟨rfl,below_drewN ((dz _ _).alloc (aJ _) _) _⟩
 ·subst h;rw [aa (Nat.lt_irrefl _),aa (Nat.lt_irrefl _)];go_enter Lo.get Tryz.func117,Tryz.ntmps117;go_wp2
  go_quiet (fail)
  go_wp2;go_ret;exact ⟨rfl,below_drewN ((dz _ _).alloc (aJ _) _) _⟩
 ·have d1:decide ((x:Int)<(y:Int))=false:=by simp;omega
  have d2:decide ((y:Int)<(x:Int))=true:=by simp;omega
  rw [aa (by omega),aj h];go_enter Lo.get Tryz.func117,Tryz.ntmps117;go_wp2
  go_quiet (fail)
  go_wp2;go_ret;exact ⟨rfl,below_drewN ((dz _ _).alloc (aJ _) _) _⟩
end
section
variable [Lo.St]
def Rd (w:World) (B size:Nat) (A:Option Addr) (n:Nat) (f:Nat->Nat->Value):Prop:=
 0<n->∃b off,A=some ⟨b,off,none⟩∧b<B∧∀i j,i<n->j<size->w.cell? ⟨b,off+(i*size+j),none⟩=some (f i j)
theorem Rd.keep {w w':World} {B size:Nat} {A:Option Addr} {n:Nat} {f:Nat->Nat->Value} (h:Rd w B size A n f) (hk:∀b o,b<B->w'.cell? ⟨b,o,none⟩=w.cell? ⟨b,o,none⟩):Rd w' B size A n f:= λhn=>by
 obtain ⟨b,off,e,hb,hc⟩:=h hn;exact ⟨b,off,e,hb, λi j hi hj=>(hk _ _ hb).trans (hc i j hi hj)⟩
theorem dP {W w1:World} {B:Nat} (hb:Below B W w1):∀b o,b<B->w1.cell? ⟨b,o,none⟩=W.cell? ⟨b,o,none⟩:= λb o h=>hb.cell (p:=⟨b,o,none⟩) h
theorem FM {W w1:World} {B:Nat} (hb:Below B W w1):∀b o,b<B->w1.frozen? ⟨b,o,none⟩=W.frozen? ⟨b,o,none⟩:= λb o h=>hb.frozen (p:=⟨b,o,none⟩) h
structure fG where
 lo:Int
 hi:Int
 fr:Nat
 to:Nat
 deriving DecidableEq
def fG.cells (x:fG):Nat->Value
 |0=>.int .i64 x.lo
 |1=>.int .i64 x.hi
 |2=>.int .i64 (x.fr:Int)
 |_=>.int .i64 (x.to:Int)
def yI (ss:List fG) (i j:Nat):Value:=((ss[i]?).getD ⟨0,0,0,0⟩).cells j
def fG.ok (x:fG):Prop:=0<=x.lo∧x.lo<=8000000∧0<=x.hi∧x.hi<=8000000∧x.fr<64∧x.to<64
def Sr (s:Nat) (n:Int) (x:fG):Int:=if nT s x.fr x.to=1 then n - x.hi else if nT s x.fr x.to=2 then n+x.lo else n
def gY (ss:List fG) (s:Nat):Int:=ss.foldl (Sr s) 0
structure mq (w:World) (B b:Nat) (ss:List fG) (steps nodes:Nat) (A:Option Addr) (cap:Nat):Prop where
 lt:b<B
 c0:w.cell? ⟨b,0,none⟩=some (.slice A ss.length cap)
 c1:w.cell? ⟨b,1,none⟩=some (.int .i64 (steps:Int))
 c2:w.cell? ⟨b,2,none⟩=some (.int .i64 (nodes:Int))
 rd:Rd w B 4 A ss.length (yI ss)
 ok:∀x∈ss,x.ok
 len:ss.length<=64
theorem MO (ss:List fG) (s:Nat) (h:∀x∈ss,x.ok):∀n:Int, -8000000*ss.length<=(ss.foldl (Sr s) n) - n∧(ss.foldl (Sr s) n) - n<=8000000*ss.length:=by
 induction ss with
 |nil=>intro n;simp
 |cons x ss ih=>
  intro n;have :=ih (λy hy=>h y (aR _ hy)) (Sr s n x);obtain ⟨a,b,c,d,_⟩:=h x (aQ ..);simp only [List.foldl_cons,List.length_cons];have e: -8000000<=Sr s n x - n∧Sr s n x - n<=8000000:=by unfold Sr;split<;>(try split)<;>omega
  omega
theorem OH (ss:List fG) (s k:Nat) (h:k<ss.length):gY (ss.take (k+1)) s=Sr s (gY (ss.take k) s) ss[k]:=by
 unfold gY;rw [bB h,List.foldl_append];rfl
theorem Lo.Qo (q:Int) (a b:Int) (f t s:Nat) (w:World) (hf:f<64) (ht:t<64) (hs:s<2 ^ 63) (h:nT s f t=q):Calls Lo.prog 117 #[.agg #[.int .i64 a,.int .i64 b,.int .i64 (f:Int),.int .i64 (t:Int)],.int .u64 (s:Int)] w λe w'=>e= .returned (.int .i64 q)∧Below w.heap.size w w':=h ▸ Lo.af7 a b f t s w hf ht hs
theorem Lo.xN {w:World} {B b:Nat} {ss:List fG} {st nd:Nat} {A:Option Addr} {cap:Nat} (hw:mq w B b ss st nd A cap) (hB:B<=w.heap.size) (s:Nat) (hs:s<2 ^ 63):
 Calls Lo.prog 90 #[.pointer (some ⟨b,0,none⟩),.int .u64 (s:Int)] w λe w'=>e= .returned (.int .i64 (gY ss s))∧Below w.heap.size w w':=by
 obtain ⟨U,U2,U3,U4,U5,U6⟩:=Lo.facts;have c0:=hw.c0;have hlen:=hw.len;go_enter Lo.get Tryz.func90,Tryz.ntmps90;go_wp2
 go_loopw [5,13] (λn i wr=>∃k:Nat,k<=ss.length∧i= .int .i64 (k:Int)∧n= .int .i64 (gY (ss.take k) s)∧Below w.heap.size w wr) (λ_ i _=>ss.length - (intOf i).toNat)
 case atStart=>exact ⟨0,bq _,rfl,rfl,dz _ _⟩
 case round=>
  obtain ⟨k,hk,rfl,rfl,hb⟩:=hrel
  by_cases hlt:k<ss.length
  ·obtain ⟨bb,off,rfl,hbb,hc⟩:=hw.rd (by omega);have hx:=hw.ok ss[k] (aY hlt);have ht:=OH ss s k hlt;have hbd:=MO (ss.take k) s (λy hy=>hw.ok y (bG hy)) 0;have hl:(ss.take k).length=k:=by simp;omega
   rw [hl] at hbd;have e0:(ss.take k).foldl (Sr s) 0=gY (ss.take k) s:=rfl;rw [e0] at hbd;clear e0 hl;have hg:ss[k]?=some ss[k]:=aO hlt
   generalize ss[k]=x at hx ht hg;obtain ⟨lo,hi,fr,to⟩:=x;obtain ⟨x1,x2,x3,x4,x5,x6⟩:=hx;simp only at x1 x2 x3 x4 x5 x6
   have cell:∀j,j<4->wr.cell? ⟨bb,off+(k*4+j),none⟩=some (fG.cells ⟨lo,hi,fr,to⟩ j):= λj hj=>by
    rw [dP hb _ _ (by omega),hc k j hlt hj];unfold yI;rw [hg];rfl
   have k0:wr.cell? ⟨bb,off+k*4,none⟩=some (.int .i64 lo):=cell 0 (by omega);have k1:wr.cell? ⟨bb,off+k*4+1,none⟩=some (.int .i64 hi):=cell 1 (by omega);have k2:wr.cell? ⟨bb,off+k*4+2,none⟩=some (.int .i64 (fr:Int)):=cell 2 (by omega);have k3:wr.cell? ⟨bb,off+k*4+3,none⟩=some (.int .i64 (to:Int)):=cell 3 (by omega);have hlt':(k:Int)<(ss.length:Int):=by omega
   have hBw:w.heap.size<=wr.heap.size:=hb.size;have HT:=dB ht;have HB:=dB hb;have HC:=dB hc;have HG:=dB hg;clear ht hb hc hg cell c0;generalize gY (ss.take k) s=n at hbd HT;have C:=Lo.call Tryz.func117
   have hq:nT s fr to=1∨nT s fr to=2∨nT s fr to=0:=by
    unfold nT;split
    ·exact .inl rfl
    ·split
     ·exact .inr (.inl rfl)
     ·exact .inr (.inr rfl)
   rcases hq with hq|hq|hq
   all_goals
    have HQ:=dB hq;clear hq
    go_wp2_with (go_at_call 117;refine (Lo.Qo _ _ _ _ _ _ _ x5 x6 hs HQ.out).mono ?_;rintro e w1 ⟨rfl,hb1⟩;have hc1:=dP hb1)
    go_roundw
    case rel=>exact ⟨k+1,by omega,by go_num,by rw [HT.out];simp [Sr,HQ.out],(HB.out.alloc hBw _).trans (hb1.mono (by simp;omega))⟩
    case measure=>simp [intOf];omega
  ·obtain rfl:k=ss.length:=by omega
   rw [List.take_length];clear c0;go_wp2;go_ret;exact ⟨rfl,hb⟩
end
section
variable [Lo.St]
theorem KO {w:World} {B:Nat} {ss:List fG} {bb off k:Nat} (hc:∀i j,i<ss.length->j<4->w.cell? ⟨bb,off+(i*4+j),none⟩=some (yI ss i j)) (hlt:k<ss.length):
 w.cell? ⟨bb,off+k*4,none⟩=some (.int .i64 ss[k].lo)∧w.cell? ⟨bb,off+k*4+1,none⟩=some (.int .i64 ss[k].hi)∧w.cell? ⟨bb,off+k*4+2,none⟩=some (.int .i64 (ss[k].fr:Int))∧w.cell? ⟨bb,off+k*4+3,none⟩=some (.int .i64 (ss[k].to:Int)):=by
 have hg:ss[k]?=some ss[k]:=aO hlt
 have cell:∀j,j<4->w.cell? ⟨bb,off+(k*4+j),none⟩=some (fG.cells ss[k] j):= λj hj=>by
  rw [hc k j hlt hj];unfold yI;rw [hg];rfl
 exact ⟨cell 0 (by omega),cell 1 (by omega),cell 2 (by omega),cell 3 (by omega)⟩
def kK (ss:List fG):Bool:=ss.any λx=>decide (x.lo > x.hi)
def p8:List fG->Nat->Int
 | [],_=> -1
 |x::l,k=>if x.lo > x.hi then (k:Int) else p8 l (k+1)
theorem MP (ss:List fG) (k:Nat):decide (0<=p8 ss k)=kK ss:=by
 induction ss generalizing k with
 |nil=>rfl
 |cons x l ih=>
  unfold p8 kK
  by_cases h:x.lo > x.hi
  ·rw [aj h];simp [h]
  ·rw [aa h,ih];simp [h,kK]
theorem Jd (ss:List fG) (k:Nat) (h:k<ss.length):p8 (ss.drop k) k=if ss[k].lo > ss[k].hi then (k:Int) else p8 (ss.drop (k+1)) (k+1):=by
 rw [aW h];rfl
theorem Lo.Su {w:World} {B:Nat} {ss:List fG} {A:Option Addr} {cap:Nat} (hr:Rd w B 4 A ss.length (yI ss)) (hlen:ss.length<=64) (hB:B<=w.heap.size):
 Calls Lo.prog 135 #[.slice A ss.length cap,.func (.func 122) #[] #[]] w λe w'=>e= .returned (.int .i64 (p8 ss 0))∧Below w.heap.size w w':=by
 obtain ⟨U,U2,U3,U4,U5,U6⟩:=Lo.facts;have C:=Lo.call Tryz.func122;go_enter Lo.get Tryz.func135,Tryz.ntmps135;go_wp2
 go_loopw [8] (λi wr=>∃k:Nat,k<=ss.length∧i= .int .i64 (k:Int)∧p8 (ss.drop k) k=p8 ss 0∧Below w.heap.size w wr) (λi _=>ss.length - (intOf i).toNat)
 case atStart=>exact ⟨0,bq _,rfl,rfl,dz _ _⟩
 case round=>
  obtain ⟨k,hk,rfl,hx,hb⟩:=hrel
  by_cases hlt:k<ss.length
  ·obtain ⟨bb,off,rfl,hbb,hc⟩:=(hr.keep (λb o h=>dP hb b o (by omega))) (by omega);obtain ⟨k0,k1,k2,k3⟩:=KO (B:=B) hc hlt;rw [Jd ss k hlt] at hx;generalize ss[k]=x at hx k0 k1 k2 k3;obtain ⟨lo,hi,fr,to⟩:=x;simp only at hx k0 k1 k2 k3;have hlt':(k:Int)<(ss.length:Int):=by omega
   have HB:=dB hb;clear hb hc hr
   by_cases hcr:lo > hi
   ·rw [aj hcr] at hx;have HX:=dB hx;have d1:decide (lo > hi)=true:=by simpa using hcr
    clear hx
    go_wp2_with (go_at_call 122;refine (Lo.Dh _ _ _ _ _).mono ?_;rintro e w1 ⟨rfl,hb1⟩)
    go_ret;exact ⟨by rw [HX.out];rfl,HB.out.trans (hb1.mono HB.out.size)⟩
   ·rw [aa hcr] at hx;have HX:=dB hx;have d1:decide (lo > hi)=false:=by simpa using hcr
    clear hx
    go_wp2_with (go_at_call 122;refine (Lo.Dh _ _ _ _ _).mono ?_;rintro e w1 ⟨rfl,hb1⟩)
    go_roundw
    case rel=>exact ⟨k+1,by omega,by go_num,HX.out,HB.out.trans (hb1.mono HB.out.size)⟩
    case measure=>simp [intOf];omega
  ·obtain rfl:k=ss.length:=by omega
   have hx':(-1:Int)=p8 ss 0:=by rw [<-hx,aF];rfl
   clear hx;have HX:=dB hx';clear hx';go_wp2;go_ret;exact ⟨by rw [HX.out];rfl,hb⟩
end
section
variable [Lo.St]
theorem Lo.OI {w:World} {B:Nat} {ss:List fG} {A:Option Addr} {cap:Nat} (hr:Rd w B 4 A ss.length (yI ss)) (hlen:ss.length<=64) (hB:B<=w.heap.size):
 Calls Lo.prog 121 #[.slice A ss.length cap,.func (.func 122) #[] #[]] w λe w'=>e= .returned (.bool (kK ss))∧Below w.heap.size w w':=by
 obtain ⟨U,U2,U3,U4,U5,U6⟩:=Lo.facts;have C:=Lo.call Tryz.func135;go_enter Lo.get Tryz.func121,Tryz.ntmps121
 go_wp2_with (go_at_call 135;refine (Lo.Su hr hlen hB).mono ?_;rintro e w1 ⟨rfl,hb1⟩)
 go_ret;exact ⟨by rw [<-MP ss 0];rfl,hb1⟩
theorem mq.keep {w w':World} {B b:Nat} {ss:List fG} {st nd:Nat} {A:Option Addr} {cap:Nat} (h:mq w B b ss st nd A cap) (hk:∀b o,b<B->w'.cell? ⟨b,o,none⟩=w.cell? ⟨b,o,none⟩):mq w' B b ss st nd A cap:=
 ⟨h.lt,(hk _ _ h.lt).trans h.c0,(hk _ _ h.lt).trans h.c1,(hk _ _ h.lt).trans h.c2,h.rd.keep hk,h.ok,h.len⟩
theorem Lo.zK {w:World} {B b:Nat} {ss:List fG} {st nd:Nat} {A:Option Addr} {cap:Nat} (hw:mq w B b ss st nd A cap) (hB:B<=w.heap.size):
 Calls Lo.prog 89 #[.pointer (some ⟨b,0,none⟩)] w λe w'=>e= .returned (.bool (kK ss))∧Below w.heap.size w w':=by
 obtain ⟨U,U2,U3,U4,U5,U6⟩:=Lo.facts;have C:=Lo.call Tryz.func121;have c0:=hw.c0;go_enter Lo.get Tryz.func89,Tryz.ntmps89
 go_wp2_with (go_at_call 121;refine (Lo.OI hw.rd hw.len hB).mono ?_;rintro e w1 ⟨rfl,hb1⟩)
 go_ret;exact ⟨rfl,hb1⟩
def yJ (ss:List fG) (m:Nat):Bool:=(List.range m).all λs=>decide (gY ss s<=0)
theorem MQ (ss:List fG) (k:Nat):yJ ss (k+1)=(yJ ss k&&decide (gY ss k<=0)):=by
 unfold yJ;rw [List.range_succ,List.all_append];simp
theorem Sv (ss:List fG) {k m:Nat} (h:k<m) (hk:¬gY ss k<=0):yJ ss m=false:=by
 unfold yJ;rw [List.all_eq_false];exact ⟨k,List.mem_range.2 h,by simpa using hk⟩
def ic (ss:List fG) (nd:Nat):Bool:=!kK ss&&yJ ss (2 ^ nd)
theorem JM (ss:List fG) (s:Nat) (h:∀x∈ss,x.ok) (hl:ss.length<=64): -512000000<=gY ss s∧gY ss s<=512000000:=by
 have :=MO ss s h 0;unfold gY;omega
theorem Aj (nd:Nat) (h:nd<63):IntKind.u64.wrap ((2:Int) ^ nd)=((2 ^ nd:Nat):Int):=by
 have h1:(2:Nat) ^ nd<2 ^ 63:=Nat.pow_lt_pow_right (by decide) h;have h2:(2:Int) ^ nd=((2 ^ nd:Nat):Int):=by simp
 rw [h2];exact FL _ (Int.natCast_nonneg _) (by exact_mod_cast h1)
theorem Lo.uK {w:World} {B b:Nat} {ss:List fG} {st nd:Nat} {A:Option Addr} {cap:Nat} (hw:mq w B b ss st nd A cap) (hB:B<=w.heap.size) (hnd:nd<=16):
 Calls Lo.prog 57 #[.pointer (some ⟨b,0,none⟩)] w λe w'=>e= .returned (.bool (ic ss nd))∧Below w.heap.size w w':=by
 obtain ⟨U,U2,U3,U4,U5,U6⟩:=Lo.facts;have C:=Lo.call Tryz.func89;have C2:=Lo.call Tryz.func90;have hp:(2:Nat) ^ nd<=2 ^ 16:=Nat.pow_le_pow_right (by decide) hnd;cases hcr:kK ss with
 |true=>
  have hres:ic ss nd=false:=by unfold ic;rw [hcr];rfl
  rw [hres];go_enter Lo.get Tryz.func57,Tryz.ntmps57
  go_wp2_with (go_at_call 89;refine (Lo.zK hw hB).mono ?_;rintro e w1 ⟨rfl,hb1⟩;rw [hcr])
  go_ret;exact ⟨rfl,hb1⟩
 |false=>
  have hres:ic ss nd=yJ ss (2 ^ nd):=by unfold ic;rw [hcr];rfl
  rw [hres];clear hres;have hsh:=Aj nd (by omega);go_enter Lo.get Tryz.func57,Tryz.ntmps57
  go_wp2_with (go_at_call 89;refine (Lo.zK hw hB).mono ?_;rintro e w1 ⟨rfl,hb1⟩;rw [hcr];have c2:=(dP hb1 _ _ (aK hw.lt hB)).trans hw.c2)
  rw [show ((2:Int) ^ nd)=((2 ^ nd:Nat):Int) from by simp];generalize hm:2 ^ nd=m at hp;have c2':=c2;clear c2 hsh
  go_loopw [11] (λi wr=>∃k:Nat,k<=m∧i= .int .u64 (k:Int)∧yJ ss k=true∧Below w.heap.size w wr) (λi _=>m - (intOf i).toNat)
  case atStart=>exact ⟨0,bq _,rfl,rfl,hb1⟩
  case round=>
   obtain ⟨k,hk,rfl,hf,hb⟩:=hrel
   by_cases hlt:k<m
   ·have hlt':(k:Int)<(m:Int):=by omega
    have HF:=dB hf;have HB:=dB hb;have hwk:=hw.keep (λb o h=>dP hb b o (by omega));have hBk:B<=wr.heap.size:=aT hB hb.size;have Sw:k<2 ^ 63:=by omega
    clear hf hb hb1 c2'
    by_cases hq:gY ss k<=0
    ·have HQ:=dB hq;have d1:decide (0<gY ss k)=false:=by simpa using hq
     clear hq
     go_wp2_with (go_at_call 90;refine (Lo.xN hwk hBk k Sw).mono ?_;rintro e w2 ⟨rfl,hb2⟩)
     go_roundw
     case rel=>exact ⟨k+1,by omega,by go_num,by rw [MQ,HF.out];simpa using HQ.out,HB.out.trans (hb2.mono HB.out.size)⟩
     case measure=>simp [intOf];omega
    ·have HQ:=dB hq;have d1:decide (0<gY ss k)=true:=by simp;omega
     clear hq
     go_wp2_with (go_at_call 90;refine (Lo.xN hwk hBk k Sw).mono ?_;rintro e w2 ⟨rfl,hb2⟩)
     go_ret;exact ⟨by rw [hm,Sv ss hlt (Int.not_le.2 HQ.out)];rfl,HB.out.trans (hb2.mono HB.out.size)⟩
   ·obtain rfl:k=m:=by omega
    go_wp2;go_ret;exact ⟨by rw [hm,hf];rfl,hb⟩
end
section
variable [Lo.St]
def ig (ss:List fG) (nd set:Nat) (fD:Bool):Bool:=
 if set=0 then !fD&&kK ss else if fD then decide (0<gY ss (2 ^ nd - 1 - set)) else decide (0<gY ss set)
theorem Lo.Sy {w:World} {B b:Nat} {ss:List fG} {st nd:Nat} {A:Option Addr} {cap:Nat} (hw:mq w B b ss st nd A cap) (hB:B<=w.heap.size):
 Calls Lo.prog 65 #[.pointer (some ⟨b,0,none⟩),.int .u64 0,.bool false] w λe w'=>e= .returned (.bool (kK ss))∧Below w.heap.size w w':=by
 have U:=Lo.underlying;have U2:=Lo.runUnderlying;have C:=Lo.call Tryz.func89;go_enter Lo.get Tryz.func65,Tryz.ntmps65
 go_wp2_with (go_at_call 89;refine (Lo.zK hw hB).mono ?_;rintro e w1 ⟨rfl,hb1⟩)
 go_ret;exact ⟨rfl,hb1⟩
theorem Lo.Sz {w:World} {b:Nat}:Calls Lo.prog 65 #[.pointer (some ⟨b,0,none⟩),.int .u64 0,.bool true] w λe w'=>e= .returned (.bool false)∧Below w.heap.size w w':=by
 have U:=Lo.underlying;have U2:=Lo.runUnderlying;go_enter Lo.get Tryz.func65,Tryz.ntmps65;go_wp2;go_ret;exact ⟨rfl,dz _ _⟩
theorem Lo.Vp {w:World} {B b:Nat} {ss:List fG} {st nd:Nat} {A:Option Addr} {cap:Nat} (hw:mq w B b ss st nd A cap) (hB:B<=w.heap.size) (set:Nat) (h0:0<set) (tF:set<2 ^ 63):
 Calls Lo.prog 65 #[.pointer (some ⟨b,0,none⟩),.int .u64 (set:Int),.bool false] w λe w'=>e= .returned (.bool (decide (0<gY ss set)))∧Below w.heap.size w w':=by
 have U:=Lo.underlying;have U2:=Lo.runUnderlying;have C:=Lo.call Tryz.func90;have d0:((set:Int)==0)=false:=by simp;omega
 go_enter Lo.get Tryz.func65,Tryz.ntmps65
 go_wp2_with (go_at_call 90;refine (Lo.xN hw hB set tF).mono ?_;rintro e w1 ⟨rfl,hb1⟩)
 go_ret;exact ⟨rfl,hb1⟩
theorem Lo.Vq {w:World} {B b:Nat} {ss:List fG} {st nd:Nat} {A:Option Addr} {cap:Nat} (hw:mq w B b ss st nd A cap) (hB:B<=w.heap.size) (hnd:nd<=16) (set:Nat) (h0:0<set) (tF:set<2 ^ nd):
 Calls Lo.prog 65 #[.pointer (some ⟨b,0,none⟩),.int .u64 (set:Int),.bool true] w λe w'=>e= .returned (.bool (decide (0<gY ss (2 ^ nd - 1 - set))))∧Below w.heap.size w w':=by
 obtain ⟨U,U2,U3,U4,U5,U6⟩:=Lo.facts;have C:=Lo.call Tryz.func90;have d0:((set:Int)==0)=false:=by simp;omega
 have c2:=hw.c2;have hp:(2:Nat) ^ nd<=65536:=Nat.pow_le_pow_right (n:=2) (by decide) hnd;have hsh:=Aj nd (by omega)
 have ez:IntKind.u64.wrap (IntKind.u64.wrap ((2:Int) ^ nd - 1) - (set:Int))=((2 ^ nd - 1 - set:Nat):Int):=by
  rw [show ((2:Int) ^ nd)=((2 ^ nd:Nat):Int) from by simp];generalize 2 ^ nd=m at *;rw [FL ((m:Int) - 1) (by omega) (by omega),FL _ (by omega) (by omega)];omega
 have Sw:2 ^ nd - 1 - set<2 ^ 63:=by omega
 go_enter Lo.get Tryz.func65,Tryz.ntmps65
 go_wp2_with (go_at_call 90;refine (Lo.xN hw hB _ Sw).mono ?_;rintro e w1 ⟨rfl,hb1⟩)
 go_ret;exact ⟨rfl,hb1⟩
theorem Lo.OJ {w:World} {B b:Nat} {ss:List fG} {st nd:Nat} {A:Option Addr} {cap:Nat} (hw:mq w B b ss st nd A cap) (hB:B<=w.heap.size) (hnd:nd<=16) (set:Nat) (tF:set<2 ^ nd) (fD:Bool):
 Calls Lo.prog 65 #[.pointer (some ⟨b,0,none⟩),.int .u64 (set:Int),.bool fD] w λe w'=>e= .returned (.bool (ig ss nd set fD))∧Below w.heap.size w w':=by
 have hp:(2:Nat) ^ nd<=65536:=Nat.pow_le_pow_right (n:=2) (by decide) hnd;unfold ig
 by_cases h0:set=0
 ·subst h0;cases fD
  ·simpa using Lo.Sy hw hB
  ·simpa using Lo.Sz
 ·cases fD
  ·rw [aa h0];exact Lo.Vp hw hB set (by omega) (by omega)
  ·rw [aa h0];exact Lo.Vq hw hB hnd set (by omega) tF
end
section
variable [Lo.St]
theorem Lo.MR:Lo.prog.underlying 44=some (.slice 3):=(Lo.underlying 44).trans (by kernel_rfl)
theorem Lo.info3:(Lo.prog.info? 3).map (λi=>(i.zero,i.size,i.bytes))=some (some (.int .i64 0),1,8):=by
 rw [Lo.info];kernel_rfl
def sU (set k:Nat):List Nat:=(List.range k).filter λi=>decide (bit set i=1)
theorem ET (set k:Nat):sU set (k+1)=if bit set k=1 then sU set k++ [k] else sU set k:=by
 unfold sU;rw [List.range_succ,List.filter_append]
 by_cases h:bit set k=1<;>simp [h]
theorem Hf (set k:Nat):(sU set k).length<=k:=by
 unfold sU;exact aT (List.length_filter_le _ _) (by simp)
def BQ (l:List Nat):List Value:=l.map λn:Nat=>.int .i64 (n:Int)
def nU (set:Nat):List Nat:=sU set 16
theorem EU (set k:Nat) (h:set / 2 ^ k=0):∀d,sU set (k+d)=sU set k
 |0=>rfl
 |d+1=>by
  rw [<-Nat.add_assoc,ET,aa,EU set k h d];unfold bit
  have :set / 2 ^ (k+d)=0:=by
   rw [Nat.pow_add, <-Nat.div_div_eq_div_mul,h,Nat.zero_div]
  rw [this];simp
theorem Lo.Vr (set:Nat) (tF:set<2 ^ 16) (w:World):
 Calls Lo.prog 66 #[.int .u64 (set:Int)] w λe w'=>∃v,e= .returned v∧w'.ownsRow w.heap.size 3 1 v (nU set).length (BQ (nU set))∧Par.eU w' v∧Below w.heap.size w w':=by
 obtain ⟨U,U2,U3,U4,U5,U6⟩:=Lo.facts;obtain ⟨i0,hi,hz0,hz1,hz2⟩:=info_parts Lo.info3;go_enter Lo.get Tryz.func66,Tryz.ntmps66;go_wp2
 go_loopw [3,4] (λv i wr=>∃k:Nat,k<=16∧i= .int .i64 (k:Int)∧wr.ownsRow w.heap.size 3 1 v (sU set k).length (BQ (sU set k))∧Par.eU wr v∧Below w.heap.size w wr) (λ_ i _=>16 - (intOf i).toNat)
 case atStart=>exact ⟨0,by omega,rfl,by simpa [sU,BQ] using World.ownsRow_nil w w.heap.size 3 1,Par.eU.nil _,dz _ _⟩
 case round=>
  obtain ⟨k,hk,rfl,hown,hpl,hb⟩:=hrel;have HP:=dB hpl;clear hpl;have hbl:bit set k<2:=OG set k;have ab:=KN set k (by omega);have ls:=ET set k;have ll:=Hf set k;have st:=EU set k;generalize hq:set / 2 ^ k=q at st;have eq1:((set:Int) / 2 ^ k)=(q:Int):=by rw [<-hq];simp
  rw [eq1] at ab
  by_cases h0:q=0
  ·have hk2:nU set=sU set k:=by
    have :=st h0 (16 - k);rw [show k+(16 - k)=16 from by omega] at this;exact this
   have HK:=dB hk2;have HO:=dB hown;have HB:=dB hb;clear ab ls ll st hq hk2 hown hb;subst h0;go_wp2;go_ret;exact ⟨_,rfl,by rw [HK.out];exact HO.out,HP.out,HB.out⟩
  ·have aC6:k<16:=by
    rcases bz k 16 with h|h
    ·exact h
    ·exfalso;obtain rfl:k=16:=by omega
     omega
   have d1:decide ((0:Int)<(q:Int))=true:=by simp;omega
   have hBs:=hb.size;clear hq st
   by_cases h1:bit set k=1
   ·rw [aj h1] at ls;rw [h1] at ab;have LS:=dB ls;have HB:=dB hb;have H1:=dB h1;clear ls hb h1 hbl
    go_wp2_with (first
     |(at_builtin;refine Par.gJ rfl _ _ 44 rfl w.heap.size 3 i0 (.int .i64 0) 1 8 Lo.MR hi hz0 hz1 hz2 rfl (by decide) _ _ _ rfl (hown.alloc _) ⟨wr.heap.size,0,none⟩ 1 1 [.int .i64 (k:Int)] rfl rfl ?c1 ?c2 ?c3 ?c4 ?c5 (HP.out.alloc _) ?c6 ?c7 ?_)
     |go_in)
    case c1=>
     intro j u hj
     match j,hj with
     |0,hj=>simp at hj;subst hj;simp [Addr.add]
    case c2=>intro u hu;simp at hu;subst hu;rfl
    case c3=>unfold maxLen;omega
    case c4=>omega
    case c5=>simp;omega
    case c6=>intro u hu;simp at hu;subst hu;rfl
    case c7=>intro u hu;simp [Value.cells] at hu;subst hu;rfl
    intro v' w1 hown' hgrow _ hp';have Vs:=dB hp';clear hp';have R:=(HB.out.alloc hBs (.cells #[.int .i64 (k:Int)] 3)).grown hgrow (by simp;omega) (λj hj=>(hown.lt j hj).1);have RO:=dB hown';clear hown' hgrow hown;go_wp2;go_roundw
    case rel=>exact ⟨k+1,by omega,by go_num,by rw [LS.out];simpa [BQ] using RO.out,Vs.out,R⟩
    case measure=>simp [intOf];omega
   ·obtain h0':bit set k=0:=by omega
    rw [aa h1] at ls;rw [h0'] at ab;have LS:=dB ls;have HB:=dB hb;clear ls hb h1 hbl h0';have HO:=dB hown;clear hown;go_wp2;go_roundw
    case rel=>exact ⟨k+1,by omega,by go_num,by rw [LS.out];exact HO.out,HP.out,HB.out⟩
    case measure=>simp [intOf];omega
end
section
variable [Lo.St]
def BS (a b:Int):Int:=if a<b then -1 else if b<a then 1 else 0
theorem Lo.KQ (a:Int) (w:World):Calls Lo.prog 91 #[.int .i64 a] w λe w'=>e= .returned (.bool false)∧w'=w:=by
 have U:=Lo.underlying;have U2:=Lo.runUnderlying;have d:decide (a=a)=true:=by simp
 go_enter Lo.get Tryz.func91,Tryz.ntmps91;go_wp2;go_ret;exact ⟨by simp,rfl⟩
theorem Lo.KR (a b:Int) (w:World):Calls Lo.prog 60 #[.int .i64 a,.int .i64 b] w λe w'=>e= .returned (.int .i64 (BS a b))∧w'=w:=by
 have U:=Lo.underlying;have U2:=Lo.runUnderlying;have C:=Lo.call Tryz.func91;unfold BS;rcases Int.lt_trichotomy a b with h|h|h
 ·rw [aj h];have d:decide (a<b)=true:=by simpa using h
  go_enter Lo.get Tryz.func60,Tryz.ntmps60
  go_wp2_with (go_at_call 91;refine (Lo.KQ _ _).mono ?_;rintro e w1 ⟨rfl,rfl⟩)
  go_ret;exact ⟨rfl,rfl⟩
 ·subst h;rw [aa (Int.lt_irrefl _),aa (Int.lt_irrefl _)];have d:decide (a<a)=false:=by simp
  go_enter Lo.get Tryz.func60,Tryz.ntmps60
  go_wp2_with (go_at_call 91;refine (Lo.KQ _ _).mono ?_;rintro e w1 ⟨rfl,rfl⟩)
  go_ret;exact ⟨rfl,rfl⟩
 ·rw [aa (by omega),aj h];have d:decide (a<b)=false:=by simp;omega
  have d2:decide (b<a)=true:=by simpa using h
  go_enter Lo.get Tryz.func60,Tryz.ntmps60
  go_wp2_with (go_at_call 91;refine (Lo.KQ _ _).mono ?_;rintro e w1 ⟨rfl,rfl⟩)
  go_ret;exact ⟨rfl,rfl⟩
end
section
variable [Lo.St]
abbrev Cn (w:World) (B:Nat) (A:Option Addr) (l:List Int):Prop:=Rd w B 1 A l.length λi _=>.int .i64 ((l[i]?).getD 0)
theorem TN {w:World} {bb off k:Nat} {l:List Int} (hc:∀i j,i<l.length->j<1->w.cell? ⟨bb,off+(i*1+j),none⟩=some (.int .i64 ((l[i]?).getD 0))) (hlt:k<l.length):w.cell? ⟨bb,off+k,none⟩=some (.int .i64 l[k]):=by
 have :=hc k 0 hlt (by omega);rw [Nat.mul_one,aH] at this;rw [this,aO hlt];rfl
theorem ownsRow.TN {w:World} {base n B:Nat} {v:Value} {l:List Int} (h:w.ownsRow base 3 1 v n (l.map λx=>.int .i64 x)):∃A cap,v= .slice A n cap∧n=l.length∧(w.heap.size<=B->Cn w B A l):=by
 obtain ⟨hl,h⟩:=h;have hn:n=l.length:=by simpa using hl.symm
 rcases h with ⟨rfl,rfl⟩|⟨g,cap,cur,rfl,hb,hg,h1,h2,h3,h4⟩
 ·exact ⟨none,0,rfl,hn, λ_ h=>absurd h (by omega)⟩
 ·refine ⟨_,cap,rfl,hn, λhB _=>⟨g,0,rfl,aK (aI.1 hg).1 hB, λi j hi hj=>?_⟩⟩;obtain rfl:j=0:=by omega
  have e:(cur.toList.take (n*1))[i]?=some (.int .i64 ((l[i]?).getD 0)):=by
   rw [h4];simp [hi]
  rw [List.getElem?_take] at e;split at e
  ·unfold World.cell?;simp only [hg];simpa using e
  ·cases e
def lU:List Int->List Int->Int
 | [],[]=>0
 | [],_::_=> -1
 |_::_,[]=>1
 |a::x,b::y=>if BS a b=0 then lU x y else BS a b
theorem MU {l m:List Int} {k:Nat} (h1:k<l.length) (h2:k<m.length):lU (l.drop k) (m.drop k)=if BS l[k] m[k]=0 then lU (l.drop (k+1)) (m.drop (k+1)) else BS l[k] m[k]:=by
 rw [aW h1,aW h2];rfl
theorem MV {l m:List Int} {k:Nat} (h1:k<l.length) (h2:m.length<=k):lU (l.drop k) (m.drop k)=1:=by
 rw [aW h1,List.drop_of_length_le h2];rfl
theorem OL {l m:List Int} {k:Nat} (h1:l.length<=k):lU (l.drop k) (m.drop k)=if k<m.length then -1 else 0:=by
 rw [List.drop_of_length_le h1];split
 ·rename_i h;rw [aW h];rfl
 ·rename_i h;rw [List.drop_of_length_le (by omega)];rfl
theorem Lo.YE {w:World} {B:Nat} {A1 A2:Option Addr} {l1 l2:List Int} {c1 c2:Nat} (h1:Cn w B A1 l1) (h2:Cn w B A2 l2) (hl1:l1.length<=64) (hl2:l2.length<=64):
 Calls Lo.prog 61 #[.slice A1 l1.length c1,.slice A2 l2.length c2] w λe w'=>e= .returned (.int .i64 (lU l1 l2))∧w'=w:=by
 obtain ⟨U,U2,U3,U4,U5,U6⟩:=Lo.facts;have C:=Lo.call Tryz.func60;go_enter Lo.get Tryz.func61,Tryz.ntmps61;go_wp2
 go_loopw [11] (λi wr=>∃k:Nat,k<=l1.length∧k<=l2.length∧i= .int .i64 (k:Int)∧lU (l1.drop k) (l2.drop k)=lU l1 l2∧wr=w) (λi _=>l1.length - (intOf i).toNat)
 case atStart=>exact ⟨0,bq _,bq _,rfl,rfl,rfl⟩
 case round=>
  obtain ⟨k,hk,hk2,rfl,hx,rfl⟩:=hrel
  by_cases hlt:k<l1.length
  ·have hlt':(k:Int)<(l1.length:Int):=by omega
   obtain ⟨b1,o1,rfl,hb1,hc1⟩:=h1 (by omega);have r1:=TN hc1 hlt
   by_cases hlt2:k<l2.length
   ·have ap7:(k:Int)<(l2.length:Int):=by omega
    have d2:decide ((l2.length:Int)<=(k:Int))=false:=by simp;omega
    obtain ⟨b2,o2,rfl,hb2,hc2⟩:=h2 (by omega);have r2:=TN hc2 hlt2;have hd:=MU hlt hlt2;rw [hx] at hd;clear hc1 hc2 h1 h2 hx;generalize l1[k]=x at r1 hd;generalize l2[k]=y at r2 hd
    by_cases hq:BS x y=0
    ·rw [aj hq] at hd;have d3:(BS x y==0)=true:=by simpa using hq
     have HD:=dB hd;clear hd
     go_wp2_with (go_at_call 60;refine (Lo.KR _ _ _).mono ?_;rintro e w1 ⟨rfl,rfl⟩)
     go_roundw
     case rel=>exact ⟨k+1,by omega,by omega,by go_num,HD.out.symm,by simp⟩
     case measure=>simp [intOf];omega
    ·rw [aa hq] at hd;have d3:(BS x y==0)=false:=by simpa using hq
     have HD:=dB hd;clear hd
     go_wp2_with (go_at_call 60;refine (Lo.KR _ _ _).mono ?_;rintro e w1 ⟨rfl,rfl⟩)
     go_ret;exact ⟨by rw [HD.out];rfl,rfl⟩
   ·have d2:decide ((l2.length:Int)<=(k:Int))=true:=by simp;omega
    rw [MV hlt (by omega)] at hx;have HX:=dB hx;clear hc1 h1 h2 hx;go_wp2;go_ret;exact ⟨by rw [<-HX.out];rfl,rfl⟩
  ·obtain rfl:k=l1.length:=by omega
   rw [OL (aJ _)] at hx
   by_cases hq:l1.length<l2.length
   ·rw [aj hq] at hx;have d2:decide ((l1.length:Int)<(l2.length:Int))=true:=by simp;omega
    have HX:=dB hx;clear hx;go_wp2;go_ret;exact ⟨by rw [<-HX.out];rfl,rfl⟩
   ·rw [aa hq] at hx;have d2:decide ((l1.length:Int)<(l2.length:Int))=false:=by simp;omega
    have HX:=dB hx;clear hx;go_wp2;go_ret;exact ⟨by rw [<-HX.out];rfl,rfl⟩
def orI (a b:Int):Int:=if a=0 then b else a
theorem Lo.KS {w:World} {bb off:Nat} {a b:Int} {cap:Nat} (h1:w.cell? ⟨bb,off,none⟩=some (.int .i64 a)) (h2:w.cell? ⟨bb,off+1,none⟩=some (.int .i64 b)):
 Calls Lo.prog 59 #[.slice (some ⟨bb,off,none⟩) 2 cap] w λe w'=>e= .returned (.int .i64 (orI a b))∧w'=w:=by
 obtain ⟨U,U2,U3,U4,U5,U6⟩:=Lo.facts;unfold orI
 by_cases ha:a=0
 ·rw [aj ha];subst ha
  by_cases hb:b=0
  ·subst hb;go_enter Lo.get Tryz.func59,Tryz.ntmps59;go_wp2;refine wp_loop_rounds 3 ?_
   rw [rounds_succ];go_wp2
   rw [rounds_succ];go_wp2
   rw [rounds_succ];go_wp2
   go_ret;exact ⟨rfl,rfl⟩
  ·have d:(b==0)=false:=by simpa using hb
   go_enter Lo.get Tryz.func59,Tryz.ntmps59;go_wp2;refine wp_loop_rounds 2 ?_
   rw [rounds_succ];go_wp2
   rw [rounds_succ];go_wp2
   go_ret;exact ⟨rfl,rfl⟩
 ·rw [aa ha];have d:(a==0)=false:=by simpa using ha
  go_enter Lo.get Tryz.func59,Tryz.ntmps59;go_wp2;refine wp_loop_rounds 1 ?_
  rw [rounds_succ];go_wp2
  go_ret;exact ⟨rfl,rfl⟩
end
section
variable [Lo.St]
theorem Lo.mixed:Lo.prog.follows .mixedOrders=true:=by rw [Lo.jL];show Tryz.prog.follows .mixedOrders=true;kernel_rfl
def oq (l:List Int) (m:Bool) (steps:List Int) (fD found:Bool):Bool:=
 let c:=orI (BS l.length steps.length) (lU l steps)
 if !found||decide (c<0) then true else if c=0 then fD&&!m else false
theorem Lo.OM {w:World} {B bs bf bm:Nat} {A1 A2:Option Addr} {l st:List Int} {c1 c2:Nat} {m fD found:Bool} (h1:Cn w B A1 l) (h2:Cn w B A2 st) (hl1:l.length<=64) (hl2:st.length<=64)
 (hs:w.cell? ⟨bs,0,none⟩=some (.slice A2 st.length c2)) (hf:w.cell? ⟨bf,0,none⟩=some (.bool found)) (hm:w.cell? ⟨bm,0,none⟩=some (.bool fD)) (hB:B<=w.heap.size) (hbf:bf<w.heap.size) (hbm:bm<w.heap.size):
 Calls Lo.prog 58 #[.slice A1 l.length c1,.bool m,.pointer (some ⟨bs,0,none⟩),.pointer (some ⟨bf,0,none⟩),.pointer (some ⟨bm,0,none⟩)] w λe w'=>e= .returned (.bool (oq l m st fD found))∧Below w.heap.size w w':=by
 obtain ⟨U,U2,U3,U4,U5,U6⟩:=Lo.facts;have C:=Lo.call Tryz.func59;have C2:=Lo.call Tryz.func60;have C3:=Lo.call Tryz.func61;generalize hr:oq l m st fD found=r;unfold oq at hr;have HR:=dB hr;clear hr;go_enter Lo.get Tryz.func58,Tryz.ntmps58
 go_wp2_with fail
 go_still_tail 8,Lo.mixed
 still_call ((Lo.KR _ _ _).mono (by rintro e w1 ⟨rfl,rfl⟩;exact ⟨rfl,rfl⟩))
 repeat still_step
 have k1:Cn w.drew B A1 l:=h1.keep λ_ _ _=>rfl
 have k2:Cn w.drew B A2 st:=h2.keep λ_ _ _=>rfl
 still_call ((Lo.YE k1 k2 hl1 hl2).mono (by rintro e w1 ⟨rfl,rfl⟩;exact ⟨rfl,rfl⟩))
 refine wpStill_nil ?_
 change wpList _ _ _ _ _ w.drew;have hf2:w.drew.cell? ⟨bf,0,none⟩=some (.bool found):=hf;have hm2:w.drew.cell? ⟨bm,0,none⟩=some (.bool fD):=hm;have hbw:Below w.heap.size w w.drew:=(dz _ _).drew;have aC7:bf<w.drew.heap.size:=hbf;have aC8:bm<w.drew.heap.size:=hbm;have hsz:w.heap.size<=w.drew.heap.size:=aJ _;clear k1 k2 h1 h2 hs hf hm hbf hbm hB;generalize w.drew=w2 at *;have hr:=HR.out;clear HR;generalize hx:BS l.length st.length=x at hr ⊢;generalize hy:lU l st=y at hr ⊢;have HB:=dB (hbw.alloc hsz (.cells #[.int .i64 x,.int .i64 y] 3));clear hx hy hbw hsz;generalize hc:orI x y=c at hr;have HR:=dB hr;clear hr;cases found with
 |false=>
  go_wp2_with (go_at_call 59;refine (Lo.KS (a:=x) (b:=y) (by simp) (by simp)).mono ?_;rintro e w3 ⟨rfl,rfl⟩;rw [hc])
  go_ret;exact ⟨by rw [<-HR.out];simp,HB.out⟩
 |true=>
  rcases Int.lt_trichotomy c 0 with h|h|h
  ·have d:decide (c<0)=true:=by simpa using h
   go_wp2_with (go_at_call 59;refine (Lo.KS (a:=x) (b:=y) (by simp) (by simp)).mono ?_;rintro e w3 ⟨rfl,rfl⟩;rw [hc])
   go_ret;exact ⟨by rw [<-HR.out];simp [h],HB.out⟩
  ·subst h;cases fD
   all_goals
    go_wp2_with (go_at_call 59;refine (Lo.KS (a:=x) (b:=y) (by simp) (by simp)).mono ?_;rintro e w3 ⟨rfl,rfl⟩;rw [hc])
    go_ret;exact ⟨by rw [<-HR.out];simp,HB.out⟩
  ·have d:decide (c<0)=false:=by simp;omega
   have d2:(c==0)=false:=by simp;omega
   have hne:¬c=0:=by omega
   go_wp2_with (go_at_call 59;refine (Lo.KS (a:=x) (b:=y) (by simp) (by simp)).mono ?_;rintro e w3 ⟨rfl,rfl⟩;rw [hc])
   go_ret;exact ⟨by rw [<-HR.out];simp [hne];omega,HB.out⟩
end
section
variable [Lo.St]
theorem Lo.aa0:Lo.prog.underlying 29=some (.slice 51):=(Lo.underlying 29).trans (by kernel_rfl)
theorem Lo.Vt:(Lo.prog.info? 51).map (λi=>(i.zero,i.size,i.bytes))=some (some (.agg #[.int .i64 0,.int .i64 0]),2,16):=by
 rw [Lo.info];kernel_rfl
def jA (o:List Int):List Value:=o.map λx=>.int .i64 x
def uu (ss:List fG):Nat->List Int
 |0=>[]
 |k+1=>uu ss k++match ss[k]? with |some x=>[x.lo,x.hi]|none=>[]
def BU (ss:List fG) (s:Nat) (o:List Int) (k:Nat):List Int:=
 match ss[k]? with
 |none=>o
 |some x=>
  if nT s x.fr x.to=1 then o.set (2*k) (max ((o[2*k]?).getD 0) (gY ss s+x.hi))
  else if nT s x.fr x.to=2 then o.set (2*k+1) (min ((o[2*k+1]?).getD 0) (x.lo - gY ss s)) else o
def zb (ss:List fG) (s:Nat) (o:List Int):Nat->List Int
 |0=>o
 |k+1=>BU ss s (zb ss s o k) k
def sV (ss:List fG):Nat->List Int
 |0=>uu ss ss.length
 |m+1=>zb ss m (sV ss m) ss.length
def qg (ss:List fG) (nd:Nat):List Int:=sV ss (2 ^ nd)
theorem Hg (ss:List fG):∀k,k<=ss.length->(uu ss k).length=2*k
 |0,_=>rfl
 |k+1,h=>by
  unfold uu;rw [aO h,List.length_append,Hg ss k (by omega)];simp;omega
theorem OO (ss:List fG) (s:Nat) (o:List Int) (k:Nat):(BU ss s o k).length=o.length:=by
 unfold BU;split
 ·rfl
 ·split
  ·simp
  ·split<;>simp
theorem El (ss:List fG) (s:Nat) (o:List Int):∀k,(zb ss s o k).length=o.length
 |0=>rfl
 |k+1=>by unfold zb;rw [OO,El ss s o k]
theorem vz (ss:List fG):∀m,(sV ss m).length=2*ss.length
 |0=>Hg ss _ (aJ _)
 |m+1=>by unfold sV;rw [El,vz ss m]
def Vu (o:List Int):Prop:=∀x∈o, -600000000<=x∧x<=600000000
theorem MW (ss:List fG) (h:∀x∈ss,x.ok):∀k,Vu (uu ss k)
 |0=> λ_ h=>by simp [uu] at h
 |k+1=> λy hy=>by
  unfold uu at hy;rcases List.mem_append.1 hy with hy|hy
  ·exact MW ss h k y hy
  ·cases hx:ss[k]? with
   |none=>rw [hx] at hy;simp at hy
   |some x=>
    rw [hx] at hy;obtain ⟨a,b,c,d,_⟩:=h x (List.mem_of_getElem? hx);simp at hy;rcases hy with rfl|rfl<;>omega
theorem Vu.get {o:List Int} (h:Vu o) (k:Nat): -600000000<=(o[k]?).getD 0∧(o[k]?).getD 0<=600000000:=by
 cases hx:o[k]? with
 |none=>simp
 |some x=>exact h x (List.mem_of_getElem? hx)
theorem Vu.set {o:List Int} (h:Vu o) (k:Nat) {v:Int} (hv: -600000000<=v∧v<=600000000):Vu (o.set k v):= λx hx=>by
 rcases List.mem_or_eq_of_mem_set hx with hx|rfl
 ·exact h x hx
 ·exact hv
theorem Vv (ss:List fG) (h:∀x∈ss,x.ok) (hl:ss.length<=64) (s:Nat) {o:List Int} (ho:Vu o) (k:Nat):Vu (BU ss s o k):=by
 have hs:=JM ss s h hl;unfold BU;split
 ·exact ho
 ·rename_i x hx;obtain ⟨a,b,c,d,_⟩:=h x (List.mem_of_getElem? hx);have g1:=ho.get (2*k);have g2:=ho.get (2*k+1);split
  ·exact ho.set _ (by omega)
  ·split
   ·exact ho.set _ (by omega)
   ·exact ho
theorem KT (ss:List fG) (h:∀x∈ss,x.ok) (hl:ss.length<=64) (s:Nat) {o:List Int} (ho:Vu o):∀k,Vu (zb ss s o k)
 |0=>ho
 |k+1=>Vv ss h hl s (KT ss h hl s ho k) k
theorem MX (ss:List fG) (h:∀x∈ss,x.ok) (hl:ss.length<=64):∀m,Vu (sV ss m)
 |0=>MW ss h _
 |m+1=>KT ss h hl m (MX ss h hl m) _
theorem ownsRow.below {w w2:World} {base e size n:Nat} {v:Value} {xs:List Value} (h:w.ownsRow base e size v n xs) (hb:Below w.heap.size w w2):w2.ownsRow base e size v n xs:=by
 obtain ⟨h1,h2⟩:=h;refine ⟨h1,h2.imp id ?_⟩;rintro ⟨g,cap,cur,a,b,c,d⟩;exact ⟨g,cap,cur,a,b,(hb.block g (aI.1 c).1).trans c,d⟩
theorem ownsRow.shape {w:World} {base e size n:Nat} {v:Value} {xs:List Value} (h:w.ownsRow base e size v n xs) (hn:0<n):∃g cap,v= .slice (some ⟨g,0,none⟩) n cap∧base<=g∧g<w.heap.size:=by
 rcases h.2 with ⟨_,rfl⟩|⟨g,cap,cur,a,b,c,d⟩
 ·omega
 ·exact ⟨g,cap,a,b,(aI.1 c).1⟩
theorem yK (o:List Int) {k:Nat} (h:k<o.length):(jA o)[k]?=some (.int .i64 ((o[k]?).getD 0)):=by
 unfold jA;rw [List.getElem?_map,aO h];rfl
theorem Hl (o:List Int) (k:Nat) (x:Int):(jA o).set k (.int .i64 x)=jA (o.set k x):=by
 unfold jA;rw [List.map_set]
theorem Lo.SC {w:World} {B b:Nat} {ss:List fG} {st nd:Nat} {A:Option Addr} {cap:Nat} (hw:mq w B b ss st nd A cap) (hB:B<=w.heap.size) (hnd:nd<=16):
 Calls Lo.prog 79 #[.pointer (some ⟨b,0,none⟩)] w λe w'=>∃v,e= .returned v∧w'.ownsRow w.heap.size 51 2 v ss.length (jA (qg ss nd))∧Par.eU w' v∧Below w.heap.size w w':=by
 obtain ⟨U,U2,U3,U4,U5,U6⟩:=Lo.facts;have C:=Lo.call Tryz.func90;have C2:=Lo.call Tryz.func117;obtain ⟨i0,hi,hz0,hz1,hz2⟩:=info_parts Lo.Vt;have hlen:=hw.len;have c0:=hw.c0;go_enter Lo.get Tryz.func79,Tryz.ntmps79;go_wp2
 go_loopw [3,15] (λv i wr=>∃k:Nat,k<=ss.length∧i= .int .i64 (k:Int)∧wr.ownsRow w.heap.size 51 2 v k (jA (uu ss k))∧Par.eU wr v∧Below w.heap.size w wr) (λ_ i _=>ss.length - (intOf i).toNat)
 case atStart=>exact ⟨0,bq _,rfl,by simpa [uu,jA] using World.ownsRow_nil w w.heap.size 51 2,Par.eU.nil _,dz _ _⟩
 case round=>
  obtain ⟨k,hk,rfl,hown,hpl,hb⟩:=hrel;have HP:=dB hpl;clear hpl
  by_cases hlt:k<ss.length
  ·have hlt':(k:Int)<(ss.length:Int):=by omega
   obtain ⟨bb,off,rfl,hbb,hc⟩:=(hw.rd.keep (λb o h=>dP hb b o (by omega))) (by omega);obtain ⟨k0,k1,k2,k3⟩:=KO (B:=B) hc hlt
   have hin:uu ss (k+1)=uu ss k++ [ss[k].lo,ss[k].hi]:=by
    show uu ss k++_=_;rw [aO hlt]
   generalize ss[k]=x at hin k0 k1 k2 k3;obtain ⟨lo,hi',fr,to⟩:=x;simp only at hin k0 k1 k2 k3;have hBs:=hb.size;have HB:=dB hb;have HI:=dB hin;clear hb hc hin c0
   go_wp2_with (first
    |(at_builtin;refine Par.gJ rfl _ _ 29 rfl w.heap.size 51 i0 (.agg #[.int .i64 0,.int .i64 0]) 2 16 Lo.aa0 hi hz0 hz1 hz2 rfl (by decide) _ _ _ rfl ((hown.alloc _).alloc _) ⟨wr.heap.size+1,0,none⟩ 1 1 [.int .i64 lo,.int .i64 hi'] rfl rfl ?c1 ?c2 ?c3 ?c4 ?c5 ((HP.out.alloc _).alloc _) ?c6 ?c7 ?_)
    |go_in)
   case c1=>
    intro j u hj
    match j,hj with
    |0,hj=>simp at hj;subst hj;simp [Addr.add]
    |1,hj=>simp at hj;subst hj;simp [Addr.add]
   case c2=>intro u hu;simp at hu;rcases hu with rfl|rfl<;>rfl
   case c3=>unfold maxLen;omega
   case c4=>omega
   case c5=>simp;omega
   case c6=>intro u hu;simp at hu;rcases hu with rfl|rfl<;>rfl
   case c7=>intro u hu;simp [Value.cells] at hu;subst hu;rfl
   intro v' w1 hown' hgrow _ hp';have Vs:=dB hp';clear hp';have R:=((HB.out.alloc hBs _).alloc (by simp;omega) _).grown hgrow (by simp;omega) (λj hj=>(hown.lt j hj).1);have RO:=dB hown';clear hown' hgrow hown;go_wp2;go_roundw
   case rel=>exact ⟨k+1,by omega,by go_num,by rw [HI.out];simpa [jA] using RO.out,Vs.out,R⟩
   case measure=>simp [intOf];omega
  ·obtain rfl:k=ss.length:=by omega
   have hBs:=hb.size;have hsh:=Aj nd (by omega);have hp:(2:Nat) ^ nd<=65536:=Nat.pow_le_pow_right (n:=2) (by decide) hnd;have c2:=(dP hb _ _ (aK hw.lt hB)).trans hw.c2;go_wp2;rw [show ((2:Int) ^ nd)=((2 ^ nd:Nat):Int) from by simp];generalize hm:2 ^ nd=m at hp;clear hsh c2 c0
   go_loopw [35] (λi wq=>∃k:Nat,k<=m∧i= .int .u64 (k:Int)∧wq.ownsRow w.heap.size 51 2 u3 ss.length (jA (sV ss k))∧Par.eU wq u3∧Below w.heap.size w wq) (λi _=>m - (intOf i).toNat)
   case atStart=>exact ⟨0,bq _,rfl,hown,HP.out,hb⟩
   case round=>
    obtain ⟨k,hk,rfl,hown,hpl,hb⟩:=hrel;have HP1:=dB hpl;clear hpl HP
    by_cases hlt:k<m
    ·have hlt':(k:Int)<(m:Int):=by omega
     have hwk:=hw.keep (λb o h=>dP hb b o (by omega));have hBk:B<=wr.heap.size:=aT hB hb.size;have Sw:k<2 ^ 63:=by omega
     have HB:=dB hb;have HO:=dB hown;have c0:=hwk.c0;clear hb hown
     go_wp2_with (go_at_call 90;refine (Lo.xN hwk hBk k Sw).mono ?_;rintro e w2 ⟨rfl,hb2⟩;have c0':=(dP hb2 _ _ (aK hw.lt hBk)).trans hwk.c0)
     have hb3:=HB.out.trans (hb2.mono HB.out.size);have HP2:=dB (HP1.out.keep λg hg=>hb2.block g (HO.out.lt g hg).2);have hown3:w2.ownsRow w.heap.size 51 2 u3 ss.length (jA (zb ss k (sV ss k) 0)):=ownsRow.below HO.out hb2;clear c0 c0' hwk hBk hb2 HB HO
     go_loopw [46] (λi wq=>∃j:Nat,j<=ss.length∧i= .int .i64 (j:Int)∧wq.ownsRow w.heap.size 51 2 u3 ss.length (jA (zb ss k (sV ss k) j))∧Par.eU wq u3∧Below w.heap.size w wq) (λi _=>ss.length - (intOf i).toNat)
     case atStart=>exact ⟨0,bq _,rfl,hown3,HP2.out,hb3⟩
     case round=>
      obtain ⟨j,hj,rfl,hown,hpl,hb⟩:=hrel;have HP:=dB hpl;clear hpl
      by_cases hjl:j<ss.length
      ·have Vw:(j:Int)<(ss.length:Int):=by omega
       obtain ⟨bb,off,rfl,hbb,hc⟩:=(hw.rd.keep (λb o h=>dP hb b o (by omega))) (by omega);obtain ⟨k0,k1,k2,k3⟩:=KO (B:=B) hc hjl;have hx:=hw.ok ss[j] (aY hjl);have hsa:=JM ss k hw.ok hw.len;have hrow:zb ss k (sV ss k) (j+1)=BU ss k (zb ss k (sV ss k) j) j:=rfl;have hob:=KT ss hw.ok hw.len k (MX ss hw.ok hw.len k) j;have hol:(zb ss k (sV ss k) j).length=2*ss.length:=by rw [El,vz]
       unfold BU at hrow;rw [aO hjl] at hrow;simp only at hrow;generalize zb ss k (sV ss k) j=o at hrow hob hol hown;generalize ho':zb ss k (sV ss k) (j+1)=o' at hrow;have YF:=dB ho';clear ho';generalize ss[j]=x at hrow hx k0 k1 k2 k3;obtain ⟨lo,hi',fr,to⟩:=x;obtain ⟨x1,x2,x3,x4,x5,x6⟩:=hx;simp only at hrow x1 x2 x3 x4 x5 x6 k0 k1 k2 k3;generalize gY ss k=n at *;obtain ⟨g,OP,rfl,hg1,hg2⟩:=ownsRow.shape hown (by omega);have hg0:=hob.get (2*j);have hg9:=hob.get (2*j+1);have e0:=yK o (k:=2*j) (by omega);have e1:=yK o (k:=2*j+1) (by omega);generalize (o[2*j]?).getD 0=a0 at *;generalize (o[2*j+1]?).getD 0=a1 at *;have hbs:=hb.size;have hks:k<2 ^ 63:=by omega
       have HOW:=dB hown;have HB:=dB hb;have HC0:=dB ((HOW.out.cellAt (2*j) (by omega)).trans e0);have HC1:=dB ((HOW.out.cellAt (2*j+1) (by omega)).trans e1);have HF:=dB (HOW.out.frozenAt);clear hown hb hc e0 e1 hob
       have hq:nT k fr to=1∨nT k fr to=2∨nT k fr to=0:=by
        unfold nT;split
        ·exact .inl rfl
        ·split
         ·exact .inr (.inl rfl)
         ·exact .inr (.inr rfl)
       rcases hq with hq|hq|hq
       ·rw [aj hq] at hrow;have HQ:=dB hq;have HR:=dB hrow;clear hq hrow
        go_wp2_with (go_at_call 117;refine (Lo.Qo _ _ _ _ _ _ _ x5 x6 hks HQ.out).mono ?_;rintro e w4 ⟨rfl,hb4⟩)
        have hold:∀y,y<wr.heap.size->w4.heap[y]?=wr.heap[y]?:= λy hy=>(hb4.block y (by simp;omega)).trans (dw _ _ _ hy)
        have EW:w4.ownsRow w.heap.size 51 2 (.slice (some ⟨g,0,none⟩) ss.length OP) ss.length (jA o):=ownsRow.below (HOW.out.alloc _) hb4;have AL:Below w.heap.size w w4:=(HB.out.alloc hbs _).trans (hb4.mono (by simp;omega))
        have k9:∀i:Nat,w4.cell? ⟨wr.heap.size,i,none⟩=(#[.int .i64 lo,.int .i64 hi',.int .i64 (fr:Int),.int .i64 (to:Int)]:Array Value)[i]?:= λi=>by
         rw [dA (w:=wr.alloc (.cells #[.int .i64 lo,.int .i64 hi',.int .i64 (fr:Int),.int .i64 (to:Int)] 142)) (hb4.block wr.heap.size (by simp)),dm _ _ _ _ rfl]
        have k90:w4.cell? ⟨wr.heap.size,0,none⟩=some (.int .i64 lo):=k9 0;have k91:w4.cell? ⟨wr.heap.size,1,none⟩=some (.int .i64 hi'):=k9 1
        have kg:w4.cell? ⟨g,j*2+0,none⟩=some (.int .i64 a0):=by
         rw [show j*2+0=2*j+0 from by omega,dA (w:=wr) (hold g hg2)];exact HC0.out
        have kf:w4.frozen? ⟨g,j*2+0,none⟩=false:=by rw [World.frozen?_of_block (w:=wr) (hold g hg2)];exact HF.out _
        have HP4:=dB ((HP.out.alloc (.cells #[.int .i64 lo,.int .i64 hi',.int .i64 (fr:Int),.int .i64 (to:Int)] 142)).keep λg' hg'=>hb4.block g' (by have :=(HOW.out.lt g' hg').2;simp;omega));have HO4:=dB EW;have HBD:=dB AL;clear hold k9 EW AL hb4 k0 k1 k2 k3
        try simp only [aH] at kg kf
        go_still_tail 13,Lo.mixed
        change wpList _ _ _ _ _ w4.drew;have kf':w4.drew.frozen? ⟨g,j*2,none⟩=false:=kf;have kg':w4.drew.cell? ⟨g,j*2,none⟩=some (.int .i64 a0):=kg;have HO5:Hid (w4.drew.ownsRow w.heap.size 51 2 (.slice (some ⟨g,0,none⟩) ss.length OP) ss.length (jA o)):=HO4;have IY:Below w.heap.size w w4.drew:=HBD.out.drew;have HP5:Hid (Par.eU w4.drew (.slice (some ⟨g,0,none⟩) ss.length OP)):=HP4;have MZ:=dB IY;clear HP4;clear IY HO4 HBD kf kg;generalize w4.drew=w5 at *;go_wp2;go_roundw
        case rel=>
         refine ⟨j+1,by omega,by go_num,?_,HP5.out.setCell rfl,MZ.out.setCell (by show w.heap.size<=g;omega) _⟩;have hv:(if a0<n+hi' then n+hi' else a0)=max a0 (n+hi'):=by split<;>omega
         have :=(HO5.out.stored (2*j) (.int .i64 (max a0 (n+hi')))).1;rw [Hl, <-HR.out, <-YF.out] at this;rw [show j*2=2*j from Nat.mul_comm _ _]
         first |exact this|(rw [hv];exact this)
        case measure=>simp [intOf];omega
       ·rw [aa (by omega),aj hq] at hrow;have HQ:=dB hq;have HR:=dB hrow;clear hq hrow
        go_wp2_with (go_at_call 117;refine (Lo.Qo _ _ _ _ _ _ _ x5 x6 hks HQ.out).mono ?_;rintro e w4 ⟨rfl,hb4⟩)
        have hold:∀y,y<wr.heap.size->w4.heap[y]?=wr.heap[y]?:= λy hy=>(hb4.block y (by simp;omega)).trans (dw _ _ _ hy)
        have EW:w4.ownsRow w.heap.size 51 2 (.slice (some ⟨g,0,none⟩) ss.length OP) ss.length (jA o):=ownsRow.below (HOW.out.alloc _) hb4;have AL:Below w.heap.size w w4:=(HB.out.alloc hbs _).trans (hb4.mono (by simp;omega))
        have k9:∀i:Nat,w4.cell? ⟨wr.heap.size,i,none⟩=(#[.int .i64 lo,.int .i64 hi',.int .i64 (fr:Int),.int .i64 (to:Int)]:Array Value)[i]?:= λi=>by
         rw [dA (w:=wr.alloc (.cells #[.int .i64 lo,.int .i64 hi',.int .i64 (fr:Int),.int .i64 (to:Int)] 142)) (hb4.block wr.heap.size (by simp)),dm _ _ _ _ rfl]
        have k90:w4.cell? ⟨wr.heap.size,0,none⟩=some (.int .i64 lo):=k9 0;have k91:w4.cell? ⟨wr.heap.size,1,none⟩=some (.int .i64 hi'):=k9 1
        have kg:w4.cell? ⟨g,j*2+1,none⟩=some (.int .i64 a1):=by
         rw [show j*2+1=2*j+1 from by omega,dA (w:=wr) (hold g hg2)];exact HC1.out
        have kf:w4.frozen? ⟨g,j*2+1,none⟩=false:=by rw [World.frozen?_of_block (w:=wr) (hold g hg2)];exact HF.out _
        have HP4:=dB ((HP.out.alloc (.cells #[.int .i64 lo,.int .i64 hi',.int .i64 (fr:Int),.int .i64 (to:Int)] 142)).keep λg' hg'=>hb4.block g' (by have :=(HOW.out.lt g' hg').2;simp;omega));have HO4:=dB EW;have HBD:=dB AL;clear hold k9 EW AL hb4 k0 k1 k2 k3
        try simp only [aH] at kg kf
        go_still_tail 13,Lo.mixed
        change wpList _ _ _ _ _ w4.drew;have kf':w4.drew.frozen? ⟨g,j*2+1,none⟩=false:=kf;have kg':w4.drew.cell? ⟨g,j*2+1,none⟩=some (.int .i64 a1):=kg;have HO5:Hid (w4.drew.ownsRow w.heap.size 51 2 (.slice (some ⟨g,0,none⟩) ss.length OP) ss.length (jA o)):=HO4;have IY:Below w.heap.size w w4.drew:=HBD.out.drew;have HP5:Hid (Par.eU w4.drew (.slice (some ⟨g,0,none⟩) ss.length OP)):=HP4;have MZ:=dB IY;clear HP4;clear IY HO4 HBD kf kg;generalize w4.drew=w5 at *;go_wp2;go_roundw
        case rel=>
         refine ⟨j+1,by omega,by go_num,?_,HP5.out.setCell rfl,MZ.out.setCell (by show w.heap.size<=g;omega) _⟩;have hv:(if lo - n<a1 then lo - n else a1)=min a1 (lo - n):=by split<;>omega
         have :=(HO5.out.stored (2*j+1) (.int .i64 (min a1 (lo - n)))).1;rw [Hl, <-HR.out, <-YF.out] at this;rw [show j*2=2*j from Nat.mul_comm _ _]
         first |exact this|(rw [hv];exact this)
        case measure=>simp [intOf];omega
       ·rw [aa (by omega),aa (by omega)] at hrow;have HQ:=dB hq;have HR:=dB hrow;clear hq hrow
        go_wp2_with (go_at_call 117;refine (Lo.Qo _ _ _ _ _ _ _ x5 x6 hks HQ.out).mono ?_;rintro e w4 ⟨rfl,hb4⟩)
        have EW:w4.ownsRow w.heap.size 51 2 (.slice (some ⟨g,0,none⟩) ss.length OP) ss.length (jA o):=ownsRow.below (HOW.out.alloc _) hb4;have AL:Below w.heap.size w w4:=(HB.out.alloc hbs _).trans (hb4.mono (by simp;omega));have HP4:=dB ((HP.out.alloc (.cells #[.int .i64 lo,.int .i64 hi',.int .i64 (fr:Int),.int .i64 (to:Int)] 142)).keep λg' hg'=>hb4.block g' (by have :=(HOW.out.lt g' hg').2;simp;omega));have HO4:=dB EW;have HBD:=dB AL;clear EW AL hb4;go_roundw
        case rel=>exact ⟨j+1,by omega,by go_num,by rw [YF.out,HR.out];exact HO4.out,HP4.out,HBD.out⟩
        case measure=>simp [intOf];omega
      ·obtain rfl:j=ss.length:=by omega
       go_wp2;go_roundw
       case rel=>exact ⟨k+1,by omega,by go_num,hown,HP.out,hb⟩
       case measure=>simp [intOf];omega
    ·obtain rfl:k=m:=by omega
     go_wp2;go_ret;exact ⟨_,rfl,by unfold qg;rw [hm];exact hown,HP1.out,hb⟩
end
section
variable [Lo.St]
def fC (lo hi a b:Int):Bool:=decide (a<=lo)&&decide (lo<=hi)&&decide (hi<=b)
theorem Lo.lV (lo hi a b:Int) (w:World):Calls Lo.prog 50 #[.agg #[.int .i64 lo,.int .i64 hi],.int .i64 a,.int .i64 b] w λe w'=>e= .returned (.bool (fC lo hi a b))∧Below w.heap.size w w':=by
 obtain ⟨U,U2,U3,U4,U5,U6⟩:=Lo.facts;unfold fC
 by_cases h1:a<=lo
 ·have d1:decide (a<=lo)=true:=by simpa using h1
  by_cases h2:lo<=hi
  ·have d2:decide (lo<=hi)=true:=by simpa using h2
   go_enter Lo.get Tryz.func50,Tryz.ntmps50;go_wp2;go_ret;exact ⟨by simp [d1,d2],(dz _ _).alloc (aJ _) _⟩
  ·have d2:decide (lo<=hi)=false:=by simpa using h2
   go_enter Lo.get Tryz.func50,Tryz.ntmps50;go_wp2;go_ret;exact ⟨by simp [d1,d2],(dz _ _).alloc (aJ _) _⟩
 ·have d1:decide (a<=lo)=false:=by simpa using h1
  go_enter Lo.get Tryz.func50,Tryz.ntmps50;go_wp2;go_ret;exact ⟨by simp [d1],(dz _ _).alloc (aJ _) _⟩
abbrev KU (w:World) (B:Nat) (A:Option Addr) (l:List ByteArray):Prop:=Rd w B 1 A l.length λi _=>.string ((l[i]?).getD ByteArray.empty)
theorem Kw {w:World} {bb off k:Nat} {l:List ByteArray} (hc:∀i j,i<l.length->j<1->w.cell? ⟨bb,off+(i*1+j),none⟩=some (.string ((l[i]?).getD ByteArray.empty))) (hlt:k<l.length):w.cell? ⟨bb,off+k,none⟩=some (.string l[k]):=by
 have :=hc k 0 hlt (by omega);rw [Nat.mul_one,aH] at this;rw [this,aO hlt];rfl
def Di (s:ByteArray):List ByteArray->Nat->Int
 | [],_=> -1
 |x::l,k=>if s.toList=x.toList then (k:Int) else Di s l (k+1)
theorem JN (s:ByteArray) (l:List ByteArray) (k:Nat) (h:k<l.length):Di s (l.drop k) k=if s.toList=l[k].toList then (k:Int) else Di s (l.drop (k+1)) (k+1):=by
 rw [aW h];rfl
def KV (s:ByteArray) (l:List ByteArray):Bool:=l.any λx=>s.toList==x.toList
theorem Qp (s:ByteArray) (l:List ByteArray) (k:Nat):decide (0<=Di s l k)=KV s l:=by
 induction l generalizing k with
 |nil=>rfl
 |cons x l ih=>
  unfold Di KV
  by_cases h:s.toList=x.toList
  ·rw [aj h];simp [h]
  ·rw [aa h,ih];simp [h,KV]
theorem Lo.Vx {w:World} {B:Nat} {A:Option Addr} {l:List ByteArray} {c:Nat} {s:ByteArray} (h1:KU w B A l) (hl:l.length<=64):
 Calls Lo.prog 120 #[.slice A l.length c,.string s] w λe w'=>e= .returned (.int .i64 (Di s l 0))∧w'=w:=by
 obtain ⟨U,U2,U3,U4,U5,U6⟩:=Lo.facts;go_enter Lo.get Tryz.func120,Tryz.ntmps120;go_wp2
 go_loopw [8] (λi wr=>∃k:Nat,k<=l.length∧i= .int .i64 (k:Int)∧Di s (l.drop k) k=Di s l 0∧wr=w) (λi _=>l.length - (intOf i).toNat)
 case atStart=>exact ⟨0,bq _,rfl,rfl,rfl⟩
 case round=>
  obtain ⟨k,hk,rfl,hx,rfl⟩:=hrel
  by_cases hlt:k<l.length
  ·have hlt':(k:Int)<(l.length:Int):=by omega
   obtain ⟨bb,off,rfl,hbb,hc⟩:=h1 (by omega);have r1:=Kw hc hlt;have hd:=JN s l k hlt;rw [hx] at hd;clear hc h1 hx;generalize l[k]=x at r1 hd
   by_cases hq:s.toList=x.toList
   ·rw [aj hq] at hd;have d:(s.toList==x.toList)=true:=by simpa using hq
    have HD:=dB hd;clear hd;go_wp2;go_ret;exact ⟨by rw [HD.out];rfl,by simp⟩
   ·rw [aa hq] at hd;have d:(s.toList==x.toList)=false:=by simpa using hq
    have HD:=dB hd;clear hd;go_wp2;go_roundw
    case rel=>exact ⟨k+1,by omega,by go_num,HD.out.symm,by simp⟩
    case measure=>simp [intOf];omega
  ·obtain rfl:k=l.length:=by omega
   have hx':(-1:Int)=Di s l 0:=by rw [<-hx,aF];rfl
   have HX:=dB hx';clear hx hx';go_wp2;go_ret;exact ⟨by rw [<-HX.out];rfl,by simp⟩
theorem Lo.Vy {w:World} {B:Nat} {A:Option Addr} {l:List ByteArray} {c:Nat} {s:ByteArray} (h1:KU w B A l) (hl:l.length<=64):
 Calls Lo.prog 84 #[.slice A l.length c,.string s] w λe w'=>e= .returned (.bool (KV s l))∧w'=w:=by
 have U:=Lo.underlying;have U2:=Lo.runUnderlying;have C:=Lo.call Tryz.func120;go_enter Lo.get Tryz.func84,Tryz.ntmps84
 go_wp2_with (go_at_call 120;refine (Lo.Vx h1 hl).mono ?_;rintro e w1 ⟨rfl,rfl⟩)
 go_ret;exact ⟨by rw [<-Qp s l 0];rfl,by simp⟩
end
end Go.Proofs
