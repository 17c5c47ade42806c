/- Part 3. -/
import Derived.Test.YtnemnkmojiljmaaF02
set_option maxRecDepth 100000
set_option maxHeartbeats 8000000
set_option linter.all false
section
namespace Go.Proofs
open Go Go.RowKit
variable [Lo.St]
def qg (n l h:Int):Bool:=decide (l<=n)&&decide (n<=h)
theorem Lo.dx (n l h:Int) (w:World):Calls Lo.prog 28 #[.int .i64 n,.int .i64 l,.int .i64 h] w λe w'=>e= .returned (.bool (qg n l h))∧w=w':=by
 have U:=(@Lo.underlying inferInstance);have U2:=(@Lo.runUnderlying inferInstance)
 by_cases h1:l<=n
 ·have hd:decide (l<=n)=true:=by simpa using h1
  go_enter Lo.func28,Try.ntmps28;go_wp2;go_ret;exact ⟨by simp [qg,hd],rfl⟩
 ·have hd:decide (l<=n)=false:=by simpa using h1
  go_enter Lo.func28,Try.ntmps28;go_wp2;go_ret;exact ⟨by simp [qg,hd],rfl⟩
end Go.Proofs
end
section
namespace Go.Proofs
open Go Go.RowKit
variable [Lo.St]
theorem Lo.Q9 (a b c d:Int) (w:World):Calls Lo.prog 52 #[.agg #[.int .i64 a,.int .i64 b],.agg #[.int .i64 c,.int .i64 d]] w λe w'=>e= .returned (.agg #[.int .i64 (max a c),.int .i64 (min b d)])∧Below w.heap.size w w':=by
 obtain ⟨U,U2,U3,U4,U5,U6⟩:=@Lo.facts inferInstance;go_enter Lo.func52,Try.ntmps52;go_wp2
 all_goals exact bodyPost_ret (v:=.agg #[.int .i64 (max a c),.int .i64 (min b d)]) (by simp [results,Try.results52,go_sem,U,U2,U3,U4,U5,U6];first |done|omega|(constructor<;>omega)) rfl ⟨rfl,(((Below.refl _ _).alloc (aj _) _).alloc (by simp) _).alloc (by simp;omega) _⟩
theorem Lo.mX (a b:Int) (w:World):Calls Lo.prog 53 #[.agg #[.int .i64 a,.int .i64 b]] w λe w'=>e= .returned (.agg #[.int .i64 a,.int .i64 b])∧Below w.heap.size w w':=by
 obtain ⟨U,U2,U3,U4,U5,U6⟩:=@Lo.facts inferInstance;go_enter Lo.func53,Try.ntmps53;go_wp2;exact bodyPost_ret (v:=.agg #[.int .i64 a,.int .i64 b]) (by simp [results,Try.results53,go_sem,U,U2,U3,U4,U5,U6]) rfl ⟨rfl,((Below.refl _ _).alloc (aj _) _).alloc (by simp) _⟩
theorem Lo.zX (a b f t:Int) (w:World):Calls Lo.prog 83 #[.agg #[.int .i64 a,.int .i64 b,.int .i64 f,.int .i64 t]] w λe w'=>e= .returned (.bool (decide (a > b)))∧Below w.heap.size w w':=by
 obtain ⟨U,U2,U3,U4,U5,U6⟩:=@Lo.facts inferInstance;go_enter Lo.func83,Try.ntmps83;go_wp2;go_ret;exact ⟨rfl,(Below.refl _ _).alloc (aj _) _⟩
def bit (s:Nat) (i:Nat):Nat:=s / 2 ^ i%2
theorem Lj (s i:Nat):bit s i<2:=Nat.mod_lt _ (by decide)
theorem Dj (n:Int) (h₀:0<=n) (h₁:n<2 ^ 63):IntKind.u64.wrap n=n:=by rw [IntKind.wrap_u64];omega
theorem Ii (s i:Nat) (h:s<2 ^ 63):bits .and .u64 ((s:Int) / 2 ^ i) 1=((bit s i:Nat):Int):=by
 have h1:s / 2 ^ i<=s:=Nat.div_le_self _ _;have e3:((s:Int) / 2 ^ i)=((s / 2 ^ i:Nat):Int):=by simp
 rw [e3];unfold bit;generalize s / 2 ^ i=m at h1;have h2:=Go.bits_mask .u64 63 (by decide) Dj 1 (by decide) (m:Int) (by omega) (by omega);have e:((2:Int) ^ 1 - 1)=1:=by decide
 have e2:((2:Int) ^ 1)=2:=by decide
 rw [e,e2] at h2;rw [h2];simp
theorem below_drewN {B:Nat} {w w':World} (h:Below B w w') (n:Nat):Below B w (w'.drewN n):=⟨h.os,h.tape,h.output,h.size,h.block⟩
def lQ (s f t:Nat):Int:=if bit s f<bit s t then 1 else if bit s f > bit s t then 2 else 0
theorem Lo.Yp (a b:Int) (f t s:Nat) (w:World) (hf:f<64) (ht:t<64) (hs:s<2 ^ 63):Calls Lo.prog 81 #[.agg #[.int .i64 a,.int .i64 b,.int .i64 (f:Int),.int .i64 (t:Int)],.int .u64 (s:Int)] w λe w'=>e= .returned (.int .i64 (lQ s f t))∧Below w.heap.size w w':=by
 obtain ⟨U,U2,U3,U4,U5,U6⟩:=@Lo.facts inferInstance;have b1:=Ii s f hs;have b2:=Ii s t hs;have c1:=Lj s f;have c2:=Lj s t;generalize hx:bit s f=x at b1 c1;generalize hy:bit s t=y at b2 c2;have hsd:lQ s f t=if x<y then 1 else if x > y then 2 else 0:=by unfold lQ;rw [hx,hy]
 rw [hsd];clear hsd hx hy;rcases Nat.lt_trichotomy x y with h|h|h
 ·have d1:decide ((x:Int)<(y:Int))=true:=by simpa using h
  rw [if_pos h];go_enter Lo.func81,Try.ntmps81;go_wp2
  go_quiet (fail)
  go_wp2;go_ret;exact ⟨rfl,below_drewN ((Below.refl _ _).alloc (aj _) _) _⟩
 ·subst h;rw [if_neg (Nat.lt_irrefl _),if_neg (Nat.lt_irrefl _)];go_enter Lo.func81,Try.ntmps81;go_wp2
  go_quiet (fail)
  go_wp2;go_ret;exact ⟨rfl,below_drewN ((Below.refl _ _).alloc (aj _) _) _⟩
 ·have d1:decide ((x:Int)<(y:Int))=false:=by simp;omega
  have d2:decide ((y:Int)<(x:Int))=true:=by simp;omega
  rw [if_neg (by omega),if_pos h];go_enter Lo.func81,Try.ntmps81;go_wp2
  go_quiet (fail)
  go_wp2;go_ret;exact ⟨rfl,below_drewN ((Below.refl _ _).alloc (aj _) _) _⟩
end Go.Proofs
end
section
namespace Go.Proofs
open Go Go.RowKit
variable [Lo.St]
def Rd (w:World) (B size:Nat) (A:Option Addr) (n:Nat) (f:Nat->Nat->Value):Prop:=
 0<n->∃b off,A=some ⟨b,off,none⟩∧b<B∧∀i j,i<n->j<size->w.cell? ⟨b,off+(i*size+j),none⟩=some (f i j)
theorem Rd.keep {w w':World} {B size:Nat} {A:Option Addr} {n:Nat} {f:Nat->Nat->Value} (h:Rd w B size A n f) (hk:∀b o,b<B->w'.cell? ⟨b,o,none⟩=w.cell? ⟨b,o,none⟩):Rd w' B size A n f:= λhn=>by
 obtain ⟨b,off,e,hb,hc⟩:=h hn;exact ⟨b,off,e,hb, λi j hi hj=>(hk _ _ hb).trans (hc i j hi hj)⟩
theorem bV {W w1:World} {B:Nat} (hb:Below B W w1):∀b o,b<B->w1.cell? ⟨b,o,none⟩=W.cell? ⟨b,o,none⟩:= λb o h=>hb.cell (p:=⟨b,o,none⟩) h
theorem Dk {W w1:World} {B:Nat} (hb:Below B W w1):∀b o,b<B->w1.frozen? ⟨b,o,none⟩=W.frozen? ⟨b,o,none⟩:= λb o h=>hb.frozen (p:=⟨b,o,none⟩) h
structure dL where
 lo:Int
 hi:Int
 fr:Nat
 to:Nat
 deriving DecidableEq
def dL.cells (x:dL):Nat->Value
 |0=>.int .i64 x.lo
 |1=>.int .i64 x.hi
 |2=>.int .i64 (x.fr:Int)
 |_=>.int .i64 (x.to:Int)
def vP (ss:List dL) (i j:Nat):Value:=((ss[i]?).getD ⟨0,0,0,0⟩).cells j
def dL.ok (x:dL):Prop:=0<=x.lo∧x.lo<=8000000∧0<=x.hi∧x.hi<=8000000∧x.fr<64∧x.to<64
def U1 (s:Nat) (n:Int) (x:dL):Int:=if lQ s x.fr x.to=1 then n - x.hi else if lQ s x.fr x.to=2 then n+x.lo else n
def fe (ss:List dL) (s:Nat):Int:=ss.foldl (U1 s) 0
structure jX (w:World) (B b:Nat) (ss:List dL) (steps nodes:Nat) (A:Option Addr) (cap:Nat):Prop where
 lt:b<B
 c0:w.cell? ⟨b,0,none⟩=some (.slice A ss.length cap)
 c1:w.cell? ⟨b,1,none⟩=some (.int .i64 (steps:Int))
 c2:w.cell? ⟨b,2,none⟩=some (.int .i64 (nodes:Int))
 rd:Rd w B 4 A ss.length (vP ss)
 ok:∀x∈ss,x.ok
 len:ss.length<=64
theorem Jp (ss:List dL) (s:Nat) (h:∀x∈ss,x.ok):∀n:Int, -8000000*ss.length<=(ss.foldl (U1 s) n) - n∧(ss.foldl (U1 s) n) - n<=8000000*ss.length:=by
 induction ss with
 |nil=>intro n;simp
 |cons x ss ih=>
  intro n;have :=ih (λy hy=>h y (aA _ hy)) (U1 s n x);obtain ⟨a,b,c,d,_⟩:=h x (az ..);simp only [List.foldl_cons,List.length_cons];have e: -8000000<=U1 s n x - n∧U1 s n x - n<=8000000:=by unfold U1;split<;>(try split)<;>omega
  omega
theorem Ll (ss:List dL) (s k:Nat) (h:k<ss.length):fe (ss.take (k+1)) s=U1 s (fe (ss.take k) s) ss[k]:=by
 unfold fe;rw [aP h,List.foldl_append];rfl
theorem Lo.NC (q:Int) (a b:Int) (f t s:Nat) (w:World) (hf:f<64) (ht:t<64) (hs:s<2 ^ 63) (h:lQ s f t=q):Calls Lo.prog 81 #[.agg #[.int .i64 a,.int .i64 b,.int .i64 (f:Int),.int .i64 (t:Int)],.int .u64 (s:Int)] w λe w'=>e= .returned (.int .i64 q)∧Below w.heap.size w w':=h ▸ Lo.Yp a b f t s w hf ht hs
theorem Lo.uM {w:World} {B b:Nat} {ss:List dL} {st nd:Nat} {A:Option Addr} {cap:Nat} (hw:jX w B b ss st nd A cap) (hB:B<=w.heap.size) (s:Nat) (hs:s<2 ^ 63):
 Calls Lo.prog 55 #[.pointer (some ⟨b,0,none⟩),.int .u64 (s:Int)] w λe w'=>e= .returned (.int .i64 (fe ss s))∧Below w.heap.size w w':=by
 obtain ⟨U,U2,U3,U4,U5,U6⟩:=@Lo.facts inferInstance;have c0:=hw.c0;have hlen:=hw.len;go_enter Lo.func55,Try.ntmps55;go_wp2
 go_loopw [5,13] (λn i wr=>∃k:Nat,k<=ss.length∧i= .int .i64 (k:Int)∧n= .int .i64 (fe (ss.take k) s)∧Below w.heap.size w wr) (λ_ i _=>ss.length - (intOf i).toNat)
 case atStart=>exact ⟨0,aL _,rfl,rfl,Below.refl _ _⟩
 case round=>
  obtain ⟨k,hk,rfl,rfl,hb⟩:=hrel
  by_cases hlt:k<ss.length
  ·obtain ⟨bb,off,rfl,hbb,hc⟩:=hw.rd (by omega);have hx:=hw.ok ss[k] (aI hlt);have ht:=Ll ss s k hlt;have hbd:=Jp (ss.take k) s (λy hy=>hw.ok y (aU hy)) 0;have hl:(ss.take k).length=k:=by simp;omega
   rw [hl] at hbd;have e0:(ss.take k).foldl (U1 s) 0=fe (ss.take k) s:=rfl;rw [e0] at hbd;clear e0 hl;have hg:ss[k]?=some ss[k]:=ax hlt
   generalize ss[k]=x at hx ht hg;obtain ⟨lo,hi,fr,to⟩:=x;obtain ⟨x1,x2,x3,x4,x5,x6⟩:=hx;simp only at x1 x2 x3 x4 x5 x6
   have cell:∀j,j<4->wr.cell? ⟨bb,off+(k*4+j),none⟩=some (dL.cells ⟨lo,hi,fr,to⟩ j):= λj hj=>by
    rw [bV hb _ _ (by omega),hc k j hlt hj];unfold vP;rw [hg];rfl
   have k0:wr.cell? ⟨bb,off+k*4,none⟩=some (.int .i64 lo):=cell 0 (by omega);have k1:wr.cell? ⟨bb,off+k*4+1,none⟩=some (.int .i64 hi):=cell 1 (by omega);have k2:wr.cell? ⟨bb,off+k*4+2,none⟩=some (.int .i64 (fr:Int)):=cell 2 (by omega);have k3:wr.cell? ⟨bb,off+k*4+3,none⟩=some (.int .i64 (to:Int)):=cell 3 (by omega);have hlt':(k:Int)<(ss.length:Int):=by omega
   have hBw:w.heap.size<=wr.heap.size:=hb.size;have HT:=Lib.hid ht;have HB:=Lib.hid hb;have HC:=Lib.hid hc;have HG:=Lib.hid hg;clear ht hb hc hg cell c0;generalize fe (ss.take k) s=n at hbd HT;have C:=(@Lo.call81 inferInstance)
   have hq:lQ s fr to=1∨lQ s fr to=2∨lQ s fr to=0:=by
    unfold lQ;split
    ·exact .inl rfl
    ·split
     ·exact .inr (.inl rfl)
     ·exact .inr (.inr rfl)
   rcases hq with hq|hq|hq
   all_goals
    have HQ:=Lib.hid hq;clear hq
    go_wp2_with (go_at_call 81;refine (Lo.NC _ _ _ _ _ _ _ x5 x6 hs HQ.out).mono ?_;rintro e w1 ⟨rfl,hb1⟩;have hc1:=bV hb1)
    go_roundw
    case rel=>exact ⟨k+1,by omega,by go_num,by rw [HT.out];simp [U1,HQ.out],(HB.out.alloc hBw _).trans (hb1.mono (by simp;omega))⟩
    case measure=>simp [intOf];omega
  ·obtain rfl:k=ss.length:=by omega
   rw [List.take_length];clear c0;go_wp2;go_ret;exact ⟨rfl,hb⟩
end Go.Proofs
end
section
namespace Go.Proofs
open Go Go.RowKit
variable [Lo.St]
theorem Ij {w:World} {B:Nat} {ss:List dL} {bb off k:Nat} (hc:∀i j,i<ss.length->j<4->w.cell? ⟨bb,off+(i*4+j),none⟩=some (vP ss i j)) (hlt:k<ss.length):
 w.cell? ⟨bb,off+k*4,none⟩=some (.int .i64 ss[k].lo)∧w.cell? ⟨bb,off+k*4+1,none⟩=some (.int .i64 ss[k].hi)∧w.cell? ⟨bb,off+k*4+2,none⟩=some (.int .i64 (ss[k].fr:Int))∧w.cell? ⟨bb,off+k*4+3,none⟩=some (.int .i64 (ss[k].to:Int)):=by
 have hg:ss[k]?=some ss[k]:=ax hlt
 have cell:∀j,j<4->w.cell? ⟨bb,off+(k*4+j),none⟩=some (dL.cells ss[k] j):= λj hj=>by
  rw [hc k j hlt hj];unfold vP;rw [hg];rfl
 exact ⟨cell 0 (by omega),cell 1 (by omega),cell 2 (by omega),cell 3 (by omega)⟩
def lD (ss:List dL):Bool:=ss.any λx=>decide (x.lo > x.hi)
def mY:List dL->Nat->Int
 | [],_=> -1
 |x::l,k=>if x.lo > x.hi then (k:Int) else mY l (k+1)
theorem Jq (ss:List dL) (k:Nat):decide (0<=mY ss k)=lD ss:=by
 induction ss generalizing k with
 |nil=>rfl
 |cons x l ih=>
  unfold mY lD
  by_cases h:x.lo > x.hi
  ·rw [if_pos h];simp [h]
  ·rw [if_neg h,ih];simp [h,lD]
theorem FV (ss:List dL) (k:Nat) (h:k<ss.length):mY (ss.drop k) k=if ss[k].lo > ss[k].hi then (k:Int) else mY (ss.drop (k+1)) (k+1):=by
 rw [aG h];rfl
theorem Lo.OX {w:World} {B:Nat} {ss:List dL} {A:Option Addr} {cap:Nat} (hr:Rd w B 4 A ss.length (vP ss)) (hlen:ss.length<=64) (hB:B<=w.heap.size):
 Calls Lo.prog 96 #[.slice A ss.length cap,.func (.func 83) #[] #[]] w λe w'=>e= .returned (.int .i64 (mY ss 0))∧Below w.heap.size w w':=by
 obtain ⟨U,U2,U3,U4,U5,U6⟩:=@Lo.facts inferInstance;have C:=(@Lo.call83 inferInstance);go_enter Lo.func96,Try.ntmps96;go_wp2
 go_loopw [8] (λi wr=>∃k:Nat,k<=ss.length∧i= .int .i64 (k:Int)∧mY (ss.drop k) k=mY ss 0∧Below w.heap.size w wr) (λi _=>ss.length - (intOf i).toNat)
 case atStart=>exact ⟨0,aL _,rfl,rfl,Below.refl _ _⟩
 case round=>
  obtain ⟨k,hk,rfl,hx,hb⟩:=hrel
  by_cases hlt:k<ss.length
  ·obtain ⟨bb,off,rfl,hbb,hc⟩:=(hr.keep (λb o h=>bV hb b o (by omega))) (by omega);obtain ⟨k0,k1,k2,k3⟩:=Ij (B:=B) hc hlt;rw [FV ss k hlt] at hx;generalize ss[k]=x at hx k0 k1 k2 k3;obtain ⟨lo,hi,fr,to⟩:=x;simp only at hx k0 k1 k2 k3;have hlt':(k:Int)<(ss.length:Int):=by omega
   have HB:=Lib.hid hb;clear hb hc hr
   by_cases hcr:lo > hi
   ·rw [if_pos hcr] at hx;have HX:=Lib.hid hx;have d1:decide (lo > hi)=true:=by simpa using hcr
    clear hx
    go_wp2_with (go_at_call 83;refine (Lo.zX _ _ _ _ _).mono ?_;rintro e w1 ⟨rfl,hb1⟩)
    go_ret;exact ⟨by rw [HX.out];rfl,HB.out.trans (hb1.mono HB.out.size)⟩
   ·rw [if_neg hcr] at hx;have HX:=Lib.hid hx;have d1:decide (lo > hi)=false:=by simpa using hcr
    clear hx
    go_wp2_with (go_at_call 83;refine (Lo.zX _ _ _ _ _).mono ?_;rintro e w1 ⟨rfl,hb1⟩)
    go_roundw
    case rel=>exact ⟨k+1,by omega,by go_num,HX.out,HB.out.trans (hb1.mono HB.out.size)⟩
    case measure=>simp [intOf];omega
  ·obtain rfl:k=ss.length:=by omega
   have hx':(-1:Int)=mY ss 0:=by rw [<-hx,List.drop_length];rfl
   clear hx;have HX:=Lib.hid hx';clear hx';go_wp2;go_ret;exact ⟨by rw [HX.out];rfl,hb⟩
end Go.Proofs
end
section
namespace Go.Proofs
open Go Go.RowKit
variable [Lo.St]
theorem Lo.Lm {w:World} {B:Nat} {ss:List dL} {A:Option Addr} {cap:Nat} (hr:Rd w B 4 A ss.length (vP ss)) (hlen:ss.length<=64) (hB:B<=w.heap.size):
 Calls Lo.prog 82 #[.slice A ss.length cap,.func (.func 83) #[] #[]] w λe w'=>e= .returned (.bool (lD ss))∧Below w.heap.size w w':=by
 obtain ⟨U,U2,U3,U4,U5,U6⟩:=@Lo.facts inferInstance;have C:=(@Lo.call96 inferInstance);go_enter Lo.func82,Try.ntmps82
 go_wp2_with (go_at_call 96;refine (Lo.OX hr hlen hB).mono ?_;rintro e w1 ⟨rfl,hb1⟩)
 go_ret;exact ⟨by rw [<-Jq ss 0];rfl,hb1⟩
theorem jX.keep {w w':World} {B b:Nat} {ss:List dL} {st nd:Nat} {A:Option Addr} {cap:Nat} (h:jX w B b ss st nd A cap) (hk:∀b o,b<B->w'.cell? ⟨b,o,none⟩=w.cell? ⟨b,o,none⟩):jX w' B b ss st nd A cap:=
 ⟨h.lt,(hk _ _ h.lt).trans h.c0,(hk _ _ h.lt).trans h.c1,(hk _ _ h.lt).trans h.c2,h.rd.keep hk,h.ok,h.len⟩
theorem Lo.xq {w:World} {B b:Nat} {ss:List dL} {st nd:Nat} {A:Option Addr} {cap:Nat} (hw:jX w B b ss st nd A cap) (hB:B<=w.heap.size):
 Calls Lo.prog 54 #[.pointer (some ⟨b,0,none⟩)] w λe w'=>e= .returned (.bool (lD ss))∧Below w.heap.size w w':=by
 obtain ⟨U,U2,U3,U4,U5,U6⟩:=@Lo.facts inferInstance;have C:=(@Lo.call82 inferInstance);have c0:=hw.c0;go_enter Lo.func54,Try.ntmps54
 go_wp2_with (go_at_call 82;refine (Lo.Lm hw.rd hw.len hB).mono ?_;rintro e w1 ⟨rfl,hb1⟩)
 go_ret;exact ⟨rfl,hb1⟩
def xu (ss:List dL) (m:Nat):Bool:=(List.range m).all λs=>decide (fe ss s<=0)
theorem Jr (ss:List dL) (k:Nat):xu ss (k+1)=(xu ss k&&decide (fe ss k<=0)):=by
 unfold xu;rw [List.range_succ,List.all_append];simp
theorem OY (ss:List dL) {k m:Nat} (h:k<m) (hk:¬fe ss k<=0):xu ss m=false:=by
 unfold xu;rw [List.all_eq_false];exact ⟨k,List.mem_range.2 h,by simpa using hk⟩
def iE (ss:List dL) (nd:Nat):Bool:=!lD ss&&xu ss (2 ^ nd)
theorem Gb (ss:List dL) (s:Nat) (h:∀x∈ss,x.ok) (hl:ss.length<=64): -512000000<=fe ss s∧fe ss s<=512000000:=by
 have :=Jp ss s h 0;unfold fe;omega
theorem xY (nd:Nat) (h:nd<63):IntKind.u64.wrap ((2:Int) ^ nd)=((2 ^ nd:Nat):Int):=by
 have h1:(2:Nat) ^ nd<2 ^ 63:=Nat.pow_lt_pow_right (by decide) h;have h2:(2:Int) ^ nd=((2 ^ nd:Nat):Int):=by simp
 rw [h2];exact Dj _ (Int.natCast_nonneg _) (by exact_mod_cast h1)
theorem Lo.rT {w:World} {B b:Nat} {ss:List dL} {st nd:Nat} {A:Option Addr} {cap:Nat} (hw:jX w B b ss st nd A cap) (hB:B<=w.heap.size) (hnd:nd<=16):
 Calls Lo.prog 30 #[.pointer (some ⟨b,0,none⟩)] w λe w'=>e= .returned (.bool (iE ss nd))∧Below w.heap.size w w':=by
 obtain ⟨U,U2,U3,U4,U5,U6⟩:=@Lo.facts inferInstance;have C:=(@Lo.call54 inferInstance);have C2:=(@Lo.call55 inferInstance);have hp:(2:Nat) ^ nd<=2 ^ 16:=Nat.pow_le_pow_right (by decide) hnd;cases hcr:lD ss with
 |true=>
  have hres:iE ss nd=false:=by unfold iE;rw [hcr];rfl
  rw [hres];go_enter Lo.func30,Try.ntmps30
  go_wp2_with (go_at_call 54;refine (Lo.xq hw hB).mono ?_;rintro e w1 ⟨rfl,hb1⟩;rw [hcr])
  go_ret;exact ⟨rfl,hb1⟩
 |false=>
  have hres:iE ss nd=xu ss (2 ^ nd):=by unfold iE;rw [hcr];rfl
  rw [hres];clear hres;have hsh:=xY nd (by omega);go_enter Lo.func30,Try.ntmps30
  go_wp2_with (go_at_call 54;refine (Lo.xq hw hB).mono ?_;rintro e w1 ⟨rfl,hb1⟩;rw [hcr];have c2:=(bV hb1 _ _ (ak hw.lt hB)).trans hw.c2)
  rw [show ((2:Int) ^ nd)=((2 ^ nd:Nat):Int) from by simp];generalize hm:2 ^ nd=m at hp;have c2':=c2;clear c2 hsh
  go_loopw [11] (λi wr=>∃k:Nat,k<=m∧i= .int .u64 (k:Int)∧xu ss k=true∧Below w.heap.size w wr) (λi _=>m - (intOf i).toNat)
  case atStart=>exact ⟨0,aL _,rfl,rfl,hb1⟩
  case round=>
   obtain ⟨k,hk,rfl,hf,hb⟩:=hrel
   by_cases hlt:k<m
   ·have hlt':(k:Int)<(m:Int):=by omega
    have HF:=Lib.hid hf;have HB:=Lib.hid hb;have hwk:=hw.keep (λb o h=>bV hb b o (by omega));have hBk:B<=wr.heap.size:=aC hB hb.size;have OZ:k<2 ^ 63:=by omega
    clear hf hb hb1 c2'
    by_cases hq:fe ss k<=0
    ·have HQ:=Lib.hid hq;have d1:decide (0<fe ss k)=false:=by simpa using hq
     clear hq
     go_wp2_with (go_at_call 55;refine (Lo.uM hwk hBk k OZ).mono ?_;rintro e w2 ⟨rfl,hb2⟩)
     go_roundw
     case rel=>exact ⟨k+1,by omega,by go_num,by rw [Jr,HF.out];simpa using HQ.out,HB.out.trans (hb2.mono HB.out.size)⟩
     case measure=>simp [intOf];omega
    ·have HQ:=Lib.hid hq;have d1:decide (0<fe ss k)=true:=by simp;omega
     clear hq
     go_wp2_with (go_at_call 55;refine (Lo.uM hwk hBk k OZ).mono ?_;rintro e w2 ⟨rfl,hb2⟩)
     go_ret;exact ⟨by rw [hm,OY ss hlt (Int.not_le.2 HQ.out)];rfl,HB.out.trans (hb2.mono HB.out.size)⟩
   ·obtain rfl:k=m:=by omega
    go_wp2;go_ret;exact ⟨by rw [hm,hf];rfl,hb⟩
end Go.Proofs
end
section
namespace Go.Proofs
open Go Go.RowKit
variable [Lo.St]
def fo (ss:List dL) (nd set:Nat) (much:Bool):Bool:=
 if set=0 then !much&&lD ss else if much then decide (0<fe ss (2 ^ nd - 1 - set)) else decide (0<fe ss set)
theorem Lo.O0 {w:World} {B b:Nat} {ss:List dL} {st nd:Nat} {A:Option Addr} {cap:Nat} (hw:jX w B b ss st nd A cap) (hB:B<=w.heap.size):
 Calls Lo.prog 38 #[.pointer (some ⟨b,0,none⟩),.int .u64 0,.bool false] w λe w'=>e= .returned (.bool (lD ss))∧Below w.heap.size w w':=by
 have U:=(@Lo.underlying inferInstance);have U2:=(@Lo.runUnderlying inferInstance);have C:=(@Lo.call54 inferInstance);go_enter Lo.func38,Try.ntmps38
 go_wp2_with (go_at_call 54;refine (Lo.xq hw hB).mono ?_;rintro e w1 ⟨rfl,hb1⟩)
 go_ret;exact ⟨rfl,hb1⟩
theorem Lo.O1 {w:World} {b:Nat}:Calls Lo.prog 38 #[.pointer (some ⟨b,0,none⟩),.int .u64 0,.bool true] w λe w'=>e= .returned (.bool false)∧Below w.heap.size w w':=by
 have U:=(@Lo.underlying inferInstance);have U2:=(@Lo.runUnderlying inferInstance);go_enter Lo.func38,Try.ntmps38;go_wp2;go_ret;exact ⟨rfl,Below.refl _ _⟩
theorem Lo.Ra {w:World} {B b:Nat} {ss:List dL} {st nd:Nat} {A:Option Addr} {cap:Nat} (hw:jX w B b ss st nd A cap) (hB:B<=w.heap.size) (set:Nat) (h0:0<set) (hset:set<2 ^ 63):
 Calls Lo.prog 38 #[.pointer (some ⟨b,0,none⟩),.int .u64 (set:Int),.bool false] w λe w'=>e= .returned (.bool (decide (0<fe ss set)))∧Below w.heap.size w w':=by
 have U:=(@Lo.underlying inferInstance);have U2:=(@Lo.runUnderlying inferInstance);have C:=(@Lo.call55 inferInstance);have d0:((set:Int)==0)=false:=by simp;omega
 go_enter Lo.func38,Try.ntmps38
 go_wp2_with (go_at_call 55;refine (Lo.uM hw hB set hset).mono ?_;rintro e w1 ⟨rfl,hb1⟩)
 go_ret;exact ⟨rfl,hb1⟩
theorem Lo.Rb {w:World} {B b:Nat} {ss:List dL} {st nd:Nat} {A:Option Addr} {cap:Nat} (hw:jX w B b ss st nd A cap) (hB:B<=w.heap.size) (hnd:nd<=16) (set:Nat) (h0:0<set) (hset:set<2 ^ nd):
 Calls Lo.prog 38 #[.pointer (some ⟨b,0,none⟩),.int .u64 (set:Int),.bool true] w λe w'=>e= .returned (.bool (decide (0<fe ss (2 ^ nd - 1 - set))))∧Below w.heap.size w w':=by
 obtain ⟨U,U2,U3,U4,U5,U6⟩:=@Lo.facts inferInstance;have C:=(@Lo.call55 inferInstance);have d0:((set:Int)==0)=false:=by simp;omega
 have c2:=hw.c2;have hp:(2:Nat) ^ nd<=65536:=Nat.pow_le_pow_right (n:=2) (by decide) hnd;have hsh:=xY nd (by omega)
 have ez:IntKind.u64.wrap (IntKind.u64.wrap ((2:Int) ^ nd - 1) - (set:Int))=((2 ^ nd - 1 - set:Nat):Int):=by
  rw [show ((2:Int) ^ nd)=((2 ^ nd:Nat):Int) from by simp];generalize 2 ^ nd=m at *;rw [Dj ((m:Int) - 1) (by omega) (by omega),Dj _ (by omega) (by omega)];omega
 have OZ:2 ^ nd - 1 - set<2 ^ 63:=by omega
 go_enter Lo.func38,Try.ntmps38
 go_wp2_with (go_at_call 55;refine (Lo.uM hw hB _ OZ).mono ?_;rintro e w1 ⟨rfl,hb1⟩)
 go_ret;exact ⟨rfl,hb1⟩
theorem Lo.Lp {w:World} {B b:Nat} {ss:List dL} {st nd:Nat} {A:Option Addr} {cap:Nat} (hw:jX w B b ss st nd A cap) (hB:B<=w.heap.size) (hnd:nd<=16) (set:Nat) (hset:set<2 ^ nd) (much:Bool):
 Calls Lo.prog 38 #[.pointer (some ⟨b,0,none⟩),.int .u64 (set:Int),.bool much] w λe w'=>e= .returned (.bool (fo ss nd set much))∧Below w.heap.size w w':=by
 have hp:(2:Nat) ^ nd<=65536:=Nat.pow_le_pow_right (n:=2) (by decide) hnd;unfold fo
 by_cases h0:set=0
 ·subst h0;cases much
  ·simpa using Lo.O0 hw hB
  ·simpa using Lo.O1
 ·cases much
  ·rw [if_neg h0];exact Lo.Ra hw hB set (by omega) (by omega)
  ·rw [if_neg h0];exact Lo.Rb hw hB hnd set (by omega) hset
end Go.Proofs
end
