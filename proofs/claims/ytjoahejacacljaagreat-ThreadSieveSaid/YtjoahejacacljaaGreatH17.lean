/- Part 17. -/
import Derived.Test.YtjoahejacacljaaGreatProg
import Derived.WalkKit
import Derived.BigQuiet
import Derived.Lib.Hide
import Derived.RangeFuncRecord
import Derived.Test.YtjoahejacacljaaGreatH01
import Derived.StillTailTactics
set_option maxRecDepth 100000
set_option maxHeartbeats 0
set_option linter.all false
abbrev dw:=@Go.Lib.hid
abbrev dm:=@Go.World.cell?_of_block
abbrev di:=@Go.RowKit.Below.refl
abbrev dh:=@Go.World.cell?_alloc_past
abbrev cZ:=@Go.RowKit.Below.heap_alloc
abbrev cO:=@Go.World.cell?_alloc_at
abbrev cK:=@Go.World.alloc_heap_new
abbrev cB:=@Go.IntKind.wrap_i64
namespace cS
open Go
def kU(P:Program)(q:FuncId)(c:Code)(t:TypeId):(P.stub q c).underlying t=P.underlying t:=rfl
def rQ(P:Program)(q:FuncId)(c:Code)(t:TypeId):(P.stub q c).info? t=P.info? t:=rfl
def yM(P:Program)(q:FuncId)(c:Code)(t:TypeId):(P.stub q c).cellsOf t=P.cellsOf t:=rfl
def yN(P:Program)(q:FuncId)(c:Code)(t:TypeId):(P.stub q c).bytesOf t=P.bytesOf t:=rfl
def oJ(P:Program)(q:FuncId)(c:Code){k:FuncId}{f:Func}(h:P.funcs[k]?=some f)(hk:k≠q):(P.stub q c).funcs[k]?=some f:=by
 show(P.funcs.modify q _)[k]?=some f
 rw[bz,h,aa (λe=>hk e.symm)]
section
variable (P:Program) (q:FuncId) (c:Code) (t:TypeId) (w:World)
theorem pU:Sem.run (P.stub q c) (Go.underlying t) w=Sem.run P (Go.underlying t) w:=by unfold Go.underlying;simp only[program,Bind.bind,Sem.bind,Sem.run,kU];cases P.underlying t<;>rfl
theorem wD:Sem.run (P.stub q c) (Go.typeInfo t) w=Sem.run P (Go.typeInfo t) w:=by unfold Go.typeInfo;simp only[program,Bind.bind,Sem.bind,Sem.run,rQ];cases P.info? t<;>rfl
theorem Av:Sem.run (P.stub q c) (Go.sizeOf t) w=Sem.run P (Go.sizeOf t) w:=by unfold Go.sizeOf Go.typeInfo;simp only[program,Bind.bind,Sem.bind,Sem.run,rQ];cases P.info? t<;>rfl
theorem CP:Sem.run (P.stub q c) (Go.isAgg t) w=Sem.run P (Go.isAgg t) w:=by
 unfold Go.isAgg Go.underlying;simp only[program,Bind.bind,Sem.bind,Sem.run,kU];cases P.underlying t with
 |none=>rfl
 |some d=>cases d<;>rfl
theorem uM:Sem.run (P.stub q c) (Go.zeroValue t) w=Sem.run P (Go.zeroValue t) w:=by
 unfold Go.zeroValue Go.typeInfo;simp only[program,Bind.bind,Sem.bind,Sem.run,rQ];cases P.info? t with
 |none=>rfl
 |some i=>
  show Sem.run _ (match i.zero with |some v=>Pure.pure v|none=>_) w=Sem.run _ (match i.zero with |some v=>Pure.pure v|none=>_) w;cases i.zero<;>rfl
theorem OI{k:FuncId}(args:Array Value)(hk:k≠q){f:Func}(hf:P.funcs[k]?=some f)(hb:f.body.isNone=false)(hn:(f.name== "runtime.NumGoroutine")=false):Sem.run (P.stub q c) (callFunc k args) w=.ok (.enter k args) w:=by unfold callFunc;simp only[program,Bind.bind,Sem.bind,Sem.run,oJ P q c hf hk,hb,hn];rfl
end
end cS
namespace Go.Proofs
open Go Go.RowKit
def Tryz.c0:Code:=(Code.region 0 #[{ dst:=some 0,op:=.assign (.const (.bool true)),type:=4,pos:= "",after:= #[],guard:=none }] false).seq Code.ret
class Lo.St where
 c5:Code
 c16:Code
section
variable [Lo.St]
noncomputable def Lo.prog:Program:=(Tryz.prog.stub 5 Lo.St.c5).stub 19 Lo.St.c16
def Lo.iB:Lo.prog=(Tryz.prog.stub 5 Lo.St.c5).stub 19 Lo.St.c16:=by unfold Lo.prog;rfl
def Lo.underlying(t:TypeId):Lo.prog.underlying t=Tryz.prog.underlying t:=by rw[Lo.iB];exact(cS.kU _ _ _ _).trans (cS.kU _ _ _ _)
def Lo.info(t:TypeId):Lo.prog.info? t=Tryz.prog.info? t:=by rw[Lo.iB];exact(cS.rQ _ _ _ _).trans (cS.rQ _ _ _ _)
def Lo.cellsOf(t:TypeId):Lo.prog.cellsOf t=Tryz.prog.cellsOf t:=by rw[Lo.iB];exact(cS.yM _ _ _ _).trans (cS.yM _ _ _ _)
def Lo.bytesOf(t:TypeId):Lo.prog.bytesOf t=Tryz.prog.bytesOf t:=by rw[Lo.iB];exact(cS.yN _ _ _ _).trans (cS.yN _ _ _ _)
def Lo.get{k:FuncId}{f:Func}(h:Tryz.prog.funcs[k]?=some f)(hk:k≠5:=by decide)(hk2:k≠19:=by decide):Lo.prog.funcs[k]?=some f:=by rw[Lo.iB];exact cS.oJ _ _ _ (cS.oJ _ _ _ h hk) hk2
def Lo.runUnderlying(t:TypeId)(w:World):Sem.run Lo.prog (Go.underlying t) w=Sem.run Tryz.prog (Go.underlying t) w:=by rw[Lo.iB];exact(cS.pU ..).trans (cS.pU ..)
def Lo.typeInfo(t:TypeId)(w:World):Sem.run Lo.prog (Go.typeInfo t) w=Sem.run Tryz.prog (Go.typeInfo t) w:=by rw[Lo.iB];exact(cS.wD ..).trans (cS.wD ..)
def Lo.sizeOf(t:TypeId)(w:World):Sem.run Lo.prog (Go.sizeOf t) w=Sem.run Tryz.prog (Go.sizeOf t) w:=by rw[Lo.iB];exact(cS.Av ..).trans (cS.Av ..)
def Lo.isAgg(t:TypeId)(w:World):Sem.run Lo.prog (Go.isAgg t) w=Sem.run Tryz.prog (Go.isAgg t) w:=by rw[Lo.iB];exact(cS.CP ..).trans (cS.CP ..)
def Lo.zeroValue(t:TypeId)(w:World):Sem.run Lo.prog (Go.zeroValue t) w=Sem.run Tryz.prog (Go.zeroValue t) w:=by rw[Lo.iB];exact(cS.uM ..).trans (cS.uM ..)
def Lo.facts:(∀t,Lo.prog.underlying t=Tryz.prog.underlying t)∧(∀t w,Sem.run Lo.prog (Go.underlying t) w=Sem.run Tryz.prog (Go.underlying t) w)∧(∀t w,Sem.run Lo.prog (Go.sizeOf t) w=Sem.run Tryz.prog (Go.sizeOf t) w)∧(∀t w,Sem.run Lo.prog (Go.typeInfo t) w=Sem.run Tryz.prog (Go.typeInfo t) w)∧(∀t w,Sem.run Lo.prog (Go.isAgg t) w=Sem.run Tryz.prog (Go.isAgg t) w)∧∀t w,Sem.run Lo.prog (Go.zeroValue t) w=Sem.run Tryz.prog (Go.zeroValue t) w:=⟨Lo.underlying,Lo.runUnderlying,Lo.sizeOf,Lo.typeInfo,Lo.isAgg,Lo.zeroValue⟩
def Lo.call{k:FuncId}{f:Func}(hf:Tryz.prog.funcs[k]?=some f)(hk:k≠5:=by decide)(hk2:k≠19:=by decide)(hb:f.body.isNone=false:=by kernel_rfl)(hn:(f.name== "runtime.NumGoroutine")=false:=by kernel_rfl)(args:Array Value)(w:World):Sem.run Lo.prog (callFunc k args) w=.ok (.enter k args) w:=by rw[Lo.iB];exact cS.OI _ _ _ _ _ hk2 (cS.oJ _ _ _ hf hk) hb hn
end
end Go.Proofs
namespace Go.Proofs
open Go Go.RowKit
section
variable [Lo.St]
def kH(n l h:Int):Bool:=decide (l<=n)&&decide (n<=h)
def Lo.eB(n l h:Int)(w:World):Calls Lo.prog 32 #[.int .i64 n,.int .i64 l,.int .i64 h] w λe w'=>e=.returned (.bool (kH n l h))∧w=w':=by
 have U:=Lo.underlying;have U2:=Lo.runUnderlying
 by_cases h1:l<=n
 .have hd:decide (l<=n)=true:=by simpa using h1
  go_enter Lo.get Tryz.func32,Tryz.ntmps32;go_wp2;go_ret;exact⟨by simp[kH,hd],rfl⟩
 .have hd:decide (l<=n)=false:=by simpa using h1
  go_enter Lo.get Tryz.func32,Tryz.ntmps32;go_wp2;go_ret;exact⟨by simp[kH,hd],rfl⟩
def Lo.Rk(a b c d:Int)(w:World):Calls Lo.prog 61 #[.agg #[.int .i64 a,.int .i64 b],.agg #[.int .i64 c,.int .i64 d]] w λe w'=>e=.returned (.agg #[.int .i64 (max a c),.int .i64 (min b d)])∧Below w.heap.size w w':=by
 obtain⟨U,U2,U3,U4,U5,U6⟩:=Lo.facts;go_enter Lo.get Tryz.func61,Tryz.ntmps61;go_wp2
 all_goals exact bodyPost_ret (v:=.agg #[.int .i64 (max a c),.int .i64 (min b d)]) (by simp[results,Tryz.results52,go_sem,U,U2,U3,U4,U5,U6];first|done|omega|(constructor<;>omega)) rfl ⟨rfl,(((di _ _).alloc (aJ _) _).alloc (by simp) _).alloc (by simp;omega) _⟩
def Lo.l9(a b:Int)(w:World):Calls Lo.prog 62 #[.agg #[.int .i64 a,.int .i64 b]] w λe w'=>e=.returned (.agg #[.int .i64 a,.int .i64 b])∧Below w.heap.size w w':=by obtain⟨U,U2,U3,U4,U5,U6⟩:=Lo.facts;go_enter Lo.get Tryz.func62,Tryz.ntmps62;go_wp2;exact bodyPost_ret (v:=.agg #[.int .i64 a,.int .i64 b]) (by simp[results,Tryz.results53,go_sem,U,U2,U3,U4,U5,U6]) rfl ⟨rfl,((di _ _).alloc (aJ _) _).alloc (by simp) _⟩
def Lo.yO(a b f t:Int)(w:World):Calls Lo.prog 95 #[.agg #[.int .i64 a,.int .i64 b,.int .i64 f,.int .i64 t]] w λe w'=>e=.returned (.bool (decide (a> b)))∧Below w.heap.size w w':=by obtain⟨U,U2,U3,U4,U5,U6⟩:=Lo.facts;go_enter Lo.get Tryz.func95,Tryz.ntmps95;go_wp2;go_ret;exact⟨rfl,(di _ _).alloc (aJ _) _⟩
def bit(s:Nat)(i:Nat):Nat:=s/ 2^ i%2
def KG(s i:Nat):bit s i<2:=Nat.mod_lt _ (by decide)
def Bu(n:Int)(h₀:0<=n)(qa0:n<2^ 63):IntKind.u64.wrap n=n:=by rw[IntKind.wrap_u64];omega
def F7(s i:Nat)(h:s<2^ 63):bits .and .u64 ((s:Int)/ 2^ i) 1=((bit s i:Nat):Int):=by
 have h1:s/ 2^ i<=s:=Nat.div_le_self _ _;have e3:((s:Int)/ 2^ i)=((s/ 2^ i:Nat):Int):=by simp
 rw[e3];unfold bit;generalize s/ 2^ i=m at h1;have h2:=Go.bits_mask .u64 63 (by decide) Bu 1 (by decide) (m:Int) (by omega) (by omega);have e:((2:Int)^ 1-1)=1:=by decide
 have e2:((2:Int)^ 1)=2:=by decide
 rw[e,e2]at h2;rw[h2];simp
def below_drewN{B:Nat}{w w':World}(h:Below B w w')(n:Nat):Below B w (w'.drewN n):=⟨h.os,h.tape,h.output,h.size,h.block⟩
def kJ(s f t:Nat):Int:=if bit s f<bit s t then 1 else if bit s f> bit s t then 2 else 0
def Lo.Yu(a b:Int)(f t s:Nat)(w:World)(hf:f<64)(ht:t<64)(hs:s<2^ 63):Calls Lo.prog 93 #[.agg #[.int .i64 a,.int .i64 b,.int .i64 (f:Int),.int .i64 (t:Int)],.int .u64 (s:Int)] w λe w'=>e=.returned (.int .i64 (kJ s f t))∧Below w.heap.size w w':=by
 obtain⟨U,U2,U3,U4,U5,U6⟩:=Lo.facts;have b1:=F7 s f hs;have b2:=F7 s t hs;have c1:=KG s f;have c2:=KG s t;generalize hx:bit s f=x at b1 c1;generalize hy:bit s t=y at b2 c2;have hsd:kJ s f t=if x<y then 1 else if x> y then 2 else 0:=by unfold kJ;rw[hx,hy]
 rw[hsd];clear hsd hx hy;rcases Nat.lt_trichotomy x y with h|h|h
 .have d1:decide ((x:Int)<(y:Int))=true:=by simpa using h
  rw[aj h];go_enter Lo.get Tryz.func93,Tryz.ntmps93;go_wp2
  go_quiet(fail)
  go_wp2;go_ret;exact⟨rfl,below_drewN ((di _ _).alloc (aJ _) _) _⟩
 .subst h;rw[aa (Nat.lt_irrefl _),aa (Nat.lt_irrefl _)];go_enter Lo.get Tryz.func93,Tryz.ntmps93;go_wp2
  go_quiet(fail)
  go_wp2;go_ret;exact⟨rfl,below_drewN ((di _ _).alloc (aJ _) _) _⟩
 .have d1:decide ((x:Int)<(y:Int))=false:=by simp;omega
  have d2:decide ((y:Int)<(x:Int))=true:=by simp;omega
  rw[aa (by omega),aj h];go_enter Lo.get Tryz.func93,Tryz.ntmps93;go_wp2
  go_quiet(fail)
  go_wp2;go_ret;exact⟨rfl,below_drewN ((di _ _).alloc (aJ _) _) _⟩
def Rd(w:World)(B size:Nat)(A:Option Addr)(n:Nat)(f:Nat->Nat->Value):Prop:=
 0<n->∃b off,A=some ⟨b,off,none⟩∧b<B∧∀i j,i<n->j<size->w.cell? ⟨b,off+(i*size+j),none⟩=some (f i j)
def Rd.keep{w w':World}{B size:Nat}{A:Option Addr}{n:Nat}{f:Nat->Nat->Value}(h:Rd w B size A n f)(hk:∀b o,b<B->w'.cell? ⟨b,o,none⟩=w.cell? ⟨b,o,none⟩):Rd w' B size A n f:= λhn=>by obtain⟨b,off,e,hb,hc⟩:=h hn;exact⟨b,off,e,hb, λi j hi hj=>(hk _ _ hb).trans (hc i j hi hj)⟩
def dH{W w1:World}{B:Nat}(hb:Below B W w1):∀b o,b<B->w1.cell? ⟨b,o,none⟩=W.cell? ⟨b,o,none⟩:= λb o h=>hb.cell (p:=⟨b,o,none⟩) h
def Bv{W w1:World}{B:Nat}(hb:Below B W w1):∀b o,b<B->w1.frozen? ⟨b,o,none⟩=W.frozen? ⟨b,o,none⟩:= λb o h=>hb.frozen (p:=⟨b,o,none⟩) h
structure eX where
 lo:Int
 hi:Int
 fr:Nat
 to:Nat
 deriving DecidableEq
def eX.cells(x:eX):Nat->Value
 |0=>.int .i64 x.lo
 |1=>.int .i64 x.hi
 |2=>.int .i64 (x.fr:Int)
 |_=>.int .i64 (x.to:Int)
def sU(ss:List eX)(i j:Nat):Value:=((ss[i]?).getD ⟨0,0,0,0⟩).cells j
def eX.ok(x:eX):Prop:=0<=x.lo∧x.lo<=8000000∧0<=x.hi∧x.hi<=8000000∧x.fr<64∧x.to<64
def OJ(s:Nat)(n:Int)(x:eX):Int:=if kJ s x.fr x.to=1 then n-x.hi else if kJ s x.fr x.to=2 then n+x.lo else n
def gM(ss:List eX)(s:Nat):Int:=ss.foldl (OJ s) 0
structure jG(w:World)(B b:Nat)(ss:List eX)(steps nodes:Nat)(A:Option Addr)(cap:Nat):Prop where
 lt:b<B
 c0:w.cell? ⟨b,0,none⟩=some (.slice A ss.length cap)
 c1:w.cell? ⟨b,1,none⟩=some (.int .i64 (steps:Int))
 c2:w.cell? ⟨b,2,none⟩=some (.int .i64 (nodes:Int))
 rd:Rd w B 4 A ss.length (sU ss)
 ok:∀x∈ss,x.ok
 len:ss.length<=64
def IW(ss:List eX)(s:Nat)(h:∀x∈ss,x.ok):∀n:Int, -8000000*ss.length<=(ss.foldl (OJ s) n)-n∧(ss.foldl (OJ s) n)-n<=8000000*ss.length:=by
 induction ss with
 |nil=>intro n;simp
 |cons x ss ih=>
  intro n;have :=ih (λy hy=>h y (aQ _ hy)) (OJ s n x);obtain⟨a,b,c,d,_⟩:=h x (aP ..);simp only[List.foldl_cons,List.length_cons];have e: -8000000<=OJ s n x-n∧OJ s n x-n<=8000000:=by unfold OJ;split<;>(try split)<;>omega
  omega
def KH(ss:List eX)(s k:Nat)(h:k<ss.length):gM (ss.take (k+1)) s=OJ s (gM (ss.take k) s) ss[k]:=by unfold gM;rw[bu h,List.foldl_append];rfl
def Lo.MH(q:Int)(a b:Int)(f t s:Nat)(w:World)(hf:f<64)(ht:t<64)(hs:s<2^ 63)(h:kJ s f t=q):Calls Lo.prog 93 #[.agg #[.int .i64 a,.int .i64 b,.int .i64 (f:Int),.int .i64 (t:Int)],.int .u64 (s:Int)] w λe w'=>e=.returned (.int .i64 q)∧Below w.heap.size w w':=h ▸ Lo.Yu a b f t s w hf ht hs
def Lo.rR{w:World}{B b:Nat}{ss:List eX}{st nd:Nat}{A:Option Addr}{cap:Nat}(hw:jG w B b ss st nd A cap)(hB:B<=w.heap.size)(s:Nat)(hs:s<2^ 63):
 Calls Lo.prog 64 #[.pointer (some ⟨b,0,none⟩),.int .u64 (s:Int)] w λe w'=>e=.returned (.int .i64 (gM ss s))∧Below w.heap.size w w':=by
 obtain⟨U,U2,U3,U4,U5,U6⟩:=Lo.facts;have c0:=hw.c0;have hlen:=hw.len;go_enter Lo.get Tryz.func64,Tryz.ntmps64;go_wp2
 go_loopw [5,13] (λn i wr=>∃k:Nat,k<=ss.length∧i=.int .i64 (k:Int)∧n=.int .i64 (gM (ss.take k) s)∧Below w.heap.size w wr) (λ_ i _=>ss.length-(intOf i).toNat)
 case atStart=>exact⟨0,bg _,rfl,rfl,di _ _⟩
 case round=>
  obtain⟨k,hk,rfl,rfl,hb⟩:=hrel
  by_cases hlt:k<ss.length
  .obtain⟨bb,off,rfl,hbb,hc⟩:=hw.rd (by omega);have hx:=hw.ok ss[k] (aX hlt);have ht:=KH ss s k hlt;have hbd:=IW (ss.take k) s (λy hy=>hw.ok y (bE hy)) 0;have hl:(ss.take k).length=k:=by simp;omega
   rw[hl]at hbd;have e0:(ss.take k).foldl (OJ s) 0=gM (ss.take k) s:=rfl;rw[e0]at hbd;clear e0 hl;have hg:ss[k]?=some ss[k]:=aN hlt
   generalize ss[k]=x at hx ht hg;obtain⟨lo,hi,fr,to⟩:=x;obtain⟨x1,x2,x3,x4,x5,x6⟩:=hx;simp only at x1 x2 x3 x4 x5 x6
   have cell:∀j,j<4->wr.cell? ⟨bb,off+(k*4+j),none⟩=some (eX.cells ⟨lo,hi,fr,to⟩ j):= λj hj=>by rw[dH hb _ _ (by omega),hc k j hlt hj];unfold sU;rw[hg];rfl
   have k0:wr.cell? ⟨bb,off+k*4,none⟩=some (.int .i64 lo):=cell 0 (by omega);have k1:wr.cell? ⟨bb,off+k*4+1,none⟩=some (.int .i64 hi):=cell 1 (by omega);have k2:wr.cell? ⟨bb,off+k*4+2,none⟩=some (.int .i64 (fr:Int)):=cell 2 (by omega);have k3:wr.cell? ⟨bb,off+k*4+3,none⟩=some (.int .i64 (to:Int)):=cell 3 (by omega);have hlt':(k:Int)<(ss.length:Int):=by omega
   have hBw:w.heap.size<=wr.heap.size:=hb.size;have HT:=dw ht;have HB:=dw hb;have HC:=dw hc;have HG:=dw hg;clear ht hb hc hg cell c0;generalize gM (ss.take k) s=n at hbd HT;have C:=Lo.call Tryz.func93
   have hq:kJ s fr to=1∨kJ s fr to=2∨kJ s fr to=0:=by
    unfold kJ;split
    .exact .inl rfl
    .split
     .exact .inr (.inl rfl)
     .exact .inr (.inr rfl)
   rcases hq with hq|hq|hq
   all_goals
    have HQ:=dw hq;clear hq
    go_wp2_with(go_at_call 93;refine(Lo.MH _ _ _ _ _ _ _ x5 x6 hs HQ.out).mono ?_;rintro e w1⟨rfl,hb1⟩;have hc1:=dH hb1)
    go_roundw
    case rel=>exact⟨k+1,by omega,by go_num,by rw[HT.out];simp[OJ,HQ.out],(HB.out.alloc hBw _).trans (hb1.mono (by simp;omega))⟩
    case measure=>simp[intOf];omega
  .obtain rfl:k=ss.length:=by omega
   rw[List.take_length];clear c0;go_wp2;go_ret;exact⟨rfl,hb⟩
def eT(lo hi a b:Int):Bool:=decide (a<=lo)&&decide (lo<=hi)&&decide (hi<=b)
def Lo.jo(lo hi a b:Int)(w:World):Calls Lo.prog 57 #[.agg #[.int .i64 lo,.int .i64 hi],.int .i64 a,.int .i64 b] w λe w'=>e=.returned (.bool (eT lo hi a b))∧Below w.heap.size w w':=by
 obtain⟨U,U2,U3,U4,U5,U6⟩:=Lo.facts;unfold eT
 by_cases h1:a<=lo
 .have d1:decide (a<=lo)=true:=by simpa using h1
  by_cases h2:lo<=hi
  .have d2:decide (lo<=hi)=true:=by simpa using h2
   go_enter Lo.get Tryz.func57,Tryz.ntmps57;go_wp2;go_ret;exact⟨by simp[d1,d2],(di _ _).alloc (aJ _) _⟩
  .have d2:decide (lo<=hi)=false:=by simpa using h2
   go_enter Lo.get Tryz.func57,Tryz.ntmps57;go_wp2;go_ret;exact⟨by simp[d1,d2],(di _ _).alloc (aJ _) _⟩
 .have d1:decide (a<=lo)=false:=by simpa using h1
  go_enter Lo.get Tryz.func57,Tryz.ntmps57;go_wp2;go_ret;exact⟨by simp[d1],(di _ _).alloc (aJ _) _⟩
abbrev F8(w:World)(B:Nat)(A:Option Addr)(l:List ByteArray):Prop:=Rd w B 1 A l.length λi _=>.string ((l[i]?).getD ByteArray.empty)
def FM{w:World}{bb off k:Nat}{l:List ByteArray}(hc:∀i j,i<l.length->j<1->w.cell? ⟨bb,off+(i*1+j),none⟩=some (.string ((l[i]?).getD ByteArray.empty)))(hlt:k<l.length):w.cell? ⟨bb,off+k,none⟩=some (.string l[k]):=by have :=hc k 0 hlt (by omega);rw[Nat.mul_one,aH]at this;rw[this,aN hlt];rfl
def yP(s:ByteArray):List ByteArray->Nat->Int
 | [],_=> -1
 |x::l,k=>if s.toList=x.toList then(k:Int)else yP s l (k+1)
def EN(s:ByteArray)(l:List ByteArray)(k:Nat)(h:k<l.length):yP s (l.drop k) k=if s.toList=l[k].toList then(k:Int)else yP s (l.drop (k+1)) (k+1):=by rw[aV h];rfl
def F9(s:ByteArray)(l:List ByteArray):Bool:=l.any λx=>s.toList==x.toList
def MJ(s:ByteArray)(l:List ByteArray)(k:Nat):decide (0<=yP s l k)=F9 s l:=by
 induction l generalizing k with
 |nil=>rfl
 |cons x l ih=>
  unfold yP F9
  by_cases h:s.toList=x.toList
  .rw[aj h];simp[h]
  .rw[aa h,ih];simp[h,F9]
def Lo.Rl{w:World}{B:Nat}{A:Option Addr}{l:List ByteArray}{c:Nat}{s:ByteArray}(h1:F8 w B A l)(hl:l.length<=64):
 Calls Lo.prog 108 #[.slice A l.length c,.string s] w λe w'=>e=.returned (.int .i64 (yP s l 0))∧w'=w:=by
 obtain⟨U,U2,U3,U4,U5,U6⟩:=Lo.facts;go_enter Lo.get Tryz.func108,Tryz.ntmps108;go_wp2
 go_loopw [8] (λi wr=>∃k:Nat,k<=l.length∧i=.int .i64 (k:Int)∧yP s (l.drop k) k=yP s l 0∧wr=w) (λi _=>l.length-(intOf i).toNat)
 case atStart=>exact⟨0,bg _,rfl,rfl,rfl⟩
 case round=>
  obtain⟨k,hk,rfl,hx,rfl⟩:=hrel
  by_cases hlt:k<l.length
  .have hlt':(k:Int)<(l.length:Int):=by omega
   obtain⟨bb,off,rfl,hbb,hc⟩:=h1 (by omega);have r1:=FM hc hlt;have hd:=EN s l k hlt;rw[hx]at hd;clear hc h1 hx;generalize l[k]=x at r1 hd
   by_cases hq:s.toList=x.toList
   .rw[aj hq]at hd;have d:(s.toList==x.toList)=true:=by simpa using hq
    have HD:=dw hd;clear hd;go_wp2;go_ret;exact⟨by rw[HD.out];rfl,by simp⟩
   .rw[aa hq]at hd;have d:(s.toList==x.toList)=false:=by simpa using hq
    have HD:=dw hd;clear hd;go_wp2;go_roundw
    case rel=>exact⟨k+1,by omega,by go_num,HD.out.symm,by simp⟩
    case measure=>simp[intOf];omega
  .obtain rfl:k=l.length:=by omega
   have hx':(-1:Int)=yP s l 0:=by rw[<-hx,aF];rfl
   have HX:=dw hx';clear hx hx';go_wp2;go_ret;exact⟨by rw[<-HX.out];rfl,by simp⟩
def Lo.Rm{w:World}{B:Nat}{A:Option Addr}{l:List ByteArray}{c:Nat}{s:ByteArray}(h1:F8 w B A l)(hl:l.length<=64):
 Calls Lo.prog 92 #[.slice A l.length c,.string s] w λe w'=>e=.returned (.bool (F9 s l))∧w'=w:=by
 have U:=Lo.underlying;have U2:=Lo.runUnderlying;have C:=Lo.call Tryz.func108;go_enter Lo.get Tryz.func92,Tryz.ntmps92
 go_wp2_with(go_at_call 108;refine(Lo.Rl h1 hl).mono ?_;rintro e w1⟨rfl,rfl⟩)
 go_ret;exact⟨by rw[<-MJ s l 0];rfl,by simp⟩
def qN(c:Int):Bool:=(decide (c<97)||decide (122<c))&&(decide (c<48)||decide (57<c))&&!(c==45)
def Lo.IX(c:Int)(w:World):Calls Lo.prog 107 #[.int .u8 c] w λe w'=>e=.returned (.bool (qN c))∧w'=w:=by
 have U:=Lo.underlying;have U2:=Lo.runUnderlying;unfold qN
 by_cases h1:c<97
 .have d1:decide (c<97)=true:=by simpa using h1
  by_cases h3:c<48
  .have d3:decide (c<48)=true:=by simpa using h3
   by_cases h5:c=45
   .have d5:(c==45)=true:=by simpa using h5
    go_enter Lo.get Tryz.func107,Tryz.ntmps107;go_wp2;go_ret;exact⟨by simp[d1,d3,d5];try omega,rfl⟩
   .have d5:(c==45)=false:=by simpa using h5
    go_enter Lo.get Tryz.func107,Tryz.ntmps107;go_wp2;go_ret;exact⟨by simp[d1,d3,d5];try omega,rfl⟩
  .have d3:decide (c<48)=false:=by simpa using h3
   by_cases h4:57<c
   .have d4:decide (57<c)=true:=by simpa using h4
    have d5:(c==45)=false:=by simp;omega
    go_enter Lo.get Tryz.func107,Tryz.ntmps107;go_wp2;go_ret;exact⟨by simp[d1,d3,d4,d5];try omega,rfl⟩
   .have d4:decide (57<c)=false:=by simpa using h4
    go_enter Lo.get Tryz.func107,Tryz.ntmps107;go_wp2;go_ret;exact⟨by simp[d1,d3,d4],rfl⟩
 .have d1:decide (c<97)=false:=by simpa using h1
  by_cases h2:122<c
  .have d2:decide (122<c)=true:=by simpa using h2
   have d3:decide (c<48)=false:=by simp;omega
   have d4:decide (57<c)=true:=by simp;omega
   have d5:(c==45)=false:=by simp;omega
   go_enter Lo.get Tryz.func107,Tryz.ntmps107;go_wp2;go_ret;exact⟨by simp[d1,d2,d3,d4,d5];try omega,rfl⟩
  .have d2:decide (122<c)=false:=by simpa using h2
   go_enter Lo.get Tryz.func107,Tryz.ntmps107;go_wp2;go_ret;exact⟨by simp[d1,d2],rfl⟩
abbrev gg(w:World)(B:Nat)(A:Option Addr)(l:List Int):Prop:=Rd w B 1 A l.length λi _=>.int .u8 ((l[i]?).getD 0)
def rdB{w:World}{bb off k:Nat}{l:List Int}(hc:∀i j,i<l.length->j<1->w.cell? ⟨bb,off+(i*1+j),none⟩=some (.int .u8 ((l[i]?).getD 0)))(hlt:k<l.length):w.cell? ⟨bb,off+k,none⟩=some (.int .u8 l[k]):=by have :=hc k 0 hlt (by omega);rw[Nat.mul_one,aH]at this;rw[this,aN hlt];rfl
def Ga:List Int->Nat->Int
 | [],_=> -1
 |x::l,k=>if qN x then(k:Int)else Ga l (k+1)
def OL(l:List Int)(k:Nat)(h:k<l.length):Ga (l.drop k) k=if qN l[k]then(k:Int)else Ga (l.drop (k+1)) (k+1):=by rw[aV h];rfl
def Vh(l:List Int)(k:Nat):decide (0<=Ga l k)=l.any qN:=by
 induction l generalizing k with
 |nil=>rfl
 |cons x l ih=>
  unfold Ga
  by_cases h:qN x=true
  .rw[aj h];simp[h]
  .rw[aa h,ih];simp[h]
def Lo.Rp{w:World}{B:Nat}{A:Option Addr}{l:List Int}{c:Nat}(h1:gg w B A l)(hl:l.length<=100000):
 Calls Lo.prog 117 #[.slice A l.length c,.func (.func 107) #[] #[]] w λe w'=>e=.returned (.int .i64 (Ga l 0))∧w'=w:=by
 obtain⟨U,U2,U3,U4,U5,U6⟩:=Lo.facts;have C:=Lo.call Tryz.func107;go_enter Lo.get Tryz.func117,Tryz.ntmps117;go_wp2
 go_loopw [8] (λi wr=>∃k:Nat,k<=l.length∧i=.int .i64 (k:Int)∧Ga (l.drop k) k=Ga l 0∧wr=w) (λi _=>l.length-(intOf i).toNat)
 case atStart=>exact⟨0,bg _,rfl,rfl,rfl⟩
 case round=>
  obtain⟨k,hk,rfl,hx,rfl⟩:=hrel
  by_cases hlt:k<l.length
  .have hlt':(k:Int)<(l.length:Int):=by omega
   obtain⟨bb,off,rfl,hbb,hc⟩:=h1 (by omega);have r1:=rdB hc hlt;have hd:=OL l k hlt;rw[hx]at hd;clear hc h1 hx;generalize l[k]=x at r1 hd;cases hq:qN x with
   |true=>
    rw[aj hq]at hd;have HD:=dw hd;clear hd
    go_wp2_with(go_at_call 107;refine(Lo.IX _ _).mono ?_;rintro e w1⟨rfl,rfl⟩;rw[hq])
    go_ret;exact⟨by rw[HD.out];rfl,by simp⟩
   |false=>
    rw[aa (by rw[hq];simp)]at hd;have HD:=dw hd;clear hd
    go_wp2_with(go_at_call 107;refine(Lo.IX _ _).mono ?_;rintro e w1⟨rfl,rfl⟩;rw[hq])
    go_roundw
    case rel=>exact⟨k+1,by omega,by go_num,HD.out.symm,by simp⟩
    case measure=>simp[intOf];omega
  .obtain rfl:k=l.length:=by omega
   have hx':(-1:Int)=Ga l 0:=by rw[<-hx,aF];rfl
   have HX:=dw hx';clear hx hx';go_wp2;go_ret;exact⟨by rw[<-HX.out];rfl,by simp⟩
def Lo.Rq{w:World}{B:Nat}{A:Option Addr}{l:List Int}{c:Nat}(h1:gg w B A l)(hl:l.length<=100000):
 Calls Lo.prog 106 #[.slice A l.length c,.func (.func 107) #[] #[]] w λe w'=>e=.returned (.bool (l.any qN))∧w'=w:=by
 have U:=Lo.underlying;have U2:=Lo.runUnderlying;have C:=Lo.call Tryz.func117;go_enter Lo.get Tryz.func106,Tryz.ntmps106
 go_wp2_with(go_at_call 117;refine(Lo.Rp h1 hl).mono ?_;rintro e w1⟨rfl,rfl⟩)
 go_ret;exact⟨by rw[<-Vh l 0];rfl,by simp⟩
def kZ(s:ByteArray):List Int:=s.data.toList.map λb=>(b.toNat:Int)
def lJ(s:ByteArray)(h:0<s.size):∃l,kZ s=((s[0]'h).toNat:Int)::l:=by
 obtain⟨⟨d⟩⟩:=s;cases d with
 |nil=>exact absurd h (by simp[ByteArray.size])
 |cons x d=>exact⟨_,rfl⟩
def gy(s:ByteArray):Bool:=kH s.size 1 14&&(match kZ s with | []=>false|c::_=>!(decide (c<97))&&!(decide (122<c)))&&!((kZ s).any qN)
def Lo.OM(s:ByteArray)(w:World)(h:kH s.size 1 14=false):Calls Lo.prog 91 #[.string s] w λe w'=>e=.returned (.bool false)∧Below w.heap.size w w':=by
 have U:=Lo.underlying;have U2:=Lo.runUnderlying;have C:=Lo.call Tryz.func32;go_enter Lo.get Tryz.func91,Tryz.ntmps91
 go_wp2_with(go_at_call 32;refine(Lo.eB _ _ _ _).mono ?_;rintro e w1⟨rfl,rfl⟩;rw[h])
 go_ret;exact⟨rfl,di _ _⟩
def ni(s:ByteArray):(kZ s).length=s.size:=by unfold kZ;rw[List.length_map,Array.length_toList];rfl
def Rs(s:ByteArray)(w:World)(cap:Nat)(fr:Nat×Nat):gg (w.drew.alloc (.cells (bytesRow s cap) 5 fr)) (w.heap.size+1) (some ⟨w.heap.size,0,none⟩) (kZ s):= λ_=>⟨w.heap.size,0,rfl,Nat.lt_succ_self _, λi j hi hj=>by
 obtain rfl:j=0:=by omega
 have hh:(w.drew.alloc (.cells (bytesRow s cap) 5 fr)).heap[w.heap.size]?=some (.cells (bytesRow s cap) 5 fr):=by
  show(w.heap.push _)[w.heap.size]?=_
  simp
 unfold World.cell?;simp only[hh];show(bytesRow s cap)[0+(i*1+0)]?=_
 rw[show 0+(i*1+0)=i from by omega];have hi2:i<s.data.size:=by rw[ni]at hi;exact hi
 unfold bytesRow;rw[Array.getElem?_append_left (by rw[Array.size_map];exact hi2),aG];unfold kZ;rw[List.getElem?_map,Array.getElem?_toList,aW hi2];rfl⟩
def Lo.Yv{w:World}{B n:Nat}{A:Option Addr}{l:List Int}{c:Nat}(hn:n=l.length)(h1:gg w B A l)(hl:l.length<=100000):
 Calls Lo.prog 106 #[.slice A n c,.func (.func 107) #[] #[]] w λe w'=>e=.returned (.bool (l.any qN))∧w'=w:=hn ▸ Lo.Rq h1 hl
def Lo.KI(s:ByteArray)(w:World)(h:kH s.size 1 14=true):Calls Lo.prog 91 #[.string s] w λe w'=>e=.returned (.bool (gy s))∧Below w.heap.size w w':=by
 have U:=Lo.underlying;have U2:=Lo.runUnderlying;have C:=Lo.call Tryz.func32;have hcv:= λw:World=>run_bytes_of_string (P:=Lo.prog) w 9 110 5 s ((Lo.underlying 9).trans (by kernel_rfl)) ((Lo.underlying 110).trans (by kernel_rfl)) ((Lo.underlying 5).trans (by kernel_rfl))
 have C2:=Lo.call Tryz.func106;have hp:0<s.size:=by simp[kH]at h;omega
 have hp2:s.size<=14:=by simp[kH]at h;omega
 go_enter Lo.get Tryz.func91,Tryz.ntmps91
 go_wp2_with(go_at_call 32;refine(Lo.eB _ _ _ _).mono ?_;rintro e w1⟨rfl,rfl⟩;rw[h])
 .go_ret;rename_i h1;obtain⟨l,hl⟩:=lJ s hp;have hr:gy s=false:=by unfold gy;rw[hl];simp;intro _ h2;omega
  exact⟨by rw[hr];rfl,di _ _⟩
 .go_wp2_with(go_at_call 106;refine(Lo.Yv (l:=kZ s) (ni s).symm (Rs s _ _ _) (by rw[ni];omega)).mono ?_;rintro e w1⟨rfl,rfl⟩)
  go_ret;rename_i g1 g2;obtain⟨l,hl⟩:=lJ s hp
  have hr:gy s=!(kZ s).any qN:=by unfold gy;rw[h];rw[hl];simp;intro;omega
  exact⟨by rw[hr];rfl,(di _ _).drew.alloc (aJ _) _⟩
 .go_ret;rename_i h1;obtain⟨l,hl⟩:=lJ s hp;have hr:gy s=false:=by unfold gy;rw[hl];simp;intro _ h2;omega
  exact⟨by rw[hr];rfl,di _ _⟩
def Gb{w:World}{B:Nat}{ss:List eX}{bb off k:Nat}(hc:∀i j,i<ss.length->j<4->w.cell? ⟨bb,off+(i*4+j),none⟩=some (sU ss i j))(hlt:k<ss.length):
 w.cell? ⟨bb,off+k*4,none⟩=some (.int .i64 ss[k].lo)∧w.cell? ⟨bb,off+k*4+1,none⟩=some (.int .i64 ss[k].hi)∧w.cell? ⟨bb,off+k*4+2,none⟩=some (.int .i64 (ss[k].fr:Int))∧w.cell? ⟨bb,off+k*4+3,none⟩=some (.int .i64 (ss[k].to:Int)):=by
 have hg:ss[k]?=some ss[k]:=aN hlt
 have cell:∀j,j<4->w.cell? ⟨bb,off+(k*4+j),none⟩=some (eX.cells ss[k] j):= λj hj=>by rw[hc k j hlt hj];unfold sU;rw[hg];rfl
 exact⟨cell 0 (by omega),cell 1 (by omega),cell 2 (by omega),cell 3 (by omega)⟩
def iQ(ss:List eX):Bool:=ss.any λx=>decide (x.lo> x.hi)
def mg:List eX->Nat->Int
 | [],_=> -1
 |x::l,k=>if x.lo> x.hi then(k:Int)else mg l (k+1)
def IY(ss:List eX)(k:Nat):decide (0<=mg ss k)=iQ ss:=by
 induction ss generalizing k with
 |nil=>rfl
 |cons x l ih=>
  unfold mg iQ
  by_cases h:x.lo> x.hi
  .rw[aj h];simp[h]
  .rw[aa h,ih];simp[h,iQ]
def Ej(ss:List eX)(k:Nat)(h:k<ss.length):mg (ss.drop k) k=if ss[k].lo> ss[k].hi then(k:Int)else mg (ss.drop (k+1)) (k+1):=by rw[aV h];rfl
def Lo.OO{w:World}{B:Nat}{ss:List eX}{A:Option Addr}{cap:Nat}(hr:Rd w B 4 A ss.length (sU ss))(hlen:ss.length<=64)(hB:B<=w.heap.size):
 Calls Lo.prog 109 #[.slice A ss.length cap,.func (.func 95) #[] #[]] w λe w'=>e=.returned (.int .i64 (mg ss 0))∧Below w.heap.size w w':=by
 obtain⟨U,U2,U3,U4,U5,U6⟩:=Lo.facts;have C:=Lo.call Tryz.func95;go_enter Lo.get Tryz.func109,Tryz.ntmps109;go_wp2
 go_loopw [8] (λi wr=>∃k:Nat,k<=ss.length∧i=.int .i64 (k:Int)∧mg (ss.drop k) k=mg ss 0∧Below w.heap.size w wr) (λi _=>ss.length-(intOf i).toNat)
 case atStart=>exact⟨0,bg _,rfl,rfl,di _ _⟩
 case round=>
  obtain⟨k,hk,rfl,hx,hb⟩:=hrel
  by_cases hlt:k<ss.length
  .obtain⟨bb,off,rfl,hbb,hc⟩:=(hr.keep (λb o h=>dH hb b o (by omega))) (by omega);obtain⟨k0,k1,k2,k3⟩:=Gb (B:=B) hc hlt;rw[Ej ss k hlt]at hx;generalize ss[k]=x at hx k0 k1 k2 k3;obtain⟨lo,hi,fr,to⟩:=x;simp only at hx k0 k1 k2 k3;have hlt':(k:Int)<(ss.length:Int):=by omega
   have HB:=dw hb;clear hb hc hr
   by_cases hcr:lo> hi
   .rw[aj hcr]at hx;have HX:=dw hx;have d1:decide (lo> hi)=true:=by simpa using hcr
    clear hx
    go_wp2_with(go_at_call 95;refine(Lo.yO _ _ _ _ _).mono ?_;rintro e w1⟨rfl,hb1⟩)
    go_ret;exact⟨by rw[HX.out];rfl,HB.out.trans (hb1.mono HB.out.size)⟩
   .rw[aa hcr]at hx;have HX:=dw hx;have d1:decide (lo> hi)=false:=by simpa using hcr
    clear hx
    go_wp2_with(go_at_call 95;refine(Lo.yO _ _ _ _ _).mono ?_;rintro e w1⟨rfl,hb1⟩)
    go_roundw
    case rel=>exact⟨k+1,by omega,by go_num,HX.out,HB.out.trans (hb1.mono HB.out.size)⟩
    case measure=>simp[intOf];omega
  .obtain rfl:k=ss.length:=by omega
   have hx':(-1:Int)=mg ss 0:=by rw[<-hx,aF];rfl
   clear hx;have HX:=dw hx';clear hx';go_wp2;go_ret;exact⟨by rw[HX.out];rfl,hb⟩
def Lo.KJ{w:World}{B:Nat}{ss:List eX}{A:Option Addr}{cap:Nat}(hr:Rd w B 4 A ss.length (sU ss))(hlen:ss.length<=64)(hB:B<=w.heap.size):
 Calls Lo.prog 94 #[.slice A ss.length cap,.func (.func 95) #[] #[]] w λe w'=>e=.returned (.bool (iQ ss))∧Below w.heap.size w w':=by
 obtain⟨U,U2,U3,U4,U5,U6⟩:=Lo.facts;have C:=Lo.call Tryz.func109;go_enter Lo.get Tryz.func94,Tryz.ntmps94
 go_wp2_with(go_at_call 109;refine(Lo.OO hr hlen hB).mono ?_;rintro e w1⟨rfl,hb1⟩)
 go_ret;exact⟨by rw[<-IY ss 0];rfl,hb1⟩
def jG.keep{w w':World}{B b:Nat}{ss:List eX}{st nd:Nat}{A:Option Addr}{cap:Nat}(h:jG w B b ss st nd A cap)(hk:∀b o,b<B->w'.cell? ⟨b,o,none⟩=w.cell? ⟨b,o,none⟩):jG w' B b ss st nd A cap:=
 ⟨h.lt,(hk _ _ h.lt).trans h.c0,(hk _ _ h.lt).trans h.c1,(hk _ _ h.lt).trans h.c2,h.rd.keep hk,h.ok,h.len⟩
def Lo.uN{w:World}{B b:Nat}{ss:List eX}{st nd:Nat}{A:Option Addr}{cap:Nat}(hw:jG w B b ss st nd A cap)(hB:B<=w.heap.size):
 Calls Lo.prog 63 #[.pointer (some ⟨b,0,none⟩)] w λe w'=>e=.returned (.bool (iQ ss))∧Below w.heap.size w w':=by
 obtain⟨U,U2,U3,U4,U5,U6⟩:=Lo.facts;have C:=Lo.call Tryz.func94;have c0:=hw.c0;go_enter Lo.get Tryz.func63,Tryz.ntmps63
 go_wp2_with(go_at_call 94;refine(Lo.KJ hw.rd hw.len hB).mono ?_;rintro e w1⟨rfl,hb1⟩)
 go_ret;exact⟨rfl,hb1⟩
def sV(ss:List eX)(m:Nat):Bool:=(List.range m).all λs=>decide (gM ss s<=0)
def IZ(ss:List eX)(k:Nat):sV ss (k+1)=(sV ss k&&decide (gM ss k<=0)):=by unfold sV;rw[List.range_succ,List.all_append];simp
def OP(ss:List eX){k m:Nat}(h:k<m)(hk:¬gM ss k<=0):sV ss m=false:=by unfold sV;rw[List.all_eq_false];exact⟨k,List.mem_range.2 h,by simpa using hk⟩
def gN(ss:List eX)(nd:Nat):Bool:=!iQ ss&&sV ss (2^ nd)
def EO(ss:List eX)(s:Nat)(h:∀x∈ss,x.ok)(hl:ss.length<=64): -512000000<=gM ss s∧gM ss s<=512000000:=by have :=IW ss s h 0;unfold gM;omega
def vC(nd:Nat)(h:nd<63):IntKind.u64.wrap ((2:Int)^ nd)=((2^ nd:Nat):Int):=by
 have h1:(2:Nat)^ nd<2^ 63:=Nat.pow_lt_pow_right (by decide) h;have h2:(2:Int)^ nd=((2^ nd:Nat):Int):=by simp
 rw[h2];exact Bu _ (Int.natCast_nonneg _) (by exact_mod_cast h1)
def Lo.oK{w:World}{B b:Nat}{ss:List eX}{st nd:Nat}{A:Option Addr}{cap:Nat}(hw:jG w B b ss st nd A cap)(hB:B<=w.heap.size)(hnd:nd<=16):
 Calls Lo.prog 34 #[.pointer (some ⟨b,0,none⟩)] w λe w'=>e=.returned (.bool (gN ss nd))∧Below w.heap.size w w':=by
 obtain⟨U,U2,U3,U4,U5,U6⟩:=Lo.facts;have C:=Lo.call Tryz.func63;have C2:=Lo.call Tryz.func64;have hp:(2:Nat)^ nd<=2^ 16:=Nat.pow_le_pow_right (by decide) hnd;cases hcr:iQ ss with
 |true=>
  have hres:gN ss nd=false:=by unfold gN;rw[hcr];rfl
  rw[hres];go_enter Lo.get Tryz.func34,Tryz.ntmps34
  go_wp2_with(go_at_call 63;refine(Lo.uN hw hB).mono ?_;rintro e w1⟨rfl,hb1⟩;rw[hcr])
  go_ret;exact⟨rfl,hb1⟩
 |false=>
  have hres:gN ss nd=sV ss (2^ nd):=by unfold gN;rw[hcr];rfl
  rw[hres];clear hres;have hsh:=vC nd (by omega);go_enter Lo.get Tryz.func34,Tryz.ntmps34
  go_wp2_with(go_at_call 63;refine(Lo.uN hw hB).mono ?_;rintro e w1⟨rfl,hb1⟩;rw[hcr];have c2:=(dH hb1 _ _ (aK hw.lt hB)).trans hw.c2)
  rw[show((2:Int)^ nd)=((2^ nd:Nat):Int)from by simp];generalize hm:2^ nd=m at hp;have c2':=c2;clear c2 hsh
  go_loopw [11] (λi wr=>∃k:Nat,k<=m∧i=.int .u64 (k:Int)∧sV ss k=true∧Below w.heap.size w wr) (λi _=>m-(intOf i).toNat)
  case atStart=>exact⟨0,bg _,rfl,rfl,hb1⟩
  case round=>
   obtain⟨k,hk,rfl,hf,hb⟩:=hrel
   by_cases hlt:k<m
   .have hlt':(k:Int)<(m:Int):=by omega
    have HF:=dw hf;have HB:=dw hb;have hwk:=hw.keep (λb o h=>dH hb b o (by omega));have Z5:B<=wr.heap.size:=aS hB hb.size;have OQ:k<2^ 63:=by omega
    clear hf hb hb1 c2'
    by_cases hq:gM ss k<=0
    .have HQ:=dw hq;have d1:decide (0<gM ss k)=false:=by simpa using hq
     clear hq
     go_wp2_with(go_at_call 64;refine(Lo.rR hwk Z5 k OQ).mono ?_;rintro e w2⟨rfl,hb2⟩)
     go_roundw
     case rel=>exact⟨k+1,by omega,by go_num,by rw[IZ,HF.out];simpa using HQ.out,HB.out.trans (hb2.mono HB.out.size)⟩
     case measure=>simp[intOf];omega
    .have HQ:=dw hq;have d1:decide (0<gM ss k)=true:=by simp;omega
     clear hq
     go_wp2_with(go_at_call 64;refine(Lo.rR hwk Z5 k OQ).mono ?_;rintro e w2⟨rfl,hb2⟩)
     go_ret;exact⟨by rw[hm,OP ss hlt (Int.not_le.2 HQ.out)];rfl,HB.out.trans (hb2.mono HB.out.size)⟩
   .obtain rfl:k=m:=by omega
    go_wp2;go_ret;exact⟨by rw[hm,hf];rfl,hb⟩
def gP(ss:List eX)(nd set:Nat)(eO:Bool):Bool:=
 if set=0 then !eO&&iQ ss else if eO then decide (0<gM ss (2^ nd-1-set))else decide (0<gM ss set)
def Lo.OT{w:World}{B b:Nat}{ss:List eX}{st nd:Nat}{A:Option Addr}{cap:Nat}(hw:jG w B b ss st nd A cap)(hB:B<=w.heap.size):
 Calls Lo.prog 42 #[.pointer (some ⟨b,0,none⟩),.int .u64 0,.bool false] w λe w'=>e=.returned (.bool (iQ ss))∧Below w.heap.size w w':=by
 have U:=Lo.underlying;have U2:=Lo.runUnderlying;have C:=Lo.call Tryz.func63;go_enter Lo.get Tryz.func42,Tryz.ntmps42
 go_wp2_with(go_at_call 63;refine(Lo.uN hw hB).mono ?_;rintro e w1⟨rfl,hb1⟩)
 go_ret;exact⟨rfl,hb1⟩
def Lo.OU{w:World}{b:Nat}:Calls Lo.prog 42 #[.pointer (some ⟨b,0,none⟩),.int .u64 0,.bool true] w λe w'=>e=.returned (.bool false)∧Below w.heap.size w w':=by have U:=Lo.underlying;have U2:=Lo.runUnderlying;go_enter Lo.get Tryz.func42,Tryz.ntmps42;go_wp2;go_ret;exact⟨rfl,di _ _⟩
def Lo.Rt{w:World}{B b:Nat}{ss:List eX}{st nd:Nat}{A:Option Addr}{cap:Nat}(hw:jG w B b ss st nd A cap)(hB:B<=w.heap.size)(set:Nat)(h0:0<set)(nE:set<2^ 63):
 Calls Lo.prog 42 #[.pointer (some ⟨b,0,none⟩),.int .u64 (set:Int),.bool false] w λe w'=>e=.returned (.bool (decide (0<gM ss set)))∧Below w.heap.size w w':=by
 have U:=Lo.underlying;have U2:=Lo.runUnderlying;have C:=Lo.call Tryz.func64;have d0:((set:Int)==0)=false:=by simp;omega
 go_enter Lo.get Tryz.func42,Tryz.ntmps42
 go_wp2_with(go_at_call 64;refine(Lo.rR hw hB set nE).mono ?_;rintro e w1⟨rfl,hb1⟩)
 go_ret;exact⟨rfl,hb1⟩
def Lo.Ru{w:World}{B b:Nat}{ss:List eX}{st nd:Nat}{A:Option Addr}{cap:Nat}(hw:jG w B b ss st nd A cap)(hB:B<=w.heap.size)(hnd:nd<=16)(set:Nat)(h0:0<set)(nE:set<2^ nd):
 Calls Lo.prog 42 #[.pointer (some ⟨b,0,none⟩),.int .u64 (set:Int),.bool true] w λe w'=>e=.returned (.bool (decide (0<gM ss (2^ nd-1-set))))∧Below w.heap.size w w':=by
 obtain⟨U,U2,U3,U4,U5,U6⟩:=Lo.facts;have C:=Lo.call Tryz.func64;have d0:((set:Int)==0)=false:=by simp;omega
 have c2:=hw.c2;have hp:(2:Nat)^ nd<=65536:=Nat.pow_le_pow_right (n:=2) (by decide) hnd;have hsh:=vC nd (by omega)
 have ez:IntKind.u64.wrap (IntKind.u64.wrap ((2:Int)^ nd-1)-(set:Int))=((2^ nd-1-set:Nat):Int):=by rw[show((2:Int)^ nd)=((2^ nd:Nat):Int)from by simp];generalize 2^ nd=m at *;rw[Bu ((m:Int)-1) (by omega) (by omega),Bu _ (by omega) (by omega)];omega
 have OQ:2^ nd-1-set<2^ 63:=by omega
 go_enter Lo.get Tryz.func42,Tryz.ntmps42
 go_wp2_with(go_at_call 64;refine(Lo.rR hw hB _ OQ).mono ?_;rintro e w1⟨rfl,hb1⟩)
 go_ret;exact⟨rfl,hb1⟩
def Lo.KN{w:World}{B b:Nat}{ss:List eX}{st nd:Nat}{A:Option Addr}{cap:Nat}(hw:jG w B b ss st nd A cap)(hB:B<=w.heap.size)(hnd:nd<=16)(set:Nat)(nE:set<2^ nd)(eO:Bool):
 Calls Lo.prog 42 #[.pointer (some ⟨b,0,none⟩),.int .u64 (set:Int),.bool eO] w λe w'=>e=.returned (.bool (gP ss nd set eO))∧Below w.heap.size w w':=by
 have hp:(2:Nat)^ nd<=65536:=Nat.pow_le_pow_right (n:=2) (by decide) hnd;unfold gP
 by_cases h0:set=0
 .subst h0;cases eO
  .simpa using Lo.OT hw hB
  .simpa using Lo.OU
 .cases eO
  .rw[aa h0];exact Lo.Rt hw hB set (by omega) (by omega)
  .rw[aa h0];exact Lo.Ru hw hB hnd set (by omega) nE
def Lo.I1:Lo.prog.underlying 22=some (.slice 3):=(Lo.underlying 22).trans (by kernel_rfl)
def Lo.info3:(Lo.prog.info? 3).map (λi=>(i.zero,i.size,i.bytes))=some (some (.int .i64 0),1,8):=by rw[Lo.info];kernel_rfl
def nk(set k:Nat):List Nat:=(List.range k).filter λi=>decide (bit set i=1)
def Ay(set k:Nat):nk set (k+1)=if bit set k=1 then nk set k++ [k]else nk set k:=by
 unfold nk;rw[List.range_succ,List.filter_append]
 by_cases h:bit set k=1<;>simp[h]
def CQ(set k:Nat):(nk set k).length<=k:=by unfold nk;exact aS (List.length_filter_le _ _) (by simp)
def xh(l:List Nat):List Value:=l.map λn:Nat=>.int .i64 (n:Int)
def kK(set:Nat):List Nat:=nk set 16
def Az(set k:Nat)(h:set/ 2^ k=0):∀d,nk set (k+d)=nk set k
 |0=>rfl
 |d+1=>by
  rw[<-Nat.add_assoc,Ay,aa,Az set k h d];unfold bit
  have:set/ 2^ (k+d)=0:=by rw[Nat.pow_add, <-Nat.div_div_eq_div_mul,h,Nat.zero_div]
  rw[this];simp
def Lo.Rv(set:Nat)(nE:set<2^ 16)(w:World):
 Calls Lo.prog 43 #[.int .u64 (set:Int)] w λe w'=>∃v,e=.returned v∧w'.ownsRow w.heap.size 3 1 v (kK set).length (xh (kK set))∧cS.dU w' v∧Below w.heap.size w w':=by
 obtain⟨U,U2,U3,U4,U5,U6⟩:=Lo.facts;obtain⟨i0,hi,hz0,hz1,hz2⟩:=info_parts Lo.info3;go_enter Lo.get Tryz.func43,Tryz.ntmps43;go_wp2
 go_loopw [3,4] (λv i wr=>∃k:Nat,k<=16∧i=.int .i64 (k:Int)∧wr.ownsRow w.heap.size 3 1 v (nk set k).length (xh (nk set k))∧cS.dU wr v∧Below w.heap.size w wr) (λ_ i _=>16-(intOf i).toNat)
 case atStart=>exact⟨0,by omega,rfl,by simpa[nk,xh]using World.ownsRow_nil w w.heap.size 3 1,cS.dU.nil _,di _ _⟩
 case round=>
  obtain⟨k,hk,rfl,hown,hpl,hb⟩:=hrel;have HP:=dw hpl;clear hpl;have hbl:bit set k<2:=KG set k;have ab:=F7 set k (by omega);have ls:=Ay set k;have ll:=CQ set k;have st:=Az set k;generalize hq:set/ 2^ k=q at st;have eq1:((set:Int)/ 2^ k)=(q:Int):=by rw[<-hq];simp
  rw[eq1]at ab
  by_cases h0:q=0
  .have hk2:kK set=nk set k:=by
    have :=st h0 (16-k);rw[show k+(16-k)=16 from by omega]at this;exact this
   have HK:=dw hk2;have HO:=dw hown;have HB:=dw hb;clear ab ls ll st hq hk2 hown hb;subst h0;go_wp2;go_ret;exact⟨_,rfl,by rw[HK.out];exact HO.out,HP.out,HB.out⟩
  .have at7:k<16:=by
    rcases bq k 16 with h|h
    .exact h
    .exfalso;obtain rfl:k=16:=by omega
     omega
   have d1:decide ((0:Int)<(q:Int))=true:=by simp;omega
   have Yw:=hb.size;clear hq st
   by_cases h1:bit set k=1
   .rw[aj h1]at ls;rw[h1]at ab;have LS:=dw ls;have HB:=dw hb;have H1:=dw h1;clear ls hb h1 hbl
    go_wp2_with(first
     |(at_builtin;refine cS.fZ rfl _ _ 22 rfl w.heap.size 3 i0 (.int .i64 0) 1 8 Lo.I1 hi hz0 hz1 hz2 rfl (by decide) _ _ _ rfl (hown.alloc _) ⟨wr.heap.size,0,none⟩ 1 1 [.int .i64 (k:Int)] rfl rfl ?c1 ?c2 ?c3 ?c4 ?c5 (HP.out.alloc _) ?c6 ?c7 ?_)
     |go_in)
    case c1=>
     intro j u hj
     match j,hj with
     |0,hj=>simp at hj;subst hj;simp[Addr.add]
    case c2=>intro u hu;simp at hu;subst hu;rfl
    case c3=>unfold maxLen;omega
    case c4=>omega
    case c5=>simp;omega
    case c6=>intro u hu;simp at hu;subst hu;rfl
    case c7=>intro u hu;simp[Value.cells]at hu;subst hu;rfl
    intro v' w1 hown' hgrow _ hp';have Rw:=dw hp';clear hp';have R:=(HB.out.alloc Yw (.cells #[.int .i64 (k:Int)] 3)).grown hgrow (by simp;omega) (λj hj=>(hown.lt j hj).1);have RO:=dw hown';clear hown' hgrow hown;go_wp2;go_roundw
    case rel=>exact⟨k+1,by omega,by go_num,by rw[LS.out];simpa[xh]using RO.out,Rw.out,R⟩
    case measure=>simp[intOf];omega
   .obtain h0':bit set k=0:=by omega
    rw[aa h1]at ls;rw[h0']at ab;have LS:=dw ls;have HB:=dw hb;clear ls hb h1 hbl h0';have HO:=dw hown;clear hown;go_wp2;go_roundw
    case rel=>exact⟨k+1,by omega,by go_num,by rw[LS.out];exact HO.out,HP.out,HB.out⟩
    case measure=>simp[intOf];omega
def xk(a b:Int):Int:=if a<b then -1 else if b<a then 1 else 0
def Lo.Gc(a:Int)(w:World):Calls Lo.prog 65 #[.int .i64 a] w λe w'=>e=.returned (.bool false)∧w'=w:=by
 have U:=Lo.underlying;have U2:=Lo.runUnderlying;have d:decide (a=a)=true:=by simp
 go_enter Lo.get Tryz.func65,Tryz.ntmps65;go_wp2;go_ret;exact⟨by simp,rfl⟩
def Lo.Gd(a b:Int)(w:World):Calls Lo.prog 37 #[.int .i64 a,.int .i64 b] w λe w'=>e=.returned (.int .i64 (xk a b))∧w'=w:=by
 have U:=Lo.underlying;have U2:=Lo.runUnderlying;have C:=Lo.call Tryz.func65;unfold xk;rcases Int.lt_trichotomy a b with h|h|h
 .rw[aj h];have d:decide (a<b)=true:=by simpa using h
  go_enter Lo.get Tryz.func37,Tryz.ntmps37
  go_wp2_with(go_at_call 65;refine(Lo.Gc _ _).mono ?_;rintro e w1⟨rfl,rfl⟩)
  go_ret;exact⟨rfl,rfl⟩
 .subst h;rw[aa (Int.lt_irrefl _),aa (Int.lt_irrefl _)];have d:decide (a<a)=false:=by simp
  go_enter Lo.get Tryz.func37,Tryz.ntmps37
  go_wp2_with(go_at_call 65;refine(Lo.Gc _ _).mono ?_;rintro e w1⟨rfl,rfl⟩)
  go_ret;exact⟨rfl,rfl⟩
 .rw[aa (by omega),aj h];have d:decide (a<b)=false:=by simp;omega
  have d2:decide (b<a)=true:=by simpa using h
  go_enter Lo.get Tryz.func37,Tryz.ntmps37
  go_wp2_with(go_at_call 65;refine(Lo.Gc _ _).mono ?_;rintro e w1⟨rfl,rfl⟩)
  go_ret;exact⟨rfl,rfl⟩
abbrev xJ(w:World)(B:Nat)(A:Option Addr)(l:List Int):Prop:=Rd w B 1 A l.length λi _=>.int .i64 ((l[i]?).getD 0)
def PT{w:World}{bb off k:Nat}{l:List Int}(hc:∀i j,i<l.length->j<1->w.cell? ⟨bb,off+(i*1+j),none⟩=some (.int .i64 ((l[i]?).getD 0)))(hlt:k<l.length):w.cell? ⟨bb,off+k,none⟩=some (.int .i64 l[k]):=by have :=hc k 0 hlt (by omega);rw[Nat.mul_one,aH]at this;rw[this,aN hlt];rfl
def ownsRow.PT{w:World}{base n B:Nat}{v:Value}{l:List Int}(h:w.ownsRow base 3 1 v n (l.map λx=>.int .i64 x)):∃A cap,v=.slice A n cap∧n=l.length∧(w.heap.size<=B->xJ w B A l):=by
 obtain⟨hl,h⟩:=h;have hn:n=l.length:=by simpa using hl.symm
 rcases h with⟨rfl,rfl⟩|⟨g,cap,cur,rfl,hb,hg,h1,h2,h3,h4⟩
 .exact⟨none,0,rfl,hn, λ_ h=>absurd h (by omega)⟩
 .refine⟨_,cap,rfl,hn, λhB _=>⟨g,0,rfl,aK (aI.1 hg).1 hB, λi j hi hj=>?_⟩⟩;obtain rfl:j=0:=by omega
  have e:(cur.toList.take (n*1))[i]?=some (.int .i64 ((l[i]?).getD 0)):=by rw[h4];simp[hi]
  rw[List.getElem?_take]at e;split at e
  .unfold World.cell?;simp only[hg];simpa using e
  .cases e
def jq:List Int->List Int->Int
 | [],[]=>0
 | [],_::_=> -1
 |_::_,[]=>1
 |a::x,b::y=>if xk a b=0 then jq x y else xk a b
def I4{l m:List Int}{k:Nat}(h1:k<l.length)(h2:k<m.length):jq (l.drop k) (m.drop k)=if xk l[k] m[k]=0 then jq (l.drop (k+1)) (m.drop (k+1))else xk l[k] m[k]:=by rw[aV h1,aV h2];rfl
def I5{l m:List Int}{k:Nat}(h1:k<l.length)(h2:m.length<=k):jq (l.drop k) (m.drop k)=1:=by rw[aV h1,List.drop_of_length_le h2];rfl
def KO{l m:List Int}{k:Nat}(h1:l.length<=k):jq (l.drop k) (m.drop k)=if k<m.length then -1 else 0:=by
 rw[List.drop_of_length_le h1];split
 .rename_i h;rw[aV h];rfl
 .rename_i h;rw[List.drop_of_length_le (by omega)];rfl
def Lo.Vi{w:World}{B:Nat}{A1 A2:Option Addr}{l1 l2:List Int}{c1 c2:Nat}(h1:xJ w B A1 l1)(h2:xJ w B A2 l2)(hl1:l1.length<=64)(hl2:l2.length<=64):
 Calls Lo.prog 38 #[.slice A1 l1.length c1,.slice A2 l2.length c2] w λe w'=>e=.returned (.int .i64 (jq l1 l2))∧w'=w:=by
 obtain⟨U,U2,U3,U4,U5,U6⟩:=Lo.facts;have C:=Lo.call Tryz.func37;go_enter Lo.get Tryz.func38,Tryz.ntmps38;go_wp2
 go_loopw [11] (λi wr=>∃k:Nat,k<=l1.length∧k<=l2.length∧i=.int .i64 (k:Int)∧jq (l1.drop k) (l2.drop k)=jq l1 l2∧wr=w) (λi _=>l1.length-(intOf i).toNat)
 case atStart=>exact⟨0,bg _,bg _,rfl,rfl,rfl⟩
 case round=>
  obtain⟨k,hk,hk2,rfl,hx,rfl⟩:=hrel
  by_cases hlt:k<l1.length
  .have hlt':(k:Int)<(l1.length:Int):=by omega
   obtain⟨b1,o1,rfl,hb1,hc1⟩:=h1 (by omega);have r1:=PT hc1 hlt
   by_cases hlt2:k<l2.length
   .have xr:(k:Int)<(l2.length:Int):=by omega
    have d2:decide ((l2.length:Int)<=(k:Int))=false:=by simp;omega
    obtain⟨b2,o2,rfl,hb2,hc2⟩:=h2 (by omega);have r2:=PT hc2 hlt2;have hd:=I4 hlt hlt2;rw[hx]at hd;clear hc1 hc2 h1 h2 hx;generalize l1[k]=x at r1 hd;generalize l2[k]=y at r2 hd
    by_cases hq:xk x y=0
    .rw[aj hq]at hd;have d3:(xk x y==0)=true:=by simpa using hq
     have HD:=dw hd;clear hd
     go_wp2_with(go_at_call 37;refine(Lo.Gd _ _ _).mono ?_;rintro e w1⟨rfl,rfl⟩)
     go_roundw
     case rel=>exact⟨k+1,by omega,by omega,by go_num,HD.out.symm,by simp⟩
     case measure=>simp[intOf];omega
    .rw[aa hq]at hd;have d3:(xk x y==0)=false:=by simpa using hq
     have HD:=dw hd;clear hd
     go_wp2_with(go_at_call 37;refine(Lo.Gd _ _ _).mono ?_;rintro e w1⟨rfl,rfl⟩)
     go_ret;exact⟨by rw[HD.out];rfl,rfl⟩
   .have d2:decide ((l2.length:Int)<=(k:Int))=true:=by simp;omega
    rw[I5 hlt (by omega)]at hx;have HX:=dw hx;clear hc1 h1 h2 hx;go_wp2;go_ret;exact⟨by rw[<-HX.out];rfl,rfl⟩
  .obtain rfl:k=l1.length:=by omega
   rw[KO (aJ _)]at hx
   by_cases hq:l1.length<l2.length
   .rw[aj hq]at hx;have d2:decide ((l1.length:Int)<(l2.length:Int))=true:=by simp;omega
    have HX:=dw hx;clear hx;go_wp2;go_ret;exact⟨by rw[<-HX.out];rfl,rfl⟩
   .rw[aa hq]at hx;have d2:decide ((l1.length:Int)<(l2.length:Int))=false:=by simp;omega
    have HX:=dw hx;clear hx;go_wp2;go_ret;exact⟨by rw[<-HX.out];rfl,rfl⟩
def oc(a b:Int):Int:=if a=0 then b else a
def Lo.Gf{w:World}{bb off:Nat}{a b:Int}{cap:Nat}(h1:w.cell? ⟨bb,off,none⟩=some (.int .i64 a))(h2:w.cell? ⟨bb,off+1,none⟩=some (.int .i64 b)):
 Calls Lo.prog 36 #[.slice (some ⟨bb,off,none⟩) 2 cap] w λe w'=>e=.returned (.int .i64 (oc a b))∧w'=w:=by
 obtain⟨U,U2,U3,U4,U5,U6⟩:=Lo.facts;unfold oc
 by_cases ha:a=0
 .rw[aj ha];subst ha
  by_cases hb:b=0
  .subst hb;go_enter Lo.get Tryz.func36,Tryz.ntmps36;go_wp2;refine wp_loop_rounds 3 ?_
   rw[rounds_succ];go_wp2
   rw[rounds_succ];go_wp2
   rw[rounds_succ];go_wp2
   go_ret;exact⟨rfl,rfl⟩
  .have d:(b==0)=false:=by simpa using hb
   go_enter Lo.get Tryz.func36,Tryz.ntmps36;go_wp2;refine wp_loop_rounds 2 ?_
   rw[rounds_succ];go_wp2
   rw[rounds_succ];go_wp2
   go_ret;exact⟨rfl,rfl⟩
 .rw[aa ha];have d:(a==0)=false:=by simpa using ha
  go_enter Lo.get Tryz.func36,Tryz.ntmps36;go_wp2;refine wp_loop_rounds 1 ?_
  rw[rounds_succ];go_wp2
  go_ret;exact⟨rfl,rfl⟩
def Lo.mixed:Lo.prog.follows .mixedOrders=true:=by rw[Lo.iB];show Tryz.prog.follows .mixedOrders=true;kernel_rfl
def kN(l:List Int)(m:Bool)(steps:List Int)(eO found:Bool):Bool:=
 let c:=oc (xk l.length steps.length) (jq l steps)
 if !found||decide (c<0)then true else if c=0 then eO&&!m else false
def Lo.KQ{w:World}{B bs bf bm:Nat}{A1 A2:Option Addr}{l st:List Int}{c1 c2:Nat}{m eO found:Bool}(h1:xJ w B A1 l)(h2:xJ w B A2 st)(hl1:l.length<=64)(hl2:st.length<=64)
 (hs:w.cell? ⟨bs,0,none⟩=some (.slice A2 st.length c2)) (hf:w.cell? ⟨bf,0,none⟩=some (.bool found)) (hm:w.cell? ⟨bm,0,none⟩=some (.bool eO)) (hB:B<=w.heap.size) (hbf:bf<w.heap.size) (yr:bm<w.heap.size):
 Calls Lo.prog 35 #[.slice A1 l.length c1,.bool m,.pointer (some ⟨bs,0,none⟩),.pointer (some ⟨bf,0,none⟩),.pointer (some ⟨bm,0,none⟩)] w λe w'=>e=.returned (.bool (kN l m st eO found))∧Below w.heap.size w w':=by
 obtain⟨U,U2,U3,U4,U5,U6⟩:=Lo.facts;have C:=Lo.call Tryz.func36;have C2:=Lo.call Tryz.func37;have C3:=Lo.call Tryz.func38;generalize hr:kN l m st eO found=r;unfold kN at hr;have HR:=dw hr;clear hr;go_enter Lo.get Tryz.func35,Tryz.ntmps35
 go_wp2_with fail
 go_still_tail 8,Lo.mixed
 still_call ((Lo.Gd _ _ _).mono (by rintro e w1⟨rfl,rfl⟩;exact⟨rfl,rfl⟩))
 repeat still_step
 have k1:xJ w.drew B A1 l:=h1.keep λ_ _ _=>rfl
 have k2:xJ w.drew B A2 st:=h2.keep λ_ _ _=>rfl
 still_call ((Lo.Vi k1 k2 hl1 hl2).mono (by rintro e w1⟨rfl,rfl⟩;exact⟨rfl,rfl⟩))
 refine wpStill_nil ?_
 change wpList _ _ _ _ _ w.drew;have hf2:w.drew.cell? ⟨bf,0,none⟩=some (.bool found):=hf;have hm2:w.drew.cell? ⟨bm,0,none⟩=some (.bool eO):=hm;have hbw:Below w.heap.size w w.drew:=(di _ _).drew;have au0:bf<w.drew.heap.size:=hbf;have au1:bm<w.drew.heap.size:=yr;have hsz:w.heap.size<=w.drew.heap.size:=aJ _;clear k1 k2 h1 h2 hs hf hm hbf yr hB;generalize w.drew=w2 at *;have hr:=HR.out;clear HR;generalize hx:xk l.length st.length=x at hr⊢;generalize hy:jq l st=y at hr⊢;have HB:=dw (hbw.alloc hsz (.cells #[.int .i64 x,.int .i64 y] 3));clear hx hy hbw hsz;generalize hc:oc x y=c at hr;have HR:=dw hr;clear hr;cases found with
 |false=>
  go_wp2_with(go_at_call 36;refine(Lo.Gf (a:=x) (b:=y) (by simp) (by simp)).mono ?_;rintro e w3⟨rfl,rfl⟩;rw[hc])
  go_ret;exact⟨by rw[<-HR.out];simp,HB.out⟩
 |true=>
  rcases Int.lt_trichotomy c 0 with h|h|h
  .have d:decide (c<0)=true:=by simpa using h
   go_wp2_with(go_at_call 36;refine(Lo.Gf (a:=x) (b:=y) (by simp) (by simp)).mono ?_;rintro e w3⟨rfl,rfl⟩;rw[hc])
   go_ret;exact⟨by rw[<-HR.out];simp[h],HB.out⟩
  .subst h;cases eO
   all_goals
    go_wp2_with(go_at_call 36;refine(Lo.Gf (a:=x) (b:=y) (by simp) (by simp)).mono ?_;rintro e w3⟨rfl,rfl⟩;rw[hc])
    go_ret;exact⟨by rw[<-HR.out];simp,HB.out⟩
  .have d:decide (c<0)=false:=by simp;omega
   have d2:(c==0)=false:=by simp;omega
   have hne:¬c=0:=by omega
   go_wp2_with(go_at_call 36;refine(Lo.Gf (a:=x) (b:=y) (by simp) (by simp)).mono ?_;rintro e w3⟨rfl,rfl⟩;rw[hc])
   go_ret;exact⟨by rw[<-HR.out];simp[hne];omega,HB.out⟩
def Lo.WS:Lo.prog.underlying 23=some (.slice 33):=(Lo.underlying 23).trans (by kernel_rfl)
def Lo.Rx:(Lo.prog.info? 33).map (λi=>(i.zero,i.size,i.bytes))=some (some (.agg #[.int .i64 0,.int .i64 0]),2,16):=by rw[Lo.info];kernel_rfl
def gW(o:List Int):List Value:=o.map λx=>.int .i64 x
def nY(ss:List eX):Nat->List Int
 |0=>[]
 |k+1=>nY ss k++match ss[k]? with |some x=>[x.lo,x.hi]|none=>[]
def xm(ss:List eX)(s:Nat)(o:List Int)(k:Nat):List Int:=
 match ss[k]? with
 |none=>o
 |some x=>
  if kJ s x.fr x.to=1 then o.set (2*k) (max ((o[2*k]?).getD 0) (gM ss s+x.hi))
  else if kJ s x.fr x.to=2 then o.set (2*k+1) (min ((o[2*k+1]?).getD 0) (x.lo-gM ss s))else o
def tX(ss:List eX)(s:Nat)(o:List Int):Nat->List Int
 |0=>o
 |k+1=>xm ss s (tX ss s o k) k
def nA(ss:List eX):Nat->List Int
 |0=>nY ss ss.length
 |m+1=>tX ss m (nA ss m) ss.length
def mG(ss:List eX)(nd:Nat):List Int:=nA ss (2^ nd)
def CR(ss:List eX):∀k,k<=ss.length->(nY ss k).length=2*k
 |0,_=>rfl
 |k+1,h=>by unfold nY;rw[aN h,List.length_append,CR ss k (by omega)];simp;omega
def KS(ss:List eX)(s:Nat)(o:List Int)(k:Nat):(xm ss s o k).length=o.length:=by
 unfold xm;split
 .rfl
 .split
  .simp
  .split<;>simp
def zN(ss:List eX)(s:Nat)(o:List Int):∀k,(tX ss s o k).length=o.length
 |0=>rfl
 |k+1=>by unfold tX;rw[KS,zN ss s o k]
def pV(ss:List eX):∀m,(nA ss m).length=2*ss.length
 |0=>CR ss _ (aJ _)
 |m+1=>by unfold nA;rw[zN,pV ss m]
def Ry(o:List Int):Prop:=∀x∈o, -600000000<=x∧x<=600000000
def I6(ss:List eX)(h:∀x∈ss,x.ok):∀k,Ry (nY ss k)
 |0=> λ_ h=>by simp[nY]at h
 |k+1=> λy hy=>by
  unfold nY at hy;rcases List.mem_append.1 hy with hy|hy
  .exact I6 ss h k y hy
  .cases hx:ss[k]? with
   |none=>rw[hx]at hy;simp at hy
   |some x=>
    rw[hx]at hy;obtain⟨a,b,c,d,_⟩:=h x (List.mem_of_getElem? hx);simp at hy;rcases hy with rfl|rfl<;>omega
def Ry.get{o:List Int}(h:Ry o)(k:Nat): -600000000<=(o[k]?).getD 0∧(o[k]?).getD 0<=600000000:=by
 cases hx:o[k]? with
 |none=>simp
 |some x=>exact h x (List.mem_of_getElem? hx)
def Ry.set{o:List Int}(h:Ry o)(k:Nat){v:Int}(hv: -600000000<=v∧v<=600000000):Ry (o.set k v):= λx hx=>by
 rcases List.mem_or_eq_of_mem_set hx with hx|rfl
 .exact h x hx
 .exact hv
def Rz(ss:List eX)(h:∀x∈ss,x.ok)(hl:ss.length<=64)(s:Nat){o:List Int}(ho:Ry o)(k:Nat):Ry (xm ss s o k):=by
 have hs:=EO ss s h hl;unfold xm;split
 .exact ho
 .rename_i x hx;obtain⟨a,b,c,d,_⟩:=h x (List.mem_of_getElem? hx);have g1:=ho.get (2*k);have g2:=ho.get (2*k+1);split
  .exact ho.set _ (by omega)
  .split
   .exact ho.set _ (by omega)
   .exact ho
def Gg(ss:List eX)(h:∀x∈ss,x.ok)(hl:ss.length<=64)(s:Nat){o:List Int}(ho:Ry o):∀k,Ry (tX ss s o k)
 |0=>ho
 |k+1=>Rz ss h hl s (Gg ss h hl s ho k) k
def I7(ss:List eX)(h:∀x∈ss,x.ok)(hl:ss.length<=64):∀m,Ry (nA ss m)
 |0=>I6 ss h _
 |m+1=>Gg ss h hl m (I7 ss h hl m) _
def ownsRow.below{w w2:World}{base e size n:Nat}{v:Value}{xs:List Value}(h:w.ownsRow base e size v n xs)(hb:Below w.heap.size w w2):w2.ownsRow base e size v n xs:=by obtain⟨h1,h2⟩:=h;refine⟨h1,h2.imp id ?_⟩;rintro⟨g,cap,cur,a,b,c,d⟩;exact⟨g,cap,cur,a,b,(hb.block g (aI.1 c).1).trans c,d⟩
def ownsRow.shape{w:World}{base e size n:Nat}{v:Value}{xs:List Value}(h:w.ownsRow base e size v n xs)(hn:0<n):∃g cap,v=.slice (some ⟨g,0,none⟩) n cap∧base<=g∧g<w.heap.size:=by
 rcases h.2 with⟨_,rfl⟩|⟨g,cap,cur,a,b,c,d⟩
 .omega
 .exact⟨g,cap,a,b,(aI.1 c).1⟩
def sW(o:List Int){k:Nat}(h:k<o.length):(gW o)[k]?=some (.int .i64 ((o[k]?).getD 0)):=by unfold gW;rw[List.getElem?_map,aN h];rfl
def CS(o:List Int)(k:Nat)(x:Int):(gW o).set k (.int .i64 x)=gW (o.set k x):=by unfold gW;rw[List.map_set]
def Lo.OV{w:World}{B b:Nat}{ss:List eX}{st nd:Nat}{A:Option Addr}{cap:Nat}(hw:jG w B b ss st nd A cap)(hB:B<=w.heap.size)(hnd:nd<=16):
 Calls Lo.prog 58 #[.pointer (some ⟨b,0,none⟩)] w λe w'=>∃v,e=.returned v∧w'.ownsRow w.heap.size 33 2 v ss.length (gW (mG ss nd))∧cS.dU w' v∧Below w.heap.size w w':=by
 obtain⟨U,U2,U3,U4,U5,U6⟩:=Lo.facts;have C:=Lo.call Tryz.func64;have C2:=Lo.call Tryz.func93;obtain⟨i0,hi,hz0,hz1,hz2⟩:=info_parts Lo.Rx;have hlen:=hw.len;have c0:=hw.c0;go_enter Lo.get Tryz.func58,Tryz.ntmps58;go_wp2
 go_loopw [3,15] (λv i wr=>∃k:Nat,k<=ss.length∧i=.int .i64 (k:Int)∧wr.ownsRow w.heap.size 33 2 v k (gW (nY ss k))∧cS.dU wr v∧Below w.heap.size w wr) (λ_ i _=>ss.length-(intOf i).toNat)
 case atStart=>exact⟨0,bg _,rfl,by simpa[nY,gW]using World.ownsRow_nil w w.heap.size 33 2,cS.dU.nil _,di _ _⟩
 case round=>
  obtain⟨k,hk,rfl,hown,hpl,hb⟩:=hrel;have HP:=dw hpl;clear hpl
  by_cases hlt:k<ss.length
  .have hlt':(k:Int)<(ss.length:Int):=by omega
   obtain⟨bb,off,rfl,hbb,hc⟩:=(hw.rd.keep (λb o h=>dH hb b o (by omega))) (by omega);obtain⟨k0,k1,k2,k3⟩:=Gb (B:=B) hc hlt
   have hin:nY ss (k+1)=nY ss k++ [ss[k].lo,ss[k].hi]:=by show nY ss k++_=_;rw[aN hlt]
   generalize ss[k]=x at hin k0 k1 k2 k3;obtain⟨lo,hi',fr,to⟩:=x;simp only at hin k0 k1 k2 k3;have Yw:=hb.size;have HB:=dw hb;have HI:=dw hin;clear hb hc hin c0
   go_wp2_with(first
    |(at_builtin;refine cS.fZ rfl _ _ 23 rfl w.heap.size 33 i0 (.agg #[.int .i64 0,.int .i64 0]) 2 16 Lo.WS hi hz0 hz1 hz2 rfl (by decide) _ _ _ rfl ((hown.alloc _).alloc _) ⟨wr.heap.size+1,0,none⟩ 1 1 [.int .i64 lo,.int .i64 hi'] rfl rfl ?c1 ?c2 ?c3 ?c4 ?c5 ((HP.out.alloc _).alloc _) ?c6 ?c7 ?_)
    |go_in)
   case c1=>
    intro j u hj
    match j,hj with
    |0,hj=>simp at hj;subst hj;simp[Addr.add]
    |1,hj=>simp at hj;subst hj;simp[Addr.add]
   case c2=>intro u hu;simp at hu;rcases hu with rfl|rfl<;>rfl
   case c3=>unfold maxLen;omega
   case c4=>omega
   case c5=>simp;omega
   case c6=>intro u hu;simp at hu;rcases hu with rfl|rfl<;>rfl
   case c7=>intro u hu;simp[Value.cells]at hu;subst hu;rfl
   intro v' w1 hown' hgrow _ hp';have Rw:=dw hp';clear hp';have R:=((HB.out.alloc Yw _).alloc (by simp;omega) _).grown hgrow (by simp;omega) (λj hj=>(hown.lt j hj).1);have RO:=dw hown';clear hown' hgrow hown;go_wp2;go_roundw
   case rel=>exact⟨k+1,by omega,by go_num,by rw[HI.out];simpa[gW]using RO.out,Rw.out,R⟩
   case measure=>simp[intOf];omega
  .obtain rfl:k=ss.length:=by omega
   have Yw:=hb.size;have hsh:=vC nd (by omega);have hp:(2:Nat)^ nd<=65536:=Nat.pow_le_pow_right (n:=2) (by decide) hnd;have c2:=(dH hb _ _ (aK hw.lt hB)).trans hw.c2;go_wp2;rw[show((2:Int)^ nd)=((2^ nd:Nat):Int)from by simp];generalize hm:2^ nd=m at hp;clear hsh c2 c0
   go_loopw [35] (λi wq=>∃k:Nat,k<=m∧i=.int .u64 (k:Int)∧wq.ownsRow w.heap.size 33 2 u3 ss.length (gW (nA ss k))∧cS.dU wq u3∧Below w.heap.size w wq) (λi _=>m-(intOf i).toNat)
   case atStart=>exact⟨0,bg _,rfl,hown,HP.out,hb⟩
   case round=>
    obtain⟨k,hk,rfl,hown,hpl,hb⟩:=hrel;have zr:=dw hpl;clear hpl HP
    by_cases hlt:k<m
    .have hlt':(k:Int)<(m:Int):=by omega
     have hwk:=hw.keep (λb o h=>dH hb b o (by omega));have Z5:B<=wr.heap.size:=aS hB hb.size;have OQ:k<2^ 63:=by omega
     have HB:=dw hb;have HO:=dw hown;have c0:=hwk.c0;clear hb hown
     go_wp2_with(go_at_call 64;refine(Lo.rR hwk Z5 k OQ).mono ?_;rintro e w2⟨rfl,hb2⟩;have c0':=(dH hb2 _ _ (aK hw.lt Z5)).trans hwk.c0)
     have hb3:=HB.out.trans (hb2.mono HB.out.size);have HP2:=dw (zr.out.keep λg hg=>hb2.block g (HO.out.lt g hg).2);have hown3:w2.ownsRow w.heap.size 33 2 u3 ss.length (gW (tX ss k (nA ss k) 0)):=ownsRow.below HO.out hb2;clear c0 c0' hwk Z5 hb2 HB HO
     go_loopw [46] (λi wq=>∃j:Nat,j<=ss.length∧i=.int .i64 (j:Int)∧wq.ownsRow w.heap.size 33 2 u3 ss.length (gW (tX ss k (nA ss k) j))∧cS.dU wq u3∧Below w.heap.size w wq) (λi _=>ss.length-(intOf i).toNat)
     case atStart=>exact⟨0,bg _,rfl,hown3,HP2.out,hb3⟩
     case round=>
      obtain⟨j,hj,rfl,hown,hpl,hb⟩:=hrel;have HP:=dw hpl;clear hpl
      by_cases hjl:j<ss.length
      .have RA:(j:Int)<(ss.length:Int):=by omega
       obtain⟨bb,off,rfl,hbb,hc⟩:=(hw.rd.keep (λb o h=>dH hb b o (by omega))) (by omega);obtain⟨k0,k1,k2,k3⟩:=Gb (B:=B) hc hjl;have hx:=hw.ok ss[j] (aX hjl);have hsa:=EO ss k hw.ok hw.len;have hrow:tX ss k (nA ss k) (j+1)=xm ss k (tX ss k (nA ss k) j) j:=rfl;have sg:=Gg ss hw.ok hw.len k (I7 ss hw.ok hw.len k) j;have hol:(tX ss k (nA ss k) j).length=2*ss.length:=by rw[zN,pV]
       unfold xm at hrow;rw[aN hjl]at hrow;simp only at hrow;generalize tX ss k (nA ss k) j=o at hrow sg hol hown;generalize ho':tX ss k (nA ss k) (j+1)=o' at hrow;have Vj:=dw ho';clear ho';generalize ss[j]=x at hrow hx k0 k1 k2 k3;obtain⟨lo,hi',fr,to⟩:=x;obtain⟨x1,x2,x3,x4,x5,x6⟩:=hx;simp only at hrow x1 x2 x3 x4 x5 x6 k0 k1 k2 k3;generalize gM ss k=n at *;obtain⟨g,KT,rfl,hg1,hg2⟩:=ownsRow.shape hown (by omega);have hg0:=sg.get (2*j);have xj:=sg.get (2*j+1);have e0:=sW o (k:=2*j) (by omega);have e1:=sW o (k:=2*j+1) (by omega);generalize(o[2*j]?).getD 0=a0 at *;generalize(o[2*j+1]?).getD 0=a1 at *;have hbs:=hb.size;have hks:k<2^ 63:=by omega
       have HOW:=dw hown;have HB:=dw hb;have HC0:=dw ((HOW.out.cellAt (2*j) (by omega)).trans e0);have HC1:=dw ((HOW.out.cellAt (2*j+1) (by omega)).trans e1);have HF:=dw (HOW.out.frozenAt);clear hown hb hc e0 e1 sg
       have hq:kJ k fr to=1∨kJ k fr to=2∨kJ k fr to=0:=by
        unfold kJ;split
        .exact .inl rfl
        .split
         .exact .inr (.inl rfl)
         .exact .inr (.inr rfl)
       rcases hq with hq|hq|hq
       .rw[aj hq]at hrow;have HQ:=dw hq;have HR:=dw hrow;clear hq hrow
        go_wp2_with(go_at_call 93;refine(Lo.MH _ _ _ _ _ _ _ x5 x6 hks HQ.out).mono ?_;rintro e w4⟨rfl,hb4⟩)
        have hold:∀y,y<wr.heap.size->w4.heap[y]?=wr.heap[y]?:= λy hy=>(hb4.block y (by simp;omega)).trans (cZ _ _ _ hy)
        have AA:w4.ownsRow w.heap.size 33 2 (.slice (some ⟨g,0,none⟩) ss.length KT) ss.length (gW o):=ownsRow.below (HOW.out.alloc _) hb4;have vR:Below w.heap.size w w4:=(HB.out.alloc hbs _).trans (hb4.mono (by simp;omega))
        have k9:∀i:Nat,w4.cell? ⟨wr.heap.size,i,none⟩=(#[.int .i64 lo,.int .i64 hi',.int .i64 (fr:Int),.int .i64 (to:Int)]:Array Value)[i]?:= λi=>by rw[dm (w:=wr.alloc (.cells #[.int .i64 lo,.int .i64 hi',.int .i64 (fr:Int),.int .i64 (to:Int)] 122)) (hb4.block wr.heap.size (by simp)),cO _ _ _ _ rfl]
        have k90:w4.cell? ⟨wr.heap.size,0,none⟩=some (.int .i64 lo):=k9 0;have k91:w4.cell? ⟨wr.heap.size,1,none⟩=some (.int .i64 hi'):=k9 1
        have kg:w4.cell? ⟨g,j*2+0,none⟩=some (.int .i64 a0):=by rw[show j*2+0=2*j+0 from by omega,dm (w:=wr) (hold g hg2)];exact HC0.out
        have kf:w4.frozen? ⟨g,j*2+0,none⟩=false:=by rw[World.frozen?_of_block (w:=wr) (hold g hg2)];exact HF.out _
        have Yx:=dw ((HP.out.alloc (.cells #[.int .i64 lo,.int .i64 hi',.int .i64 (fr:Int),.int .i64 (to:Int)] 122)).keep λg' hg'=>hb4.block g' (by have :=(HOW.out.lt g' hg').2;simp;omega));have Yy:=dw AA;have Yz:=dw vR;clear hold k9 AA vR hb4 k0 k1 k2 k3
        try simp only[aH]at kg kf
        go_still_tail 13,Lo.mixed
        change wpList _ _ _ _ _ w4.drew;have kf':w4.drew.frozen? ⟨g,j*2,none⟩=false:=kf;have kg':w4.drew.cell? ⟨g,j*2,none⟩=some (.int .i64 a0):=kg;have zj:Hid (w4.drew.ownsRow w.heap.size 33 2 (.slice (some ⟨g,0,none⟩) ss.length KT) ss.length (gW o)):=Yy;have D6:Below w.heap.size w w4.drew:=Yz.out.drew;have Hj:Hid (cS.dU w4.drew (.slice (some ⟨g,0,none⟩) ss.length KT)):=Yx;have I8:=dw D6;clear Yx;clear D6 Yy Yz kf kg;generalize w4.drew=w5 at *;go_wp2;go_roundw
        case rel=>
         refine⟨j+1,by omega,by go_num,?_,Hj.out.setCell rfl,I8.out.setCell (by show w.heap.size<=g;omega) _⟩;have hv:(if a0<n+hi' then n+hi' else a0)=max a0 (n+hi'):=by split<;>omega
         have :=(zj.out.stored (2*j) (.int .i64 (max a0 (n+hi')))).1;rw[CS, <-HR.out, <-Vj.out]at this;rw[show j*2=2*j from Nat.mul_comm _ _]
         first|exact this|(rw[hv];exact this)
        case measure=>simp[intOf];omega
       .rw[aa (by omega),aj hq]at hrow;have HQ:=dw hq;have HR:=dw hrow;clear hq hrow
        go_wp2_with(go_at_call 93;refine(Lo.MH _ _ _ _ _ _ _ x5 x6 hks HQ.out).mono ?_;rintro e w4⟨rfl,hb4⟩)
        have hold:∀y,y<wr.heap.size->w4.heap[y]?=wr.heap[y]?:= λy hy=>(hb4.block y (by simp;omega)).trans (cZ _ _ _ hy)
        have AA:w4.ownsRow w.heap.size 33 2 (.slice (some ⟨g,0,none⟩) ss.length KT) ss.length (gW o):=ownsRow.below (HOW.out.alloc _) hb4;have vR:Below w.heap.size w w4:=(HB.out.alloc hbs _).trans (hb4.mono (by simp;omega))
        have k9:∀i:Nat,w4.cell? ⟨wr.heap.size,i,none⟩=(#[.int .i64 lo,.int .i64 hi',.int .i64 (fr:Int),.int .i64 (to:Int)]:Array Value)[i]?:= λi=>by rw[dm (w:=wr.alloc (.cells #[.int .i64 lo,.int .i64 hi',.int .i64 (fr:Int),.int .i64 (to:Int)] 122)) (hb4.block wr.heap.size (by simp)),cO _ _ _ _ rfl]
        have k90:w4.cell? ⟨wr.heap.size,0,none⟩=some (.int .i64 lo):=k9 0;have k91:w4.cell? ⟨wr.heap.size,1,none⟩=some (.int .i64 hi'):=k9 1
        have kg:w4.cell? ⟨g,j*2+1,none⟩=some (.int .i64 a1):=by rw[show j*2+1=2*j+1 from by omega,dm (w:=wr) (hold g hg2)];exact HC1.out
        have kf:w4.frozen? ⟨g,j*2+1,none⟩=false:=by rw[World.frozen?_of_block (w:=wr) (hold g hg2)];exact HF.out _
        have Yx:=dw ((HP.out.alloc (.cells #[.int .i64 lo,.int .i64 hi',.int .i64 (fr:Int),.int .i64 (to:Int)] 122)).keep λg' hg'=>hb4.block g' (by have :=(HOW.out.lt g' hg').2;simp;omega));have Yy:=dw AA;have Yz:=dw vR;clear hold k9 AA vR hb4 k0 k1 k2 k3
        try simp only[aH]at kg kf
        go_still_tail 13,Lo.mixed
        change wpList _ _ _ _ _ w4.drew;have kf':w4.drew.frozen? ⟨g,j*2+1,none⟩=false:=kf;have kg':w4.drew.cell? ⟨g,j*2+1,none⟩=some (.int .i64 a1):=kg;have zj:Hid (w4.drew.ownsRow w.heap.size 33 2 (.slice (some ⟨g,0,none⟩) ss.length KT) ss.length (gW o)):=Yy;have D6:Below w.heap.size w w4.drew:=Yz.out.drew;have Hj:Hid (cS.dU w4.drew (.slice (some ⟨g,0,none⟩) ss.length KT)):=Yx;have I8:=dw D6;clear Yx;clear D6 Yy Yz kf kg;generalize w4.drew=w5 at *;go_wp2;go_roundw
        case rel=>
         refine⟨j+1,by omega,by go_num,?_,Hj.out.setCell rfl,I8.out.setCell (by show w.heap.size<=g;omega) _⟩;have hv:(if lo-n<a1 then lo-n else a1)=min a1 (lo-n):=by split<;>omega
         have :=(zj.out.stored (2*j+1) (.int .i64 (min a1 (lo-n)))).1;rw[CS, <-HR.out, <-Vj.out]at this;rw[show j*2=2*j from Nat.mul_comm _ _]
         first|exact this|(rw[hv];exact this)
        case measure=>simp[intOf];omega
       .rw[aa (by omega),aa (by omega)]at hrow;have HQ:=dw hq;have HR:=dw hrow;clear hq hrow
        go_wp2_with(go_at_call 93;refine(Lo.MH _ _ _ _ _ _ _ x5 x6 hks HQ.out).mono ?_;rintro e w4⟨rfl,hb4⟩)
        have AA:w4.ownsRow w.heap.size 33 2 (.slice (some ⟨g,0,none⟩) ss.length KT) ss.length (gW o):=ownsRow.below (HOW.out.alloc _) hb4;have vR:Below w.heap.size w w4:=(HB.out.alloc hbs _).trans (hb4.mono (by simp;omega));have Yx:=dw ((HP.out.alloc (.cells #[.int .i64 lo,.int .i64 hi',.int .i64 (fr:Int),.int .i64 (to:Int)] 122)).keep λg' hg'=>hb4.block g' (by have :=(HOW.out.lt g' hg').2;simp;omega));have Yy:=dw AA;have Yz:=dw vR;clear AA vR hb4;go_roundw
        case rel=>exact⟨j+1,by omega,by go_num,by rw[Vj.out,HR.out];exact Yy.out,Yx.out,Yz.out⟩
        case measure=>simp[intOf];omega
      .obtain rfl:j=ss.length:=by omega
       go_wp2;go_roundw
       case rel=>exact⟨k+1,by omega,by go_num,hown,HP.out,hb⟩
       case measure=>simp[intOf];omega
    .obtain rfl:k=m:=by omega
     go_wp2;go_ret;exact⟨_,rfl,by unfold mG;rw[hm];exact hown,zr.out,hb⟩
end
end Go.Proofs
