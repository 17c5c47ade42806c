/- Part 22. -/
import Derived.Test.YtnemnkmojiljmaaE12
import Derived.Test.YtnemnkmojiljmaaE13
import Derived.Test.YtnemnkmojiljmaaE19
import Derived.Test.YtnemnkmojiljmaaE20
import Derived.Test.YtnemnkmojiljmaaE21
set_option maxRecDepth 100000
set_option maxHeartbeats 8000000
set_option linter.all false
section
namespace Go.Proofs
open Go Go.RowKit Go.Maps
attribute [local instance] Par.noSh
noncomputable def Try.xh:Code:=Try.f5.body.getD .skip
noncomputable def Try.W8:Code:=(Try.bP 8 Try.xh).getD .skip
noncomputable def Try.W9:Code:=(Try.bP 9 Try.xh).getD .skip
def Wv (n g cap:Nat):iR:={ Vb n with ac:=some ⟨g,0,none⟩,cc:=cap }
def aj6 (n:Nat) (a:Act) (w:World):Prop:=
 ∃(L:List Nat) (bo g q m2 o2 q2 m4 o4 q4 m6 o6 q6:Nat),(a.defers= []∧a.tmps.size=160∧(∀S cd,Par.VS (Par.FA S S cd λb=>decide (b∈L)) a.tmps))∧
  (∀b∈L,∃c e fr,w.heap[b]?=some (.cells c e fr)∧∀x∈c,Par.dI x=true∨∃p l cp,x= .slice p l cp∧∀q,p=some q->q.block∈L)∧
  (a.tmps[2]?=some (.slice (some ⟨m2,o2,none⟩) 5 q2)∧a.tmps[3]?=some (.int .i64 0)∧a.tmps[4]?=some (.slice (some ⟨m4,o4,none⟩) 4 q4)∧a.tmps[5]?=some (.int .i64 0)∧a.tmps[6]?=some (.slice (some ⟨m6,o6,none⟩) 2 q6)∧a.tmps[7]?=some (.int .i64 0)∧
    a.tmps[8]?=some (.pointer (some ⟨bo,0,none⟩))∧a.tmps[9]?=some (.int .i64 3)∧a.tmps[10]?=some (.int .i64 0))∧
  (bo∈L∧g∈L∧m2∈L∧m4∈L∧m6∈L∧(∀k,1<=k->k<=17->n+k∈L)∧∀b∈L,n<=b∨b=m2∨b=m4∨b=m6)∧
  w.heap[bo]?=some (.cells #[.slice (some ⟨n+1,0,none⟩) 2 2,.slice (some ⟨n+2,0,none⟩) 5 5,.slice (some ⟨n+13,0,none⟩) 4 4,.slice (some ⟨g,0,none⟩) 4 q] 43)∧4<=q∧
  (∀k,k<18->w.heap[n+k]?=(LX n)[k]?)∧(∀j,j<12->w.cell? ⟨g,j,none⟩=some (.int .i64 (([0,105,110,2,90,90,4,14,16,1,14,20][j]?).getD 0)))∧
  kR w (some ⟨m2,o2,none⟩) 5 (sG uH)∧kR w (some ⟨m4,o4,none⟩) 4 (Am uH)∧Cy w w.heap.size (some ⟨m6,o6,none⟩) (BK uH 1)
theorem vH {X:World} {b off l c:Nat} {L:List Nat} (h:Par.cZ X (.slice (some ⟨b,off,none⟩) l c)):∃c e fr,X.heap[b]?=some (.cells c e fr)∧∀x∈c,Par.dI x=true∨∃p l cp,x= .slice p l cp∧∀q,p=some q->q.block∈L:=by
 obtain ⟨c,e,h1,h2⟩:=h b rfl;exact ⟨c,e,_,h1, λx hx=>.inl (h2 x hx)⟩
theorem Qh {X:World} {n:Nat} {L:List Nat} (h:∀k,k<18->X.heap[n+k]?=(LX n)[k]?) (hL:∀k,1<=k->k<=17->n+k∈L) {k:Nat} (h1:1<=k) (h2:k<=17):
 ∃c e fr,X.heap[n+k]?=some (.cells c e fr)∧∀x∈c,Par.dI x=true∨∃p l cp,x= .slice p l cp∧∀q,p=some q->q.block∈L:=by
 rw [h k (by omega)];have pl:∀{c:Array Value},(c.all Par.dI)=true->∀x∈c,Par.dI x=true∨∃p l cp,x= .slice p l cp∧∀q,p=some q->q.block∈L:= λhc x hx=>.inl (Array.all_eq_true'.1 hc x hx)
 obtain rfl|rfl|rfl|rfl|rfl|rfl|rfl|rfl|rfl|rfl|rfl|rfl|rfl|rfl|rfl|rfl|rfl:k=1∨k=2∨k=3∨k=4∨k=5∨k=6∨k=7∨k=8∨k=9∨k=10∨k=11∨k=12∨k=13∨k=14∨k=15∨k=16∨k=17:=by omega
 all_goals refine ⟨_,_,_,rfl,?_⟩
 all_goals first |(refine pl ?_;simp [Par.dI];done)|skip
 intro x hx;simp only [List.mem_toArray,aT,List.not_mem_nil,or_false] at hx;rcases hx with rfl|rfl|rfl|rfl|rfl|rfl|rfl|rfl|rfl|rfl|rfl|rfl|rfl|rfl|rfl|rfl|rfl|rfl|rfl|rfl|rfl|rfl|rfl|rfl|rfl|rfl|rfl|rfl
 all_goals first |exact .inl rfl|(refine .inr ⟨_,_,_,rfl,?_⟩;intro q hq;cases hq;exact hL _ (by omega) (by omega))
variable [Lo.St]
def exA (n:Nat):Value:=.agg #[.slice (some ⟨n+1,0,none⟩) 2 2,.slice (some ⟨n+2,0,none⟩) 5 5,.slice (some ⟨n+13,0,none⟩) 4 4,.slice (some ⟨n+17,0,none⟩) 3 3]
def Vj (n:Nat):Obj:=.cells #[.slice (some ⟨n+1,0,none⟩) 2 2,.slice (some ⟨n+2,0,none⟩) 5 5,.slice (some ⟨n+13,0,none⟩) 4 4,.slice (some ⟨n+17,0,none⟩) 3 3] 43
structure zO (n bb:Nat) (X:World):Prop where
 at_:∀k,k<18->X.heap[n+k]?=(LX n)[k]?
 box:X.heap[bb]?=some (Vj n)
 lt:n+18<=X.heap.size
theorem zO.below {n bb:Nat} {X X':World} (h:zO n bb X) (hb:Below X.heap.size X X'):zO n bb X':=
 ⟨λk hk=>(hb.block _ (by have :=h.lt;omega)).trans (h.at_ k hk),(hb.block _ (aa.1 h.box).1).trans h.box,aC h.lt hb.size⟩
theorem zO.alloc {n bb:Nat} {X:World} (h:zO n bb X) (o:Obj):zO n bb (X.alloc o):=h.below ((Below.refl _ _).alloc (aj _) o)
theorem Co {X:World} {b:Nat} {v0 v1 v2 v3:Value} {e:TypeId} (h:X.heap[b]?=some (.cells #[v0,v1,v2,v3] e)):X.cell? ⟨b,0,none⟩=some v0∧X.cell? ⟨b,1,none⟩=some v1∧X.cell? ⟨b,2,none⟩=some v2∧X.cell? ⟨b,3,none⟩=some v3:=by
 unfold World.cell?;simp only [h];exact ⟨rfl,rfl,rfl,rfl⟩
theorem zO.cells {n bb:Nat} {X:World} (h:zO n bb X):X.cell? ⟨bb,0,none⟩=some (.slice (some ⟨n+1,0,none⟩) 2 2)∧X.cell? ⟨bb,1,none⟩=some (.slice (some ⟨n+2,0,none⟩) 5 5)∧X.cell? ⟨bb,2,none⟩=some (.slice (some ⟨n+13,0,none⟩) 4 4)∧X.cell? ⟨bb,3,none⟩=some (.slice (some ⟨n+17,0,none⟩) 3 3):=Co h.box
theorem Ot {X:World} {A:Option Addr} {n:Nat} {o:List Int} (h:kR X A n o) (hn:0<n):∃b off,A=some ⟨b,off,none⟩:=by
 obtain ⟨b,off,e,_⟩:=h hn;exact ⟨b,off,e⟩
theorem Lo.Qi {n bb:Nat} {X:World} (h:zO n bb X):Calls Lo.prog 12 #[exA n] X λe X'=>∃b off cap,e= .returned (.tuple #[.slice (some ⟨b,off,none⟩) 5 cap,.int .i64 0])∧kR X' (some ⟨b,off,none⟩) 5 (sG uH)∧Par.cZ X' (.slice (some ⟨b,off,none⟩) 5 cap)∧Below X.heap.size X X':=by
 refine (Lo.LU (b:=uH) (v:=Vb n) rfl (IE h.at_ h.lt) (aj _) Em).mono ?_
 rintro e X' ⟨hb,h2⟩;rw [if_neg (by rw [Ej];simp),if_pos El] at h2;obtain ⟨A,cap,rfl,hs,hp⟩:=h2;obtain ⟨b,off,rfl⟩:=Ot hs (by decide);exact ⟨b,off,cap,rfl,hs,hp,hb⟩
theorem Lo.Qj {n bb:Nat} {X:World} (h:zO n bb X):Calls Lo.prog 13 #[exA n] X λe X'=>∃b off cap,e= .returned (.tuple #[.slice (some ⟨b,off,none⟩) 4 cap,.int .i64 0])∧kR X' (some ⟨b,off,none⟩) 4 (Am uH)∧Par.cZ X' (.slice (some ⟨b,off,none⟩) 4 cap)∧Below X.heap.size X X':=by
 refine (Lo.LV (b:=uH) (v:=Vb n) rfl (IE h.at_ h.lt) (aj _) Em).mono ?_
 rintro e X' ⟨hb,h2⟩;rw [if_neg (by rw [Ej];simp),if_pos El] at h2;obtain ⟨A,cap,rfl,hs,hp⟩:=h2;obtain ⟨b,off,rfl⟩:=Ot hs (by decide);exact ⟨b,off,cap,rfl,hs,hp,hb⟩
theorem Lo.TV {n bb:Nat} {X:World} (h:zO n bb X):Calls Lo.prog 14 #[exA n,.int .i64 1] X λe X'=>∃b off cap,e= .returned (.tuple #[.slice (some ⟨b,off,none⟩) 2 cap,.int .i64 0])∧Cy X' X'.heap.size (some ⟨b,off,none⟩) (BK uH 1)∧Par.cZ X' (.slice (some ⟨b,off,none⟩) 2 cap)∧Below X.heap.size X X':=by
 refine (Lo.Pb (b:=uH) (v:=Vb n) rfl (IE h.at_ h.lt) (aj _) Em 1 λ_ _=>RS).mono ?_
 rintro e X' ⟨hb,h2⟩;rw [if_neg (by rw [Ej];simp),if_neg (by decide),if_pos El] at h2;obtain ⟨A,cap,rfl,hs,hp⟩:=h2;obtain ⟨b,off,rfl,_⟩:=hs (by rw [JR];decide);exact ⟨b,off,cap,rfl,hs,hp,hb⟩
theorem Ww {n bb g cap:Nat} {X:World} (h:zO n bb X) (hg:g<X.heap.size) (hc:4<=cap) (hs:∀j,j<12->X.cell? ⟨g,j,none⟩=some (.int .i64 (([0,105,110,2,90,90,4,14,16,1,14,20][j]?).getD 0))):eT X X.heap.size mX (Wv n g cap):=by
 have b:=IE h.at_ h.lt;refine ⟨b.hands,b.bQ,b.steps,b.ins,b.outs, λ_=>⟨g,0,rfl,hg, λi j hi hj=>?_⟩,b.lh,b.lp,b.ls,hc⟩;rw [show 0+(i*3+j)=i*3+j by omega,hs (i*3+j) (by have :mX.bT.length=4:=rfl;omega)];have hi:i<4:=hi;obtain rfl|rfl|rfl|rfl:i=0∨i=1∨i=2∨i=3:=by omega
 all_goals obtain rfl|rfl|rfl:j=0∨j=1∨j=2:=by omega
 all_goals rfl
def aq5 (n g cap:Nat):Value:=.agg #[.slice (some ⟨n+1,0,none⟩) 2 2,.slice (some ⟨n+2,0,none⟩) 5 5,.slice (some ⟨n+13,0,none⟩) 4 4,.slice (some ⟨g,0,none⟩) 4 cap]
theorem Lo.TW {n g cap:Nat} {X:World} (h:eT X X.heap.size mX (Wv n g cap)):Calls Lo.prog 15 #[aq5 n g cap] X λe X'=>e= .returned (.tuple #[.int .i64 3,.int .i64 0])∧Below X.heap.size X X':=by
 refine (Lo.Pe (b:=mX) (v:=Wv n g cap) rfl h (aj _) Gg).mono ?_
 rintro e X' ⟨hb,h2⟩;rw [if_neg (by rw [Gf];simp),Pf] at h2;exact ⟨h2,hb⟩
theorem Qk {X:World} {base e size n cap g:Nat} {xs:List Value} (h:X.ownsRow base e size (.slice (some ⟨g,0,none⟩) n cap) n xs):n<=cap∧∀j u,xs[j]?=some u->X.cell? ⟨g,j,none⟩=some u:=by
 obtain ⟨hl,h|⟨g',cap',cur,he,hb,hg,h1,h2,h3,h4⟩⟩:=h
 ·cases h.1
 ·cases he;refine ⟨h1, λj u hu=>?_⟩;rw [<-h4,List.getElem?_take] at hu;unfold World.cell?;simp only [hg];split at hu
  ·simpa using hu
  ·cases hu
theorem Lo.X0:Lo.prog.underlying 41=some (.slice 51):=(Lo.underlying 41).trans (by kernel_rfl)
theorem Lo.ZC:(Lo.prog.info? 51).map (λi=>(i.zero,i.size,i.bytes))=some (some (.agg #[.int .i64 0,.int .i64 0,.int .i64 0]),3,24):=by
 rw [Lo.info];kernel_rfl
theorem Lo.aq6 (w:World) (z:Code) (hz:z=Try.W8):Par.yH Lo.prog (Conc.base 5) [] [Par.stk] z (aj6 w.heap.size) Try.xh ⟨Array.replicate 160 undef,[]⟩ w:=by
 obtain ⟨U,U2,U3,U4,U5,U6⟩:=@Lo.facts inferInstance;have C:=(@Lo.call10 inferInstance);have C11:=(@Lo.call11 inferInstance);have C12:=(@Lo.call12 inferInstance);have C13:=(@Lo.call13 inferInstance);have C14:=(@Lo.call14 inferInstance);have C15:=(@Lo.call15 inferInstance);simp only [Try.xh,Try.f5,Option.getD_some,Array.replicate_succ,Array.replicate_zero,List.push_toArray,List.append_toArray,List.nil_append,List.cons_append];refine Par.yH.seq ?_
 go_wp2;refine Par.yH.seq ?_
 have HEX:=Lib.hid (show dM uH (Vb w.heap.size)=exA w.heap.size from rfl)
 go_wp2_with (go_at_call 11;refine (Lo.JQ _).mono ?_;rintro e w1 ⟨rfl,hw1⟩;rw [HEX.out];unfold exA;have HW1:=Lib.hid hw1;clear hw1)
 have hX:zO w.heap.size w1.heap.size (w1.alloc (Vj w.heap.size)):=by
  have hs:w1.heap.size=w.heap.size+18:=by rw [HW1.out,tT];rfl
  refine ⟨λk hk=>?_,World.alloc_heap_new _ _,by simp;omega⟩;rw [Below.heap_alloc _ _ _ (by omega),HW1.out];exact kS _ _ _ hk
 have hbe:Below w.heap.size w (w1.alloc (Vj w.heap.size)):=by
  rw [HW1.out];exact (nC _ _).alloc (by rw [tT];omega) _
 obtain ⟨X,hXe⟩:∃X,w1.alloc (Vj w.heap.size)=X:=⟨_,rfl⟩;have ZE:=hXe;unfold Vj at ZE;rw [ZE];rw [hXe] at hX hbe;have hbb:w1.heap.size<X.heap.size:=(aa.1 hX.box).1;have hbn:w.heap.size+18<=w1.heap.size:=by rw [HW1.out,tT];exact aj _
 clear hXe ZE HW1;obtain ⟨n,hn⟩:∃n,w.heap.size=n:=⟨_,rfl⟩;obtain ⟨bb,ZF⟩:∃bb,w1.heap.size=bb:=⟨_,rfl⟩;rw [hn] at hX hbe HEX;rw [ZF] at hX hbb hbn;rw [hn] at hbn;rw [hn,ZF];clear ZF;have HXA:=Lib.hid (au hX hbe);obtain ⟨c0,c1,c2,c3⟩:=hX.cells;clear hX hbe;refine Par.yH.seq ?_
 go_wp2_with (go_at_call 12;refine (Lo.Qi HXA.out.1).mono ?_;rintro e X2 ⟨m2,o2,q2,rfl,hs2,hp2,hb2⟩;have Xt:=Lib.hid (au hs2 (au hp2 hb2));have hz2:=hb2.size;clear hs2 hp2 hb2)
 have hX2:=HXA.out.1.below Xt.out.2.2;replace hbb:bb<X2.heap.size:=ak hbb hz2;obtain ⟨d0,d1,d2,d3⟩:=hX2.cells;have HXB:=Lib.hid hX2;clear hX2 c0 c1 c2 c3 hz2;refine Par.yH.seq ?_
 go_wp2_with (go_at_call 13;refine (Lo.Qj HXB.out).mono ?_;rintro e X3 ⟨m4,o4,q4,rfl,hs2,hp2,hb2⟩;have HX3:=Lib.hid (au hs2 (au hp2 hb2));have hz2:=hb2.size;clear hs2 hp2 hb2)
 have hX3:=HXB.out.below HX3.out.2.2;replace hbb:bb<X3.heap.size:=ak hbb hz2;obtain ⟨c0,c1,c2,c3⟩:=hX3.cells;have HXC:=Lib.hid hX3;clear hX3 d0 d1 d2 d3 hz2;refine Par.yH.seq ?_
 go_wp2_with (go_at_call 14;refine (Lo.TV HXC.out).mono ?_;rintro e X4 ⟨m6,o6,q6,rfl,hs2,hp2,hb2⟩;have HX4:=Lib.hid (au hs2 (au hp2 hb2));have hz2:=hb2.size;clear hs2 hp2 hb2)
 have hX4:=HXC.out.below HX4.out.2.2;replace hbb:bb<X4.heap.size:=ak hbb hz2;obtain ⟨d0,d1,d2,d3⟩:=hX4.cells;have X7:=Lib.hid hX4;clear hX4 c0 c1 c2 c3 hz2;refine Par.yH.seq ?_
 go_wp2;obtain ⟨X5,hX5⟩:∃X5,X4.alloc (Vj n)=X5:=⟨_,rfl⟩;have ZG:=hX5;unfold Vj at ZG;rw [ZG];have hEx:zO n bb X5:=by rw [<-hX5];exact X7.out.alloc _
 have ZH:X5.heap[X4.heap.size]?=some (Vj n):=by rw [<-hX5];exact World.alloc_heap_new _ _
 have hb5:Below X4.heap.size X4 X5:=by rw [<-hX5];exact (Below.refl _ _).alloc (aj _) _
 clear hX5 ZG;have ZI:X4.heap.size<X5.heap.size:=(aa.1 ZH).1;replace hbb:bb<X5.heap.size:=Nat.lt_trans hbb ZI
 have hne:bb≠X4.heap.size:= λe=>by
  have :=(aa.1 X7.out.box).1;omega
 obtain ⟨bo,TY⟩:∃bo,X4.heap.size=bo:=⟨_,rfl⟩;rw [TY] at ZH ZI hne hb5;rw [TY];obtain ⟨c0,c1,c2,c3⟩:=hEx.cells;have aq7:n+17<X5.heap.size:=by have :=hEx.lt;omega
 have HXE:=Lib.hid (au hEx (au ZH hb5));clear d0 d1 d2 d3 hEx ZH hb5;obtain ⟨i0,hi,hz0,hz1,hz2⟩:=info_parts Lo.ZC
 have hown:(X5.alloc (.cells #[] 51)).ownsRow X5.heap.size 51 3 (.slice (some ⟨X5.heap.size,0,none⟩) 0 0) 0 []:=by
  refine ⟨rfl,.inr ⟨X5.heap.size,0,#[],rfl,aj _,?_,aj _,?_,?_,?_⟩⟩
  ·exact World.alloc_heap_new _ _
  all_goals simp
 have aj7:Par.cZ (X5.alloc (.cells #[] 51)) (.slice (some ⟨X5.heap.size,0,none⟩) 0 0):= λg hg=>by
  obtain rfl:X5.heap.size=g:=by simpa [Value.ownBlock] using hg
  exact ⟨#[],51,World.alloc_heap_new _ _,by simp⟩
 have hnew:∀j u,([.int .i64 0,.int .i64 105,.int .i64 110,.int .i64 2,.int .i64 90,.int .i64 90,.int .i64 4,.int .i64 14,.int .i64 16]:List Value)[j]?=some u->(X5.alloc (.cells #[] 51)).cell? ((⟨n+17,0,none⟩:Addr).add j)=some u:=
  World.news_of_block (t:=51) (fr:=(0,0)) (cs:= #[.int .i64 0,.int .i64 105,.int .i64 110,.int .i64 2,.int .i64 90,.int .i64 90,.int .i64 4,.int .i64 14,.int .i64 16]) (by rw [Below.heap_alloc _ _ _ aq7];exact HXE.out.1.at_ 17 (by omega))
 have HO:=Lib.hid (au hown (au aj7 hnew));clear hown aj7 hnew;refine Par.yH.seq ?_
 go_wp2_with (first
  |(go_at_call 10;refine (Lo.Ao _ _ _).mono ?_;rintro e w1 ⟨rfl,rfl⟩)
  |(at_builtin;refine Par.tX rfl _ _ 41 rfl X5.heap.size 51 i0 (.agg #[.int .i64 0,.int .i64 0,.int .i64 0]) 3 24 Lo.X0 hi hz0 hz1 hz2 rfl (by decide) _ 0 [] rfl HO.out.1 ⟨n+17,0,none⟩ 3 3 _ rfl rfl HO.out.2.2 (by intro u hu;simp only [aT,List.not_mem_nil,or_false] at hu;rcases hu with rfl|rfl|rfl|rfl|rfl|rfl|rfl|rfl|rfl<;>rfl) (by omega) (by unfold maxLen;omega) (by omega) (by simp) (X5.heap.size+1) (by simp) HO.out.2.1 (by intro u hu;simp only [aT,List.not_mem_nil,or_false] at hu;rcases hu with rfl|rfl|rfl|rfl|rfl|rfl|rfl|rfl|rfl<;>rfl) (by intro u hu;simp [Value.cells] at hu;subst hu;rfl) ?_))
 intro g1 q1 X6 h1 h2 h3 h4 h5 h6;have hb6:Below X5.heap.size X5 X6:=((Below.refl _ _).alloc (aj _) _).grown h2 (by simp) (λk hk=>by simp [Value.ownBlock] at hk;omega);have hz6:=hb6.size;have hg1:X5.heap.size<=g1:=by rcases h3 with h3|h3<;>(try simp [Value.ownBlock] at h3)<;>omega
 have HG:=Lib.hid (au h1 (au h5 (au hb6 (au h2 h6))));clear h1 h2 h3 h5 hb6 h6;have hown:((X6.alloc (.cells #[.int .i64 14,.int .i64 20] 32)).alloc (.cells #[.int .i64 1,.int .i64 14,.int .i64 20] 51)).ownsRow X5.heap.size 51 3 (.slice (some ⟨g1,0,none⟩) 3 q1) 3 _:=(HG.out.1.alloc _).alloc _;have xD:Par.cZ ((X6.alloc (.cells #[.int .i64 14,.int .i64 20] 32)).alloc (.cells #[.int .i64 1,.int .i64 14,.int .i64 20] 51)) (.slice (some ⟨g1,0,none⟩) 3 q1):=(HG.out.2.1.alloc _).alloc _
 have hnew:∀j u,([.int .i64 1,.int .i64 14,.int .i64 20]:List Value)[j]?=some u->((X6.alloc (.cells #[.int .i64 14,.int .i64 20] 32)).alloc (.cells #[.int .i64 1,.int .i64 14,.int .i64 20] 51)).cell? ((⟨X6.heap.size+1,0,none⟩:Addr).add j)=some u:=
  World.news_of_block (t:=51) (fr:=(0,0)) (cs:= #[.int .i64 1,.int .i64 14,.int .i64 20]) (by have :=World.alloc_heap_new (X6.alloc (.cells #[.int .i64 14,.int .i64 20] 32)) (.cells #[.int .i64 1,.int .i64 14,.int .i64 20] 51);rwa [World.size_alloc] at this)
 have HO2:=Lib.hid (au hown (au xD hnew));clear hown xD hnew
 go_wp2_with (first
  |(go_at_call 10;refine (Lo.Ao _ _ _).mono ?_;rintro e w1 ⟨rfl,rfl⟩)
  |(at_builtin;refine Par.tX rfl _ _ 41 rfl X5.heap.size 51 i0 (.agg #[.int .i64 0,.int .i64 0,.int .i64 0]) 3 24 Lo.X0 hi hz0 hz1 hz2 rfl (by decide) _ 3 _ rfl HO2.out.1 ⟨X6.heap.size+1,0,none⟩ 1 1 _ rfl rfl HO2.out.2.2 (by intro u hu;simp only [aT,List.not_mem_nil,or_false] at hu;rcases hu with rfl|rfl|rfl<;>rfl) (by omega) (by unfold maxLen;omega) (by omega) (by simp;omega) (X6.heap.size+2) (by simp) HO2.out.2.1 (by intro u hu;simp only [aT,List.not_mem_nil,or_false] at hu;rcases hu with rfl|rfl|rfl<;>rfl) (by intro u hu;simp [Value.cells] at hu;subst hu;rfl) ?_))
 intro g2 q2' X8 h1 h2 h3 h4' h5 h6;have TZ:Below X5.heap.size X5 X8:=HG.out.2.2.1.trans ((((Below.refl _ X6).alloc (aj _) (.cells #[.int .i64 14,.int .i64 20] 32)).alloc (by simp) (.cells #[.int .i64 1,.int .i64 14,.int .i64 20] 51)).mono hz6 |>.grown h2 (by simp;omega) (λk hk=>by simp [Value.ownBlock] at hk;omega));have hz8:=TZ.size;have hg2:X5.heap.size<=g2:=by rcases h3 with h3|h3<;>(try simp [Value.ownBlock] at h3)<;>omega
 obtain ⟨hcap,T9⟩:=Qk h1;have Wx:=HXE.out.1.below TZ;have Ql:X8.heap[bo]?=some (Vj n):=(TZ.block bo ZI).trans HXE.out.2.1
 obtain ⟨_,_,_,e3⟩:=Co Ql;have f3:X8.frozen? ⟨bo,3,none⟩=false:=by unfold World.frozen?;simp only [Ql];rfl
 have H8:=Lib.hid (au TZ (au hcap (au T9 (au Wx (au Ql (au h5 (au h6 h2)))))));clear TZ hcap T9 Wx Ql h1 h2 h3 h5 h6;go_wp2;obtain ⟨X9,Wy⟩:∃X9,X8.setCell ⟨bo,3,none⟩ (.slice (some ⟨g2,0,none⟩) 4 q2')=X9:=⟨_,rfl⟩;rw [Wy];have FK:∀k:Nat,k≠bo->X9.heap[k]?=X8.heap[k]?:= λk hk=>by rw [<-Wy];exact Below.heap_setCell X8 ⟨bo,3,none⟩ _ k hk
 have hs9:X9.heap.size=X8.heap.size:=by rw [<-Wy];simp [World.setCell]
 have Qm:X9.heap[bo]?=some (.cells #[.slice (some ⟨n+1,0,none⟩) 2 2,.slice (some ⟨n+2,0,none⟩) 5 5,.slice (some ⟨n+13,0,none⟩) 4 4,.slice (some ⟨g2,0,none⟩) 4 q2'] 43):=by
  rw [<-Wy,heap_setCell_same X8 bo 3 _ 43 _ H8.out.2.2.2.2.1];rfl
 have aq8:=HXE.out.1.lt;have Ua:zO n bb X9:=⟨λk hk=>(FK _ (by have :=(aa.1 X7.out.box).1;have :=X7.out.lt;omega)).trans (H8.out.2.2.2.1.at_ k hk),(FK _ hne).trans H8.out.2.2.2.1.box,by rw [hs9];exact H8.out.2.2.2.1.lt⟩;have hg9:∀j u,([.int .i64 0,.int .i64 105,.int .i64 110,.int .i64 2,.int .i64 90,.int .i64 90,.int .i64 4,.int .i64 14,.int .i64 16]++ [.int .i64 1,.int .i64 14,.int .i64 20]:List Value)[j]?=some u->X9.cell? ⟨g2,j,none⟩=some u:= λj u hu=>(World.cell?_of_block (a:=⟨g2,j,none⟩) (FK g2 (by omega))).trans (H8.out.2.2.1 j u hu)
 have hbk:eT X9 X9.heap.size mX (Wv n g2 q2'):=Ww Ua (by rw [hs9];exact h4') H8.out.2.1 (λj hj=>hg9 j _ (by
  obtain rfl|rfl|rfl|rfl|rfl|rfl|rfl|rfl|rfl|rfl|rfl|rfl:j=0∨j=1∨j=2∨j=3∨j=4∨j=5∨j=6∨j=7∨j=8∨j=9∨j=10∨j=11:=by omega
  all_goals rfl))
 obtain ⟨d0,d1,d2,d3⟩:=Co Qm;have H9:=Lib.hid (au Wy (au hs9 (au FK (au Qm (au Ua hbk)))));clear Wy hs9 FK Qm Ua hg9 hbk e3 f3;refine Par.yH.seq ?_
 go_wp2_with (go_at_call 15;refine (Lo.TW (n:=n) (g:=g2) (cap:=q2') H9.out.2.2.2.2.2).mono ?_;rintro e ZJ ⟨rfl,MZ⟩;have H10:=Lib.hid MZ;clear MZ)
 simp only [Try.W8,Try.xh,Try.f5,Try.bP,Try.cu,Option.getD_some,Nat.reduceEqDiff,if_true,if_false,reduceIte];refine Par.yH.here ?_
 obtain ⟨Wy,hs9,FK,Qm,Ua,_⟩:=H9.out;obtain ⟨TZ,hcap,T9,Wx,Ql,hp8,hpg,hgr⟩:=H8.out;have MZ:=H10.out;have au3:X6.heap.size+1+1<=X8.heap.size:=by have h:=hgr.size;simpa using h
 have av7:=MZ.size;have aq8:=HXE.out.1.lt;have KE:∀b:Nat,b≠bo->b<X8.heap.size->ZJ.heap[b]?=X8.heap[b]?:= λb h1 h2=>(MZ.block b (by omega)).trans (FK b h1)
 have KF:∀b:Nat,b<bo->ZJ.heap[b]?=X4.heap[b]?:= λb h1=>(KE b (by omega) (by omega)).trans ((TZ.block b (by omega)).trans (HXE.out.2.2.block b h1))
 have ZK:Below X2.heap.size X2 X4:=HX3.out.2.2.trans (HX4.out.2.2.mono HX3.out.2.2.size)
 have L4:∀{b off l c:Nat},Par.cZ X4 (.slice (some ⟨b,off,none⟩) l c)->Par.cZ ZJ (.slice (some ⟨b,off,none⟩) l c)∧b<bo:= λ{b off l c} h=>by
  obtain ⟨c',e,h1,_⟩:=h b rfl;have hb:b<bo:=by rw [<-TY];exact (aa.1 h1).1
  exact ⟨h.keep λg hg=>by cases hg;exact KF b hb,hb⟩
 have R4:∀{k b off m:Nat} {f:Nat->Nat->Value},Rd X4 X4.heap.size k (some ⟨b,off,none⟩) m f->Rd ZJ ZJ.heap.size k (some ⟨b,off,none⟩) m f:= λ{k b off m f} h hn=>by
  obtain ⟨b',off',e,h1,h2⟩:=h hn;exact ⟨b',off',e,by omega, λi j hi hj=>(World.cell?_of_block (a:=⟨b',off'+(i*k+j),none⟩) (KF b' (by omega))).trans (h2 i j hi hj)⟩
 have p2:=L4 (Xt.out.2.1.keep λg hg=>ZK.block g (by
  obtain ⟨c',e,h1,_⟩:=Xt.out.2.1 g hg;exact (aa.1 h1).1))
 have p4:=L4 (HX3.out.2.1.keep λg hg=>HX4.out.2.2.block g (by
  obtain ⟨c',e,h1,_⟩:=HX3.out.2.1 g hg;exact (aa.1 h1).1))
 have p6:=L4 HX4.out.2.1;have r2:=R4 (Xt.out.1.below ZK);have r4:=R4 (HX3.out.1.below HX4.out.2.2);have r6:=R4 HX4.out.1;have av8:n+18<=bo:=by rw [<-TY];exact X7.out.lt
 have ea:∀k,k<18->ZJ.heap[n+k]?=(LX n)[k]?:= λk hk=>(KF _ (by omega)).trans (X7.out.at_ k hk)
 have aq9:bb<bo:=by rw [<-TY];exact (aa.1 X7.out.box).1
 have ebb:ZJ.heap[bb]?=some (Vj n):=(KF _ aq9).trans X7.out.box
 have ebo:=(MZ.block bo (by omega)).trans Qm;obtain ⟨L,hL⟩:∃L,L= [n+1,n+2,n+3,n+4,n+5,n+6,n+7,n+8,n+9,n+10,n+11,n+12,n+13,n+14,n+15,n+16,n+17,bb,bo,X5.heap.size,g1,X6.heap.size+1,g2,m2,m4,m6]:=⟨_,rfl⟩
 have hk:∀k,1<=k->k<=17->n+k∈L:= λk h1 h2=>by
  rw [hL];obtain rfl|rfl|rfl|rfl|rfl|rfl|rfl|rfl|rfl|rfl|rfl|rfl|rfl|rfl|rfl|rfl|rfl:k=1∨k=2∨k=3∨k=4∨k=5∨k=6∨k=7∨k=8∨k=9∨k=10∨k=11∨k=12∨k=13∨k=14∨k=15∨k=16∨k=17:=by omega
  all_goals simp
 have l1:=hk 1 (by omega) (by omega);have l2:=hk 2 (by omega) (by omega);have l13:=hk 13 (by omega) (by omega);have l17:=hk 17 (by omega) (by omega);have lbb:bb∈L:=by rw [hL];simp
 have lbo:bo∈L:=by rw [hL];simp
 have lx5:X5.heap.size∈L:=by rw [hL];simp
 have lg1:g1∈L:=by rw [hL];simp
 have lx6:X6.heap.size+1∈L:=by rw [hL];simp
 have lg2:g2∈L:=by rw [hL];simp
 have lm2:m2∈L:=by rw [hL];simp
 have lm4:m4∈L:=by rw [hL];simp
 have lm6:m6∈L:=by rw [hL];simp
 have hcases:∀b∈L,(∃k,1<=k∧k<=17∧b=n+k)∨b=bb∨b=bo∨b=X5.heap.size∨b=g1∨b=X6.heap.size+1∨b=g2∨b=m2∨b=m4∨b=m6:= λb hb=>by
  rw [hL] at hb;simp only [aT,List.not_mem_nil,or_false] at hb;rcases hb with h|h|h|h|h|h|h|h|h|h|h|h|h|h|h|h|h|h
  case inr.inr.inr.inr.inr.inr.inr.inr.inr.inr.inr.inr.inr.inr.inr.inr.inr=>exact .inr h
  all_goals exact .inl ⟨b - n,by omega,by omega,by omega⟩
 have Ho:=Lib.hid (au hcases (au hL (au Wy FK)));clear hL hcases Wy FK;refine ⟨L,bo,g2,q2',m2,o2,q2,m4,o4,q4,m6,o6,q6,⟨rfl,rfl, λS cd=>?_⟩, λb hb=>?_,⟨rfl,rfl,rfl,rfl,rfl,rfl,rfl,rfl,rfl⟩,⟨lbo,lg2,lm2,lm4,lm6,hk, λb hb=>?_⟩,ebo,hcap,ea, λj hj=>?_,r2,r4,r6⟩
 ·clear p2 p4 p6 r2 r4 r6 L4 R4 ea ebb ebo hk KF KE ZK MZ TZ T9 Wx Ql hp8 hpg hgr Qm Ua c0 c1 c2 c3 d0 d1 d2 d3;simp [Par.VS,Par.mZ,Par.uM,Par.lX,Par.FA,l1,l2,l13,l17,lbb,lbo,lx5,lg1,lx6,lg2,lm2,lm4,lm6]
 ·rcases Ho.out.1 b hb with ⟨k,h1,h2,rfl⟩|rfl|rfl|rfl|h|rfl|h|rfl|rfl|rfl
  ·exact Qh ea hk h1 h2
  ·refine ⟨_,_,_,ebb, λx hx=>?_⟩;simp only [List.mem_toArray,aT,List.not_mem_nil,or_false] at hx;rcases hx with rfl|rfl|rfl|rfl
   all_goals (refine .inr ⟨_,_,_,rfl,?_⟩;intro q hq;cases hq;assumption)
  ·refine ⟨_,_,_,ebo, λx hx=>?_⟩;simp only [List.mem_toArray,aT,List.not_mem_nil,or_false] at hx;rcases hx with rfl|rfl|rfl|rfl
   all_goals (refine .inr ⟨_,_,_,rfl,?_⟩;intro q hq;cases hq;assumption)
  ·by_cases he:X5.heap.size=g1
   ·rw [he];exact vH (hpg.keep λg hg=>by cases hg;exact KE g1 (by omega) (by omega))
   ·obtain ⟨c,e,q1',ar0⟩:=HG.out.2.2.2.2 X5.heap.size rfl;refine ⟨c,e,(0,0),(KE _ (by omega) (by omega)).trans ((hgr.block _ (by simp;omega) (λh=>he (by simpa [Value.ownBlock] using h))).trans ?_), λx hx=>.inl (ar0 x hx)⟩;rw [Below.heap_alloc _ _ _ (by simp;omega),Below.heap_alloc _ _ _ (by omega)];exact q1'
  ·rw [h];exact vH (hpg.keep λg hg=>by cases hg;exact KE g1 (by omega) (by omega))
  ·have ar1:X6.heap.size+1≠g1:=by omega
   have ar2:=hgr.size;simp at ar2;refine ⟨#[.int .i64 1,.int .i64 14,.int .i64 20],51,(0,0),(KE _ (by omega) (by omega)).trans ((hgr.block _ (by simp) (λh=>ar1 (by simpa [Value.ownBlock] using h))).trans ?_), λx hx=>.inl ?_⟩
   ·have :=World.alloc_heap_new (X6.alloc (.cells #[.int .i64 14,.int .i64 20] 32)) (.cells #[.int .i64 1,.int .i64 14,.int .i64 20] 51)
    rwa [World.size_alloc] at this
   ·simp only [List.mem_toArray,aT,List.not_mem_nil,or_false] at hx;rcases hx with rfl|rfl|rfl<;>rfl
  ·rw [h];exact vH (hp8.keep λg hg=>by cases hg;exact KE g2 (by omega) (by omega))
  ·exact vH p2.1
  ·exact vH p4.1
  ·exact vH p6.1
 ·rcases Ho.out.1 b hb with ⟨k,h1,h2,rfl⟩|rfl|rfl|rfl|rfl|rfl|rfl|rfl|rfl|rfl
  ·exact .inl (by omega)
  ·exact .inl (by omega)
  all_goals first |(exact .inl (by omega))|simp
 ·refine (World.cell?_of_block (a:=⟨g2,j,none⟩) (KE g2 (by omega) (by omega))).trans (T9 j _ ?_);obtain rfl|rfl|rfl|rfl|rfl|rfl|rfl|rfl|rfl|rfl|rfl|rfl:j=0∨j=1∨j=2∨j=3∨j=4∨j=5∨j=6∨j=7∨j=8∨j=9∨j=10∨j=11:=by omega
  all_goals rfl
end Go.Proofs
end
section
namespace Go.Proofs
open Go Go.RowKit Go.Maps
theorem Qn {who:List Nat} {hours:Int} {found:Bool} (h:lZ [(10,10),(25,25)] [(10,0,100),(5,0,0)] 1 4 who hours found):who= [0,1]∧hours=5∧found=true:=by
 have s01:xL 2 2 [0,1]:=⟨rfl,by decide⟩;have o01:BN [(10,10),(25,25)] [(10,0,100),(5,0,0)] 1 [0,1]:=by unfold BN;decide
 cases found with
 |false=>exact absurd o01 ((h.no rfl).2.2 _ s01 (by decide))
 |true=>
  obtain ⟨h1,h2,h3,h4,h5⟩:=h.yes rfl;have h6:=h5 _ s01 (by decide) o01;obtain ⟨hl,hm⟩:=h1
  match who,hl,hm,h3,h4,h6 with
  | [a,b],_,hm,h3,h4,h6=>
    have ha:a<2:=hm a (by simp);have hb:b<2:=hm b (by simp);obtain rfl|rfl:a=0∨a=1:=by omega
    all_goals obtain rfl|rfl:b=0∨b=1:=by omega
    ·exact absurd h3 (by unfold BN;decide)
    ·exact ⟨rfl,h4.trans (by decide),rfl⟩
    ·exact absurd h3 (by unfold BN;decide)
    ·exfalso;rw [h4] at h6;revert h6;decide
variable [Lo.St]
theorem Bl {X:World} {b:Nat} {c:Array Value} {e:TypeId} {fr:Nat×Nat} (h:X.heap[b]?=some (.cells c e fr)) (o:Nat):X.cell? ⟨b,o,none⟩=c[o]?:=by
 unfold World.cell?;simp only [h];cases c[o]?<;>rfl
theorem Lo.Ub {X:World} {b1 b2:Nat} (h1:X.heap[b1]?=some (.cells #[.int .i64 10,.int .i64 10,.int .i64 25,.int .i64 25] 32)) (h2:X.heap[b2]?=some (.cells #[.int .i64 10,.int .i64 0,.int .i64 100,.int .i64 5,.int .i64 0,.int .i64 0] 34)):
 Calls Lo.prog 6 #[.slice (some ⟨b1,0,none⟩) 2 2,.slice (some ⟨b2,0,none⟩) 2 2,.int .i64 1] X λe X'=>∃A cap,e= .returned (.tuple #[.slice A 2 cap,.int .i64 5,.bool true,.int .i64 0])∧Cy X' X'.heap.size A [0,1]∧Below X.heap.size X X':=by
 have q1:K8 X X.heap.size (some ⟨b1,0,none⟩) [(10,10),(25,25)]:= λ_=>⟨b1,0,rfl,(aa.1 h1).1, λi j hi hj=>by
  rw [Bl h1];have hi:i<2:=hi;obtain rfl|rfl:i=0∨i=1:=by omega
  all_goals obtain rfl|rfl:j=0∨j=1:=by omega
  all_goals rfl⟩
 have q2:IJ X X.heap.size (some ⟨b2,0,none⟩) [(10,0,100),(5,0,0)]:= λ_=>⟨b2,0,rfl,(aa.1 h2).1, λi j hi hj=>by
  rw [Bl h2];have hi:i<2:=hi;obtain rfl|rfl:i=0∨i=1:=by omega
  all_goals obtain rfl|rfl|rfl:j=0∨j=1∨j=2:=by omega
  all_goals rfl⟩
 refine (Lo.BO q1 q2 (by decide) (by decide) (aj _) 1).mono ?_
 rintro e X' ⟨hb,hx⟩;rw [if_neg (by decide)] at hx;obtain ⟨A,cap,who,hours,found,rfl,eO,hw⟩:=hx;obtain ⟨rfl,rfl,rfl⟩:=Qn eO;refine ⟨A,cap,rfl, λ_=>?_,hb⟩;obtain ⟨g,rfl,_,hg,hc⟩:=hw (by decide);refine ⟨g,0,rfl,hg, λi j hi hj=>?_⟩;have hi:i<2:=hi;obtain rfl:j=0:=by omega
 obtain rfl|rfl:i=0∨i=1:=by omega
 ·exact hc 0 (by decide)
 ·exact hc 1 (by decide)
theorem ZL {X:World} {b B:Nat} {l:List Int} {fr:Nat×Nat} (h:X.heap[b]?=some (.cells (l.map λx=>Value.int .i64 x).toArray 3 fr)) (hB:X.heap.size<=B):Cy X B (some ⟨b,0,none⟩) l:= λ_=>by
 refine ⟨b,0,rfl,ak (aa.1 h).1 hB, λi j hi hj=>?_⟩;obtain rfl:j=0:=by omega
 rw [show 0+(i*1+0)=i from by omega,Bl h];simp [hi]
theorem Uc {X:World} {b B n:Nat} {l:List Int} {fr:Nat×Nat} (h:X.heap[b]?=some (.cells (l.map λx=>Value.int .i64 x).toArray 32 fr)) (hl:l.length=2*n) (hB:X.heap.size<=B):YG X B (some ⟨b,0,none⟩) n l:= λ_=>by
 refine ⟨b,0,rfl,ak (aa.1 h).1 hB, λi j hi hj=>?_⟩;rw [show 0+(i*2+j)=2*i+j from by omega,Bl h];have :2*i+j<l.length:=by omega
 simp [this]
def oM:List Obj:=[.cells #[.int .i64 105,.int .i64 110] 32,.cells #[.int .i64 9,.int .i64 13] 32,.cells #[.int .i64 90,.int .i64 90] 32,.cells #[.int .i64 5,.int .i64 5] 32,.cells #[.int .i64 14,.int .i64 16] 32,.cells #[.int .i64 105,.int .i64 110,.int .i64 9,.int .i64 13,.int .i64 90,.int .i64 90,.int .i64 5,.int .i64 5,.int .i64 14,.int .i64 16] 32]
def oL:List Obj:=[.cells #[.int .i64 2,.int .i64 10] 32,.cells #[.int .i64 0,.int .i64 2] 32,.cells #[.int .i64 0,.int .i64 0,.int .i64 2,.int .i64 10,.int .i64 0,.int .i64 0,.int .i64 0,.int .i64 2] 32]
theorem xk {X X':World} {k n:Nat} {A:Option Addr} {f:Nat->Nat->Value} (h:Rd X X.heap.size k A n f) (hb:Below X.heap.size X X'):Rd X' X'.heap.size k A n f:= λhn=>by
 obtain ⟨b,off,e,h1,h2⟩:=h hn;exact ⟨b,off,e,ak h1 hb.size, λi j hi hj=>(bV hb _ _ h1).trans (h2 i j hi hj)⟩
theorem Lo.ar3 {X:World} {m2 o2 q2:Nat} (r:YG X X.heap.size (some ⟨m2,o2,none⟩) 5 (sG uH)):Calls Lo.prog 17 #[.slice (some ⟨m2,o2,none⟩) 5 q2,.slice (some ⟨X.heap.size+5,0,none⟩) 5 5] (rD oM X) λe X'=>e= .returned (.bool true)∧Below X.heap.size X X':=by
 have hb:=nC oM X;refine (Lo.yO (l1:=sG uH) (l2:=[105,110,9,13,90,90,5,5,14,16]) (xk r hb) (Uc (l:=[105,110,9,13,90,90,5,5,14,16]) (kS oM X 5 (by decide)) rfl (aj _)) (by decide) (aj _)).mono ?_
 rintro e X' ⟨rfl,hb2⟩;refine ⟨?_,hb.trans (hb2.mono hb.size)⟩;rw [RQ];rfl
theorem Lo.ar4 {X:World} {m2 o2 q2:Nat} (r:YG X X.heap.size (some ⟨m2,o2,none⟩) 4 (Am uH)):Calls Lo.prog 17 #[.slice (some ⟨m2,o2,none⟩) 4 q2,.slice (some ⟨X.heap.size+2,0,none⟩) 4 4] (rD oL X) λe X'=>e= .returned (.bool true)∧Below X.heap.size X X':=by
 have hb:=nC oL X;refine (Lo.yO (l1:=Am uH) (l2:=[0,0,2,10,0,0,0,2]) (xk r hb) (Uc (l:=[0,0,2,10,0,0,0,2]) (kS oL X 2 (by decide)) rfl (aj _)) (by decide) (aj _)).mono ?_
 rintro e X' ⟨rfl,hb2⟩;refine ⟨?_,hb.trans (hb2.mono hb.size)⟩;rw [Vy];rfl
theorem Lo.aj8 {X:World} {A:Option Addr} {c:Nat} (x y:Int) (r:Cy X X.heap.size A [x,y]):Calls Lo.prog 8 #[.slice A 2 c,.slice (some ⟨X.heap.size,0,none⟩) 2 2] (X.alloc (.cells #[.int .i64 x,.int .i64 y] 3)) λe X'=>e= .returned (.bool true)∧Below X.heap.size X X':=by
 have hb:=(Below.refl X.heap.size X).alloc (aj _) (.cells #[.int .i64 x,.int .i64 y] 3);refine (Lo.RU (l1:=[x,y]) (l2:=[x,y]) (xk r hb) (ZL (l:=[x,y]) (World.alloc_heap_new _ _) (aj _)) (by simp) (by simp) (aj _)).mono ?_
 rintro e X' ⟨rfl,hb2⟩;exact ⟨by simp,hb.trans (hb2.mono hb.size)⟩
theorem Lo.aj9 {X:World} {m2 o2 q2:Nat} (r:YG X X.heap.size (some ⟨m2,o2,none⟩) 5 (sG uH)):Calls Lo.prog 17 #[.slice (some ⟨m2,o2,none⟩) 5 q2,.slice (some ⟨X.heap.size+1+1+1+1+1,0,none⟩) 5 5] ((((((X.alloc (.cells #[.int .i64 105,.int .i64 110] 32)).alloc (.cells #[.int .i64 9,.int .i64 13] 32)).alloc (.cells #[.int .i64 90,.int .i64 90] 32)).alloc (.cells #[.int .i64 5,.int .i64 5] 32)).alloc (.cells #[.int .i64 14,.int .i64 16] 32)).alloc (.cells #[.int .i64 105,.int .i64 110,.int .i64 9,.int .i64 13,.int .i64 90,.int .i64 90,.int .i64 5,.int .i64 5,.int .i64 14,.int .i64 16] 32)) λe X'=>e= .returned (.bool true)∧Below X.heap.size X X':=Lo.ar3 r
theorem Lo.ak0 {X:World} {m2 o2 q2:Nat} (r:YG X X.heap.size (some ⟨m2,o2,none⟩) 4 (Am uH)):Calls Lo.prog 17 #[.slice (some ⟨m2,o2,none⟩) 4 q2,.slice (some ⟨X.heap.size+1+1,0,none⟩) 4 4] (((X.alloc (.cells #[.int .i64 2,.int .i64 10] 32)).alloc (.cells #[.int .i64 0,.int .i64 2] 32)).alloc (.cells #[.int .i64 0,.int .i64 0,.int .i64 2,.int .i64 10,.int .i64 0,.int .i64 0,.int .i64 0,.int .i64 2] 32)) λe X'=>e= .returned (.bool true)∧Below X.heap.size X X':=Lo.ar4 r
theorem Lo.ak1 {w:World} {m2 o2 q2 m4 o4 q4 m6 o6 q6 qp:Nat} {Ap:Option Addr} (r2:kR w (some ⟨m2,o2,none⟩) 5 (sG uH)) (r4:kR w (some ⟨m4,o4,none⟩) 4 (Am uH)) (r6:Cy w w.heap.size (some ⟨m6,o6,none⟩) (BK uH 1)) (rp:Cy w w.heap.size Ap [2,3]) (t0 t1 t8 t15 t16 t17 t18 t19 t20 t21 t22 t23 t24 t25 t26 t27 t28 t29 t30 t31 t32 t33 t34 t35 t36 t37 t38 t39 t40 t41 t42 t43 t44 t45 t46 t47 t48 t49 t50 t51 t52 t53 t54 t55 t56 t57 t58 t59 t60 t61 t62 t63 t64 t65 t66 t67 t68 t69 t70 t71 t72 t73 t74 t75 t76 t77 t78 t79 t80 t81 t82 t83 t84 t85 t86 t87 t88 t89 t90 t91 t92 t93 t94 t95 t96 t97 t98 t99 t100 t101 t102 t103 t104 t105 t106 t107 t108 t109 t110 t111 t112 t113 t114 t115 t116 t117 t118 t119 t120 t121 t122 t123 t124 t125 t126 t127 t128 t129 t130 t131 t132 t133 t134 t135 t136 t137 t138 t139 t140 t141 t142 t143 t144 t145 t146 t147 t148 t149 t150 t151 t152 t153 t154 t155 t156 t157 t158 t159:Value):
 Try.W9.wp Lo.prog (bodyPost Lo.prog Try.f5 λe w'=>∃v,e= .returned v∧v= .bool true) ⟨#[t0,t1,.slice (some ⟨m2,o2,none⟩) 5 q2,.int .i64 0,.slice (some ⟨m4,o4,none⟩) 4 q4,.int .i64 0,.slice (some ⟨m6,o6,none⟩) 2 q6,.int .i64 0,t8,.int .i64 3,.int .i64 0,.slice Ap 2 qp,.bool true,.bool true,.int .i64 0,t15,t16,t17,t18,t19,t20,t21,t22,t23,t24,t25,t26,t27,t28,t29,t30,t31,t32,t33,t34,t35,t36,t37,t38,t39,t40,t41,t42,t43,t44,t45,t46,t47,t48,t49,t50,t51,t52,t53,t54,t55,t56,t57,t58,t59,t60,t61,t62,t63,t64,t65,t66,t67,t68,t69,t70,t71,t72,t73,t74,t75,t76,t77,t78,t79,t80,t81,t82,t83,t84,t85,t86,t87,t88,t89,t90,t91,t92,t93,t94,t95,t96,t97,t98,t99,t100,t101,t102,t103,t104,t105,t106,t107,t108,t109,t110,t111,t112,t113,t114,t115,t116,t117,t118,t119,t120,t121,t122,t123,t124,t125,t126,t127,t128,t129,t130,t131,t132,t133,t134,t135,t136,t137,t138,t139,t140,t141,t142,t143,t144,t145,t146,t147,t148,t149,t150,t151,t152,t153,t154,t155,t156,t157,t158,t159],[]⟩ w:=by
 obtain ⟨U,U2,U3,U4,U5,U6⟩:=@Lo.facts inferInstance;have C:=(@Lo.call10 inferInstance);have C6:=(@Lo.call6 inferInstance);have C8:=(@Lo.call8 inferInstance);have C17:=(@Lo.call17 inferInstance);have HR:=Lib.hid (au r2 (au r4 (au r6 rp)));clear r2 r4 r6 rp
 have hj:∀X:World,Below w.heap.size w X->X.cell? ⟨m6,o6,none⟩=some (.int .i64 1)∧X.cell? ⟨m6,o6+1,none⟩=some (.int .i64 0):= λX hb=>by
  have h:=HR.out.2.2.1;rw [JR] at h;obtain ⟨b,off,e,h1,h2⟩:=h (by decide);cases e;exact ⟨(bV hb _ _ h1).trans (h2 0 0 (by decide) (by omega)),(bV hb _ _ h1).trans (h2 1 0 (by decide) (by omega))⟩
 have HJ:=Lib.hid hj;have Ud:=Lib.hid trivial;have Ue:=Lib.hid trivial;have M0:=Lib.hid trivial;clear hj;simp only [Try.W9,Try.xh,Try.f5,Try.bP,Try.cu,Option.getD_some,Nat.reduceEqDiff,if_true,if_false,reduceIte]
 go_wp2_with (first
  |(go_at_call 10;refine (Lo.Ao _ _ _).mono ?_;rintro e w1 ⟨rfl,rfl⟩)
  |(go_at_call 6;refine (Lo.Ub (b1:=w.heap.size+2) (b2:=w.heap.size+4) (kS [.cells #[.int .i64 10,.int .i64 10] 32,.cells #[.int .i64 25,.int .i64 25] 32,.cells #[.int .i64 10,.int .i64 10,.int .i64 25,.int .i64 25] 32,.cells #[.int .i64 0,.int .i64 100] 32,.cells #[.int .i64 10,.int .i64 0,.int .i64 100,.int .i64 5,.int .i64 0,.int .i64 0] 34] w 2 (by simp)) (kS [.cells #[.int .i64 10,.int .i64 10] 32,.cells #[.int .i64 25,.int .i64 25] 32,.cells #[.int .i64 10,.int .i64 10,.int .i64 25,.int .i64 25] 32,.cells #[.int .i64 0,.int .i64 100] 32,.cells #[.int .i64 10,.int .i64 0,.int .i64 100,.int .i64 5,.int .i64 0,.int .i64 0] 34] w 4 (by simp))).mono ?_;rintro e w5 ⟨Aw,qw,rfl,hrw,hb5⟩;have hbw:=(nC [.cells #[.int .i64 10,.int .i64 10] 32,.cells #[.int .i64 25,.int .i64 25] 32,.cells #[.int .i64 10,.int .i64 10,.int .i64 25,.int .i64 25] 32,.cells #[.int .i64 0,.int .i64 100] 32,.cells #[.int .i64 10,.int .i64 0,.int .i64 100,.int .i64 5,.int .i64 0,.int .i64 0] 34] w).trans (hb5.mono (nC [.cells #[.int .i64 10,.int .i64 10] 32,.cells #[.int .i64 25,.int .i64 25] 32,.cells #[.int .i64 10,.int .i64 10,.int .i64 25,.int .i64 25] 32,.cells #[.int .i64 0,.int .i64 100] 32,.cells #[.int .i64 10,.int .i64 0,.int .i64 100,.int .i64 5,.int .i64 0,.int .i64 0] 34] w).size);obtain ⟨k0,k1⟩:=HJ.out w5 hbw;have HS:=Lib.hid (au hrw hbw);clear hrw hb5 hbw)
  |(have t1:=Ud;clear Ud t1;go_at_call 17;refine (Lo.aj9 (xk HR.out.1 HS.out.2)).mono ?_;rintro e w6 ⟨rfl,hb6⟩;have H6:=Lib.hid hb6;clear hb6)
  |(have t1:=H6;clear t1;have t2:=Ue;clear Ue t2;go_at_call 17;refine (Lo.ak0 (xk (xk HR.out.2.1 HS.out.2) H6.out)).mono ?_;rintro e w7 ⟨rfl,Vd⟩;have H7:=Lib.hid Vd;clear Vd)
  |(have t1:=H7;clear t1;have t2:=M0;clear M0 t2;go_at_call 8;refine (Lo.aj8 2 3 (xk (xk (xk HR.out.2.2.2 HS.out.2) H6.out) H7.out)).mono ?_;rintro e w8 ⟨rfl,TZ⟩;have H8:=Lib.hid TZ;clear TZ)
  |(have t1:=H8;clear t1;go_at_call 8;refine (Lo.aj8 0 1 (xk (xk (xk HS.out.1 H6.out) H7.out) H8.out)).mono ?_;rintro e w9 ⟨rfl,hb9⟩))
 go_ret;exact ⟨_,rfl,rfl⟩
end Go.Proofs
end
