/- Part 25. -/
import Derived.Test.YtnemnkmojiljmaaF12
import Derived.Test.YtnemnkmojiljmaaF14
import Derived.Test.YtnemnkmojiljmaaF20
import Derived.Test.YtnemnkmojiljmaaF23
import Derived.Test.YtnemnkmojiljmaaF24
set_option maxRecDepth 100000
set_option maxHeartbeats 8000000
set_option linter.all false
section
namespace Go.Proofs
open Go Go.RowKit Go.Maps
attribute [local instance] Par.noSh
noncomputable def Try.xg:Code:=Try.f5.body.getD .skip
noncomputable def Try.W8:Code:=(Try.bR 8 Try.xg).getD .skip
noncomputable def Try.W9:Code:=(Try.bR 9 Try.xg).getD .skip
def Wx (n g cap:Nat):iQ:={ U8 n with ac:=some ⟨g,0,none⟩,cc:=cap }
def ak0 (n:Nat) (a:Act) (w:World):Prop:=
 ∃(L:List Nat) (bo g q m2 o2 q2 m4 o4 q4 m6 o6 q6:Nat),(a.defers= []∧a.tmps.size=160∧(∀S cd,Par.VS (Par.FA S S cd λb=>decide (b∈L)) a.tmps))∧
  (∀b∈L,∃c e fr,w.heap[b]?=some (.cells c e fr)∧∀x∈c,Par.dJ x=true∨∃p l cp,x= .slice p l cp∧∀q,p=some q->q.block∈L)∧
  (a.tmps[2]?=some (.slice (some ⟨m2,o2,none⟩) 5 q2)∧a.tmps[3]?=some (.int .i64 0)∧a.tmps[4]?=some (.slice (some ⟨m4,o4,none⟩) 4 q4)∧a.tmps[5]?=some (.int .i64 0)∧a.tmps[6]?=some (.slice (some ⟨m6,o6,none⟩) 2 q6)∧a.tmps[7]?=some (.int .i64 0)∧
    a.tmps[8]?=some (.pointer (some ⟨bo,0,none⟩))∧a.tmps[9]?=some (.int .i64 3)∧a.tmps[10]?=some (.int .i64 0))∧
  (bo∈L∧g∈L∧m2∈L∧m4∈L∧m6∈L∧(∀k,1<=k->k<=17->n+k∈L)∧∀b∈L,n<=b∨b=m2∨b=m4∨b=m6)∧
  w.heap[bo]?=some (.cells #[.slice (some ⟨n+1,0,none⟩) 2 2,.slice (some ⟨n+2,0,none⟩) 5 5,.slice (some ⟨n+13,0,none⟩) 4 4,.slice (some ⟨g,0,none⟩) 4 q] 43)∧4<=q∧
  (∀k,k<18->w.heap[n+k]?=(L8 n)[k]?)∧(∀j,j<12->w.cell? ⟨g,j,none⟩=some (.int .i64 (([0,105,110,2,90,90,4,14,16,1,14,20][j]?).getD 0)))∧
  kS w (some ⟨m2,o2,none⟩) 5 (sD uF)∧kS w (some ⟨m4,o4,none⟩) 4 (Al uF)∧zT w w.heap.size (some ⟨m6,o6,none⟩) (BC uF 1)
theorem vG {X:World} {b off l c:Nat} {L:List Nat} (h:Par.dh X (.slice (some ⟨b,off,none⟩) l c)):∃c e fr,X.heap[b]?=some (.cells c e fr)∧∀x∈c,Par.dJ x=true∨∃p l cp,x= .slice p l cp∧∀q,p=some q->q.block∈L:=by
 obtain ⟨c,e,h1,h2⟩:=h b rfl;exact ⟨c,e,_,h1, λx hx=>.inl (h2 x hx)⟩
theorem Qo {X:World} {n:Nat} {L:List Nat} (h:∀k,k<18->X.heap[n+k]?=(L8 n)[k]?) (hL:∀k,1<=k->k<=17->n+k∈L) {k:Nat} (h1:1<=k) (h2:k<=17):
 ∃c e fr,X.heap[n+k]?=some (.cells c e fr)∧∀x∈c,Par.dJ x=true∨∃p l cp,x= .slice p l cp∧∀q,p=some q->q.block∈L:=by
 rw [h k (by omega)];have pl:∀{c:Array Value},(c.all Par.dJ)=true->∀x∈c,Par.dJ x=true∨∃p l cp,x= .slice p l cp∧∀q,p=some q->q.block∈L:= λhc x hx=>.inl (Array.all_eq_true'.1 hc x hx)
 obtain rfl|rfl|rfl|rfl|rfl|rfl|rfl|rfl|rfl|rfl|rfl|rfl|rfl|rfl|rfl|rfl|rfl:k=1∨k=2∨k=3∨k=4∨k=5∨k=6∨k=7∨k=8∨k=9∨k=10∨k=11∨k=12∨k=13∨k=14∨k=15∨k=16∨k=17:=by omega
 all_goals refine ⟨_,_,_,rfl,?_⟩
 all_goals first |(refine pl ?_;simp [Par.dJ];done)|skip
 intro x hx;simp only [List.mem_toArray,aT,List.not_mem_nil,or_false] at hx;rcases hx with rfl|rfl|rfl|rfl|rfl|rfl|rfl|rfl|rfl|rfl|rfl|rfl|rfl|rfl|rfl|rfl|rfl|rfl|rfl|rfl|rfl|rfl|rfl|rfl|rfl|rfl|rfl|rfl
 all_goals first |exact .inl rfl|(refine .inr ⟨_,_,_,rfl,?_⟩;intro q hq;cases hq;exact hL _ (by omega) (by omega))
variable [Lo.St]
def exA (n:Nat):Value:=.agg #[.slice (some ⟨n+1,0,none⟩) 2 2,.slice (some ⟨n+2,0,none⟩) 5 5,.slice (some ⟨n+13,0,none⟩) 4 4,.slice (some ⟨n+17,0,none⟩) 3 3]
def Vg (n:Nat):Obj:=.cells #[.slice (some ⟨n+1,0,none⟩) 2 2,.slice (some ⟨n+2,0,none⟩) 5 5,.slice (some ⟨n+13,0,none⟩) 4 4,.slice (some ⟨n+17,0,none⟩) 3 3] 43
structure zN (n bb:Nat) (X:World):Prop where
 at_:∀k,k<18->X.heap[n+k]?=(L8 n)[k]?
 box:X.heap[bb]?=some (Vg n)
 lt:n+18<=X.heap.size
theorem zN.below {n bb:Nat} {X X':World} (h:zN n bb X) (hb:Below X.heap.size X X'):zN n bb X':=
 ⟨λk hk=>(hb.block _ (by have :=h.lt;omega)).trans (h.at_ k hk),(hb.block _ (aa.1 h.box).1).trans h.box,aC h.lt hb.size⟩
theorem zN.alloc {n bb:Nat} {X:World} (h:zN n bb X) (o:Obj):zN n bb (X.alloc o):=h.below ((Below.refl _ _).alloc (aj _) o)
theorem Ch {X:World} {b:Nat} {v0 v1 v2 v3:Value} {e:TypeId} (h:X.heap[b]?=some (.cells #[v0,v1,v2,v3] e)):X.cell? ⟨b,0,none⟩=some v0∧X.cell? ⟨b,1,none⟩=some v1∧X.cell? ⟨b,2,none⟩=some v2∧X.cell? ⟨b,3,none⟩=some v3:=by
 unfold World.cell?;simp only [h];exact ⟨rfl,rfl,rfl,rfl⟩
theorem zN.cells {n bb:Nat} {X:World} (h:zN n bb X):X.cell? ⟨bb,0,none⟩=some (.slice (some ⟨n+1,0,none⟩) 2 2)∧X.cell? ⟨bb,1,none⟩=some (.slice (some ⟨n+2,0,none⟩) 5 5)∧X.cell? ⟨bb,2,none⟩=some (.slice (some ⟨n+13,0,none⟩) 4 4)∧X.cell? ⟨bb,3,none⟩=some (.slice (some ⟨n+17,0,none⟩) 3 3):=Ch h.box
theorem Ow {X:World} {A:Option Addr} {n:Nat} {o:List Int} (h:kS X A n o) (hn:0<n):∃b off,A=some ⟨b,off,none⟩:=by
 obtain ⟨b,off,e,_⟩:=h hn;exact ⟨b,off,e⟩
theorem Lo.Qp {n bb:Nat} {X:World} (h:zN n bb X):Calls Lo.prog 12 #[exA n] X λe X'=>∃b off cap,e= .returned (.tuple #[.slice (some ⟨b,off,none⟩) 5 cap,.int .i64 0])∧kS X' (some ⟨b,off,none⟩) 5 (sD uF)∧Par.dh X' (.slice (some ⟨b,off,none⟩) 5 cap)∧Below X.heap.size X X':=by
 refine (Lo.LZ (b:=uF) (v:=U8 n) rfl (IG h.at_ h.lt) (aj _) Ej).mono ?_
 rintro e X' ⟨hb,h2⟩;rw [if_neg (by rw [Eh];simp),if_pos Ei] at h2;obtain ⟨A,cap,rfl,hs,hp⟩:=h2;obtain ⟨b,off,rfl⟩:=Ow hs (by decide);exact ⟨b,off,cap,rfl,hs,hp,hb⟩
theorem Lo.Qq {n bb:Nat} {X:World} (h:zN n bb X):Calls Lo.prog 13 #[exA n] X λe X'=>∃b off cap,e= .returned (.tuple #[.slice (some ⟨b,off,none⟩) 4 cap,.int .i64 0])∧kS X' (some ⟨b,off,none⟩) 4 (Al uF)∧Par.dh X' (.slice (some ⟨b,off,none⟩) 4 cap)∧Below X.heap.size X X':=by
 refine (Lo.L6 (b:=uF) (v:=U8 n) rfl (IG h.at_ h.lt) (aj _) Ej).mono ?_
 rintro e X' ⟨hb,h2⟩;rw [if_neg (by rw [Eh];simp),if_pos Ei] at h2;obtain ⟨A,cap,rfl,hs,hp⟩:=h2;obtain ⟨b,off,rfl⟩:=Ow hs (by decide);exact ⟨b,off,cap,rfl,hs,hp,hb⟩
theorem Lo.TZ {n bb:Nat} {X:World} (h:zN n bb X):Calls Lo.prog 14 #[exA n,.int .i64 1] X λe X'=>∃b off cap,e= .returned (.tuple #[.slice (some ⟨b,off,none⟩) 2 cap,.int .i64 0])∧zT X' X'.heap.size (some ⟨b,off,none⟩) (BC uF 1)∧Par.dh X' (.slice (some ⟨b,off,none⟩) 2 cap)∧Below X.heap.size X X':=by
 refine (Lo.Pe (b:=uF) (v:=U8 n) rfl (IG h.at_ h.lt) (aj _) Ej 1 λ_ _=>RY).mono ?_
 rintro e X' ⟨hb,h2⟩;rw [if_neg (by rw [Eh];simp),if_neg (by decide),if_pos Ei] at h2;obtain ⟨A,cap,rfl,hs,hp⟩:=h2;obtain ⟨b,off,rfl,_⟩:=hs (by rw [JQ];decide);exact ⟨b,off,cap,rfl,hs,hp,hb⟩
theorem Wy {n bb g cap:Nat} {X:World} (h:zN n bb X) (hg:g<X.heap.size) (hc:4<=cap) (hs:∀j,j<12->X.cell? ⟨g,j,none⟩=some (.int .i64 (([0,105,110,2,90,90,4,14,16,1,14,20][j]?).getD 0))):eT X X.heap.size mU (Wx n g cap):=by
 have b:=IG h.at_ h.lt;refine ⟨b.hands,b.bP,b.steps,b.ins,b.outs, λ_=>⟨g,0,rfl,hg, λi j hi hj=>?_⟩,b.lh,b.lp,b.ls,hc⟩;rw [show 0+(i*3+j)=i*3+j by omega,hs (i*3+j) (by have :mU.bT.length=4:=rfl;omega)];have hi:i<4:=hi;obtain rfl|rfl|rfl|rfl:i=0∨i=1∨i=2∨i=3:=by omega
 all_goals obtain rfl|rfl|rfl:j=0∨j=1∨j=2:=by omega
 all_goals rfl
def aq9 (n g cap:Nat):Value:=.agg #[.slice (some ⟨n+1,0,none⟩) 2 2,.slice (some ⟨n+2,0,none⟩) 5 5,.slice (some ⟨n+13,0,none⟩) 4 4,.slice (some ⟨g,0,none⟩) 4 cap]
theorem Lo.T9 {n g cap:Nat} {X:World} (h:eT X X.heap.size mU (Wx n g cap)):Calls Lo.prog 15 #[aq9 n g cap] X λe X'=>e= .returned (.tuple #[.int .i64 3,.int .i64 0])∧Below X.heap.size X X':=by
 refine (Lo.Pg (b:=mU) (v:=Wx n g cap) rfl h (aj _) Gn).mono ?_
 rintro e X' ⟨hb,h2⟩;rw [if_neg (by rw [Gm];simp),Ph] at h2;exact ⟨h2,hb⟩
theorem Qr {X:World} {base e size n cap g:Nat} {xs:List Value} (h:X.ownsRow base e size (.slice (some ⟨g,0,none⟩) n cap) n xs):n<=cap∧∀j u,xs[j]?=some u->X.cell? ⟨g,j,none⟩=some u:=by
 obtain ⟨hl,h|⟨g',cap',cur,he,hb,hg,h1,h2,h3,h4⟩⟩:=h
 ·cases h.1
 ·cases he;refine ⟨h1, λj u hu=>?_⟩;rw [<-h4,List.getElem?_take] at hu;unfold World.cell?;simp only [hg];split at hu
  ·simpa using hu
  ·cases hu
theorem Lo.Yd:Lo.prog.underlying 41=some (.slice 51):=(Lo.underlying 41).trans (by kernel_rfl)
theorem Lo.ZH:(Lo.prog.info? 51).map (λi=>(i.zero,i.size,i.bytes))=some (some (.agg #[.int .i64 0,.int .i64 0,.int .i64 0]),3,24):=by
 rw [Lo.info];kernel_rfl
theorem Lo.ar0 (w:World) (z:Code) (hz:z=Try.W8):Par.yF Lo.prog (Conc.base 5) [] [Par.stk] z (ak0 w.heap.size) Try.xg ⟨Array.replicate 160 undef,[]⟩ w:=by
 obtain ⟨U,U2,U3,U4,U5,U6⟩:=@Lo.facts inferInstance;have C:=(@Lo.call10 inferInstance);have C11:=(@Lo.call11 inferInstance);have C12:=(@Lo.call12 inferInstance);have C13:=(@Lo.call13 inferInstance);have C14:=(@Lo.call14 inferInstance);have C15:=(@Lo.call15 inferInstance);simp only [Try.xg,Try.f5,Option.getD_some,Array.replicate_succ,Array.replicate_zero,List.push_toArray,List.append_toArray,List.nil_append,List.cons_append];refine Par.yF.seq ?_
 go_wp2;refine Par.yF.seq ?_
 have HEX:=Lib.hid (show dN uF (U8 w.heap.size)=exA w.heap.size from rfl)
 go_wp2_with (go_at_call 11;refine (Lo.JP _).mono ?_;rintro e w1 ⟨rfl,hw1⟩;rw [HEX.out];unfold exA;have HW1:=Lib.hid hw1;clear hw1)
 have hX:zN w.heap.size w1.heap.size (w1.alloc (Vg w.heap.size)):=by
  have hs:w1.heap.size=w.heap.size+18:=by rw [HW1.out,tN];rfl
  refine ⟨λk hk=>?_,World.alloc_heap_new _ _,by simp;omega⟩;rw [Below.heap_alloc _ _ _ (by omega),HW1.out];exact kT _ _ _ hk
 have hbe:Below w.heap.size w (w1.alloc (Vg w.heap.size)):=by
  rw [HW1.out];exact (ni _ _).alloc (by rw [tN];omega) _
 obtain ⟨X,hXe⟩:∃X,w1.alloc (Vg w.heap.size)=X:=⟨_,rfl⟩;have ZI:=hXe;unfold Vg at ZI;rw [ZI];rw [hXe] at hX hbe;have hbb:w1.heap.size<X.heap.size:=(aa.1 hX.box).1;have hbn:w.heap.size+18<=w1.heap.size:=by rw [HW1.out,tN];exact aj _
 clear hXe ZI HW1;obtain ⟨n,hn⟩:∃n,w.heap.size=n:=⟨_,rfl⟩;obtain ⟨bb,ZJ⟩:∃bb,w1.heap.size=bb:=⟨_,rfl⟩;rw [hn] at hX hbe HEX;rw [ZJ] at hX hbb hbn;rw [hn] at hbn;rw [hn,ZJ];clear ZJ;have HXA:=Lib.hid (au hX hbe);obtain ⟨c0,c1,c2,c3⟩:=hX.cells;clear hX hbe;refine Par.yF.seq ?_
 go_wp2_with (go_at_call 12;refine (Lo.Qp HXA.out.1).mono ?_;rintro e X2 ⟨m2,o2,q2,rfl,hs2,hp2,hb2⟩;have Xy:=Lib.hid (au hs2 (au hp2 hb2));have hz2:=hb2.size;clear hs2 hp2 hb2)
 have hX2:=HXA.out.1.below Xy.out.2.2;replace hbb:bb<X2.heap.size:=ak hbb hz2;obtain ⟨d0,d1,d2,d3⟩:=hX2.cells;have HXB:=Lib.hid hX2;clear hX2 c0 c1 c2 c3 hz2;refine Par.yF.seq ?_
 go_wp2_with (go_at_call 13;refine (Lo.Qq HXB.out).mono ?_;rintro e X3 ⟨m4,o4,q4,rfl,hs2,hp2,hb2⟩;have HX3:=Lib.hid (au hs2 (au hp2 hb2));have hz2:=hb2.size;clear hs2 hp2 hb2)
 have hX3:=HXB.out.below HX3.out.2.2;replace hbb:bb<X3.heap.size:=ak hbb hz2;obtain ⟨c0,c1,c2,c3⟩:=hX3.cells;have HXC:=Lib.hid hX3;clear hX3 d0 d1 d2 d3 hz2;refine Par.yF.seq ?_
 go_wp2_with (go_at_call 14;refine (Lo.TZ HXC.out).mono ?_;rintro e X4 ⟨m6,o6,q6,rfl,hs2,hp2,hb2⟩;have HX4:=Lib.hid (au hs2 (au hp2 hb2));have hz2:=hb2.size;clear hs2 hp2 hb2)
 have hX4:=HXC.out.below HX4.out.2.2;replace hbb:bb<X4.heap.size:=ak hbb hz2;obtain ⟨d0,d1,d2,d3⟩:=hX4.cells;have Ye:=Lib.hid hX4;clear hX4 c0 c1 c2 c3 hz2;refine Par.yF.seq ?_
 go_wp2;obtain ⟨X5,hX5⟩:∃X5,X4.alloc (Vg n)=X5:=⟨_,rfl⟩;have ZK:=hX5;unfold Vg at ZK;rw [ZK];have hEx:zN n bb X5:=by rw [<-hX5];exact Ye.out.alloc _
 have ZL:X5.heap[X4.heap.size]?=some (Vg n):=by rw [<-hX5];exact World.alloc_heap_new _ _
 have hb5:Below X4.heap.size X4 X5:=by rw [<-hX5];exact (Below.refl _ _).alloc (aj _) _
 clear hX5 ZK;have ZM:X4.heap.size<X5.heap.size:=(aa.1 ZL).1;replace hbb:bb<X5.heap.size:=Nat.lt_trans hbb ZM
 have hne:bb≠X4.heap.size:= λe=>by
  have :=(aa.1 Ye.out.box).1;omega
 obtain ⟨bo,Ua⟩:∃bo,X4.heap.size=bo:=⟨_,rfl⟩;rw [Ua] at ZL ZM hne hb5;rw [Ua];obtain ⟨c0,c1,c2,c3⟩:=hEx.cells;have ar1:n+17<X5.heap.size:=by have :=hEx.lt;omega
 have HXE:=Lib.hid (au hEx (au ZL hb5));clear d0 d1 d2 d3 hEx ZL hb5;obtain ⟨i0,hi,hz0,hz1,hz2⟩:=info_parts Lo.ZH
 have hown:(X5.alloc (.cells #[] 51)).ownsRow X5.heap.size 51 3 (.slice (some ⟨X5.heap.size,0,none⟩) 0 0) 0 []:=by
  refine ⟨rfl,.inr ⟨X5.heap.size,0,#[],rfl,aj _,?_,aj _,?_,?_,?_⟩⟩
  ·exact World.alloc_heap_new _ _
  all_goals simp
 have ak1:Par.dh (X5.alloc (.cells #[] 51)) (.slice (some ⟨X5.heap.size,0,none⟩) 0 0):= λg hg=>by
  obtain rfl:X5.heap.size=g:=by simpa [Value.ownBlock] using hg
  exact ⟨#[],51,World.alloc_heap_new _ _,by simp⟩
 have hnew:∀j u,([.int .i64 0,.int .i64 105,.int .i64 110,.int .i64 2,.int .i64 90,.int .i64 90,.int .i64 4,.int .i64 14,.int .i64 16]:List Value)[j]?=some u->(X5.alloc (.cells #[] 51)).cell? ((⟨n+17,0,none⟩:Addr).add j)=some u:=
  World.news_of_block (t:=51) (fr:=(0,0)) (cs:= #[.int .i64 0,.int .i64 105,.int .i64 110,.int .i64 2,.int .i64 90,.int .i64 90,.int .i64 4,.int .i64 14,.int .i64 16]) (by rw [Below.heap_alloc _ _ _ ar1];exact HXE.out.1.at_ 17 (by omega))
 have HO:=Lib.hid (au hown (au ak1 hnew));clear hown ak1 hnew;refine Par.yF.seq ?_
 go_wp2_with (first
  |(go_at_call 10;refine (Lo.Dm _ _ _).mono ?_;rintro e w1 ⟨rfl,rfl⟩)
  |(at_builtin;refine Par.tT rfl _ _ 41 rfl X5.heap.size 51 i0 (.agg #[.int .i64 0,.int .i64 0,.int .i64 0]) 3 24 Lo.Yd hi hz0 hz1 hz2 rfl (by decide) _ 0 [] rfl HO.out.1 ⟨n+17,0,none⟩ 3 3 _ rfl rfl HO.out.2.2 (by intro u hu;simp only [aT,List.not_mem_nil,or_false] at hu;rcases hu with rfl|rfl|rfl|rfl|rfl|rfl|rfl|rfl|rfl<;>rfl) (by omega) (by unfold maxLen;omega) (by omega) (by simp) (X5.heap.size+1) (by simp) HO.out.2.1 (by intro u hu;simp only [aT,List.not_mem_nil,or_false] at hu;rcases hu with rfl|rfl|rfl|rfl|rfl|rfl|rfl|rfl|rfl<;>rfl) (by intro u hu;simp [Value.cells] at hu;subst hu;rfl) ?_))
 intro g1 q1 X6 h1 h2 h3 h4 h5 h6;have hb6:Below X5.heap.size X5 X6:=((Below.refl _ _).alloc (aj _) _).grown h2 (by simp) (λk hk=>by simp [Value.ownBlock] at hk;omega);have hz6:=hb6.size;have hg1:X5.heap.size<=g1:=by rcases h3 with h3|h3<;>(try simp [Value.ownBlock] at h3)<;>omega
 have HG:=Lib.hid (au h1 (au h5 (au hb6 (au h2 h6))));clear h1 h2 h3 h5 hb6 h6;have hown:((X6.alloc (.cells #[.int .i64 14,.int .i64 20] 32)).alloc (.cells #[.int .i64 1,.int .i64 14,.int .i64 20] 51)).ownsRow X5.heap.size 51 3 (.slice (some ⟨g1,0,none⟩) 3 q1) 3 _:=(HG.out.1.alloc _).alloc _;have xB:Par.dh ((X6.alloc (.cells #[.int .i64 14,.int .i64 20] 32)).alloc (.cells #[.int .i64 1,.int .i64 14,.int .i64 20] 51)) (.slice (some ⟨g1,0,none⟩) 3 q1):=(HG.out.2.1.alloc _).alloc _
 have hnew:∀j u,([.int .i64 1,.int .i64 14,.int .i64 20]:List Value)[j]?=some u->((X6.alloc (.cells #[.int .i64 14,.int .i64 20] 32)).alloc (.cells #[.int .i64 1,.int .i64 14,.int .i64 20] 51)).cell? ((⟨X6.heap.size+1,0,none⟩:Addr).add j)=some u:=
  World.news_of_block (t:=51) (fr:=(0,0)) (cs:= #[.int .i64 1,.int .i64 14,.int .i64 20]) (by have :=World.alloc_heap_new (X6.alloc (.cells #[.int .i64 14,.int .i64 20] 32)) (.cells #[.int .i64 1,.int .i64 14,.int .i64 20] 51);rwa [World.size_alloc] at this)
 have HO2:=Lib.hid (au hown (au xB hnew));clear hown xB hnew
 go_wp2_with (first
  |(go_at_call 10;refine (Lo.Dm _ _ _).mono ?_;rintro e w1 ⟨rfl,rfl⟩)
  |(at_builtin;refine Par.tT rfl _ _ 41 rfl X5.heap.size 51 i0 (.agg #[.int .i64 0,.int .i64 0,.int .i64 0]) 3 24 Lo.Yd hi hz0 hz1 hz2 rfl (by decide) _ 3 _ rfl HO2.out.1 ⟨X6.heap.size+1,0,none⟩ 1 1 _ rfl rfl HO2.out.2.2 (by intro u hu;simp only [aT,List.not_mem_nil,or_false] at hu;rcases hu with rfl|rfl|rfl<;>rfl) (by omega) (by unfold maxLen;omega) (by omega) (by simp;omega) (X6.heap.size+2) (by simp) HO2.out.2.1 (by intro u hu;simp only [aT,List.not_mem_nil,or_false] at hu;rcases hu with rfl|rfl|rfl<;>rfl) (by intro u hu;simp [Value.cells] at hu;subst hu;rfl) ?_))
 intro g2 q2' X8 h1 h2 h3 h4' h5 h6;have Ub:Below X5.heap.size X5 X8:=HG.out.2.2.1.trans ((((Below.refl _ X6).alloc (aj _) (.cells #[.int .i64 14,.int .i64 20] 32)).alloc (by simp) (.cells #[.int .i64 1,.int .i64 14,.int .i64 20] 51)).mono hz6 |>.grown h2 (by simp;omega) (λk hk=>by simp [Value.ownBlock] at hk;omega));have hz8:=Ub.size;have hg2:X5.heap.size<=g2:=by rcases h3 with h3|h3<;>(try simp [Value.ownBlock] at h3)<;>omega
 obtain ⟨hcap,Uc⟩:=Qr h1;have Wz:=HXE.out.1.below Ub;have Qs:X8.heap[bo]?=some (Vg n):=(Ub.block bo ZM).trans HXE.out.2.1
 obtain ⟨_,_,_,e3⟩:=Ch Qs;have f3:X8.frozen? ⟨bo,3,none⟩=false:=by unfold World.frozen?;simp only [Qs];rfl
 have H8:=Lib.hid (au Ub (au hcap (au Uc (au Wz (au Qs (au h5 (au h6 h2)))))));clear Ub hcap Uc Wz Qs h1 h2 h3 h5 h6;go_wp2;obtain ⟨X9,WB⟩:∃X9,X8.setCell ⟨bo,3,none⟩ (.slice (some ⟨g2,0,none⟩) 4 q2')=X9:=⟨_,rfl⟩;rw [WB];have FN:∀k:Nat,k≠bo->X9.heap[k]?=X8.heap[k]?:= λk hk=>by rw [<-WB];exact Below.heap_setCell X8 ⟨bo,3,none⟩ _ k hk
 have hs9:X9.heap.size=X8.heap.size:=by rw [<-WB];simp [World.setCell]
 have Qt:X9.heap[bo]?=some (.cells #[.slice (some ⟨n+1,0,none⟩) 2 2,.slice (some ⟨n+2,0,none⟩) 5 5,.slice (some ⟨n+13,0,none⟩) 4 4,.slice (some ⟨g2,0,none⟩) 4 q2'] 43):=by
  rw [<-WB,heap_setCell_same X8 bo 3 _ 43 _ H8.out.2.2.2.2.1];rfl
 have ar2:=HXE.out.1.lt;have Ud:zN n bb X9:=⟨λk hk=>(FN _ (by have :=(aa.1 Ye.out.box).1;have :=Ye.out.lt;omega)).trans (H8.out.2.2.2.1.at_ k hk),(FN _ hne).trans H8.out.2.2.2.1.box,by rw [hs9];exact H8.out.2.2.2.1.lt⟩;have hg9:∀j u,([.int .i64 0,.int .i64 105,.int .i64 110,.int .i64 2,.int .i64 90,.int .i64 90,.int .i64 4,.int .i64 14,.int .i64 16]++ [.int .i64 1,.int .i64 14,.int .i64 20]:List Value)[j]?=some u->X9.cell? ⟨g2,j,none⟩=some u:= λj u hu=>(World.cell?_of_block (a:=⟨g2,j,none⟩) (FN g2 (by omega))).trans (H8.out.2.2.1 j u hu)
 have hbk:eT X9 X9.heap.size mU (Wx n g2 q2'):=Wy Ud (by rw [hs9];exact h4') H8.out.2.1 (λj hj=>hg9 j _ (by
  obtain rfl|rfl|rfl|rfl|rfl|rfl|rfl|rfl|rfl|rfl|rfl|rfl:j=0∨j=1∨j=2∨j=3∨j=4∨j=5∨j=6∨j=7∨j=8∨j=9∨j=10∨j=11:=by omega
  all_goals rfl))
 obtain ⟨d0,d1,d2,d3⟩:=Ch Qt;have H9:=Lib.hid (au WB (au hs9 (au FN (au Qt (au Ud hbk)))));clear WB hs9 FN Qt Ud hg9 hbk e3 f3;refine Par.yF.seq ?_
 go_wp2_with (go_at_call 15;refine (Lo.T9 (n:=n) (g:=g2) (cap:=q2') H9.out.2.2.2.2.2).mono ?_;rintro e ZN ⟨rfl,M9⟩;have H10:=Lib.hid M9;clear M9)
 simp only [Try.W8,Try.xg,Try.f5,Try.bR,Try.cB,Option.getD_some,Nat.reduceEqDiff,if_true,if_false,reduceIte];refine Par.yF.here ?_
 obtain ⟨WB,hs9,FN,Qt,Ud,_⟩:=H9.out;obtain ⟨Ub,hcap,Uc,Wz,Qs,hp8,hpg,hgr⟩:=H8.out;have M9:=H10.out;have au6:X6.heap.size+1+1<=X8.heap.size:=by have h:=hgr.size;simpa using h
 have aw1:=M9.size;have ar2:=HXE.out.1.lt;have KN:∀b:Nat,b≠bo->b<X8.heap.size->ZN.heap[b]?=X8.heap[b]?:= λb h1 h2=>(M9.block b (by omega)).trans (FN b h1)
 have KO:∀b:Nat,b<bo->ZN.heap[b]?=X4.heap[b]?:= λb h1=>(KN b (by omega) (by omega)).trans ((Ub.block b (by omega)).trans (HXE.out.2.2.block b h1))
 have ZO:Below X2.heap.size X2 X4:=HX3.out.2.2.trans (HX4.out.2.2.mono HX3.out.2.2.size)
 have L4:∀{b off l c:Nat},Par.dh X4 (.slice (some ⟨b,off,none⟩) l c)->Par.dh ZN (.slice (some ⟨b,off,none⟩) l c)∧b<bo:= λ{b off l c} h=>by
  obtain ⟨c',e,h1,_⟩:=h b rfl;have hb:b<bo:=by rw [<-Ua];exact (aa.1 h1).1
  exact ⟨h.keep λg hg=>by cases hg;exact KO b hb,hb⟩
 have R4:∀{k b off m:Nat} {f:Nat->Nat->Value},Rd X4 X4.heap.size k (some ⟨b,off,none⟩) m f->Rd ZN ZN.heap.size k (some ⟨b,off,none⟩) m f:= λ{k b off m f} h hn=>by
  obtain ⟨b',off',e,h1,h2⟩:=h hn;exact ⟨b',off',e,by omega, λi j hi hj=>(World.cell?_of_block (a:=⟨b',off'+(i*k+j),none⟩) (KO b' (by omega))).trans (h2 i j hi hj)⟩
 have p2:=L4 (Xy.out.2.1.keep λg hg=>ZO.block g (by
  obtain ⟨c',e,h1,_⟩:=Xy.out.2.1 g hg;exact (aa.1 h1).1))
 have p4:=L4 (HX3.out.2.1.keep λg hg=>HX4.out.2.2.block g (by
  obtain ⟨c',e,h1,_⟩:=HX3.out.2.1 g hg;exact (aa.1 h1).1))
 have p6:=L4 HX4.out.2.1;have r2:=R4 (Xy.out.1.below ZO);have r4:=R4 (HX3.out.1.below HX4.out.2.2);have r6:=R4 HX4.out.1;have aw2:n+18<=bo:=by rw [<-Ua];exact Ye.out.lt
 have ea:∀k,k<18->ZN.heap[n+k]?=(L8 n)[k]?:= λk hk=>(KO _ (by omega)).trans (Ye.out.at_ k hk)
 have ar3:bb<bo:=by rw [<-Ua];exact (aa.1 Ye.out.box).1
 have ebb:ZN.heap[bb]?=some (Vg n):=(KO _ ar3).trans Ye.out.box
 have ebo:=(M9.block bo (by omega)).trans Qt;obtain ⟨L,hL⟩:∃L,L= [n+1,n+2,n+3,n+4,n+5,n+6,n+7,n+8,n+9,n+10,n+11,n+12,n+13,n+14,n+15,n+16,n+17,bb,bo,X5.heap.size,g1,X6.heap.size+1,g2,m2,m4,m6]:=⟨_,rfl⟩
 have hk:∀k,1<=k->k<=17->n+k∈L:= λk h1 h2=>by
  rw [hL];obtain rfl|rfl|rfl|rfl|rfl|rfl|rfl|rfl|rfl|rfl|rfl|rfl|rfl|rfl|rfl|rfl|rfl:k=1∨k=2∨k=3∨k=4∨k=5∨k=6∨k=7∨k=8∨k=9∨k=10∨k=11∨k=12∨k=13∨k=14∨k=15∨k=16∨k=17:=by omega
  all_goals simp
 have l1:=hk 1 (by omega) (by omega);have l2:=hk 2 (by omega) (by omega);have l13:=hk 13 (by omega) (by omega);have l17:=hk 17 (by omega) (by omega);have lbb:bb∈L:=by rw [hL];simp
 have lbo:bo∈L:=by rw [hL];simp
 have lx5:X5.heap.size∈L:=by rw [hL];simp
 have lg1:g1∈L:=by rw [hL];simp
 have lx6:X6.heap.size+1∈L:=by rw [hL];simp
 have lg2:g2∈L:=by rw [hL];simp
 have lm2:m2∈L:=by rw [hL];simp
 have lm4:m4∈L:=by rw [hL];simp
 have lm6:m6∈L:=by rw [hL];simp
 have hcases:∀b∈L,(∃k,1<=k∧k<=17∧b=n+k)∨b=bb∨b=bo∨b=X5.heap.size∨b=g1∨b=X6.heap.size+1∨b=g2∨b=m2∨b=m4∨b=m6:= λb hb=>by
  rw [hL] at hb;simp only [aT,List.not_mem_nil,or_false] at hb;rcases hb with h|h|h|h|h|h|h|h|h|h|h|h|h|h|h|h|h|h
  case inr.inr.inr.inr.inr.inr.inr.inr.inr.inr.inr.inr.inr.inr.inr.inr.inr=>exact .inr h
  all_goals exact .inl ⟨b - n,by omega,by omega,by omega⟩
 have Ho:=Lib.hid (au hcases (au hL (au WB FN)));clear hL hcases WB FN;refine ⟨L,bo,g2,q2',m2,o2,q2,m4,o4,q4,m6,o6,q6,⟨rfl,rfl, λS cd=>?_⟩, λb hb=>?_,⟨rfl,rfl,rfl,rfl,rfl,rfl,rfl,rfl,rfl⟩,⟨lbo,lg2,lm2,lm4,lm6,hk, λb hb=>?_⟩,ebo,hcap,ea, λj hj=>?_,r2,r4,r6⟩
 ·clear p2 p4 p6 r2 r4 r6 L4 R4 ea ebb ebo hk KO KN ZO M9 Ub Uc Wz Qs hp8 hpg hgr Qt Ud c0 c1 c2 c3 d0 d1 d2 d3;simp [Par.VS,Par.qm,Par.uK,Par.lW,Par.FA,l1,l2,l13,l17,lbb,lbo,lx5,lg1,lx6,lg2,lm2,lm4,lm6]
 ·rcases Ho.out.1 b hb with ⟨k,h1,h2,rfl⟩|rfl|rfl|rfl|h|rfl|h|rfl|rfl|rfl
  ·exact Qo ea hk h1 h2
  ·refine ⟨_,_,_,ebb, λx hx=>?_⟩;simp only [List.mem_toArray,aT,List.not_mem_nil,or_false] at hx;rcases hx with rfl|rfl|rfl|rfl
   all_goals (refine .inr ⟨_,_,_,rfl,?_⟩;intro q hq;cases hq;assumption)
  ·refine ⟨_,_,_,ebo, λx hx=>?_⟩;simp only [List.mem_toArray,aT,List.not_mem_nil,or_false] at hx;rcases hx with rfl|rfl|rfl|rfl
   all_goals (refine .inr ⟨_,_,_,rfl,?_⟩;intro q hq;cases hq;assumption)
  ·by_cases he:X5.heap.size=g1
   ·rw [he];exact vG (hpg.keep λg hg=>by cases hg;exact KN g1 (by omega) (by omega))
   ·obtain ⟨c,e,q1',ar4⟩:=HG.out.2.2.2.2 X5.heap.size rfl;refine ⟨c,e,(0,0),(KN _ (by omega) (by omega)).trans ((hgr.block _ (by simp;omega) (λh=>he (by simpa [Value.ownBlock] using h))).trans ?_), λx hx=>.inl (ar4 x hx)⟩;rw [Below.heap_alloc _ _ _ (by simp;omega),Below.heap_alloc _ _ _ (by omega)];exact q1'
  ·rw [h];exact vG (hpg.keep λg hg=>by cases hg;exact KN g1 (by omega) (by omega))
  ·have ar5:X6.heap.size+1≠g1:=by omega
   have ar6:=hgr.size;simp at ar6;refine ⟨#[.int .i64 1,.int .i64 14,.int .i64 20],51,(0,0),(KN _ (by omega) (by omega)).trans ((hgr.block _ (by simp) (λh=>ar5 (by simpa [Value.ownBlock] using h))).trans ?_), λx hx=>.inl ?_⟩
   ·have :=World.alloc_heap_new (X6.alloc (.cells #[.int .i64 14,.int .i64 20] 32)) (.cells #[.int .i64 1,.int .i64 14,.int .i64 20] 51)
    rwa [World.size_alloc] at this
   ·simp only [List.mem_toArray,aT,List.not_mem_nil,or_false] at hx;rcases hx with rfl|rfl|rfl<;>rfl
  ·rw [h];exact vG (hp8.keep λg hg=>by cases hg;exact KN g2 (by omega) (by omega))
  ·exact vG p2.1
  ·exact vG p4.1
  ·exact vG p6.1
 ·rcases Ho.out.1 b hb with ⟨k,h1,h2,rfl⟩|rfl|rfl|rfl|rfl|rfl|rfl|rfl|rfl|rfl
  ·exact .inl (by omega)
  ·exact .inl (by omega)
  all_goals first |(exact .inl (by omega))|simp
 ·refine (World.cell?_of_block (a:=⟨g2,j,none⟩) (KN g2 (by omega) (by omega))).trans (Uc j _ ?_);obtain rfl|rfl|rfl|rfl|rfl|rfl|rfl|rfl|rfl|rfl|rfl|rfl:j=0∨j=1∨j=2∨j=3∨j=4∨j=5∨j=6∨j=7∨j=8∨j=9∨j=10∨j=11:=by omega
  all_goals rfl
end Go.Proofs
end
section
namespace Go.Proofs
open Go Go.RowKit Go.Maps
theorem Qu {who:List Nat} {hours:Int} {found:Bool} (h:mJ [(10,10),(25,25)] [(10,0,100),(5,0,0)] 1 4 who hours found):who= [0,1]∧hours=5∧found=true:=by
 have s01:uA 2 2 [0,1]:=⟨rfl,by decide⟩;have o01:zo [(10,10),(25,25)] [(10,0,100),(5,0,0)] 1 [0,1]:=by unfold zo;decide
 cases found with
 |false=>exact absurd o01 ((h.no rfl).2.2 _ s01 (by decide))
 |true=>
  obtain ⟨h1,h2,h3,h4,h5⟩:=h.yes rfl;have h6:=h5 _ s01 (by decide) o01;obtain ⟨hl,hm⟩:=h1
  match who,hl,hm,h3,h4,h6 with
  | [a,b],_,hm,h3,h4,h6=>
    have ha:a<2:=hm a (by simp);have hb:b<2:=hm b (by simp);obtain rfl|rfl:a=0∨a=1:=by omega
    all_goals obtain rfl|rfl:b=0∨b=1:=by omega
    ·exact absurd h3 (by unfold zo;decide)
    ·exact ⟨rfl,h4.trans (by decide),rfl⟩
    ·exact absurd h3 (by unfold zo;decide)
    ·exfalso;rw [h4] at h6;revert h6;decide
variable [Lo.St]
theorem Bg {X:World} {b:Nat} {c:Array Value} {e:TypeId} {fr:Nat×Nat} (h:X.heap[b]?=some (.cells c e fr)) (o:Nat):X.cell? ⟨b,o,none⟩=c[o]?:=by
 unfold World.cell?;simp only [h];cases c[o]?<;>rfl
theorem Lo.Ue {X:World} {b1 b2:Nat} (h1:X.heap[b1]?=some (.cells #[.int .i64 10,.int .i64 10,.int .i64 25,.int .i64 25] 32)) (h2:X.heap[b2]?=some (.cells #[.int .i64 10,.int .i64 0,.int .i64 100,.int .i64 5,.int .i64 0,.int .i64 0] 34)):
 Calls Lo.prog 6 #[.slice (some ⟨b1,0,none⟩) 2 2,.slice (some ⟨b2,0,none⟩) 2 2,.int .i64 1] X λe X'=>∃A cap,e= .returned (.tuple #[.slice A 2 cap,.int .i64 5,.bool true,.int .i64 0])∧zT X' X'.heap.size A [0,1]∧Below X.heap.size X X':=by
 have q1:Lc X X.heap.size (some ⟨b1,0,none⟩) [(10,10),(25,25)]:= λ_=>⟨b1,0,rfl,(aa.1 h1).1, λi j hi hj=>by
  rw [Bg h1];have hi:i<2:=hi;obtain rfl|rfl:i=0∨i=1:=by omega
  all_goals obtain rfl|rfl:j=0∨j=1:=by omega
  all_goals rfl⟩
 have q2:Ld X X.heap.size (some ⟨b2,0,none⟩) [(10,0,100),(5,0,0)]:= λ_=>⟨b2,0,rfl,(aa.1 h2).1, λi j hi hj=>by
  rw [Bg h2];have hi:i<2:=hi;obtain rfl|rfl:i=0∨i=1:=by omega
  all_goals obtain rfl|rfl|rfl:j=0∨j=1∨j=2:=by omega
  all_goals rfl⟩
 refine (Lo.BH q1 q2 (by decide) (by decide) (aj _) 1).mono ?_
 rintro e X' ⟨hb,hx⟩;rw [if_neg (by decide)] at hx;obtain ⟨A,cap,who,hours,found,rfl,dS,hw⟩:=hx;obtain ⟨rfl,rfl,rfl⟩:=Qu dS;refine ⟨A,cap,rfl, λ_=>?_,hb⟩;obtain ⟨g,rfl,_,hg,hc⟩:=hw (by decide);refine ⟨g,0,rfl,hg, λi j hi hj=>?_⟩;have hi:i<2:=hi;obtain rfl:j=0:=by omega
 obtain rfl|rfl:i=0∨i=1:=by omega
 ·exact hc 0 (by decide)
 ·exact hc 1 (by decide)
theorem ZP {X:World} {b B:Nat} {l:List Int} {fr:Nat×Nat} (h:X.heap[b]?=some (.cells (l.map λx=>Value.int .i64 x).toArray 3 fr)) (hB:X.heap.size<=B):zT X B (some ⟨b,0,none⟩) l:= λ_=>by
 refine ⟨b,0,rfl,ak (aa.1 h).1 hB, λi j hi hj=>?_⟩;obtain rfl:j=0:=by omega
 rw [show 0+(i*1+0)=i from by omega,Bg h];simp [hi]
theorem Uf {X:World} {b B n:Nat} {l:List Int} {fr:Nat×Nat} (h:X.heap[b]?=some (.cells (l.map λx=>Value.int .i64 x).toArray 32 fr)) (hl:l.length=2*n) (hB:X.heap.size<=B):YH X B (some ⟨b,0,none⟩) n l:= λ_=>by
 refine ⟨b,0,rfl,ak (aa.1 h).1 hB, λi j hi hj=>?_⟩;rw [show 0+(i*2+j)=2*i+j from by omega,Bg h];have :2*i+j<l.length:=by omega
 simp [this]
def oM:List Obj:=[.cells #[.int .i64 105,.int .i64 110] 32,.cells #[.int .i64 9,.int .i64 13] 32,.cells #[.int .i64 90,.int .i64 90] 32,.cells #[.int .i64 5,.int .i64 5] 32,.cells #[.int .i64 14,.int .i64 16] 32,.cells #[.int .i64 105,.int .i64 110,.int .i64 9,.int .i64 13,.int .i64 90,.int .i64 90,.int .i64 5,.int .i64 5,.int .i64 14,.int .i64 16] 32]
def oL:List Obj:=[.cells #[.int .i64 2,.int .i64 10] 32,.cells #[.int .i64 0,.int .i64 2] 32,.cells #[.int .i64 0,.int .i64 0,.int .i64 2,.int .i64 10,.int .i64 0,.int .i64 0,.int .i64 0,.int .i64 2] 32]
theorem xh {X X':World} {k n:Nat} {A:Option Addr} {f:Nat->Nat->Value} (h:Rd X X.heap.size k A n f) (hb:Below X.heap.size X X'):Rd X' X'.heap.size k A n f:= λhn=>by
 obtain ⟨b,off,e,h1,h2⟩:=h hn;exact ⟨b,off,e,ak h1 hb.size, λi j hi hj=>(bV hb _ _ h1).trans (h2 i j hi hj)⟩
theorem Lo.ar7 {X:World} {m2 o2 q2:Nat} (r:YH X X.heap.size (some ⟨m2,o2,none⟩) 5 (sD uF)):Calls Lo.prog 17 #[.slice (some ⟨m2,o2,none⟩) 5 q2,.slice (some ⟨X.heap.size+5,0,none⟩) 5 5] (rA oM X) λe X'=>e= .returned (.bool true)∧Below X.heap.size X X':=by
 have hb:=ni oM X;refine (Lo.yK (l1:=sD uF) (l2:=[105,110,9,13,90,90,5,5,14,16]) (xh r hb) (Uf (l:=[105,110,9,13,90,90,5,5,14,16]) (kT oM X 5 (by decide)) rfl (aj _)) (by decide) (aj _)).mono ?_
 rintro e X' ⟨rfl,hb2⟩;refine ⟨?_,hb.trans (hb2.mono hb.size)⟩;rw [RX];rfl
theorem Lo.ar8 {X:World} {m2 o2 q2:Nat} (r:YH X X.heap.size (some ⟨m2,o2,none⟩) 4 (Al uF)):Calls Lo.prog 17 #[.slice (some ⟨m2,o2,none⟩) 4 q2,.slice (some ⟨X.heap.size+2,0,none⟩) 4 4] (rA oL X) λe X'=>e= .returned (.bool true)∧Below X.heap.size X X':=by
 have hb:=ni oL X;refine (Lo.yK (l1:=Al uF) (l2:=[0,0,2,10,0,0,0,2]) (xh r hb) (Uf (l:=[0,0,2,10,0,0,0,2]) (kT oL X 2 (by decide)) rfl (aj _)) (by decide) (aj _)).mono ?_
 rintro e X' ⟨rfl,hb2⟩;refine ⟨?_,hb.trans (hb2.mono hb.size)⟩;rw [Vw];rfl
theorem Lo.ak2 {X:World} {A:Option Addr} {c:Nat} (x y:Int) (r:zT X X.heap.size A [x,y]):Calls Lo.prog 8 #[.slice A 2 c,.slice (some ⟨X.heap.size,0,none⟩) 2 2] (X.alloc (.cells #[.int .i64 x,.int .i64 y] 3)) λe X'=>e= .returned (.bool true)∧Below X.heap.size X X':=by
 have hb:=(Below.refl X.heap.size X).alloc (aj _) (.cells #[.int .i64 x,.int .i64 y] 3);refine (Lo.JR (l1:=[x,y]) (l2:=[x,y]) (xh r hb) (ZP (l:=[x,y]) (World.alloc_heap_new _ _) (aj _)) (by simp) (by simp) (aj _)).mono ?_
 rintro e X' ⟨rfl,hb2⟩;exact ⟨by simp,hb.trans (hb2.mono hb.size)⟩
theorem Lo.ak3 {X:World} {m2 o2 q2:Nat} (r:YH X X.heap.size (some ⟨m2,o2,none⟩) 5 (sD uF)):Calls Lo.prog 17 #[.slice (some ⟨m2,o2,none⟩) 5 q2,.slice (some ⟨X.heap.size+1+1+1+1+1,0,none⟩) 5 5] ((((((X.alloc (.cells #[.int .i64 105,.int .i64 110] 32)).alloc (.cells #[.int .i64 9,.int .i64 13] 32)).alloc (.cells #[.int .i64 90,.int .i64 90] 32)).alloc (.cells #[.int .i64 5,.int .i64 5] 32)).alloc (.cells #[.int .i64 14,.int .i64 16] 32)).alloc (.cells #[.int .i64 105,.int .i64 110,.int .i64 9,.int .i64 13,.int .i64 90,.int .i64 90,.int .i64 5,.int .i64 5,.int .i64 14,.int .i64 16] 32)) λe X'=>e= .returned (.bool true)∧Below X.heap.size X X':=Lo.ar7 r
theorem Lo.ak4 {X:World} {m2 o2 q2:Nat} (r:YH X X.heap.size (some ⟨m2,o2,none⟩) 4 (Al uF)):Calls Lo.prog 17 #[.slice (some ⟨m2,o2,none⟩) 4 q2,.slice (some ⟨X.heap.size+1+1,0,none⟩) 4 4] (((X.alloc (.cells #[.int .i64 2,.int .i64 10] 32)).alloc (.cells #[.int .i64 0,.int .i64 2] 32)).alloc (.cells #[.int .i64 0,.int .i64 0,.int .i64 2,.int .i64 10,.int .i64 0,.int .i64 0,.int .i64 0,.int .i64 2] 32)) λe X'=>e= .returned (.bool true)∧Below X.heap.size X X':=Lo.ar8 r
theorem Lo.ak5 {w:World} {m2 o2 q2 m4 o4 q4 m6 o6 q6 qp:Nat} {Ap:Option Addr} (r2:kS w (some ⟨m2,o2,none⟩) 5 (sD uF)) (r4:kS w (some ⟨m4,o4,none⟩) 4 (Al uF)) (r6:zT w w.heap.size (some ⟨m6,o6,none⟩) (BC uF 1)) (rp:zT w w.heap.size Ap [2,3]) (t0 t1 t8 t15 t16 t17 t18 t19 t20 t21 t22 t23 t24 t25 t26 t27 t28 t29 t30 t31 t32 t33 t34 t35 t36 t37 t38 t39 t40 t41 t42 t43 t44 t45 t46 t47 t48 t49 t50 t51 t52 t53 t54 t55 t56 t57 t58 t59 t60 t61 t62 t63 t64 t65 t66 t67 t68 t69 t70 t71 t72 t73 t74 t75 t76 t77 t78 t79 t80 t81 t82 t83 t84 t85 t86 t87 t88 t89 t90 t91 t92 t93 t94 t95 t96 t97 t98 t99 t100 t101 t102 t103 t104 t105 t106 t107 t108 t109 t110 t111 t112 t113 t114 t115 t116 t117 t118 t119 t120 t121 t122 t123 t124 t125 t126 t127 t128 t129 t130 t131 t132 t133 t134 t135 t136 t137 t138 t139 t140 t141 t142 t143 t144 t145 t146 t147 t148 t149 t150 t151 t152 t153 t154 t155 t156 t157 t158 t159:Value):
 Try.W9.wp Lo.prog (bodyPost Lo.prog Try.f5 λe w'=>∃v,e= .returned v∧v= .bool true) ⟨#[t0,t1,.slice (some ⟨m2,o2,none⟩) 5 q2,.int .i64 0,.slice (some ⟨m4,o4,none⟩) 4 q4,.int .i64 0,.slice (some ⟨m6,o6,none⟩) 2 q6,.int .i64 0,t8,.int .i64 3,.int .i64 0,.slice Ap 2 qp,.bool true,.bool true,.int .i64 0,t15,t16,t17,t18,t19,t20,t21,t22,t23,t24,t25,t26,t27,t28,t29,t30,t31,t32,t33,t34,t35,t36,t37,t38,t39,t40,t41,t42,t43,t44,t45,t46,t47,t48,t49,t50,t51,t52,t53,t54,t55,t56,t57,t58,t59,t60,t61,t62,t63,t64,t65,t66,t67,t68,t69,t70,t71,t72,t73,t74,t75,t76,t77,t78,t79,t80,t81,t82,t83,t84,t85,t86,t87,t88,t89,t90,t91,t92,t93,t94,t95,t96,t97,t98,t99,t100,t101,t102,t103,t104,t105,t106,t107,t108,t109,t110,t111,t112,t113,t114,t115,t116,t117,t118,t119,t120,t121,t122,t123,t124,t125,t126,t127,t128,t129,t130,t131,t132,t133,t134,t135,t136,t137,t138,t139,t140,t141,t142,t143,t144,t145,t146,t147,t148,t149,t150,t151,t152,t153,t154,t155,t156,t157,t158,t159],[]⟩ w:=by
 obtain ⟨U,U2,U3,U4,U5,U6⟩:=@Lo.facts inferInstance;have C:=(@Lo.call10 inferInstance);have C6:=(@Lo.call6 inferInstance);have C8:=(@Lo.call8 inferInstance);have C17:=(@Lo.call17 inferInstance);have HR:=Lib.hid (au r2 (au r4 (au r6 rp)));clear r2 r4 r6 rp
 have hj:∀X:World,Below w.heap.size w X->X.cell? ⟨m6,o6,none⟩=some (.int .i64 1)∧X.cell? ⟨m6,o6+1,none⟩=some (.int .i64 0):= λX hb=>by
  have h:=HR.out.2.2.1;rw [JQ] at h;obtain ⟨b,off,e,h1,h2⟩:=h (by decide);cases e;exact ⟨(bV hb _ _ h1).trans (h2 0 0 (by decide) (by omega)),(bV hb _ _ h1).trans (h2 1 0 (by decide) (by omega))⟩
 have HJ:=Lib.hid hj;have KJ:=Lib.hid trivial;have KL:=Lib.hid trivial;have ak6:=Lib.hid trivial;clear hj;simp only [Try.W9,Try.xg,Try.f5,Try.bR,Try.cB,Option.getD_some,Nat.reduceEqDiff,if_true,if_false,reduceIte]
 go_wp2_with (first
  |(go_at_call 10;refine (Lo.Dm _ _ _).mono ?_;rintro e w1 ⟨rfl,rfl⟩)
  |(go_at_call 6;refine (Lo.Ue (b1:=w.heap.size+2) (b2:=w.heap.size+4) (kT [.cells #[.int .i64 10,.int .i64 10] 32,.cells #[.int .i64 25,.int .i64 25] 32,.cells #[.int .i64 10,.int .i64 10,.int .i64 25,.int .i64 25] 32,.cells #[.int .i64 0,.int .i64 100] 32,.cells #[.int .i64 10,.int .i64 0,.int .i64 100,.int .i64 5,.int .i64 0,.int .i64 0] 34] w 2 (by simp)) (kT [.cells #[.int .i64 10,.int .i64 10] 32,.cells #[.int .i64 25,.int .i64 25] 32,.cells #[.int .i64 10,.int .i64 10,.int .i64 25,.int .i64 25] 32,.cells #[.int .i64 0,.int .i64 100] 32,.cells #[.int .i64 10,.int .i64 0,.int .i64 100,.int .i64 5,.int .i64 0,.int .i64 0] 34] w 4 (by simp))).mono ?_;rintro e w5 ⟨Aw,qw,rfl,hrw,hb5⟩;have hbw:=(ni [.cells #[.int .i64 10,.int .i64 10] 32,.cells #[.int .i64 25,.int .i64 25] 32,.cells #[.int .i64 10,.int .i64 10,.int .i64 25,.int .i64 25] 32,.cells #[.int .i64 0,.int .i64 100] 32,.cells #[.int .i64 10,.int .i64 0,.int .i64 100,.int .i64 5,.int .i64 0,.int .i64 0] 34] w).trans (hb5.mono (ni [.cells #[.int .i64 10,.int .i64 10] 32,.cells #[.int .i64 25,.int .i64 25] 32,.cells #[.int .i64 10,.int .i64 10,.int .i64 25,.int .i64 25] 32,.cells #[.int .i64 0,.int .i64 100] 32,.cells #[.int .i64 10,.int .i64 0,.int .i64 100,.int .i64 5,.int .i64 0,.int .i64 0] 34] w).size);obtain ⟨k0,k1⟩:=HJ.out w5 hbw;have HS:=Lib.hid (au hrw hbw);clear hrw hb5 hbw)
  |(have t1:=KJ;clear KJ t1;go_at_call 17;refine (Lo.ak3 (xh HR.out.1 HS.out.2)).mono ?_;rintro e w6 ⟨rfl,hb6⟩;have H6:=Lib.hid hb6;clear hb6)
  |(have t1:=H6;clear t1;have t2:=KL;clear KL t2;go_at_call 17;refine (Lo.ak4 (xh (xh HR.out.2.1 HS.out.2) H6.out)).mono ?_;rintro e w7 ⟨rfl,U9⟩;have H7:=Lib.hid U9;clear U9)
  |(have t1:=H7;clear t1;have t2:=ak6;clear ak6 t2;go_at_call 8;refine (Lo.ak2 2 3 (xh (xh (xh HR.out.2.2.2 HS.out.2) H6.out) H7.out)).mono ?_;rintro e w8 ⟨rfl,Ub⟩;have H8:=Lib.hid Ub;clear Ub)
  |(have t1:=H8;clear t1;go_at_call 8;refine (Lo.ak2 0 1 (xh (xh (xh HS.out.1 H6.out) H7.out) H8.out)).mono ?_;rintro e w9 ⟨rfl,hb9⟩))
 go_ret;exact ⟨_,rfl,rfl⟩
end Go.Proofs
end
