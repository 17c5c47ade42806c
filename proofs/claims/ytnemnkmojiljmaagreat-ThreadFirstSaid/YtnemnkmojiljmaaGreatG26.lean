/- Part 26. -/
import Derived.Test.YtnemnkmojiljmaaGreatG24
import Derived.Test.YtnemnkmojiljmaaGreatG25
set_option maxRecDepth 100000
set_option maxHeartbeats 0
set_option linter.all false
namespace Go.Proofs
open Go Go.RowKit Go.Maps
section
attribute [local instance] Par.noSh
noncomputable def Tryz.zg:Code:=Tryz.f14.body.getD .skip
noncomputable def Tryz.W8:Code:=(Tryz.dN 8 Tryz.zg).getD .skip
noncomputable def Tryz.W9:Code:=(Tryz.dN 9 Tryz.zg).getD .skip
def YV (n g cap:Nat):gK:={ XG n with ac:=some ⟨g,0,none⟩,cc:=cap }
def ar6 (n:Nat) (a:Act) (w:World):Prop:=
 ∃(L:List Nat) (bo g q m2 o2 q2 m4 o4 q4 m6 o6 q6:Nat),(a.defers= []∧a.tmps.size=160∧(∀S cd,Par.VS (Par.FA S S cd λb=>decide (b∈L)) a.tmps))∧
  (∀b∈L,∃c e fr,w.heap[b]?=some (.cells c e fr)∧∀x∈c,Par.fA x=true∨∃p l cp,x= .slice p l cp∧∀q,p=some q->q.block∈L)∧
  (a.tmps[2]?=some (.slice (some ⟨m2,o2,none⟩) 5 q2)∧a.tmps[3]?=some (.int .i64 0)∧a.tmps[4]?=some (.slice (some ⟨m4,o4,none⟩) 4 q4)∧a.tmps[5]?=some (.int .i64 0)∧a.tmps[6]?=some (.slice (some ⟨m6,o6,none⟩) 2 q6)∧a.tmps[7]?=some (.int .i64 0)∧
    a.tmps[8]?=some (.pointer (some ⟨bo,0,none⟩))∧a.tmps[9]?=some (.int .i64 3)∧a.tmps[10]?=some (.int .i64 0))∧
  (bo∈L∧g∈L∧m2∈L∧m4∈L∧m6∈L∧(∀k,1<=k->k<=17->n+k∈L)∧∀b∈L,n<=b∨b=m2∨b=m4∨b=m6)∧
  w.heap[bo]?=some (.cells #[.slice (some ⟨n+1,0,none⟩) 2 2,.slice (some ⟨n+2,0,none⟩) 5 5,.slice (some ⟨n+13,0,none⟩) 4 4,.slice (some ⟨g,0,none⟩) 4 q] 26)∧4<=q∧
  (∀k,k<18->w.heap[n+k]?=(O6 n)[k]?)∧(∀j,j<12->w.cell? ⟨g,j,none⟩=some (.int .i64 (([0,105,110,2,90,90,4,14,16,1,14,20][j]?).getD 0)))∧
  nG w (some ⟨m2,o2,none⟩) 5 (vE wU)∧nG w (some ⟨m4,o4,none⟩) 4 (Dt wU)∧Cn w w.heap.size (some ⟨m6,o6,none⟩) (Es wU 1)
theorem xS {X:World} {b off l c:Nat} {L:List Nat} (h:Par.eU X (.slice (some ⟨b,off,none⟩) l c)):∃c e fr,X.heap[b]?=some (.cells c e fr)∧∀x∈c,Par.fA x=true∨∃p l cp,x= .slice p l cp∧∀q,p=some q->q.block∈L:=by
 obtain ⟨c,e,h1,h2⟩:=h b rfl;exact ⟨c,e,_,h1, λx hx=>.inl (h2 x hx)⟩
theorem SV {X:World} {n:Nat} {L:List Nat} (h:∀k,k<18->X.heap[n+k]?=(O6 n)[k]?) (hL:∀k,1<=k->k<=17->n+k∈L) {k:Nat} (h1:1<=k) (h2:k<=17):
 ∃c e fr,X.heap[n+k]?=some (.cells c e fr)∧∀x∈c,Par.fA x=true∨∃p l cp,x= .slice p l cp∧∀q,p=some q->q.block∈L:=by
 rw [h k (by omega)];have pl:∀{c:Array Value},(c.all Par.fA)=true->∀x∈c,Par.fA x=true∨∃p l cp,x= .slice p l cp∧∀q,p=some q->q.block∈L:= λhc x hx=>.inl (Array.all_eq_true'.1 hc x hx)
 obtain rfl|rfl|rfl|rfl|rfl|rfl|rfl|rfl|rfl|rfl|rfl|rfl|rfl|rfl|rfl|rfl|rfl:k=1∨k=2∨k=3∨k=4∨k=5∨k=6∨k=7∨k=8∨k=9∨k=10∨k=11∨k=12∨k=13∨k=14∨k=15∨k=16∨k=17:=by omega
 all_goals refine ⟨_,_,_,rfl,?_⟩
 all_goals first |(refine pl ?_;simp [Par.fA];done)|skip
 intro x hx;simp only [aB,bF,ax,or_false] at hx;rcases hx with rfl|rfl|rfl|rfl|rfl|rfl|rfl|rfl|rfl|rfl|rfl|rfl|rfl|rfl|rfl|rfl|rfl|rfl|rfl|rfl|rfl|rfl|rfl|rfl|rfl|rfl|rfl|rfl
 all_goals first |exact .inl rfl|(refine .inr ⟨_,_,_,rfl,?_⟩;intro q hq;cases hq;exact hL _ (by omega) (by omega))
variable [Lo.St]
def exA (n:Nat):Value:=.agg #[.slice (some ⟨n+1,0,none⟩) 2 2,.slice (some ⟨n+2,0,none⟩) 5 5,.slice (some ⟨n+13,0,none⟩) 4 4,.slice (some ⟨n+17,0,none⟩) 3 3]
def XI (n:Nat):Obj:=.cells #[.slice (some ⟨n+1,0,none⟩) 2 2,.slice (some ⟨n+2,0,none⟩) 5 5,.slice (some ⟨n+13,0,none⟩) 4 4,.slice (some ⟨n+17,0,none⟩) 3 3] 26
structure Cf (n bb:Nat) (X:World):Prop where
 at_:∀k,k<18->X.heap[n+k]?=(O6 n)[k]?
 box:X.heap[bb]?=some (XI n)
 lt:n+18<=X.heap.size
theorem Cf.below {n bb:Nat} {X X':World} (h:Cf n bb X) (hb:Below X.heap.size X X'):Cf n bb X':=
 ⟨λk hk=>(hb.block _ (by have :=h.lt;omega)).trans (h.at_ k hk),(hb.block _ (aI.1 h.box).1).trans h.box,aT h.lt hb.size⟩
theorem Cf.alloc {n bb:Nat} {X:World} (h:Cf n bb X) (o:Obj):Cf n bb (X.alloc o):=h.below ((dz _ _).alloc (aJ _) o)
theorem Ex {X:World} {b:Nat} {v0 v1 v2 v3:Value} {e:TypeId} (h:X.heap[b]?=some (.cells #[v0,v1,v2,v3] e)):X.cell? ⟨b,0,none⟩=some v0∧X.cell? ⟨b,1,none⟩=some v1∧X.cell? ⟨b,2,none⟩=some v2∧X.cell? ⟨b,3,none⟩=some v3:=by
 unfold World.cell?;simp only [h];exact ⟨rfl,rfl,rfl,rfl⟩
theorem Cf.cells {n bb:Nat} {X:World} (h:Cf n bb X):X.cell? ⟨bb,0,none⟩=some (.slice (some ⟨n+1,0,none⟩) 2 2)∧X.cell? ⟨bb,1,none⟩=some (.slice (some ⟨n+2,0,none⟩) 5 5)∧X.cell? ⟨bb,2,none⟩=some (.slice (some ⟨n+13,0,none⟩) 4 4)∧X.cell? ⟨bb,3,none⟩=some (.slice (some ⟨n+17,0,none⟩) 3 3):=Ex h.box
theorem QG {X:World} {A:Option Addr} {n:Nat} {o:List Int} (h:nG X A n o) (hn:0<n):∃b off,A=some ⟨b,off,none⟩:=by
 obtain ⟨b,off,e,_⟩:=h hn;exact ⟨b,off,e⟩
theorem Lo.SX {n bb:Nat} {X:World} (h:Cf n bb X):Calls Lo.prog 15 #[exA n] X λe X'=>∃b off cap,e= .returned (.tuple #[.slice (some ⟨b,off,none⟩) 5 cap,.int .i64 0])∧nG X' (some ⟨b,off,none⟩) 5 (vE wU)∧Par.eU X' (.slice (some ⟨b,off,none⟩) 5 cap)∧Below X.heap.size X X':=by
 refine (Lo.Ih (b:=wU) (v:=XG n) rfl (K9 h.at_ h.lt) (aJ _) Im).mono ?_
 rintro e X' ⟨hb,h2⟩;rw [aa (by rw [Ik];simp),aj Il] at h2;obtain ⟨A,cap,rfl,hs,hp⟩:=h2;obtain ⟨b,off,rfl⟩:=QG hs (by decide);exact ⟨b,off,cap,rfl,hs,hp,hb⟩
theorem Lo.S9 {n bb:Nat} {X:World} (h:Cf n bb X):Calls Lo.prog 20 #[exA n] X λe X'=>∃b off cap,e= .returned (.tuple #[.slice (some ⟨b,off,none⟩) 4 cap,.int .i64 0])∧nG X' (some ⟨b,off,none⟩) 4 (Dt wU)∧Par.eU X' (.slice (some ⟨b,off,none⟩) 4 cap)∧Below X.heap.size X X':=by
 refine (Lo.O4 (b:=wU) (v:=XG n) rfl (K9 h.at_ h.lt) (aJ _) Im).mono ?_
 rintro e X' ⟨hb,h2⟩;rw [aa (by rw [Ik];simp),aj Il] at h2;obtain ⟨A,cap,rfl,hs,hp⟩:=h2;obtain ⟨b,off,rfl⟩:=QG hs (by decide);exact ⟨b,off,cap,rfl,hs,hp,hb⟩
theorem Lo.Wi {n bb:Nat} {X:World} (h:Cf n bb X):Calls Lo.prog 22 #[exA n,.int .i64 1] X λe X'=>∃b off cap,e= .returned (.tuple #[.slice (some ⟨b,off,none⟩) 2 cap,.int .i64 0])∧Cn X' X'.heap.size (some ⟨b,off,none⟩) (Es wU 1)∧Par.eU X' (.slice (some ⟨b,off,none⟩) 2 cap)∧Below X.heap.size X X':=by
 refine (Lo.SH (b:=wU) (v:=XG n) rfl (K9 h.at_ h.lt) (aJ _) Im 1 λ_ _=>VX).mono ?_
 rintro e X' ⟨hb,h2⟩;rw [aa (by rw [Ik];simp),aa (by decide),aj Il] at h2;obtain ⟨A,cap,rfl,hs,hp⟩:=h2;obtain ⟨b,off,rfl,_⟩:=hs (by rw [Nf];decide);exact ⟨b,off,cap,rfl,hs,hp,hb⟩
theorem YX {n bb g cap:Nat} {X:World} (h:Cf n bb X) (hg:g<X.heap.size) (hc:4<=cap) (hs:∀j,j<12->X.cell? ⟨g,j,none⟩=some (.int .i64 (([0,105,110,2,90,90,4,14,16,1,14,20][j]?).getD 0))):fJ X X.heap.size pJ (YV n g cap):=by
 have b:=K9 h.at_ h.lt;refine ⟨b.dR,b.dF,b.steps,b.ins,b.outs, λ_=>⟨g,0,rfl,hg, λi j hi hj=>?_⟩,b.lh,b.lp,b.ls,hc⟩;rw [show 0+(i*3+j)=i*3+j by omega,hs (i*3+j) (by have :pJ.dJ.length=4:=rfl;omega)];have hi:i<4:=hi;obtain rfl|rfl|rfl|rfl:i=0∨i=1∨i=2∨i=3:=by omega
 all_goals obtain rfl|rfl|rfl:j=0∨j=1∨j=2:=by omega
 all_goals rfl
def ay6 (n g cap:Nat):Value:=.agg #[.slice (some ⟨n+1,0,none⟩) 2 2,.slice (some ⟨n+2,0,none⟩) 5 5,.slice (some ⟨n+13,0,none⟩) 4 4,.slice (some ⟨g,0,none⟩) 4 cap]
theorem Lo.Wj {n g cap:Nat} {X:World} (h:fJ X X.heap.size pJ (YV n g cap)):Calls Lo.prog 24 #[ay6 n g cap] X λe X'=>e= .returned (.tuple #[.int .i64 3,.int .i64 0])∧Below X.heap.size X X':=by
 refine (Lo.JR (b:=pJ) (v:=YV n g cap) rfl h (aJ _) JU).mono ?_
 rintro e X' ⟨hb,h2⟩;rw [aa (by rw [JS];simp),SI] at h2;exact ⟨h2,hb⟩
theorem Ta {X:World} {base e size n cap g:Nat} {xs:List Value} (h:X.ownsRow base e size (.slice (some ⟨g,0,none⟩) n cap) n xs):n<=cap∧∀j u,xs[j]?=some u->X.cell? ⟨g,j,none⟩=some u:=by
 obtain ⟨hl,h|⟨g',cap',cur,he,hb,hg,h1,h2,h3,h4⟩⟩:=h
 ·cases h.1
 ·cases he;refine ⟨h1, λj u hu=>?_⟩;rw [<-h4,List.getElem?_take] at hu;unfold World.cell?;simp only [hg];split at hu
  ·simpa using hu
  ·cases hu
theorem Lo.aa8:Lo.prog.underlying 24=some (.slice 59):=(Lo.underlying 24).trans (by kernel_rfl)
theorem Lo.ag4:(Lo.prog.info? 59).map (λi=>(i.zero,i.size,i.bytes))=some (some (.agg #[.int .i64 0,.int .i64 0,.int .i64 0]),3,24):=by
 rw [Lo.info];kernel_rfl
theorem Lo.ay7 (w:World) (z:Code) (hz:z=Tryz.W8):Par.AJ Lo.prog (Conc.base 14) [] [Par.stk] z (ar6 w.heap.size) Tryz.zg ⟨Array.replicate 160 undef,[]⟩ w:=by
 obtain ⟨U,U2,U3,U4,U5,U6⟩:=Lo.facts;have C:=Lo.call Tryz.func30;have C11:=Lo.call Tryz.func42;have C12:=Lo.call Tryz.func15;have C13:=Lo.call Tryz.func20;have C14:=Lo.call Tryz.func22;have C15:=Lo.call Tryz.func24;simp only [Tryz.zg,Tryz.f14,ak,Array.replicate_succ,Array.replicate_zero,List.push_toArray,List.append_toArray,List.nil_append,List.cons_append];refine Par.AJ.seq ?_
 go_wp2;refine Par.AJ.seq ?_
 have HEX:=dB (show eH wU (XG w.heap.size)=exA w.heap.size from rfl)
 go_wp2_with (go_at_call 42;refine (Lo.Nc _).mono ?_;rintro e w1 ⟨rfl,hw1⟩;rw [HEX.out];unfold exA;have HW1:=dB hw1;clear hw1)
 have hX:Cf w.heap.size w1.heap.size (w1.alloc (XI w.heap.size)):=by
  have hs:w1.heap.size=w.heap.size+18:=by rw [HW1.out,wE];rfl
  refine ⟨λk hk=>?_,di _ _,by simp;omega⟩;rw [dw _ _ _ (by omega),HW1.out];exact nH _ _ _ hk
 have hbe:Below w.heap.size w (w1.alloc (XI w.heap.size)):=by
  rw [HW1.out];exact (qa _ _).alloc (by rw [wE];omega) _
 obtain ⟨X,hXe⟩:∃X,w1.alloc (XI w.heap.size)=X:=⟨_,rfl⟩;have ag5:=hXe;unfold XI at ag5;rw [ag5];rw [hXe] at hX hbe;have hbb:w1.heap.size<X.heap.size:=(aI.1 hX.box).1;have hbn:w.heap.size+18<=w1.heap.size:=by rw [HW1.out,wE];exact aJ _
 clear hXe ag5 HW1;obtain ⟨n,hn⟩:∃n,w.heap.size=n:=⟨_,rfl⟩;obtain ⟨bb,ag6⟩:∃bb,w1.heap.size=bb:=⟨_,rfl⟩;rw [hn] at hX hbe HEX;rw [ag6] at hX hbb hbn;rw [hn] at hbn;rw [hn,ag6];clear ag6;have HXA:=dB (aM hX hbe);obtain ⟨c0,c1,c2,c3⟩:=hX.cells;clear hX hbe;refine Par.AJ.seq ?_
 go_wp2_with (go_at_call 15;refine (Lo.SX HXA.out.1).mono ?_;rintro e X2 ⟨m2,o2,q2,rfl,hs2,hp2,hb2⟩;have HX2:=dB (aM hs2 (aM hp2 hb2));have hz2:=hb2.size;clear hs2 hp2 hb2)
 have hX2:=HXA.out.1.below HX2.out.2.2;replace hbb:bb<X2.heap.size:=aK hbb hz2;obtain ⟨d0,d1,d2,d3⟩:=hX2.cells;have HXB:=dB hX2;clear hX2 c0 c1 c2 c3 hz2;refine Par.AJ.seq ?_
 go_wp2_with (go_at_call 20;refine (Lo.S9 HXB.out).mono ?_;rintro e X3 ⟨m4,o4,q4,rfl,hs2,hp2,hb2⟩;have HX3:=dB (aM hs2 (aM hp2 hb2));have hz2:=hb2.size;clear hs2 hp2 hb2)
 have hX3:=HXB.out.below HX3.out.2.2;replace hbb:bb<X3.heap.size:=aK hbb hz2;obtain ⟨c0,c1,c2,c3⟩:=hX3.cells;have HXC:=dB hX3;clear hX3 d0 d1 d2 d3 hz2;refine Par.AJ.seq ?_
 go_wp2_with (go_at_call 22;refine (Lo.Wi HXC.out).mono ?_;rintro e X4 ⟨m6,o6,q6,rfl,hs2,hp2,hb2⟩;have HX4:=dB (aM hs2 (aM hp2 hb2));have hz2:=hb2.size;clear hs2 hp2 hb2)
 have hX4:=HXC.out.below HX4.out.2.2;replace hbb:bb<X4.heap.size:=aK hbb hz2;obtain ⟨d0,d1,d2,d3⟩:=hX4.cells;have HXD:=dB hX4;clear hX4 c0 c1 c2 c3 hz2;refine Par.AJ.seq ?_
 go_wp2;obtain ⟨X5,hX5⟩:∃X5,X4.alloc (XI n)=X5:=⟨_,rfl⟩;have ag7:=hX5;unfold XI at ag7;rw [ag7];have hEx:Cf n bb X5:=by rw [<-hX5];exact HXD.out.alloc _
 have Wl:X5.heap[X4.heap.size]?=some (XI n):=by rw [<-hX5];exact di _ _
 have hb5:Below X4.heap.size X4 X5:=by rw [<-hX5];exact (dz _ _).alloc (aJ _) _
 clear hX5 ag7;have ag8:X4.heap.size<X5.heap.size:=(aI.1 Wl).1;replace hbb:bb<X5.heap.size:=Nat.lt_trans hbb ag8
 have hne:bb≠X4.heap.size:= λe=>by
  have :=(aI.1 HXD.out.box).1;omega
 obtain ⟨bo,Wm⟩:∃bo,X4.heap.size=bo:=⟨_,rfl⟩;rw [Wm] at Wl ag8 hne hb5;rw [Wm];obtain ⟨c0,c1,c2,c3⟩:=hEx.cells;have ay8:n+17<X5.heap.size:=by have :=hEx.lt;omega
 have HXE:=dB (aM hEx (aM Wl hb5));clear d0 d1 d2 d3 hEx Wl hb5;obtain ⟨i0,hi,hz0,hz1,hz2⟩:=info_parts Lo.ag4
 have hown:(X5.alloc (.cells #[] 59)).ownsRow X5.heap.size 59 3 (.slice (some ⟨X5.heap.size,0,none⟩) 0 0) 0 []:=by
  refine ⟨rfl,.inr ⟨X5.heap.size,0,#[],rfl,aJ _,?_,aJ _,?_,?_,?_⟩⟩
  ·exact di _ _
  all_goals simp
 have ar7:Par.eU (X5.alloc (.cells #[] 59)) (.slice (some ⟨X5.heap.size,0,none⟩) 0 0):= λg hg=>by
  obtain rfl:X5.heap.size=g:=by simpa [Value.ownBlock] using hg
  exact ⟨#[],59,di _ _,by simp⟩
 have hnew:∀j u,([.int .i64 0,.int .i64 105,.int .i64 110,.int .i64 2,.int .i64 90,.int .i64 90,.int .i64 4,.int .i64 14,.int .i64 16]:List Value)[j]?=some u->(X5.alloc (.cells #[] 59)).cell? ((⟨n+17,0,none⟩:Addr).add j)=some u:=
  World.news_of_block (t:=59) (fr:=(0,0)) (cs:= #[.int .i64 0,.int .i64 105,.int .i64 110,.int .i64 2,.int .i64 90,.int .i64 90,.int .i64 4,.int .i64 14,.int .i64 16]) (by rw [dw _ _ _ ay8];exact HXE.out.1.at_ 17 (by omega))
 have HO:=dB (aM hown (aM ar7 hnew));clear hown ar7 hnew;refine Par.AJ.seq ?_
 go_wp2_with (first
  |(go_at_call 30;refine (Lo.FN _ _ _).mono ?_;rintro e w1 ⟨rfl,rfl⟩)
  |(at_builtin;refine Par.vP rfl _ _ 24 rfl X5.heap.size 59 i0 (.agg #[.int .i64 0,.int .i64 0,.int .i64 0]) 3 24 Lo.aa8 hi hz0 hz1 hz2 rfl (by decide) _ 0 [] rfl HO.out.1 ⟨n+17,0,none⟩ 3 3 _ rfl rfl HO.out.2.2 (by intro u hu;simp only [bF,ax,or_false] at hu;rcases hu with rfl|rfl|rfl|rfl|rfl|rfl|rfl|rfl|rfl<;>rfl) (by omega) (by unfold maxLen;omega) (by omega) (by simp) (X5.heap.size+1) (by simp) HO.out.2.1 (by intro u hu;simp only [bF,ax,or_false] at hu;rcases hu with rfl|rfl|rfl|rfl|rfl|rfl|rfl|rfl|rfl<;>rfl) (by intro u hu;simp [Value.cells] at hu;subst hu;rfl) ?_))
 intro g1 q1 X6 h1 h2 h3 h4 h5 h6;have hb6:Below X5.heap.size X5 X6:=((dz _ _).alloc (aJ _) _).grown h2 (by simp) (λk hk=>by simp [Value.ownBlock] at hk;omega);have hz6:=hb6.size;have hg1:X5.heap.size<=g1:=by rcases h3 with h3|h3<;>(try simp [Value.ownBlock] at h3)<;>omega
 have HG:=dB (aM h1 (aM h5 (aM hb6 (aM h2 h6))));clear h1 h2 h3 h5 hb6 h6;have hown:((X6.alloc (.cells #[.int .i64 14,.int .i64 20] 51)).alloc (.cells #[.int .i64 1,.int .i64 14,.int .i64 20] 59)).ownsRow X5.heap.size 59 3 (.slice (some ⟨g1,0,none⟩) 3 q1) 3 _:=(HG.out.1.alloc _).alloc _;have zN:Par.eU ((X6.alloc (.cells #[.int .i64 14,.int .i64 20] 51)).alloc (.cells #[.int .i64 1,.int .i64 14,.int .i64 20] 59)) (.slice (some ⟨g1,0,none⟩) 3 q1):=(HG.out.2.1.alloc _).alloc _
 have hnew:∀j u,([.int .i64 1,.int .i64 14,.int .i64 20]:List Value)[j]?=some u->((X6.alloc (.cells #[.int .i64 14,.int .i64 20] 51)).alloc (.cells #[.int .i64 1,.int .i64 14,.int .i64 20] 59)).cell? ((⟨X6.heap.size+1,0,none⟩:Addr).add j)=some u:=
  World.news_of_block (t:=59) (fr:=(0,0)) (cs:= #[.int .i64 1,.int .i64 14,.int .i64 20]) (by have :=di (X6.alloc (.cells #[.int .i64 14,.int .i64 20] 51)) (.cells #[.int .i64 1,.int .i64 14,.int .i64 20] 59);rwa [World.size_alloc] at this)
 have HO2:=dB (aM hown (aM zN hnew));clear hown zN hnew
 go_wp2_with (first
  |(go_at_call 30;refine (Lo.FN _ _ _).mono ?_;rintro e w1 ⟨rfl,rfl⟩)
  |(at_builtin;refine Par.vP rfl _ _ 24 rfl X5.heap.size 59 i0 (.agg #[.int .i64 0,.int .i64 0,.int .i64 0]) 3 24 Lo.aa8 hi hz0 hz1 hz2 rfl (by decide) _ 3 _ rfl HO2.out.1 ⟨X6.heap.size+1,0,none⟩ 1 1 _ rfl rfl HO2.out.2.2 (by intro u hu;simp only [bF,ax,or_false] at hu;rcases hu with rfl|rfl|rfl<;>rfl) (by omega) (by unfold maxLen;omega) (by omega) (by simp;omega) (X6.heap.size+2) (by simp) HO2.out.2.1 (by intro u hu;simp only [bF,ax,or_false] at hu;rcases hu with rfl|rfl|rfl<;>rfl) (by intro u hu;simp [Value.cells] at hu;subst hu;rfl) ?_))
 intro g2 q2' X8 h1 h2 h3 h4' h5 h6;have Wn:Below X5.heap.size X5 X8:=HG.out.2.2.1.trans ((((dz _ X6).alloc (aJ _) (.cells #[.int .i64 14,.int .i64 20] 51)).alloc (by simp) (.cells #[.int .i64 1,.int .i64 14,.int .i64 20] 59)).mono hz6 |>.grown h2 (by simp;omega) (λk hk=>by simp [Value.ownBlock] at hk;omega));have hz8:=Wn.size;have hg2:X5.heap.size<=g2:=by rcases h3 with h3|h3<;>(try simp [Value.ownBlock] at h3)<;>omega
 obtain ⟨hcap,Wo⟩:=Ta h1;have YY:=HXE.out.1.below Wn;have Td:X8.heap[bo]?=some (XI n):=(Wn.block bo ag8).trans HXE.out.2.1
 obtain ⟨_,_,_,e3⟩:=Ex Td;have f3:X8.frozen? ⟨bo,3,none⟩=false:=by unfold World.frozen?;simp only [Td];rfl
 have H8:=dB (aM Wn (aM hcap (aM Wo (aM YY (aM Td (aM h5 (aM h6 h2)))))));clear Wn hcap Wo YY Td h1 h2 h3 h5 h6;go_wp2;obtain ⟨X9,YZ⟩:∃X9,X8.setCell ⟨bo,3,none⟩ (.slice (some ⟨g2,0,none⟩) 4 q2')=X9:=⟨_,rfl⟩;rw [YZ];have IZ:∀k:Nat,k≠bo->X9.heap[k]?=X8.heap[k]?:= λk hk=>by rw [<-YZ];exact Below.heap_setCell X8 ⟨bo,3,none⟩ _ k hk
 have hs9:X9.heap.size=X8.heap.size:=by rw [<-YZ];simp [World.setCell]
 have Te:X9.heap[bo]?=some (.cells #[.slice (some ⟨n+1,0,none⟩) 2 2,.slice (some ⟨n+2,0,none⟩) 5 5,.slice (some ⟨n+13,0,none⟩) 4 4,.slice (some ⟨g2,0,none⟩) 4 q2'] 26):=by
  rw [<-YZ,heap_setCell_same X8 bo 3 _ 26 _ H8.out.2.2.2.2.1];rfl
 have ay9:=HXE.out.1.lt;have Wp:Cf n bb X9:=⟨λk hk=>(IZ _ (by have :=(aI.1 HXD.out.box).1;have :=HXD.out.lt;omega)).trans (H8.out.2.2.2.1.at_ k hk),(IZ _ hne).trans H8.out.2.2.2.1.box,by rw [hs9];exact H8.out.2.2.2.1.lt⟩;have hg9:∀j u,([.int .i64 0,.int .i64 105,.int .i64 110,.int .i64 2,.int .i64 90,.int .i64 90,.int .i64 4,.int .i64 14,.int .i64 16]++ [.int .i64 1,.int .i64 14,.int .i64 20]:List Value)[j]?=some u->X9.cell? ⟨g2,j,none⟩=some u:= λj u hu=>(dA (a:=⟨g2,j,none⟩) (IZ g2 (by omega))).trans (H8.out.2.2.1 j u hu)
 have hbk:fJ X9 X9.heap.size pJ (YV n g2 q2'):=YX Wp (by rw [hs9];exact h4') H8.out.2.1 (λj hj=>hg9 j _ (by
  obtain rfl|rfl|rfl|rfl|rfl|rfl|rfl|rfl|rfl|rfl|rfl|rfl:j=0∨j=1∨j=2∨j=3∨j=4∨j=5∨j=6∨j=7∨j=8∨j=9∨j=10∨j=11:=by omega
  all_goals rfl))
 obtain ⟨d0,d1,d2,d3⟩:=Ex Te;have H9:=dB (aM YZ (aM hs9 (aM IZ (aM Te (aM Wp hbk)))));clear YZ hs9 IZ Te Wp hg9 hbk e3 f3;refine Par.AJ.seq ?_
 go_wp2_with (go_at_call 24;refine (Lo.Wj (n:=n) (g:=g2) (cap:=q2') H9.out.2.2.2.2.2).mono ?_;rintro e X10 ⟨rfl,Pj⟩;have H10:=dB Pj;clear Pj)
 simp only [Tryz.W8,Tryz.zg,Tryz.f14,Tryz.dN,Tryz.eO,ak,Nat.reduceEqDiff,if_true,if_false,reduceIte];refine Par.AJ.here ?_
 obtain ⟨YZ,hs9,IZ,Te,Wp,_⟩:=H9.out;obtain ⟨Wn,hcap,Wo,YY,Td,hp8,hpg,hgr⟩:=H8.out;have Pj:=H10.out;have aC1:X6.heap.size+1+1<=X8.heap.size:=by have h:=hgr.size;simpa using h
 have aD4:=Pj.size;have ay9:=HXE.out.1.lt;have Nk:∀b:Nat,b≠bo->b<X8.heap.size->X10.heap[b]?=X8.heap[b]?:= λb h1 h2=>(Pj.block b (by omega)).trans (IZ b h1)
 have Nl:∀b:Nat,b<bo->X10.heap[b]?=X4.heap[b]?:= λb h1=>(Nk b (by omega) (by omega)).trans ((Wn.block b (by omega)).trans (HXE.out.2.2.block b h1))
 have ag9:Below X2.heap.size X2 X4:=HX3.out.2.2.trans (HX4.out.2.2.mono HX3.out.2.2.size)
 have L4:∀{b off l c:Nat},Par.eU X4 (.slice (some ⟨b,off,none⟩) l c)->Par.eU X10 (.slice (some ⟨b,off,none⟩) l c)∧b<bo:= λ{b off l c} h=>by
  obtain ⟨c',e,h1,_⟩:=h b rfl;have hb:b<bo:=by rw [<-Wm];exact (aI.1 h1).1
  exact ⟨h.keep λg hg=>by cases hg;exact Nl b hb,hb⟩
 have R4:∀{k b off m:Nat} {f:Nat->Nat->Value},Rd X4 X4.heap.size k (some ⟨b,off,none⟩) m f->Rd X10 X10.heap.size k (some ⟨b,off,none⟩) m f:= λ{k b off m f} h hn=>by
  obtain ⟨b',off',e,h1,h2⟩:=h hn;exact ⟨b',off',e,by omega, λi j hi hj=>(dA (a:=⟨b',off'+(i*k+j),none⟩) (Nl b' (by omega))).trans (h2 i j hi hj)⟩
 have p2:=L4 (HX2.out.2.1.keep λg hg=>ag9.block g (by
  obtain ⟨c',e,h1,_⟩:=HX2.out.2.1 g hg;exact (aI.1 h1).1))
 have p4:=L4 (HX3.out.2.1.keep λg hg=>HX4.out.2.2.block g (by
  obtain ⟨c',e,h1,_⟩:=HX3.out.2.1 g hg;exact (aI.1 h1).1))
 have p6:=L4 HX4.out.2.1;have r2:=R4 (HX2.out.1.below ag9);have r4:=R4 (HX3.out.1.below HX4.out.2.2);have r6:=R4 HX4.out.1;have aD5:n+18<=bo:=by rw [<-Wm];exact HXD.out.lt
 have ea:∀k,k<18->X10.heap[n+k]?=(O6 n)[k]?:= λk hk=>(Nl _ (by omega)).trans (HXD.out.at_ k hk)
 have az0:bb<bo:=by rw [<-Wm];exact (aI.1 HXD.out.box).1
 have ebb:X10.heap[bb]?=some (XI n):=(Nl _ az0).trans HXD.out.box
 have ebo:=(Pj.block bo (by omega)).trans Te;obtain ⟨L,hL⟩:∃L,L= [n+1,n+2,n+3,n+4,n+5,n+6,n+7,n+8,n+9,n+10,n+11,n+12,n+13,n+14,n+15,n+16,n+17,bb,bo,X5.heap.size,g1,X6.heap.size+1,g2,m2,m4,m6]:=⟨_,rfl⟩
 have hk:∀k,1<=k->k<=17->n+k∈L:= λk h1 h2=>by
  rw [hL];obtain rfl|rfl|rfl|rfl|rfl|rfl|rfl|rfl|rfl|rfl|rfl|rfl|rfl|rfl|rfl|rfl|rfl:k=1∨k=2∨k=3∨k=4∨k=5∨k=6∨k=7∨k=8∨k=9∨k=10∨k=11∨k=12∨k=13∨k=14∨k=15∨k=16∨k=17:=by omega
  all_goals simp
 have l1:=hk 1 (by omega) (by omega);have l2:=hk 2 (by omega) (by omega);have l13:=hk 13 (by omega) (by omega);have l17:=hk 17 (by omega) (by omega);have lbb:bb∈L:=by rw [hL];simp
 have lbo:bo∈L:=by rw [hL];simp
 have lx5:X5.heap.size∈L:=by rw [hL];simp
 have lg1:g1∈L:=by rw [hL];simp
 have lx6:X6.heap.size+1∈L:=by rw [hL];simp
 have lg2:g2∈L:=by rw [hL];simp
 have lm2:m2∈L:=by rw [hL];simp
 have lm4:m4∈L:=by rw [hL];simp
 have lm6:m6∈L:=by rw [hL];simp
 have hcases:∀b∈L,(∃k,1<=k∧k<=17∧b=n+k)∨b=bb∨b=bo∨b=X5.heap.size∨b=g1∨b=X6.heap.size+1∨b=g2∨b=m2∨b=m4∨b=m6:= λb hb=>by
  rw [hL] at hb;simp only [bF,ax,or_false] at hb;rcases hb with h|h|h|h|h|h|h|h|h|h|h|h|h|h|h|h|h|h
  case inr.inr.inr.inr.inr.inr.inr.inr.inr.inr.inr.inr.inr.inr.inr.inr.inr=>exact .inr h
  all_goals exact .inl ⟨b - n,by omega,by omega,by omega⟩
 have Ho:=dB (aM hcases (aM hL (aM YZ IZ)));clear hL hcases YZ IZ;refine ⟨L,bo,g2,q2',m2,o2,q2,m4,o4,q4,m6,o6,q6,⟨rfl,rfl, λS cd=>?_⟩, λb hb=>?_,⟨rfl,rfl,rfl,rfl,rfl,rfl,rfl,rfl,rfl⟩,⟨lbo,lg2,lm2,lm4,lm6,hk, λb hb=>?_⟩,ebo,hcap,ea, λj hj=>?_,r2,r4,r6⟩
 ·clear p2 p4 p6 r2 r4 r6 L4 R4 ea ebb ebo hk Nl Nk ag9 Pj Wn Wo YY Td hp8 hpg hgr Te Wp c0 c1 c2 c3 d0 d1 d2 d3;simp [Par.VS,Par.pM,Par.wZ,Par.zn,Par.zm,Par.FA,l1,l2,l13,l17,lbb,lbo,lx5,lg1,lx6,lg2,lm2,lm4,lm6]
 ·rcases Ho.out.1 b hb with ⟨k,h1,h2,rfl⟩|rfl|rfl|rfl|h|rfl|h|rfl|rfl|rfl
  ·exact SV ea hk h1 h2
  ·refine ⟨_,_,_,ebb, λx hx=>?_⟩;simp only [aB,bF,ax,or_false] at hx;rcases hx with rfl|rfl|rfl|rfl
   all_goals (refine .inr ⟨_,_,_,rfl,?_⟩;intro q hq;cases hq;assumption)
  ·refine ⟨_,_,_,ebo, λx hx=>?_⟩;simp only [aB,bF,ax,or_false] at hx;rcases hx with rfl|rfl|rfl|rfl
   all_goals (refine .inr ⟨_,_,_,rfl,?_⟩;intro q hq;cases hq;assumption)
  ·by_cases he:X5.heap.size=g1
   ·rw [he];exact xS (hpg.keep λg hg=>by cases hg;exact Nk g1 (by omega) (by omega))
   ·obtain ⟨c,e,q1',az1⟩:=HG.out.2.2.2.2 X5.heap.size rfl;refine ⟨c,e,(0,0),(Nk _ (by omega) (by omega)).trans ((hgr.block _ (by simp;omega) (λh=>he (by simpa [Value.ownBlock] using h))).trans ?_), λx hx=>.inl (az1 x hx)⟩;rw [dw _ _ _ (by simp;omega),dw _ _ _ (by omega)];exact q1'
  ·rw [h];exact xS (hpg.keep λg hg=>by cases hg;exact Nk g1 (by omega) (by omega))
  ·have az2:X6.heap.size+1≠g1:=by omega
   have az3:=hgr.size;simp at az3;refine ⟨#[.int .i64 1,.int .i64 14,.int .i64 20],59,(0,0),(Nk _ (by omega) (by omega)).trans ((hgr.block _ (by simp) (λh=>az2 (by simpa [Value.ownBlock] using h))).trans ?_), λx hx=>.inl ?_⟩
   ·have :=di (X6.alloc (.cells #[.int .i64 14,.int .i64 20] 51)) (.cells #[.int .i64 1,.int .i64 14,.int .i64 20] 59)
    rwa [World.size_alloc] at this
   ·simp only [aB,bF,ax,or_false] at hx;rcases hx with rfl|rfl|rfl<;>rfl
  ·rw [h];exact xS (hp8.keep λg hg=>by cases hg;exact Nk g2 (by omega) (by omega))
  ·exact xS p2.1
  ·exact xS p4.1
  ·exact xS p6.1
 ·rcases Ho.out.1 b hb with ⟨k,h1,h2,rfl⟩|rfl|rfl|rfl|rfl|rfl|rfl|rfl|rfl|rfl
  ·exact .inl (by omega)
  ·exact .inl (by omega)
  all_goals first |(exact .inl (by omega))|simp
 ·refine (dA (a:=⟨g2,j,none⟩) (Nk g2 (by omega) (by omega))).trans (Wo j _ ?_);obtain rfl|rfl|rfl|rfl|rfl|rfl|rfl|rfl|rfl|rfl|rfl|rfl:j=0∨j=1∨j=2∨j=3∨j=4∨j=5∨j=6∨j=7∨j=8∨j=9∨j=10∨j=11:=by omega
  all_goals rfl
end
section
theorem Tf {who:List Nat} {hours:Int} {found:Bool} (h:wF [(10,10),(25,25)] [(10,0,100),(5,0,0)] 1 4 who hours found):who= [0,1]∧hours=5∧found=true:=by
 have s01:AO 2 2 [0,1]:=⟨rfl,by decide⟩;have o01:Fv [(10,10),(25,25)] [(10,0,100),(5,0,0)] 1 [0,1]:=by unfold Fv;decide
 cases found with
 |false=>exact absurd o01 ((h.no rfl).2.2 _ s01 (by decide))
 |true=>
  obtain ⟨h1,h2,h3,h4,h5⟩:=h.yes rfl;have h6:=h5 _ s01 (by decide) o01;obtain ⟨hl,hm⟩:=h1
  match who,hl,hm,h3,h4,h6 with
  | [a,b],_,hm,h3,h4,h6=>
    have ha:a<2:=hm a (by simp);have hb:b<2:=hm b (by simp);obtain rfl|rfl:a=0∨a=1:=by omega
    all_goals obtain rfl|rfl:b=0∨b=1:=by omega
    ·exact absurd h3 (by unfold Fv;decide)
    ·exact ⟨rfl,h4.trans (by decide),rfl⟩
    ·exact absurd h3 (by unfold Fv;decide)
    ·exfalso;rw [h4] at h6;revert h6;decide
variable [Lo.St]
theorem Dz {X:World} {b:Nat} {c:Array Value} {e:TypeId} {fr:Nat×Nat} (h:X.heap[b]?=some (.cells c e fr)) (o:Nat):X.cell? ⟨b,o,none⟩=c[o]?:=by
 unfold World.cell?;simp only [h];cases c[o]?<;>rfl
theorem Lo.Wq {X:World} {b1 b2:Nat} (h1:X.heap[b1]?=some (.cells #[.int .i64 10,.int .i64 10,.int .i64 25,.int .i64 25] 51)) (h2:X.heap[b2]?=some (.cells #[.int .i64 10,.int .i64 0,.int .i64 100,.int .i64 5,.int .i64 0,.int .i64 0] 80)):
 Calls Lo.prog 35 #[.slice (some ⟨b1,0,none⟩) 2 2,.slice (some ⟨b2,0,none⟩) 2 2,.int .i64 1] X λe X'=>∃A cap,e= .returned (.tuple #[.slice A 2 cap,.int .i64 5,.bool true,.int .i64 0])∧Cn X' X'.heap.size A [0,1]∧Below X.heap.size X X':=by
 have q1:RdQ X X.heap.size (some ⟨b1,0,none⟩) [(10,10),(25,25)]:= λ_=>⟨b1,0,rfl,(aI.1 h1).1, λi j hi hj=>by
  rw [Dz h1];have hi:i<2:=hi;obtain rfl|rfl:i=0∨i=1:=by omega
  all_goals obtain rfl|rfl:j=0∨j=1:=by omega
  all_goals rfl⟩
 have q2:RdC X X.heap.size (some ⟨b2,0,none⟩) [(10,0,100),(5,0,0)]:= λ_=>⟨b2,0,rfl,(aI.1 h2).1, λi j hi hj=>by
  rw [Dz h2];have hi:i<2:=hi;obtain rfl|rfl:i=0∨i=1:=by omega
  all_goals obtain rfl|rfl|rfl:j=0∨j=1∨j=2:=by omega
  all_goals rfl⟩
 refine (Lo.SS q1 q2 (by decide) (by decide) (aJ _) 1).mono ?_
 rintro e X' ⟨hb,hx⟩;rw [aa (by decide)] at hx;obtain ⟨A,cap,who,hours,found,rfl,jI,hw⟩:=hx;obtain ⟨rfl,rfl,rfl⟩:=Tf jI;refine ⟨A,cap,rfl, λ_=>?_,hb⟩;obtain ⟨g,rfl,_,hg,hc⟩:=hw (by decide);refine ⟨g,0,rfl,hg, λi j hi hj=>?_⟩;have hi:i<2:=hi;obtain rfl:j=0:=by omega
 obtain rfl|rfl:i=0∨i=1:=by omega
 ·exact hc 0 (by decide)
 ·exact hc 1 (by decide)
theorem ah0 {X:World} {b B:Nat} {l:List Int} {fr:Nat×Nat} (h:X.heap[b]?=some (.cells (l.map λx=>Value.int .i64 x).toArray 3 fr)) (hB:X.heap.size<=B):Cn X B (some ⟨b,0,none⟩) l:= λ_=>by
 refine ⟨b,0,rfl,aK (aI.1 h).1 hB, λi j hi hj=>?_⟩;obtain rfl:j=0:=by omega
 rw [show 0+(i*1+0)=i from by omega,Dz h];simp [hi]
theorem Ws {X:World} {b B n:Nat} {l:List Int} {fr:Nat×Nat} (h:X.heap[b]?=some (.cells (l.map λx=>Value.int .i64 x).toArray 51 fr)) (hl:l.length=2*n) (hB:X.heap.size<=B):RdP X B (some ⟨b,0,none⟩) n l:= λ_=>by
 refine ⟨b,0,rfl,aK (aI.1 h).1 hB, λi j hi hj=>?_⟩;rw [show 0+(i*2+j)=2*i+j from by omega,Dz h];have :2*i+j<l.length:=by omega
 simp [this]
def oM:List Obj:=[.cells #[.int .i64 105,.int .i64 110] 51,.cells #[.int .i64 9,.int .i64 13] 51,.cells #[.int .i64 90,.int .i64 90] 51,.cells #[.int .i64 5,.int .i64 5] 51,.cells #[.int .i64 14,.int .i64 16] 51,.cells #[.int .i64 105,.int .i64 110,.int .i64 9,.int .i64 13,.int .i64 90,.int .i64 90,.int .i64 5,.int .i64 5,.int .i64 14,.int .i64 16] 51]
def oL:List Obj:=[.cells #[.int .i64 2,.int .i64 10] 51,.cells #[.int .i64 0,.int .i64 2] 51,.cells #[.int .i64 0,.int .i64 0,.int .i64 2,.int .i64 10,.int .i64 0,.int .i64 0,.int .i64 0,.int .i64 2] 51]
theorem zh {X X':World} {k n:Nat} {A:Option Addr} {f:Nat->Nat->Value} (h:Rd X X.heap.size k A n f) (hb:Below X.heap.size X X'):Rd X' X'.heap.size k A n f:= λhn=>by
 obtain ⟨b,off,e,h1,h2⟩:=h hn;exact ⟨b,off,e,aK h1 hb.size, λi j hi hj=>(dP hb _ _ h1).trans (h2 i j hi hj)⟩
theorem Lo.az4 {X:World} {m2 o2 q2:Nat} (r:RdP X X.heap.size (some ⟨m2,o2,none⟩) 5 (vE wU)):Calls Lo.prog 19 #[.slice (some ⟨m2,o2,none⟩) 5 q2,.slice (some ⟨X.heap.size+5,0,none⟩) 5 5] (uw oM X) λe X'=>e= .returned (.bool true)∧Below X.heap.size X X':=by
 have hb:=qa oM X;refine (Lo.Bj (l1:=vE wU) (l2:=[105,110,9,13,90,90,5,5,14,16]) (zh r hb) (Ws (l:=[105,110,9,13,90,90,5,5,14,16]) (nH oM X 5 (by decide)) rfl (aJ _)) (by decide) (aJ _)).mono ?_
 rintro e X' ⟨rfl,hb2⟩;refine ⟨?_,hb.trans (hb2.mono hb.size)⟩;rw [VW];rfl
theorem Lo.az5 {X:World} {m2 o2 q2:Nat} (r:RdP X X.heap.size (some ⟨m2,o2,none⟩) 4 (Dt wU)):Calls Lo.prog 19 #[.slice (some ⟨m2,o2,none⟩) 4 q2,.slice (some ⟨X.heap.size+2,0,none⟩) 4 4] (uw oL X) λe X'=>e= .returned (.bool true)∧Below X.heap.size X X':=by
 have hb:=qa oL X;refine (Lo.Bj (l1:=Dt wU) (l2:=[0,0,2,10,0,0,0,2]) (zh r hb) (Ws (l:=[0,0,2,10,0,0,0,2]) (nH oL X 2 (by decide)) rfl (aJ _)) (by decide) (aJ _)).mono ?_
 rintro e X' ⟨rfl,hb2⟩;refine ⟨?_,hb.trans (hb2.mono hb.size)⟩;rw [YL];rfl
theorem Lo.ar8 {X:World} {A:Option Addr} {c:Nat} (x y:Int) (r:Cn X X.heap.size A [x,y]):Calls Lo.prog 39 #[.slice A 2 c,.slice (some ⟨X.heap.size,0,none⟩) 2 2] (X.alloc (.cells #[.int .i64 x,.int .i64 y] 3)) λe X'=>e= .returned (.bool true)∧Below X.heap.size X X':=by
 have hb:=(dz X.heap.size X).alloc (aJ _) (.cells #[.int .i64 x,.int .i64 y] 3);refine (Lo.VY (l1:=[x,y]) (l2:=[x,y]) (zh r hb) (ah0 (l:=[x,y]) (di _ _) (aJ _)) (by simp) (by simp) (aJ _)).mono ?_
 rintro e X' ⟨rfl,hb2⟩;exact ⟨by simp,hb.trans (hb2.mono hb.size)⟩
theorem Lo.ar9 {X:World} {m2 o2 q2:Nat} (r:RdP X X.heap.size (some ⟨m2,o2,none⟩) 5 (vE wU)):Calls Lo.prog 19 #[.slice (some ⟨m2,o2,none⟩) 5 q2,.slice (some ⟨X.heap.size+1+1+1+1+1,0,none⟩) 5 5] ((((((X.alloc (.cells #[.int .i64 105,.int .i64 110] 51)).alloc (.cells #[.int .i64 9,.int .i64 13] 51)).alloc (.cells #[.int .i64 90,.int .i64 90] 51)).alloc (.cells #[.int .i64 5,.int .i64 5] 51)).alloc (.cells #[.int .i64 14,.int .i64 16] 51)).alloc (.cells #[.int .i64 105,.int .i64 110,.int .i64 9,.int .i64 13,.int .i64 90,.int .i64 90,.int .i64 5,.int .i64 5,.int .i64 14,.int .i64 16] 51)) λe X'=>e= .returned (.bool true)∧Below X.heap.size X X':=Lo.az4 r
theorem Lo.as0 {X:World} {m2 o2 q2:Nat} (r:RdP X X.heap.size (some ⟨m2,o2,none⟩) 4 (Dt wU)):Calls Lo.prog 19 #[.slice (some ⟨m2,o2,none⟩) 4 q2,.slice (some ⟨X.heap.size+1+1,0,none⟩) 4 4] (((X.alloc (.cells #[.int .i64 2,.int .i64 10] 51)).alloc (.cells #[.int .i64 0,.int .i64 2] 51)).alloc (.cells #[.int .i64 0,.int .i64 0,.int .i64 2,.int .i64 10,.int .i64 0,.int .i64 0,.int .i64 0,.int .i64 2] 51)) λe X'=>e= .returned (.bool true)∧Below X.heap.size X X':=Lo.az5 r
theorem Lo.as1 {w:World} {m2 o2 q2 m4 o4 q4 m6 o6 q6 qp:Nat} {Ap:Option Addr} (r2:nG w (some ⟨m2,o2,none⟩) 5 (vE wU)) (r4:nG w (some ⟨m4,o4,none⟩) 4 (Dt wU)) (r6:Cn w w.heap.size (some ⟨m6,o6,none⟩) (Es wU 1)) (rp:Cn w w.heap.size Ap [2,3]) (t0 t1 t8 t15 t16 t17 t18 t19 t20 t21 t22 t23 t24 t25 t26 t27 t28 t29 t30 t31 t32 t33 t34 t35 t36 t37 t38 t39 t40 t41 t42 t43 t44 t45 t46 t47 t48 t49 t50 t51 t52 t53 t54 t55 t56 t57 t58 t59 t60 t61 t62 t63 t64 t65 t66 t67 t68 t69 t70 t71 t72 t73 t74 t75 t76 t77 t78 t79 t80 t81 t82 t83 t84 t85 t86 t87 t88 t89 t90 t91 t92 t93 t94 t95 t96 t97 t98 t99 t100 t101 t102 t103 t104 t105 t106 t107 t108 t109 t110 t111 t112 t113 t114 t115 t116 t117 t118 t119 t120 t121 t122 t123 t124 t125 t126 t127 t128 t129 t130 t131 t132 t133 t134 t135 t136 t137 t138 t139 t140 t141 t142 t143 t144 t145 t146 t147 t148 t149 t150 t151 t152 t153 t154 t155 t156 t157 t158 t159:Value):
 Tryz.W9.wp Lo.prog (bodyPost Lo.prog Tryz.f14 λe w'=>∃v,e= .returned v∧v= .bool true) ⟨#[t0,t1,.slice (some ⟨m2,o2,none⟩) 5 q2,.int .i64 0,.slice (some ⟨m4,o4,none⟩) 4 q4,.int .i64 0,.slice (some ⟨m6,o6,none⟩) 2 q6,.int .i64 0,t8,.int .i64 3,.int .i64 0,.slice Ap 2 qp,.bool true,.bool true,.int .i64 0,t15,t16,t17,t18,t19,t20,t21,t22,t23,t24,t25,t26,t27,t28,t29,t30,t31,t32,t33,t34,t35,t36,t37,t38,t39,t40,t41,t42,t43,t44,t45,t46,t47,t48,t49,t50,t51,t52,t53,t54,t55,t56,t57,t58,t59,t60,t61,t62,t63,t64,t65,t66,t67,t68,t69,t70,t71,t72,t73,t74,t75,t76,t77,t78,t79,t80,t81,t82,t83,t84,t85,t86,t87,t88,t89,t90,t91,t92,t93,t94,t95,t96,t97,t98,t99,t100,t101,t102,t103,t104,t105,t106,t107,t108,t109,t110,t111,t112,t113,t114,t115,t116,t117,t118,t119,t120,t121,t122,t123,t124,t125,t126,t127,t128,t129,t130,t131,t132,t133,t134,t135,t136,t137,t138,t139,t140,t141,t142,t143,t144,t145,t146,t147,t148,t149,t150,t151,t152,t153,t154,t155,t156,t157,t158,t159],[]⟩ w:=by
 obtain ⟨U,U2,U3,U4,U5,U6⟩:=Lo.facts;have C:=Lo.call Tryz.func30;have C6:=Lo.call Tryz.func35;have C8:=Lo.call Tryz.func39;have C17:=Lo.call Tryz.func19;have HR:=dB (aM r2 (aM r4 (aM r6 rp)));clear r2 r4 r6 rp
 have hj:∀X:World,Below w.heap.size w X->X.cell? ⟨m6,o6,none⟩=some (.int .i64 1)∧X.cell? ⟨m6,o6+1,none⟩=some (.int .i64 0):= λX hb=>by
  have h:=HR.out.2.2.1;rw [Nf] at h;obtain ⟨b,off,e,h1,h2⟩:=h (by decide);cases e;exact ⟨(dP hb _ _ h1).trans (h2 0 0 (by decide) (by omega)),(dP hb _ _ h1).trans (h2 1 0 (by decide) (by omega))⟩
 have HJ:=dB hj;have as2:=dB trivial;have as3:=dB trivial;have as4:=dB trivial;clear hj;simp only [Tryz.W9,Tryz.zg,Tryz.f14,Tryz.dN,Tryz.eO,ak,Nat.reduceEqDiff,if_true,if_false,reduceIte]
 go_wp2_with (first
  |(go_at_call 30;refine (Lo.FN _ _ _).mono ?_;rintro e w1 ⟨rfl,rfl⟩)
  |(go_at_call 35;refine (Lo.Wq (b1:=w.heap.size+2) (b2:=w.heap.size+4) (nH [.cells #[.int .i64 10,.int .i64 10] 51,.cells #[.int .i64 25,.int .i64 25] 51,.cells #[.int .i64 10,.int .i64 10,.int .i64 25,.int .i64 25] 51,.cells #[.int .i64 0,.int .i64 100] 51,.cells #[.int .i64 10,.int .i64 0,.int .i64 100,.int .i64 5,.int .i64 0,.int .i64 0] 80] w 2 (by simp)) (nH [.cells #[.int .i64 10,.int .i64 10] 51,.cells #[.int .i64 25,.int .i64 25] 51,.cells #[.int .i64 10,.int .i64 10,.int .i64 25,.int .i64 25] 51,.cells #[.int .i64 0,.int .i64 100] 51,.cells #[.int .i64 10,.int .i64 0,.int .i64 100,.int .i64 5,.int .i64 0,.int .i64 0] 80] w 4 (by simp))).mono ?_;rintro e w5 ⟨Aw,qw,rfl,hrw,hb5⟩;have hbw:=(qa [.cells #[.int .i64 10,.int .i64 10] 51,.cells #[.int .i64 25,.int .i64 25] 51,.cells #[.int .i64 10,.int .i64 10,.int .i64 25,.int .i64 25] 51,.cells #[.int .i64 0,.int .i64 100] 51,.cells #[.int .i64 10,.int .i64 0,.int .i64 100,.int .i64 5,.int .i64 0,.int .i64 0] 80] w).trans (hb5.mono (qa [.cells #[.int .i64 10,.int .i64 10] 51,.cells #[.int .i64 25,.int .i64 25] 51,.cells #[.int .i64 10,.int .i64 10,.int .i64 25,.int .i64 25] 51,.cells #[.int .i64 0,.int .i64 100] 51,.cells #[.int .i64 10,.int .i64 0,.int .i64 100,.int .i64 5,.int .i64 0,.int .i64 0] 80] w).size);obtain ⟨k0,k1⟩:=HJ.out w5 hbw;have HS:=dB (aM hrw hbw);clear hrw hb5 hbw)
  |(have t1:=as2;clear as2 t1;go_at_call 19;refine (Lo.ar9 (zh HR.out.1 HS.out.2)).mono ?_;rintro e w6 ⟨rfl,hb6⟩;have H6:=dB hb6;clear hb6)
  |(have t1:=H6;clear t1;have t2:=as3;clear as3 t2;go_at_call 19;refine (Lo.as0 (zh (zh HR.out.2.1 HS.out.2) H6.out)).mono ?_;rintro e w7 ⟨rfl,XH⟩;have H7:=dB XH;clear XH)
  |(have t1:=H7;clear t1;have t2:=as4;clear as4 t2;go_at_call 39;refine (Lo.ar8 2 3 (zh (zh (zh HR.out.2.2.2 HS.out.2) H6.out) H7.out)).mono ?_;rintro e w8 ⟨rfl,Wn⟩;have H8:=dB Wn;clear Wn)
  |(have t1:=H8;clear t1;go_at_call 39;refine (Lo.ar8 0 1 (zh (zh (zh HS.out.1 H6.out) H7.out) H8.out)).mono ?_;rintro e w9 ⟨rfl,hb9⟩))
 go_ret;exact ⟨_,rfl,rfl⟩
end
end Go.Proofs
