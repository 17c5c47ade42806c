/- ThreadBalance answers true, whatever comes in, on every schedule; its arguments as they were: no condition of its own beside the row. -/
import Derived.BigRegion
import Derived.Deep.DeepMust
import Derived.Test.YtnemnkmojiljmaaGreatR01
import Derived.Test.YtnemnkmojiljmaaGreatH34
set_option maxRecDepth 100000
set_option maxHeartbeats 0
set_option linter.all false
section
namespace Go.Proofs
open Go Go.RowKit Go.Maps
variable [Lo.St]
theorem Lo.info53:(Lo.prog.info? 53).map (λi=>(i.zero,i.size,i.bytes))=some (some (.agg #[.int .i64 0,.slice none 0 0,.slice none 0 0,.int .i64 0,.int .i64 0,.int .i64 0,.int .i64 0]),7,88):=by
 rw [Lo.info];kernel_rfl
def cells7 (sv:Nat->MK):List dW->Nat->List Value
 | [],_=>[]
 |s::r,k=>[.int .i64 s.hand,.slice (sv k).a1 s.ins.length (sv k).c1,.slice (sv k).a2 s.outs.length (sv k).c2,.int .i64 s.g0,.int .i64 s.g1,.int .i64 s.l0,.int .i64 s.l1]++cells7 sv r (k+1)
theorem cells7_app (sv:Nat->MK):∀(l r:List dW) (k:Nat),cells7 sv (l++r) k=cells7 sv l k++cells7 sv r (k+l.length)
 | [],r,k=>rfl
 |s::l,r,k=>by
  show [_,_,_,_,_,_,_]++cells7 sv (l++r) (k+1)=([_,_,_,_,_,_,_]++cells7 sv l (k+1))++cells7 sv r (k+(l.length+1));rw [cells7_app sv l r (k+1),List.append_assoc,show k+1+l.length=k+(l.length+1) by omega]
theorem cells7_get (sv:Nat->MK):∀(l:List dW) (k:Nat) {i j:Nat},i<l.length->j<7->(cells7 sv l k)[i*7+j]?=some (((l[i]?).getD ⟨0,[],[],0,0,0,0⟩).cells (sv (k+i)) j)
 |s::r,k,0,j,_,hj=>by
  unfold cells7;obtain rfl|rfl|rfl|rfl|rfl|rfl|rfl:j=0∨j=1∨j=2∨j=3∨j=4∨j=5∨j=6:=by omega
  all_goals rfl
 |s::r,k,i+1,j,hi,hj=>by
  unfold cells7;rw [List.getElem?_append_right (by simp;omega),show (i+1)*7+j - [Value.int .i64 s.hand,.slice (sv k).a1 s.ins.length (sv k).c1,.slice (sv k).a2 s.outs.length (sv k).c2,.int .i64 s.g0,.int .i64 s.g1,.int .i64 s.l0,.int .i64 s.l1].length=i*7+j by simp;omega,cells7_get sv r (k+1) (by simpa using hi) hj,show k+1+i=k+(i+1) by omega];rfl
theorem Lo.und23:Lo.prog.underlying 23=some (.slice 53):=(Lo.underlying 23).trans (by kernel_rfl)
theorem Lo.masses_sp2 {w:World} {B:Nat} {b:dO} {v:gJ} {x:Value} (hx:x=dY b v) (hb:fC w B b v) (hB:B<=w.heap.size) (hs:b.small) (hc:fG b=0):
 Calls Lo.prog 15 #[x] w λe w'=>Below w.heap.size w w'∧if qR b=true then ∃A cap,e= .returned (.tuple #[.slice A b.dz.length cap,.int .i64 0])∧jR w' A b.dz.length (p8 b) else e= .returned (.tuple #[.slice none 0 0,.int .i64 9]):=by
 refine (Lo.K8 hx hb hB hs).mono λe w' h=>?_
 obtain ⟨h1,h2⟩:=h;rw [if_neg (by rw [hc];simp)] at h2;refine ⟨h1,?_⟩;split
 ·rename_i hh;rw [if_pos hh] at h2;obtain ⟨A,cap,e1,h3, -⟩:=h2;exact ⟨A,cap,e1,h3⟩
 ·rename_i hh;rw [if_neg hh] at h2;exact h2
theorem sumS_bd {ss:List dW} {g:dW->Int} (h:∀s∈ss,0<=g s∧g s<=1000000):∀k:Nat,0<=sumS ss g k∧sumS ss g k<=1000000*k
 |0=>by simp [sumS]
 |k+1=>by
  have ih:=sumS_bd h k;unfold sumS;cases e:ss[k]? with
  |none=>dsimp only;omega
  |some s=>
   have :=h s (List.mem_of_getElem? e);dsimp only;omega
theorem sumU_bd {F:dO} {g:Nat->Int} {n:Nat} (h:∀q,q<n->0<=g q∧g q<=1000000):∀k:Nat,k<=n->0<=sumU F g k∧sumU F g k<=1000000*k
 |0,_=>by simp [sumU]
 |k+1,hk=>by
  have ih:=sumU_bd (F:=F) h k (by omega);have :=h k (by omega);unfold sumU;split<;>omega
theorem fix_bd {b:dO} {pk:List Int} (h:(jr b.dJ.length b.dz.length b.steps [] []).1=0):∀s∈fixL pk b.steps 0,(0<=s.g0∧s.g0<=1000000)∧(0<=s.l0∧s.l0<=1000000):= λs hs=>by
 obtain ⟨i,hi⟩:=List.getElem?_of_mem hs;rw [fixL_get] at hi;cases e:b.steps[i]? with
 |none=>rw [e] at hi;cases hi
 |some z=>
  rw [e] at hi;obtain rfl:=Option.some.inj hi;obtain ⟨-, -, -,q1,q2⟩:=vE h z (List.mem_of_getElem? e);have i1:=inside_iff.1 q1;have i2:=inside_iff.1 q2;have x1:=pick_in i1.2.1 (pickZ pk (2*(0+i)));have x2:=pick_in i2.2.1 (pickZ pk (2*(0+i)+1));exact ⟨by show 0<=pickX z pk (0+i)∧pickX z pk (0+i)<=1000000;unfold pickX;omega,by show 0<=pickY z pk (0+i)∧pickY z pk (0+i)<=1000000;unfold pickY;omega⟩
attribute [local irreducible] wpQuiet
theorem Lo.tbal_any {w:World} {B:Nat} {b:dO} {v:gJ} {A:Option Addr} {pk:List Int} {cp:Nat} (h5:ai2) (hb:fC w B b v) (hB:B<=w.heap.size) (hbc:GG b v) (hp:RdU w B A pk) (hu:U16 pk):
 Calls Lo.prog 7 #[dY b v,.slice A pk.length cp] w λe w'=>e= .returned (.bool true):=by
 obtain ⟨U,U2,U3,U4,U5,U6⟩:=Lo.facts;have C:=Lo.call Tryz.func13;have C2:=Lo.call Tryz.func18;have C3:=Lo.call14;have C4:=Lo.call Tryz.func15;have C5:=Lo.call Tryz.func30;have C6:=Lo.call Tryz.func31;have C7:=Lo.call Tryz.func32;have H5:=Lib.hid h5;obtain ⟨Y,hY⟩:∃Y,w.alloc (.cells (lN b v) 26)=Y:=⟨_,rfl⟩;have bW:Below w.heap.size w Y:=hY ▸ (Below.refl _ _).alloc (Nat.le_refl _) _;have hA:∀W,Below Y.heap.size Y W->fC W B b v:= λW hW=>hb.keep λd o h=>dH (bW.trans (hW.mono bW.size)) d o (by omega)
 have hP:∀W,Below Y.heap.size Y W->RdU W B A pk:= λW hW=>hp.keep λd o h=>dH (bW.trans (hW.mono bW.size)) d o (by omega)
 have g0:Y.heap[w.heap.size]?=some (.cells (lN b v) 26):=by rw [<-hY];exact World.alloc_heap_new _ _
 have sY:Y.heap.size=w.heap.size+1:=by rw [<-hY];simp
 have hC:∀W,Below Y.heap.size Y W->W.heap[w.heap.size]?=some (.cells #[.slice v.ah b.dJ.length v.ch,.slice v.ap b.dz.length v.cp,.slice v.iT b.steps.length v.cs,.slice v.ac b.dA.length v.cc] 26):= λW hW=>(hW.block w.heap.size (by omega)).trans g0
 have HC:=Lib.hid hC;have HA:=Lib.hid hA;have HP:=Lib.hid (And.intro hP hu);have HY:=Lib.hid (And.intro hY bW);have HBC:=Lib.hid hbc;clear hY bW hA hP hC g0 hb h5 hbc hp hu;show Calls Lo.prog 7 #[Value.agg (lN b v),_] w _;unfold lN;go_enter Lo.get Tryz.func7,Tryz.ntmps7;go_wp2;have hy:=HY.out.1;unfold lN at hy;rw [hy];clear hy;refine (Lo.aa0 (b:=b) (v:=v) rfl (HA.out Y (Below.refl _ _)) (by omega)).mono ?_
 rintro e w1 ⟨rfl,h1⟩;obtain ⟨f0,f1,f2,f3⟩:=al8 (HC.out w1 h1);cases hg:Dz b with
 |true=>
  go_wp2;refine (H5.out _).mono ?_
  rintro e w5 ⟨rfl,rfl⟩;go_wp2;go_ret;rfl
 |false=>
  have hs:=Vz hg;clear hg;go_wp2;refine (Lo.YR (b:=b) (v:=v) rfl (HA.out w1 h1) (by have :=h1.size;omega) hs HBC.out).mono ?_
  rintro e w2 ⟨rfl,h2⟩;replace h2:=h1.trans (h2.mono h1.size);clear h1 f0 f1 f2 f3;obtain ⟨f0,f1,f2,f3⟩:=al8 (HC.out w2 h2);generalize hcx:fG b=cx
  by_cases z:cx=0
  case neg=>
   clear hcx;go_wp2;refine (H5.out _).mono ?_
   rintro e w5 ⟨rfl,rfl⟩;go_wp2;go_ret;rfl
  subst z;have HX:=Lib.hid hcx;clear hcx;have hst:=hs.steps;have HH2:=Lib.hid h2;have sz2:Y.heap.size<=w2.heap.size:=h2.size;obtain ⟨n,hn⟩:∃n,b.steps.length=n:=⟨_,rfl⟩;rw [hn] at f2;have q0:w.heap.size<w2.heap.size:=by omega
  clear h2;go_wp2;obtain ⟨V,hV⟩:∃V,w2.alloc (.cells #[.slice v.ah b.dJ.length v.ch,.slice v.ap b.dz.length v.cp,.slice none 0 0,.slice v.ac b.dA.length v.cc] 26)=V:=⟨_,rfl⟩;have μX:V.heap.size=w2.heap.size+1:=by rw [<-hV];simp
  have v0:V.heap[w2.heap.size]?=some (.cells #[.slice v.ah b.dJ.length v.ch,.slice v.ap b.dz.length v.cp,.slice none 0 0,.slice v.ac b.dA.length v.cc] 26):=hV ▸ World.alloc_heap_new _ _
  have bV:Below Y.heap.size Y V:=hV ▸ HH2.out.alloc sz2 _;rw [hV];obtain ⟨fs,hfs⟩:∃fs,fixL pk b.steps 0=fs:=⟨_,rfl⟩;have hfl:fs.length=n:=by rw [<-hfs,fixL_len,hn]
  have HV:=Lib.hid (And.intro v0 (And.intro bV (And.intro hfs (And.intro hfl (And.intro μX (And.intro hn HH2.out.size))))));clear hV v0 bV hfs hfl μX f0 f1 f2 f3
  go_loopw [6,7,8] (λg l i wr=>∃(k:Nat) (sl:Value),k<=n∧i= .int .i64 (k:Int)∧g= .int .i64 (sumS fs dW.g0 k)∧l= .int .i64 (sumS fs dW.l0 k)∧wr.heap[w2.heap.size]?=some (.cells #[.slice v.ah b.dJ.length v.ch,.slice v.ap b.dz.length v.cp,sl,.slice v.ac b.dA.length v.cc] 26)∧wr.ownsRow V.heap.size 53 7 sl k (cells7 v.sv (fs.take k) 0)∧V.grownBy wr (some w2.heap.size)) (λg l i _=>n - (intOf i).toNat)
  case atStart=>exact ⟨0,.slice none 0 0,Nat.zero_le _,rfl,rfl,rfl,HV.out.1,⟨rfl,.inl ⟨rfl,rfl⟩⟩,pX _ _⟩
  case round=>
   obtain ⟨k,sl,hk,rfl,rfl,rfl,c9,hown,hgr⟩:=hrel;have bwr:Below Y.heap.size Y wr:=Below.grown HV.out.2.1 hgr HV.out.2.1.size (λj hj=>by simp at hj;omega);obtain ⟨f0,f1,f2,f3⟩:=al8 (HC.out wr bwr);rw [HV.out.2.2.2.2.2.1] at f2
   by_cases hlt:k<n
   ·have hlt':(k:Int)<(n:Int):=by omega
    have hlb:k<b.steps.length:=by rw [HV.out.2.2.2.2.2.1];exact hlt
    obtain ⟨bb,off,ex,hbb,hc⟩:=(HA.out wr bwr).steps (by omega);obtain ⟨r0,r1,r2,r3,r4,r5,r6⟩:=sZ hc hlb;obtain ⟨s,hsk⟩:∃s,b.steps[k]=s:=⟨_,rfl⟩;rw [hsk] at r0 r1 r2 r3 r4 r5 r6;rw [ex] at f2;clear ex;have hpsz:w2.heap.size<wr.heap.size:=(Array.getElem?_eq_some_iff.1 c9).1;have HR:=Lib.hid (And.intro c9 (And.intro hown (And.intro hgr (And.intro bwr hsk))));clear c9 hown hgr bwr hc hsk f0 f1 f3;have hn64:n<=64:=by have :=HV.out.2.2.2.2.2.1;omega
    obtain ⟨-, -, -,hi1,hi2⟩:=vE (CX (EP HX.out).2.2.1).2.1 s (by rw [<-HR.out.2.2.2.2];exact List.getElem_mem hlb);have i1:=inside_iff.1 hi1;have i2:=inside_iff.1 hi2;obtain ⟨px,hpx⟩:∃px,pickX s pk k=px:=⟨_,rfl⟩;obtain ⟨py,hpy⟩:∃py,pickY s pk k=py:=⟨_,rfl⟩;have hbx:0<=px∧px<=1000000:=by have :=pick_in i1.2.1 (pickZ pk (2*k));rw [<-hpx];unfold pickX;omega
    have hby:0<=py∧py<=1000000:=by have :=pick_in i2.2.1 (pickZ pk (2*k+1));rw [<-hpy];unfold pickY;omega
    obtain ⟨za,hza⟩:∃za,2*(k:Int)=za:=⟨_,rfl⟩;obtain ⟨βU,hzb⟩:∃βU,za+1=βU:=⟨_,rfl⟩
    have kx:∀W,Below Y.heap.size Y W->Calls Lo.prog 31 #[.agg #[.int .i64 s.g0,.int .i64 s.g1],.slice A pk.length cp,.int .i64 za] W λe w'=>e= .returned (.int .i64 px)∧Below W.heap.size W w':= λW hW=>by
     have h:=Lo.pick_is (c:=cp) (k:=2*k) (a:=s.g0) (b:=s.g1) (HP.out.1 W hW) HP.out.2 (by have :=hW.size;omega) ⟨i1.1,i1.2.1,by omega⟩ (by omega);rw [show ((2*k:Nat):Int)=za by omega] at h;unfold pickX at hpx;rw [hpx] at h;exact h
    have ky:∀W,Below Y.heap.size Y W->Calls Lo.prog 31 #[.agg #[.int .i64 s.l0,.int .i64 s.l1],.slice A pk.length cp,.int .i64 βU] W λe w'=>e= .returned (.int .i64 py)∧Below W.heap.size W w':= λW hW=>by
     have h:=Lo.pick_is (c:=cp) (k:=2*k+1) (a:=s.l0) (b:=s.l1) (HP.out.1 W hW) HP.out.2 (by have :=hW.size;omega) ⟨i2.1,i2.2.1,by omega⟩ (by omega);rw [show ((2*k+1:Nat):Int)=βU by omega] at h;unfold pickY at hpy;rw [hpy] at h;exact h
    have HK:=Lib.hid (And.intro kx (And.intro ky (And.intro hpx hpy)));have hw1:IntKind.i64.wrap (2*(k:Int))=za:=by rw [IntKind.wrap_i64];omega
    have hw2:IntKind.i64.wrap (za+1)=βU:=by rw [IntKind.wrap_i64];omega
    clear kx ky hpx hpy hi1 hi2 hza hzb;go_wp2;obtain ⟨W4,YA⟩:∃W4,wr.alloc (.cells #[.int .i64 s.hand,.slice (v.sv k).a1 s.ins.length (v.sv k).c1,.slice (v.sv k).a2 s.outs.length (v.sv k).c2,.int .i64 s.g0,.int .i64 s.g1,.int .i64 s.l0,.int .i64 s.l1] 53)=W4:=⟨_,rfl⟩;have t4:W4.heap[wr.heap.size]?=some (.cells #[.int .i64 s.hand,.slice (v.sv k).a1 s.ins.length (v.sv k).c1,.slice (v.sv k).a2 s.outs.length (v.sv k).c2,.int .i64 s.g0,.int .i64 s.g1,.int .i64 s.l0,.int .i64 s.l1] 53):=YA ▸ World.alloc_heap_new _ _
    have b4:Below wr.heap.size wr W4:=YA ▸ (Below.refl _ _).alloc (Nat.le_refl _) _;have s4:W4.heap.size=wr.heap.size+1:=by rw [<-YA];simp
    rw [YA];obtain ⟨Cl,hCl⟩:∃Cl:World->Prop,∀W,Cl W↔Below W4.heap.size W4 W:=⟨_, λ_=>Iff.rfl⟩
    have hq:∀W,Cl W->Below Y.heap.size Y W∧W.cell? ⟨wr.heap.size,3,none⟩=some (.int .i64 s.g0)∧W.cell? ⟨wr.heap.size,4,none⟩=some (.int .i64 s.g1)∧W.cell? ⟨wr.heap.size,5,none⟩=some (.int .i64 s.l0)∧W.cell? ⟨wr.heap.size,6,none⟩=some (.int .i64 s.l1):= λW hW=>by
     have h:=(hCl W).1 hW;have e:=(h.block wr.heap.size (by omega)).trans t4;exact ⟨HR.out.2.2.2.1.trans ((b4.trans (h.mono (by omega))).mono HR.out.2.2.2.1.size),cell_of e 3,cell_of e 4,cell_of e 5,cell_of e 6⟩
    have H4:=Lib.hid (And.intro hCl (And.intro hq (And.intro t4 (And.intro b4 s4))));clear YA hCl hq t4 b4 f2 r0 r1 r2 r3 r4 r5 r6;refine iH (C:=Cl) Lo.mixed (by kernel_rfl) ((H4.out.1 _).2 (Below.refl _ _).drew) ?_
    repeat
     refine wpQuiet_step (λK hK=>?_);go_simp
     first
      |(apply Exists.intro;refine ⟨λW hW=>?_,hK _ ?_⟩
        ·obtain ⟨bYW,z0,z1,z2,z3⟩:=H4.out.2.1 W hW
         first
          |(with_reducible refine (HK.out.1 W bYW).mono ?_;rintro e w9 ⟨rfl,hb9⟩;exact ⟨rfl,(H4.out.1 _).2 (((H4.out.1 W).1 hW).trans (hb9.mono ((H4.out.1 W).1 hW).size))⟩)
          |(with_reducible refine (HK.out.2.1 W bYW).mono ?_;rintro e w9 ⟨rfl,hb9⟩;exact ⟨rfl,(H4.out.1 _).2 (((H4.out.1 W).1 hW).trans (hb9.mono ((H4.out.1 W).1 hW).size))⟩)
          |rfl
          |(go_simp;rfl)
        clear hK K)
      |(refine hK _ ?_;clear hK K)
    refine wpQuiet_nil ?_
    intro z1 hb;have HZ:=Lib.hid (H4.out.2.1 z1 hb);have HZ2:=Lib.hid ((H4.out.1 z1).1 hb);clear hb;go_wp2;refine (Lo.Bw _ _ _).mono ?_
    rintro e w5 ⟨rfl,rfl⟩;go_wp2;refine (Lo.Bw _ _ _).mono ?_
    rintro e w6 ⟨rfl,rfl⟩;obtain ⟨ξP,hZ5⟩:∃ξP,(z1.alloc (.cells #[.int .i64 px,.int .i64 px] 51)).alloc (.cells #[.int .i64 py,.int .i64 py] 51)=ξP:=⟨_,rfl⟩;have b5:Below z1.heap.size z1 ξP:=hZ5 ▸ ((Below.refl _ _).alloc (Nat.le_refl _) _).alloc (by simp) _;have sz1:wr.heap.size<z1.heap.size:=by have :=HZ2.out.size;have :=H4.out.2.2.2.2;omega
    have t5:ξP.heap[wr.heap.size]?=_:=(b5.block _ sz1).trans ((HZ2.out.block _ (by have :=H4.out.2.2.2.2;omega)).trans H4.out.2.2.1)
    obtain ⟨x3,x4,x5,x6⟩:ξP.cell? ⟨wr.heap.size,3,none⟩=some (.int .i64 s.g0)∧ξP.cell? ⟨wr.heap.size,4,none⟩=some (.int .i64 s.g1)∧ξP.cell? ⟨wr.heap.size,5,none⟩=some (.int .i64 s.l0)∧ξP.cell? ⟨wr.heap.size,6,none⟩=some (.int .i64 s.l1):=⟨cell_of t5 3,cell_of t5 4,cell_of t5 5,cell_of t5 6⟩;have fz5:∀j,ξP.frozen? ⟨wr.heap.size,j,none⟩=false:= λj=>by unfold World.frozen?;simp only [t5];simp
    have D6:=Lib.hid (And.intro b5 (And.intro t5 sz1));obtain ⟨x0,x1,x2⟩:ξP.cell? ⟨wr.heap.size,0,none⟩=some (.int .i64 s.hand)∧ξP.cell? ⟨wr.heap.size,1,none⟩=some (.slice (v.sv k).a1 s.ins.length (v.sv k).c1)∧ξP.cell? ⟨wr.heap.size,2,none⟩=some (.slice (v.sv k).a2 s.outs.length (v.sv k).c2):=⟨cell_of t5 0,cell_of t5 1,cell_of t5 2⟩;have bw5:Below wr.heap.size wr ξP:=H4.out.2.2.2.1.trans ((HZ2.out.trans (b5.mono HZ2.out.size)).mono (by have :=H4.out.2.2.2.2;omega));have o2:ξP.heap[w2.heap.size]?=_:=(bw5.block _ hpsz).trans HR.out.1
    have c2:ξP.cell? ⟨w2.heap.size,2,none⟩=some sl:=cell_of o2 2;have hne:w2.heap.size≠wr.heap.size:=by omega
    have hne2:wr.heap.size≠w2.heap.size:=by omega
    have sb1:=sumS_bd (ss:=fs) (g:=dW.g0) (λs hs=>by rw [<-HV.out.2.2.1] at hs;exact (fix_bd (CX (EP HX.out).2.2.1).2.1 s hs).1) k;have sb2:=sumS_bd (ss:=fs) (g:=dW.l0) (λs hs=>by rw [<-HV.out.2.2.1] at hs;exact (fix_bd (CX (EP HX.out).2.2.1).2.1 s hs).2) k;obtain ⟨ga,hga⟩:∃ga,sumS fs dW.g0 k=ga:=⟨_,rfl⟩;obtain ⟨la,hla⟩:∃la,sumS fs dW.l0 k=la:=⟨_,rfl⟩;rw [hga] at sb1 ⊢;rw [hla] at sb2 ⊢;have hg1:IntKind.i64.wrap (ga+px)=ga+px:=by rw [IntKind.wrap_i64];omega
    have hl1:IntKind.i64.wrap (la+py)=la+py:=by rw [IntKind.wrap_i64];omega
    have lp:∀j:Nat,wr.heap.size<=(⟨wr.heap.size,j,none⟩:Addr).block:= λj=>Nat.le_refl _
    have b6:Below wr.heap.size wr ((((ξP.setCell ⟨wr.heap.size,3,none⟩ (.int .i64 px)).setCell ⟨wr.heap.size,4,none⟩ (.int .i64 px)).setCell ⟨wr.heap.size,5,none⟩ (.int .i64 py)).setCell ⟨wr.heap.size,6,none⟩ (.int .i64 py)):=(((bw5.setCell (lp 3) _).setCell (lp 4) _).setCell (lp 5) _).setCell (lp 6) _;have HG:=Lib.hid (And.intro hga (And.intro hla (And.intro o2 (And.intro bw5 b6))));obtain ⟨i0,hi,hz0,hz1,hz2⟩:=info_parts Lo.info53;have hVs:V.heap.size<=wr.heap.size:=HR.out.2.2.1.size;rw [hZ5];clear hZ5 b5 t5 hga hla o2 bw5 b6 lp
    go_wp2_with (at_builtin;go_must (refine wpList_append_opt rfl _ _ 23 rfl V.heap.size 53 i0 (.agg #[.int .i64 0,.slice none 0 0,.slice none 0 0,.int .i64 0,.int .i64 0,.int .i64 0,.int .i64 0]) 7 88 Lo.und23 hi hz0 hz1 hz2 rfl (by decide) sl k (cells7 v.sv (fs.take k) 0) rfl (ownsRow.below HR.out.2.1 (HG.out.2.2.2.2.alloc (by have :=HG.out.2.2.2.2.size;omega) _)) (some ⟨_,0,none⟩) 1 1 [.int .i64 s.hand,.slice (v.sv k).a1 s.ins.length (v.sv k).c1,.slice (v.sv k).a2 s.outs.length (v.sv k).c2,.int .i64 px,.int .i64 px,.int .i64 py,.int .i64 py] rfl rfl ?hn (λe=>by cases e) ?h1 (by unfold maxLen;omega) (by omega) ?hb ?_))
    case hn=>
     intro ad e;cases e
     exact World.news_of_block (t:=53) (fr:=(0,0)) (cs:= #[.int .i64 s.hand,.slice (v.sv k).a1 s.ins.length (v.sv k).c1,.slice (v.sv k).a2 s.outs.length (v.sv k).c2,.int .i64 px,.int .i64 px,.int .i64 py,.int .i64 py]) (by
      have h:=World.alloc_heap_new ((((ξP.setCell ⟨wr.heap.size,3,none⟩ (.int .i64 px)).setCell ⟨wr.heap.size,4,none⟩ (.int .i64 px)).setCell ⟨wr.heap.size,5,none⟩ (.int .i64 py)).setCell ⟨wr.heap.size,6,none⟩ (.int .i64 py)) (.cells #[.int .i64 s.hand,.slice (v.sv k).a1 s.ins.length (v.sv k).c1,.slice (v.sv k).a2 s.outs.length (v.sv k).c2,.int .i64 px,.int .i64 px,.int .i64 py,.int .i64 py] 53);simpa [World.setCell] using h)
    case h1=>
     intro u hu;simp only [List.mem_cons,List.not_mem_nil,or_false] at hu;rcases hu with rfl|rfl|rfl|rfl|rfl|rfl|rfl<;>rfl
    case hb=>
     have :=HG.out.2.2.2.2.size;rw [World.size_alloc];omega
    intro v1 w7 a1 a2;obtain ⟨g1,q1,rfl, -, -⟩:=ownsRow.shape a1 (by omega);have b6a:=HG.out.2.2.2.2.alloc HG.out.2.2.2.2.size (.cells #[.int .i64 s.hand,.slice (v.sv k).a1 s.ins.length (v.sv k).c1,.slice (v.sv k).a2 s.outs.length (v.sv k).c2,.int .i64 px,.int .i64 px,.int .i64 py,.int .i64 py] 53);have hso:∀j,sl.ownBlock=some j->V.heap.size<=j:= λj hj=>(HR.out.2.1.lt j hj).1
    have o7:w7.heap[w2.heap.size]?=_:=(a2.block _ (by have :=b6a.size;omega) (λe=>by have :=hso _ e.symm;have :=HV.out.2.2.2.2.1;omega)).trans ((b6a.block _ hpsz).trans HR.out.1)
    have d2:w7.cell? ⟨w2.heap.size,2,none⟩=some sl:=cell_of o7 2;have z7:w7.frozen? ⟨w2.heap.size,2,none⟩=false:=by unfold World.frozen?;simp only [o7];rfl
    have hgr8:V.grownBy (w7.setCell ⟨w2.heap.size,2,none⟩ (.slice (some ⟨g1,0,none⟩) (k+1) q1)) (some w2.heap.size):=
     pW (pW (pW HR.out.2.2.1 (below_grown b6a rfl none) (λj hj=>by cases hj)) a2 (λj hj=>.inl (hso j hj))) (lK w7 w2.heap.size 2 (.slice (some ⟨g1,0,none⟩) (k+1) q1)) (λj hj=>.inr hj)
    have hown8:=a1.kept (lK w7 w2.heap.size 2 (.slice (some ⟨g1,0,none⟩) (k+1) q1)) (by
     by_cases e:(Value.slice (some ⟨g1,0,none⟩) (k+1) q1).ownBlock=none
     ·exact .inl e
     ·right;intro e2;have :=(a1.lt _ e2).1;have :=HV.out.2.2.2.2.1;omega)
    have hfk:fs[k]?=some (setG s px py):=by
     rw [<-HV.out.2.2.1,fixL_get,List.getElem?_eq_getElem hlb,HR.out.2.2.2.2,Nat.zero_add, <-HK.out.2.2.1, <-HK.out.2.2.2];rfl
    have hsg:sumS fs dW.g0 (k+1)=ga+px:=by rw [sumS_succ hfk,HG.out.1];rfl
    have hsl:sumS fs dW.l0 (k+1)=la+py:=by rw [sumS_succ hfk,HG.out.2.1];rfl
    have hcc:cells7 v.sv (fs.take (k+1)) 0=cells7 v.sv (fs.take k) 0++ [.int .i64 s.hand,.slice (v.sv k).a1 s.ins.length (v.sv k).c1,.slice (v.sv k).a2 s.outs.length (v.sv k).c2,.int .i64 px,.int .i64 px,.int .i64 py,.int .i64 py]:=by
     obtain ⟨hkf,hke⟩:=List.getElem?_eq_some_iff.1 hfk;rw [List.take_succ_eq_append_getElem hkf,hke,cells7_app,List.length_take,Nat.min_eq_left (Nat.le_of_lt hkf),Nat.zero_add];rfl
    have H8:=Lib.hid (And.intro hgr8 (And.intro hown8 (And.intro hsg (And.intro hsl (And.intro hcc o7)))));clear hgr8 hown8 hsg hsl hcc o7 a1 a2 b6a;go_wp2;go_roundw
    case rel=>exact ⟨k+1,(.slice (some ⟨g1,0,none⟩) (k+1) q1),by omega,by go_num,by rw [H8.out.2.2.1],by rw [H8.out.2.2.2.1],heap_setCell_same _ _ 2 _ _ _ H8.out.2.2.2.2.2,by rw [H8.out.2.2.2.2.1];exact H8.out.2.1,H8.out.1⟩
    case measure=>simp [intOf];omega
   ·have e:n=k:=by omega
    subst e
    obtain ⟨κF,c7,rfl,hc7,hr7⟩:=ownsRow.rd (B:=wr.heap.size) (f:=Gi fs v.sv) hown (λi j hi hj=>by
     rw [List.take_of_length_le (by have :=HV.out.2.2.2.1;omega)];have h:=cells7_get v.sv fs 0 (i:=i) (j:=j) (by have :=HV.out.2.2.2.1;omega) hj;rw [Nat.zero_add] at h;exact h)
    have hr7:=hr7 n (Nat.le_refl _) (Nat.le_refl _);have hfe:fixL pk b.steps 0=fs:=HV.out.2.2.1;have hfl:fs.length=n:=HV.out.2.2.2.1;have hnn:b.steps.length=n:=HV.out.2.2.2.2.2.1
    have hbk:fC wr wr.heap.size (fixB b pk) { v with iT:=κF,cs:=c7 }:=by
     have h0:=(HA.out wr bwr).more (B':=wr.heap.size) (by have :=bwr.size;omega);refine ⟨h0.dJ,h0.dz,?_, λi s e=>?_, λi s e=>?_,h0.dA,h0.lh,h0.lp,?_,h0.lc⟩
     ·show Rd wr _ 7 κF (fixL pk b.steps 0).length (Gi (fixL pk b.steps 0) v.sv);rw [hfe,hfl];exact hr7
     ·have e:(fixL pk b.steps 0)[i]?=some s:=e
      rw [fixL_get] at e;cases e2:b.steps[i]? with
      |none=>rw [e2] at e;cases e
      |some z=>
       rw [e2] at e;obtain rfl:=Option.some.inj e;exact h0.ins i z e2
     ·have e:(fixL pk b.steps 0)[i]?=some s:=e
      rw [fixL_get] at e;cases e2:b.steps[i]? with
      |none=>rw [e2] at e;cases e
      |some z=>
       rw [e2] at e;obtain rfl:=Option.some.inj e;exact h0.outs i z e2
     ·show (fixL pk b.steps 0).length<=c7;rw [hfe,hfl];exact hc7
    have hsf:(fixB b pk).small:=by
     refine ⟨hs.dJ,hs.dz,?_,hs.dA, λs hm=>?_, λs hm=>?_⟩
     ·show (fixL pk b.steps 0).length<=64;rw [hfe,hfl];omega
     ·obtain ⟨i,e⟩:=List.getElem?_of_mem hm;have e:(fixL pk b.steps 0)[i]?=some s:=e
      rw [fixL_get] at e;cases e2:b.steps[i]? with
      |none=>rw [e2] at e;cases e
      |some z=>
       rw [e2] at e;obtain rfl:=Option.some.inj e;exact hs.ins z (List.mem_of_getElem? e2)
     ·obtain ⟨i,e⟩:=List.getElem?_of_mem hm;have e:(fixL pk b.steps 0)[i]?=some s:=e
      rw [fixL_get] at e;cases e2:b.steps[i]? with
      |none=>rw [e2] at e;cases e
      |some z=>
       rw [e2] at e;obtain rfl:=Option.some.inj e;exact hs.outs z (List.mem_of_getElem? e2)
    have hbv:Value.agg #[.slice v.ah b.dJ.length v.ch,.slice v.ap b.dz.length v.cp,.slice κF n c7,.slice v.ac b.dA.length v.cc]=dY (fixB b pk) { v with iT:=κF,cs:=c7 }:=by
     show _=Value.agg #[.slice v.ah b.dJ.length v.ch,.slice v.ap b.dz.length v.cp,.slice κF (fixL pk b.steps 0).length c7,.slice v.ac b.dA.length v.cc];rw [hfe,hfl]
    have hcf:=fix_check pk HX.out;have hbl:= λhh=>balance (b:=fixB b pk) hcf hh (fix_known pk)
    obtain ⟨F,hF⟩:∃F,fixB b pk=F:=⟨_,rfl⟩;have hFs:F.steps=fs:=by rw [<-hF];exact hfe
    have hFp:F.dz.length=b.dz.length:=by rw [<-hF];rfl
    rw [hF] at hbk hsf hbv hcf hbl;rw [hFs,hfl,hFp] at hbl;have HF:=Lib.hid (And.intro hbk (And.intro hsf (And.intro hbv (And.intro hcf (And.intro hbl (And.intro hFs (And.intro hFp (And.intro hfl c9))))))));obtain ⟨b0,b1,b2,b3⟩:=al8 c9;have HWR:=Lib.hid (And.intro bwr hgr);clear hbk hsf hbv hcf hbl hFs hFp hfl hfe hnn c9 hown hr7 hF bwr hgr;go_wp2;rw [HF.out.2.2.1];refine (Lo.masses_sp2 (b:=F) (v:={ v with iT:=κF,cs:=c7 }) rfl HF.out.1 (Nat.le_refl _) HF.out.2.1 HF.out.2.2.2.1).mono ?_
    rintro e w3 ⟨h3,hm⟩
    by_cases hh:qR F=true
    case neg=>
     rw [if_neg hh] at hm;subst hm;clear hh;go_wp2;refine (H5.out _).mono ?_
     rintro e w5 ⟨rfl,rfl⟩;go_wp2;go_ret;rfl
    rw [if_pos hh,HF.out.2.2.2.2.2.2.1] at hm;obtain ⟨A3,c3,rfl,hsp⟩:=hm;have hbal:=HF.out.2.2.2.2.1 hh;have hen:= λp (hp:p<b.dz.length)=>ends_book (b:=F) (p:=p) (by rw [HF.out.2.2.2.2.2.2.1];exact hp) hh
    have ag1:b.dz.length<=64:=hs.dz;have o3:w3.heap[w2.heap.size]?=_:=(h3.block _ (Array.getElem?_eq_some_iff.1 HF.out.2.2.2.2.2.2.2.2).1).trans HF.out.2.2.2.2.2.2.2.2
    obtain ⟨b0,b1,b2,b3⟩:=al8 o3;have bY3:Below Y.heap.size Y w3:=HWR.out.1.trans (h3.mono HWR.out.1.size);obtain ⟨f0,f1,f2,f3⟩:=al8 (HC.out w3 bY3);obtain ⟨G,hG⟩:∃G,sumS fs dW.g0 n=G:=⟨_,rfl⟩;obtain ⟨E,hE⟩:∃E,sumS fs dW.l0 n=E:=⟨_,rfl⟩;have sb1:=sumS_bd (ss:=fs) (g:=dW.g0) (λs hs=>by rw [<-HV.out.2.2.1] at hs;exact (fix_bd (CX (EP HX.out).2.2.1).2.1 s hs).1) n;have sb2:=sumS_bd (ss:=fs) (g:=dW.l0) (λs hs=>by rw [<-HV.out.2.2.1] at hs;exact (fix_bd (CX (EP HX.out).2.2.1).2.1 s hs).2) n;rw [hG] at sb1 hbal ⊢;rw [hE] at sb2 hbal ⊢;have HB3:=Lib.hid ((HF.out.1.keep λd o h=>dH h3 d o h).more h3.size);have HM:=Lib.hid (And.intro h3 (And.intro hsp (And.intro hbal (And.intro hen (And.intro o3 bY3)))));clear h3 hsp hbal hen o3 bY3 hG hE hh;go_wp2
    go_loopw [14,15,16] (λlo up i wr=>∃p:Nat,p<=b.dz.length∧i= .int .i64 (p:Int)∧lo= .int .i64 (sumU F (lO9 (p8 F)) p)∧up= .int .i64 (sumU F (hI9 (p8 F)) p)∧Below w3.heap.size w3 wr) (λ_ _ i _=>b.dz.length - (intOf i).toNat)
    case atStart=>exact ⟨0,Nat.zero_le _,rfl,rfl,rfl,Below.refl _ _⟩
    case round=>
     obtain ⟨p,hp,rfl,rfl,rfl,hbq⟩:=hrel;have l1:=sumU_bd (F:=F) (g:=lO9 (p8 F)) (n:=b.dz.length) (λq hq=>by have :=HM.out.2.2.2.1 q hq;omega) p hp;have u1:=sumU_bd (F:=F) (g:=hI9 (p8 F)) (n:=b.dz.length) (λq hq=>by have :=HM.out.2.2.2.1 q hq;omega) p hp;have lt2:w2.heap.size<w3.heap.size:=(Array.getElem?_eq_some_iff.1 HM.out.2.2.2.2.1).1;obtain ⟨b0,b1,b2,b3⟩:=al8 ((hbq.block _ lt2).trans HM.out.2.2.2.2.1);have bYq:Below Y.heap.size Y wr:=HM.out.2.2.2.2.2.trans (hbq.mono HM.out.2.2.2.2.2.size);obtain ⟨f0,f1,f2,f3⟩:=al8 (HC.out wr bYq);have HQ:=Lib.hid hbq;clear hbq bYq
     by_cases hlt:p<b.dz.length
     ·have hlt':(p:Int)<(b.dz.length:Int):=by omega
      obtain ⟨be,hen1,hen2⟩:=HM.out.2.2.2.1 p hlt;obtain ⟨bm,om,rfl,hbm,hcm⟩:=HM.out.2.1 (by omega);have c0:=(dH HQ.out bm _ hbm).trans (hcm p 0 hlt (by omega));have c1:=(dH HQ.out bm _ hbm).trans (hcm p 1 hlt (by omega));rw [show om+(p*2+0)=om+p*2 from rfl] at c0;rw [show om+(p*2+1)=om+p*2+1 from rfl] at c1;change wr.cell? _=some (.int .i64 (lO9 (p8 F) p)) at c0;change wr.cell? _=some (.int .i64 (hI9 (p8 F) p)) at c1;have su1:sumU F (lO9 (p8 F)) (p+1)=sumU F (lO9 (p8 F)) p+(if unused F p=true then lO9 (p8 F) p else 0):=rfl;have su2:sumU F (hI9 (p8 F)) (p+1)=sumU F (hI9 (p8 F)) p+(if unused F p=true then hI9 (p8 F) p else 0):=rfl;have hun:unused F p=decide (gT (p:Int) (F.steps.map dW.ins) 0<0):=rfl;have RN:=Lo.Dj (w:=wr) (n:=n) (p:=(p:Int)) (b:=F) (v:={ v with iT:=κF,cs:=c7 }) (B:=w3.heap.size) rfl (HB3.out.keep λd o h=>dH HQ.out d o h) HQ.out.size HF.out.2.1 (by rw [HF.out.2.2.2.2.2.1,HF.out.2.2.2.2.2.2.2.1];exact Nat.le_refl _);rw [List.take_of_length_le (by rw [HF.out.2.2.2.2.2.1,HF.out.2.2.2.2.2.2.2.1];exact Nat.le_refl _)] at RN;generalize gT (p:Int) (F.steps.map dW.ins) 0=fh at hun RN;rw [hun] at su1 su2;generalize sumU F (lO9 (p8 F)) p=sl at su1 l1;generalize sumU F (hI9 (p8 F)) p=sh at su2 u1;generalize lO9 (p8 F) p=lo at c0 su1 be hen1;generalize hI9 (p8 F) p=up at c1 su2 hen1 hen2;have hw1:IntKind.i64.wrap (sl+lo)=sl+lo:=by rw [IntKind.wrap_i64];omega
      have hw2:IntKind.i64.wrap (sh+up)=sh+up:=by rw [IntKind.wrap_i64];omega
      have hbm':bm<wr.heap.size:=by have :=HQ.out.size;omega
      by_cases hfh:fh<0
      ·rw [decide_eq_true hfh,if_pos rfl] at su1 su2;have HU:=Lib.hid (And.intro su1 (And.intro su2 RN));clear su1 su2 RN hun hcm
       go_wp2_with (go_at_call 32;rw [HF.out.2.2.1];refine HU.out.2.2.mono ?_;rintro e w5 ⟨rfl,h5⟩;have c0:=(dH h5 bm _ hbm').trans c0;have c1:=(dH h5 bm _ hbm').trans c1;have H5b:=Lib.hid h5;clear h5)
       go_quiet (fail)
       go_wp2;go_roundw
       case rel=>exact ⟨p+1,by omega,by go_num,by rw [HU.out.1],by rw [HU.out.2.1],below_drewN (HQ.out.trans (H5b.out.mono HQ.out.size)) _⟩
       case measure=>simp [intOf];omega
      ·rw [decide_eq_false hfh,if_neg (by decide),Int.add_zero] at su1 su2;have HU:=Lib.hid (And.intro su1 (And.intro su2 RN));clear su1 su2 RN hun hcm
       go_wp2_with (go_at_call 32;rw [HF.out.2.2.1];refine HU.out.2.2.mono ?_;rintro e w5 ⟨rfl,h5⟩;have H5b:=Lib.hid h5;clear h5)
       go_roundw
       case rel=>exact ⟨p+1,by omega,by go_num,by rw [HU.out.1],by rw [HU.out.2.1],HQ.out.trans (H5b.out.mono HQ.out.size)⟩
       case measure=>simp [intOf];omega
     ·obtain rfl:p=b.dz.length:=by omega
      obtain ⟨ba1,ba2⟩:=HM.out.2.2.1;generalize sumU F (lO9 (p8 F)) b.dz.length=sl at ba1 l1;generalize sumU F (hI9 (p8 F)) b.dz.length=sh at ba2 u1;have hw:IntKind.i64.wrap (G - E)=G - E:=by rw [IntKind.wrap_i64];omega
      have hd1:decide (sl<=G - E)=true:=decide_eq_true ba1;have hd2:decide (G - E<=sh)=true:=decide_eq_true ba2;go_wp2;refine (H5.out _).mono ?_
      rintro e w5 ⟨rfl,rfl⟩;go_wp2;go_ret;rfl
end Go.Proofs
end
section
namespace Go.Proofs.YtnemnkmojiljmaaGreat
open Go Go.RowKit Go.ChangeShapes Go.WideShapes Go.ChangeAt Go.Conc Go.ConcM Par Go.Proofs.Tryz
theorem bal_lone {w:World} {B:Nat} {b:dO} {v:gJ} {A:Option Addr} {pk:List Int} {cp:Nat} (hb:fC w B b v) (hB:B<=w.heap.size) (hc:GG b v) (hp:RdU w B A pk) (hu:U16 pk):
 Calls jY 7 #[dY b v,.slice A pk.length cp] w λe _=>e= .returned (.bool true):=by
 rw [<-ZF];letI:=TP;exact Lo.tbal_any as8 hb hB hc hp hu
theorem params7_ok:(Tryz.f7.params.toList.all λt=>Tryz.prog.readableRec t&&decide (t<Tryz.prog.types.size))=true:=by kernel_rfl
theorem results7_one:Tryz.f7.resultTypes= #[4]:=by kernel_rfl
theorem s0_7:S0 7=true:=by kernel_rfl
theorem q7:Tryz.prog.funcs[7]?=jY.funcs[7]?:=by unfold jY;exact (zg Tryz.prog _ (by decide)).symm
theorem bal_lifted (os:Os) (started:os.Started) (H:Type) (enc:TypeId×Value->H) (F:Stop.Interp):
 ReturnsInLeavingWide Rows.threadBalanceRow.assume Tryz.checked os 7 .any (Rows.threadBalanceSpec.pre6 enc Tryz.prog Tryz.f7 Rows.threadBalanceRow.domain false) ((OpenSpec.ofChange Rows.threadBalanceSpec).postWith enc Tryz.prog Tryz.f7 F (outsideKept [.timePasses]) false true false):=by
 refine PR (C:=Tryz.checked) Tryz.knob started Tryz.func7
  (ChangeSpec.witness6c (enc:=enc) (C:=Tryz.checked) ⟨#[],#[.agg #[.slice none 0 0,.slice none 0 0,.slice none 0 0,.slice none 0 0],.slice none 0 0],[]⟩ 8 (by kernel_rfl) (by kernel_rfl) (by kernel_rfl) (by kernel_rfl)) ?_
 intro W base args ds gs before hsh hval0 hW _;have hval:∀(j:Nat) t v,Tryz.f7.params[j]?=some t->args[j]?=some v->Value.okWide Tryz.prog W .any base t v:=hval0
 have hW':=hW;obtain ⟨p,q,hA0,hV,rfl,hfz,_⟩:=hW;have hA:DataW.TrodAll enc Tryz.prog W 0 (λ_=>true) true Tryz.f7.params.toList args.toList ds p:=hA0;have hAk:=hA;rw [Tryz.params7] at hA hval;obtain ⟨rfl,rfl⟩:=trodVars_none hV;obtain ⟨l⟩:=args;obtain ⟨v0,vs1,d0,ds1,p0,q1,e0,rfl,rfl,h0,hA⟩:=trodAll_cons hA;obtain ⟨v3,vs2,d1,ds2,p1,q2,rfl,rfl,rfl,h3,hA⟩:=trodAll_cons hA;obtain ⟨rfl,rfl,rfl⟩:=trodAll_nil hA;have e0:l= [v0,v3]:=e0;subst e0;obtain ⟨_,h0⟩:=h0;obtain ⟨A3,n3,c3,rfl⟩:=okWide_slice Tryz.underlying43 (hval 1 43 v3 rfl rfl);obtain ⟨_,h3⟩:=h3;obtain ⟨_,_,_,e,s3⟩:=Vb Tryz.underlying43 al9 (by omega) av0 h3;obtain ⟨rfl,rfl,rfl⟩:A3=_∧n3=_∧c3=_:=by simpa [Value.cells] using e
 obtain ⟨s⟩:=aa1 (hval 0 26 v0 rfl rfl) h0;obtain ⟨o,ho,hodd⟩:=ZK hsh;obtain ⟨D3,r3,t3,i3⟩:=s3.flat (by omega) ar9 ho hodd
 obtain ⟨picks,l3,g3,hu⟩:∃picks:List Int,picks.length=n3∧(∀i j,i<n3->j<1->D3 i j=u16At picks i j)∧U16 picks:=
  ⟨(List.range n3).map λi=>intOf (D3 i 0),by simp, λi j hi hj=>by
    obtain ⟨m,hm,_⟩:=r3 i j hi hj;obtain rfl:j=0:=by omega
    simp [u16At,hi,hm,intOf], λx hx=>by
    obtain ⟨i,hi,rfl⟩:=List.mem_map.1 hx;obtain ⟨m,hm,hw⟩:=r3 i 0 (by simpa using hi) (by omega);rw [hm];simp [Lit.wf,IntKind.min,IntKind.max,IntKind.signed,IntKind.bits] at hw;simp only [intOf];omega⟩
 subst l3;obtain ⟨b,bv,M,hcap,hM⟩:=am1 ho hodd s;obtain ⟨L,hL⟩:∃L,L=M++ [partOf A3 c3 (nS picks.length 1 D3)]:=⟨_,rfl⟩;obtain ⟨hlies,hvs,hrv,hat⟩:=hM L [partOf A3 c3 (nS picks.length 1 D3)] hL;have k0:L[M.length]?=some (partOf A3 c3 (nS picks.length 1 D3)):=by rw [hL,List.getElem?_append_right (Nat.le_refl _),Nat.sub_self];rfl
 have hll:∀x∈L,x.h=false->U9 L Tryz.prog.types.size W x:= λx hx hh=>by
  rw [hL] at hx;rcases List.mem_append.1 hx with hx|hx
  ·exact hlies x hx hh
  ·simp only [List.mem_cons,List.not_mem_nil,or_false] at hx;subst hx;exact (i3 L _).lies (rP t3).2 hh
 refine am0 hsh (L:=L) s0_7 q7 hll (args:= #[dY b bv,.slice (qy (M.length+1) A3) picks.length c3]) ?_ ?_ (λτ=>?_) λW' t1 t2 t3 t4 t5=>⟨?_,t3⟩
 ·intro v hv;simp only [List.mem_toArray,List.mem_cons,List.not_mem_nil,or_false] at hv;rcases hv with rfl|rfl
  ·exact hvs _ _ _
  ·exact rO (i3 L Tryz.prog.types.size).part k0 s3.le
 ·have e3:=rM (bad:=Tryz.prog.types.size) (i3 L Tryz.prog.types.size).part k0;simp only [List.map_toArray,List.map_cons,List.map_nil,fD];rw [hrv,e3]
 ·have x3:=Fs k0 (i3 L Tryz.prog.types.size) (by omega) τ;exact bal_lone (hat τ) (Nat.le_refl _) hcap (x3.conv g3) hu
 ·have hbel:Below W.heap.size W { W' with os:=W.os }:=⟨rfl,t1,t2,t4,t5⟩;refine ⟨_,_,_,[],_,[],hW',?_,Ei Tryz.laid hbel (λt ht=>?_) hAk (DataW.TrodAll.lt hAk),rfl,hbel.frame _, λh=>by cases h⟩
  ·show DataW.TrodAll enc Tryz.prog _ _ _ _ Tryz.f7.resultTypes.toList _ _ _;rw [results7_one];exact trodAll_mk1 (shut_bool Tryz.underlying4 true)
  ·have :=List.all_eq_true.1 params7_ok t ht;simpa using this
theorem threadBalance_holds:Rows.ThreadBalanceSaid:=
 OpenClaim.holds_of_wide_leaving_time 7 Tryz.f7 rfl rfl rfl rfl rfl rfl rfl ⟨rfl,rfl,rfl,rfl,rfl⟩ rfl rfl rfl rfl rfl (by kernel_rfl) Tryz.func7 (by kernel_rfl)
  (of_decide_eq_true (by kernel_rfl)) (by unfold Func.isWrapper;first |(rw [if_pos (by decide+kernel)];kernel_rfl)|(rw [if_neg (by decide+kernel)];exact ⟨rfl,rfl⟩))
  (λos started H enc _ F=>bal_lifted os started H enc F)
end Go.Proofs.YtnemnkmojiljmaaGreat
end
