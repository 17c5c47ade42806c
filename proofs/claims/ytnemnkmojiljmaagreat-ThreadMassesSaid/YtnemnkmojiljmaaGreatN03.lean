/- Part 3. -/
import Derived.Test.YtnemnkmojiljmaaGreatN01
import Derived.Test.YtnemnkmojiljmaaGreatN02
set_option maxRecDepth 100000
set_option maxHeartbeats 0
set_option linter.all false
namespace Go.Proofs
open Go Go.RowKit Go.Maps
variable [Lo.St]
theorem fl1_sh {s k:Nat} {θN:Int} (x:eX) (n:Int×Int) (h:(k:Int)≠θN):(fl1 s θN k x n).2 - (fl1 s θN k x n).1=n.2 - n.1+OJ s 0 x:=by
 have h1:=KG s x.fr;have h2:=KG s x.to;unfold fl1 OJ kJ;rw [if_neg h];split
 ·rw [if_neg (by rw [if_neg (by omega),if_neg (by omega)];decide),if_neg (by rw [if_neg (by omega),if_neg (by omega)];decide)];omega
 ·split
  ·rw [if_pos (by rw [if_pos (by omega)])];dsimp only;omega
  ·rw [if_neg (by rw [if_neg (by omega),if_pos (by omega)];decide),if_pos (by rw [if_neg (by omega),if_pos (by omega)])];dsimp only;omega
theorem flow_wo {ss:List eX} {k:Nat} {x:eX} (hx:ss[k]?=some x) (s:Nat):∀j,j<=ss.length->(flAt ss s k j).2 - (flAt ss s k j).1=gM (ss.take j) s - if k<j then OJ s 0 x else 0
 |0,_=>by simp [flAt,gM]
 |j+1,hj=>by
  have ih:=flow_wo hx s j (by omega);rw [KH ss s j (by omega),sh1_add]
  have e:flAt ss s k (j+1)=fl1 s k j ss[j] (flAt ss s k j):=by
   show (match ss[j]? with |some x=>_|none=>_)=_;rw [List.getElem?_eq_getElem (by omega)]
  rw [e]
  by_cases q:j=k
  ·subst q;rw [List.getElem?_eq_getElem (by omega)] at hx;have hx:=Option.some.inj hx;have e2:fl1 s (j:Int) j ss[j] (flAt ss s j j)=flAt ss s j j:=by unfold fl1;rw [if_pos rfl]
   rw [e2,ih,if_neg (by omega),if_pos (by omega),hx];omega
  ·rw [fl1_sh _ _ (by omega),ih]
   by_cases q2:k<j
   ·rw [if_pos q2,if_pos (by omega)];omega
   ·rw [if_neg q2,if_neg (by omega)];omega
theorem flow_wo' {ss:List eX} {k:Nat} {x:eX} (hx:ss[k]?=some x) (s:Nat):(flAt ss s k ss.length).2 - (flAt ss s k ss.length).1=gM ss s - OJ s 0 x:=by
 have :=flow_wo hx s ss.length (Nat.le_refl _)
 rwa [List.take_length,if_pos (List.getElem?_eq_some_iff.1 hx).1] at this
theorem sets_step {ss:List eX} {k:Nat} {x:eX} (hx:ss[k]?=some x) (m:Nat):lowAt (nA ss (m+1)) k=loS ss m x (lowAt (nA ss m) k)∧highAt (nA ss (m+1)) k=hiS ss m x (highAt (nA ss m) k):=by
 obtain ⟨h1,h2⟩:=rowTo_at (s:=m) (o:=nA ss m) (pV ss m) hx ss.length (Nat.le_refl _);have hk:=(List.getElem?_eq_some_iff.1 hx).1;rw [if_pos hk] at h1 h2;exact ⟨h1,h2⟩
theorem span_step {ss:List eX} {k:Nat} {x:eX} (hx:ss[k]?=some x) (m:Nat):
 (lowAt (nA ss (m+1)) k=if decide (bit m x.fr=1)=false∧decide (bit m x.to=1)=true then max (lowAt (nA ss m) k) ((flAt ss m k ss.length).2 - (flAt ss m k ss.length).1) else lowAt (nA ss m) k)∧
 (highAt (nA ss (m+1)) k=if decide (bit m x.fr=1)=true∧decide (bit m x.to=1)=false then min (highAt (nA ss m) k) ((flAt ss m k ss.length).1 - (flAt ss m k ss.length).2) else highAt (nA ss m) k):=by
 obtain ⟨h1,h2⟩:=sets_step hx m;have hf:=flow_wo' hx m;have b1:=KG m x.fr;have b2:=KG m x.to;rw [h1,h2];unfold loS hiS;simp only [decide_eq_true_eq,decide_eq_false_iff_not];unfold OJ at hf
 have s1:kJ m x.fr x.to=1↔(¬bit m x.fr=1∧bit m x.to=1):=by
  unfold kJ
  by_cases q:bit m x.fr<bit m x.to
  ·rw [if_pos q];exact ⟨λ_=>by omega, λ_=>rfl⟩
  ·rw [if_neg q];exact ⟨λh=>(by split at h<;>cases h), λh=>by omega⟩
 have s2:kJ m x.fr x.to=2↔(bit m x.fr=1∧¬bit m x.to=1):=by
  unfold kJ
  by_cases q:bit m x.fr<bit m x.to
  ·rw [if_pos q];exact ⟨λh=>(by cases h), λh=>by omega⟩
  ·rw [if_neg q]
   by_cases q2:bit m x.fr > bit m x.to
   ·rw [if_pos q2];exact ⟨λ_=>by omega, λ_=>rfl⟩
   ·rw [if_neg q2];exact ⟨λh=>(by cases h), λh=>by omega⟩
 by_cases q1:kJ m x.fr x.to=1
 ·have q2:¬kJ m x.fr x.to=2:=by rw [q1];decide
  rw [if_pos q1] at hf;rw [if_pos q1,if_neg q2,if_pos (s1.1 q1),if_neg (λh=>q2 (s2.2 h))];exact ⟨by rw [show gM ss m+x.hi=(flAt ss m k ss.length).2 - (flAt ss m k ss.length).1 by omega],rfl⟩
 ·rw [if_neg q1] at hf;rw [if_neg q1,if_neg (λh=>q1 (s1.2 h))]
  by_cases q2:kJ m x.fr x.to=2
  ·rw [if_pos q2] at hf;rw [if_pos q2,if_pos (s2.1 q2)];exact ⟨rfl,by rw [show x.lo - gM ss m=(flAt ss m k ss.length).1 - (flAt ss m k ss.length).2 by omega]⟩
  ·rw [if_neg q2,if_neg (λh=>q2 (s2.2 h))];exact ⟨rfl,rfl⟩
theorem Lo.rspan_any {w:World} {B:Nat} {ss:List eX} {A:Option Addr} {cap nd k:Nat} (hr:RdW w B A ss) (hok:∀x∈ss,x.ok) (hl:ss.length<=64) (hB:B<=w.heap.size) (hnd:nd<=16) (hk:k<ss.length):
 Calls Lo.prog 45 #[.slice A ss.length cap,.int .i64 (nd:Int),.int .i64 (k:Int)] w λe w'=>e= .returned (.agg #[.int .i64 (lowAt (mG ss nd) k),.int .i64 (highAt (mG ss nd) k)])∧Below w.heap.size w w':=by
 obtain ⟨U,U2,U3,U4,U5,U6⟩:=Lo.facts;have C:=Lo.call Tryz.func81;have hp:(2:Nat) ^ nd<=2 ^ 16:=Nat.pow_le_pow_right (by decide) hnd;have hsh:=wrap_shl nd hnd;have hk':(k:Int)<(ss.length:Int):=by omega
 have HR:=Lib.hid hr;obtain ⟨bb,off,rfl,hbb,hc⟩:=hr (by omega);obtain ⟨r0,r1,r2,r3⟩:=rd_way hc hk;have hxk:ss[k]?=some ss[k]:=List.getElem?_eq_getElem hk
 have hxo:=hok ss[k] (List.getElem_mem hk);generalize ss[k]=x at r0 r1 r2 r3 hxk hxo;obtain ⟨lo,hi,fr,to⟩:=x;obtain ⟨x1,x2,x3,x4,x5,x6⟩:=hxo;simp only at r0 r1 r2 r3 x1 x2 x3 x4 x5 x6;have r3:w.cell? ⟨bb,off+k*4+2+1,none⟩=some (.int .i64 hi):=r3;have hbw:bb<w.heap.size:=by omega
 have i0:=initTo_at hxk ss.length (Nat.le_refl _) hk;have HX:=Lib.hid (And.intro hxk (And.intro hok i0));clear hc hxk hok i0;go_enter Lo.get Tryz.func45,Tryz.ntmps45;go_wp2;obtain ⟨Y,hY⟩:∃Y,(w.alloc (.cells #[.int .i64 0,.int .i64 0] 51)).alloc (.cells #[.int .i64 lo,.int .i64 hi] 51)=Y:=⟨_,rfl⟩
 have y1:Y.heap[w.heap.size]?=some (.cells #[.int .i64 0,.int .i64 0] 51):=by
  rw [<-hY,Below.heap_alloc _ _ _ (by simp)];exact World.alloc_heap_new _ _
 have y2:Y.heap[w.heap.size+1]?=some (.cells #[.int .i64 lo,.int .i64 hi] 51):=by
  rw [<-hY,show w.heap.size+1=(w.alloc (.cells #[.int .i64 0,.int .i64 0] 51)).heap.size by simp];exact World.alloc_heap_new _ _
 have bY:Below w.heap.size w Y:=hY ▸ ((Below.refl _ _).alloc (Nat.le_refl _) _).alloc (by simp) _;have sY:Y.heap.size=w.heap.size+2:=by rw [<-hY];simp
 rw [hY];have HY:=Lib.hid (And.intro y1 (And.intro y2 bY));clear hY y1 y2 bY;have hmm:nA ss (2 ^ nd)=mG ss nd:=rfl;have HM:=Lib.hid hmm;clear hmm;generalize hm:2 ^ nd=m at hp hsh HM
 go_loopw [8] (λi wr=>∃s:Nat,s<=m∧i= .int .i64 (s:Int)∧wr.heap[w.heap.size+1]?=some (.cells #[.int .i64 (lowAt (nA ss s) k),.int .i64 (highAt (nA ss s) k)] 51)∧Below (w.heap.size+1) Y wr) (λi _=>m - (intOf i).toNat)
 case atStart=>exact ⟨0,Nat.zero_le _,rfl,by show _=some (Obj.cells #[.int .i64 (lowAt (nY ss ss.length) k),.int .i64 (highAt (nY ss ss.length) k)] 51);rw [HX.out.2.2.1,HX.out.2.2.2];exact HY.out.2.1,Below.refl _ _⟩
 case round=>
  obtain ⟨s,hs,rfl,hxb,hb⟩:=hrel;obtain ⟨q0,q1,z0,z1⟩:=box2 hxb
  by_cases hlt:s<m
  ·have hlt':(s:Int)<(m:Int):=by omega
   have bw:Below w.heap.size w wr:=HY.out.2.2.trans (hb.mono (by omega));replace r0:=(dH bw bb _ hbw).trans r0;replace r1:=(dH bw bb _ hbw).trans r1;have Z5:B<=wr.heap.size:=Nat.le_trans hB bw.size;have OQ:s<2 ^ 63:=by omega
   have hw:= λW (hW:Below w.heap.size w W)=>Lo.rflow_any (w:=W) (s:=s) (cap:=cap) (θN:=(k:Int)) (HR.out.keep λb o h=>dH hW b o (by omega)) HX.out.2.1 hl (Nat.le_trans hB hW.size) OQ
   have hst:=span_step HX.out.1 s;have hbd:=flAt_bd HX.out.2.1 s (k:Int) ss.length;have e1:=bit_mod s fr;have e2:=bit_mod s to;simp only at hst;generalize flAt ss s (k:Int) ss.length=d at hw hst hbd;generalize lowAt (nA ss s) k=l at hst q0 hxb;generalize highAt (nA ss s) k=h at hst q1 hxb;generalize decide (bit s fr=1)=bf at hst e1;generalize decide (bit s to=1)=bt at hst e2;obtain ⟨d0,d1⟩:=d;simp only at hst hbd hw;obtain ⟨n1,n2,n3,n4⟩:=hbd;have w1:IntKind.i64.wrap (d0 - d1)=d0 - d1:=by rw [IntKind.wrap_i64];omega
   have w2:IntKind.i64.wrap (d1 - d0)=d1 - d0:=by rw [IntKind.wrap_i64];omega
   have HE:=Lib.hid (And.intro e1 e2);have HW:=Lib.hid hw;have HB:=Lib.hid (And.intro hb (And.intro hxb bw));have HS:=Lib.hid hst;have hwr:w.heap.size+1<wr.heap.size:=by have :=hb.size;omega
   clear e1 e2 hw hb hxb bw hst q0 q1 z0 z1 r2 r3;go_wp2
   go_quiet (fail)
   rw [HE.out.1,HE.out.2];obtain ⟨V,hV⟩:∃V,wr.drewN nq=V:=⟨_,rfl⟩;have bV:Below wr.heap.size wr V:=hV ▸ below_drewN (Below.refl _ _) _;rw [hV];clear hV;have bwV:Below w.heap.size w V:=HB.out.2.2.trans (bV.mono HB.out.2.2.size);have bYV:Below (w.heap.size+1) Y V:=HB.out.1.trans (bV.mono (by omega));have hxV:V.heap[w.heap.size+1]?=_:=(bV.block _ hwr).trans HB.out.2.1
   have HV:=Lib.hid (And.intro bwV (And.intro bYV hxV));clear bwV bYV hxV bV HB;cases bf<;>cases bt
   ·go_wp2_with (go_at_call 81;refine (HW.out V HV.out.1).mono ?_;rintro e V2 ⟨rfl,hb2⟩)
    go_roundw
    case rel=>exact ⟨s+1,by omega,by go_num,by rw [HS.out.1,HS.out.2];exact (hb2.block _ (by have :=HV.out.2.1.size;omega)).trans HV.out.2.2,HV.out.2.1.trans (hb2.mono (by have :=HV.out.2.1.size;omega))⟩
    case measure=>simp [intOf];omega
   ·go_wp2_with (go_at_call 81;refine (HW.out V HV.out.1).mono ?_;rintro e V2 ⟨rfl,hb2⟩;have hx2:=(hb2.block _ (by have :=HV.out.2.1.size;omega)).trans HV.out.2.2;obtain ⟨q0,q1,z0,z1⟩:=box2 hx2;have H2:=Lib.hid (And.intro hb2 hx2);clear hb2 hx2)
    rw [show (if l<d1 - d0 then d1 - d0 else l)=max l (d1 - d0) by split<;>omega];go_roundw
    case rel=>exact ⟨s+1,by omega,by go_num,by rw [HS.out.1,HS.out.2];exact heap_setCell_same _ _ 0 _ _ _ H2.out.2,(HV.out.2.1.trans (H2.out.1.mono (by have :=HV.out.2.1.size;omega))).setCell (p:=⟨w.heap.size+1,0,none⟩) (Nat.le_refl _) _⟩
    case measure=>simp [intOf];omega
   ·go_wp2_with (go_at_call 81;refine (HW.out V HV.out.1).mono ?_;rintro e V2 ⟨rfl,hb2⟩;have hx2:=(hb2.block _ (by have :=HV.out.2.1.size;omega)).trans HV.out.2.2;obtain ⟨q0,q1,z0,z1⟩:=box2 hx2;have H2:=Lib.hid (And.intro hb2 hx2);clear hb2 hx2)
    rw [show (if d0 - d1<h then d0 - d1 else h)=min h (d0 - d1) by split<;>omega];go_roundw
    case rel=>exact ⟨s+1,by omega,by go_num,by rw [HS.out.1,HS.out.2];exact heap_setCell_same _ _ 1 _ _ _ H2.out.2,(HV.out.2.1.trans (H2.out.1.mono (by have :=HV.out.2.1.size;omega))).setCell (p:=⟨w.heap.size+1,1,none⟩) (Nat.le_refl _) _⟩
    case measure=>simp [intOf];omega
   ·go_wp2_with (go_at_call 81;refine (HW.out V HV.out.1).mono ?_;rintro e V2 ⟨rfl,hb2⟩)
    go_roundw
    case rel=>exact ⟨s+1,by omega,by go_num,by rw [HS.out.1,HS.out.2];exact (hb2.block _ (by have :=HV.out.2.1.size;omega)).trans HV.out.2.2,HV.out.2.1.trans (hb2.mono (by have :=HV.out.2.1.size;omega))⟩
    case measure=>simp [intOf];omega
  ·obtain rfl:s=m:=by omega
   rw [HM.out] at hxb q0 q1;have yr:wr.heap[w.heap.size]?=_:=(hb.block _ (by omega)).trans HY.out.1
   obtain ⟨y10,y11,z2,z3⟩:=box2 yr;have HZ:=Lib.hid (And.intro hb yr);clear hb hxb yr;go_wp2;obtain ⟨Z,hZ⟩:∃Z,(wr.setCell ⟨w.heap.size,0,none⟩ (.int .i64 (lowAt (mG ss nd) k))).setCell ⟨w.heap.size,1,none⟩ (.int .i64 (highAt (mG ss nd) k))=Z:=⟨_,rfl⟩;obtain ⟨v0,v1, -, -⟩:=box2 (hZ ▸ set2 HZ.out.2);rw [hZ];have hf:Tryz.f45.results= #[ResultVar.cell 6 51]:=by unfold Tryz.f45;rfl
   refine bodyPost_ret (v:=.agg #[.int .i64 (lowAt (mG ss nd) k),.int .i64 (highAt (mG ss nd) k)]) ?_ rfl ⟨rfl,?_⟩
   ·simp [results,hf,go_sem,U,U2,U3,U4,U5,U6,v0,v1]
   ·rw [<-hZ];exact ((HY.out.2.2.trans (HZ.out.1.mono (by omega))).setCell (p:=⟨w.heap.size,0,none⟩) (Nat.le_refl _) _).setCell (p:=⟨w.heap.size,1,none⟩) (Nat.le_refl _) _
end Go.Proofs
