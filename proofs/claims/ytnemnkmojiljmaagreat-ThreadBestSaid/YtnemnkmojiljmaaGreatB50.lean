/- Part 50. -/
import Derived.Laws.AppendOwnNone
import Derived.Test.YtnemnkmojiljmaaGreatB12
import Derived.Test.YtnemnkmojiljmaaGreatB45
import Derived.Test.YtnemnkmojiljmaaGreatB49
set_option maxRecDepth 100000
set_option maxHeartbeats 0
set_option linter.all false
section
namespace Go.Proofs
open Go Go.RowKit Go.Maps
def Kq (l:List Int) (h:Int):Prop:=(∀x∈l,x<=h)∧(h=0∨h∈l)∧∀x∈l,0<=x
theorem ME:∀(l:List Int) (a:Int),zP l a=a∨zP l a∈l
 | [],a=>.inl rfl
 |y::l,a=>by
  rcases ME l (max a y) with h|h
  ·have h2:zP (y::l) a=max a y:=h;rw [h2];rcases Int.le_total a y with h3|h3
   ·exact .inr (by rw [Int.max_eq_right h3];exact aQ)
   ·exact .inl (Int.max_eq_left h3)
  ·exact .inr (aR _ h)
theorem Kq.hours {dK:List (Int×Int)} {cs:List (Int×Int×Int)} {l:List Nat} {h:Int} (hc:1<=cs.length) (ht:Kq (nD dK cs l) h):h=gI dK cs l:=by
 have hlen:(nD dK cs l).length=cs.length:=by simp [nD]
 have h0:(nD dK cs l)[0]?=some ((nD dK cs l)[0]'(by omega)):=aO (by omega)
 have hm:gI dK cs l∈nD dK cs l:=by
  unfold gI;rcases ME (nD dK cs l) (((nD dK cs l)[0]?).getD 0) with h1|h1
  ·rw [h1,h0];exact aY _
  ·exact h1
 have hge:=(OZ (nD dK cs l) (((nD dK cs l)[0]?).getD 0)).2;have h1:=ht.1 _ hm;rcases ht.2.1 with h2|h2
 ·have :=ht.2.2 _ hm;omega
 ·have :=hge _ h2;have :h<=gI dK cs l:=this;omega
theorem Kq.step {l:List Int} {h b:Int} {x:Nat} (ht:Kq l h) (hx:x<l.length) (hb:l[x]<=b):Kq (l.set x b) (max h b):=by
 have h0:=ht.2.2 _ (aY hx);refine ⟨λy hy=>?_,?_, λy hy=>?_⟩
 ·rcases List.mem_or_eq_of_mem_set hy with h1|rfl
  ·have :=ht.1 _ h1;omega
  ·omega
 ·by_cases h1:h<=b
  ·rw [Int.max_eq_right h1];exact .inr (List.mem_iff_getElem.2 ⟨x,by simpa using hx,by simp⟩)
  ·rw [Int.max_eq_left (by omega)];rcases ht.2.1 with h2|h2
   ·exact .inl h2
   ·obtain ⟨j,hj,e⟩:=List.mem_iff_getElem.1 h2;refine .inr (List.mem_iff_getElem.2 ⟨j,by simpa using hj,?_⟩);rw [List.getElem_set,aa (λe2=>by subst e2;omega)];exact e
 ·rcases List.mem_or_eq_of_mem_set hy with h1|rfl
  ·exact ht.2.2 _ h1
  ·omega
theorem Kq.start (n:Nat):Kq (List.replicate n 0) 0:=⟨λx hx=>by rw [(List.mem_replicate.1 hx).2];omega,.inl rfl, λx hx=>by rw [(List.mem_replicate.1 hx).2];omega⟩
end Go.Proofs
namespace Go.Proofs
open Go Go.RowKit Go.Maps
variable [Lo.St]
theorem Lo.Ju {w:World} {B:Nat} {dK:List (Int×Int)} {cs:List (Int×Int×Int)} {d:List Nat} {A1 A2 A3:Option Addr} {c1 c2 c3:Nat} {limit:Int} (h1:RS w B A1 dK) (h2:RU w B A2 cs) (h3:BJ w w.heap.size A3 (nums d)) (hB:B<=w.heap.size) (g:GoodS dK cs limit) (hd:uJ dK.length cs.length d):
 Calls Lo.prog 37 #[.slice A1 dK.length c1,.slice A2 cs.length c2,.slice A3 d.length c3] w λe w'=>e= .returned (.tuple #[.int .i64 (gI dK cs d),.int .i64 (kX dK cs d)])∧Below w.heap.size w w':=by
 obtain ⟨U,U2,U3,U4,U5,U6⟩:=Lo.facts;have nl:=g.nl;obtain ⟨nc1,nc2⟩:=g.nc;have M:=Lo.run_make cs.length (by omega);have HR:=dw (aM h1 (aM h2 (aM h3 (aM g hd))));have hdl:=hd.1;rw [hdl];clear h1 h2 h3 g hd;go_enter Lo.func37,Tryz.ntmps37;go_wp2
 go_loopw [9,10,11] (λa b i wr=>∃(k:Nat) (h:Int),k<=dK.length∧a= .int .i64 h∧b= .int .i64 (kr dK cs d k)∧i= .int .i64 (k:Int)∧Kq (nE dK cs d k) h∧wr.heap[w.heap.size]?=some (LI (nE dK cs d k))∧Below w.heap.size w wr∧w.heap.size+1<=wr.heap.size) (λ_ _ i _=>dK.length - (intOf i).toNat)
 case atStart=>
  refine ⟨0,0,bn _,rfl,by rw [xK],rfl,by rw [AV];exact Kq.start _,by rw [AV];exact cK _ _,(di _ _).alloc (aJ _) _,by rw [World.size_alloc];exact aJ _⟩
 case round=>
  obtain ⟨k,h,hk,rfl,rfl,rfl,htop,hbz,hbel,hsz⟩:=hrel
  by_cases hlt:k<dK.length
  ·have hlt':(k:Int)<(dK.length:Int):=by omega
   obtain ⟨r1,r2,r3,g,hd⟩:=HR.out;have hkd:k<d.length:=by rw [hd.1];exact hlt
   have hxm:=hd.2 _ (aY hkd);obtain ⟨lb,lo,rfl,hlb,hlc⟩:=r1 (by omega);obtain ⟨cb,co,rfl,hcb,hcc⟩:=r2 (by omega);obtain ⟨db,dd,rfl,hdb,hdc⟩:=r3 (by rw [jT];omega);have k4:=Fb hdc (k:=k) (by rw [jT];exact hkd);rw [zB hkd] at k4;have hbs:=FK cs hlt hkd;have hys:=tV cs hlt hkd;obtain ⟨x,hx⟩:∃x,d[k]=x:=⟨_,rfl⟩;rw [hx] at hxm k4 hbs hys;have bnd:=g.bnd hd k hk;have WS:=bnd.2 x;have u1:=g.zZ hlt hxm;have u2:=g.up2 hlt hxm;have u3:=g.up3 hlt hxm;have WT:=g.lot _ (aY hlt);have O4:=g.ZO _ (aY hxm);have O5:=g.errs _ (aY hxm);have k1:=(FH hlc hlt).2;have k2:=(xJ hcc hxm).1;have k2':=(xJ hcc hxm).2.1;have k3:=(xJ hcc hxm).2.2
   have FN:(nE dK cs d k)[x]'(by rw [jr];exact hxm)=kW (dK.take k) cs (d.take k) x:=by
    have :=y7 dK cs d k hxm;rw [aO (by rw [jr];exact hxm)] at this;exact aU this
   rw [aO hxm,ak] at u1 u2 u3 hbs hys;have CO:=htop.step (x:=x) (b:=(kW (dK.take k) cs (d.take k) x)+yx dK[k].2 cs[x].1) (by rw [jr];exact hxm) (by rw [FN];omega);obtain ⟨lh,hh⟩:∃lh,dK[k].2=lh:=⟨_,rfl⟩;obtain ⟨p,hp⟩:∃p,cs[x].1=p:=⟨_,rfl⟩;obtain ⟨ea,Yl⟩:∃ea,cs[x].2.1=ea:=⟨_,rfl⟩;obtain ⟨er,her⟩:∃er,cs[x].2.2=er:=⟨_,rfl⟩;rw [hh] at u1 u2 u3 WT hbs hys k1 CO;rw [hp] at u1 O4 hbs k2 CO;rw [Yl] at k2';rw [her] at u2 u3 O5 hys k3
   have hF:∀X:World,Below w.heap.size w X->X.cell? ⟨db,dd+k,none⟩=some (.int .i64 (x:Int))∧X.cell? ⟨lb,lo+k*2+1,none⟩=some (.int .i64 lh)∧X.cell? ⟨cb,co+x*3,none⟩=some (.int .i64 p)∧X.cell? ⟨cb,co+x*3+1,none⟩=some (.int .i64 ea)∧X.cell? ⟨cb,co+x*3+2,none⟩=some (.int .i64 er):= λX hX=>
    ⟨(dm (hX.block _ hdb)).trans k4,(dm (hX.block _ (by show lb<_;omega))).trans k1,(dm (hX.block _ (by show cb<_;omega))).trans k2,(dm (hX.block _ (by show cb<_;omega))).trans k2',(dm (hX.block _ (by show cb<_;omega))).trans k3⟩
   have at1:(x:Int)<(cs.length:Int):=by omega
   obtain ⟨q1,q2,q3,q4,q5⟩:=hF wr hbel;obtain ⟨y,hy⟩:∃y,kr dK cs d k=y:=⟨_,rfl⟩;obtain ⟨bv,hbv⟩:∃bv,kW (dK.take k) cs (d.take k) x=bv:=⟨_,rfl⟩;rw [hy] at bnd hys;rw [hbv] at WS CO hbs FN;have HV:=dw (aM hy (aM hbv (aM hF (aM FN (aM hbz (aM hbel (aM hbs (aM hys (aM CO (aM hlt hsz))))))))));rw [hy];clear hF FN hbz hbel hbs hys CO k1 k2 k2' k3 k4 hy hbv hlc hcc hdc hcb hdb hlb r1 r2 r3 hh hp Yl her hx g hd htop;go_wp2;have VY:Below wr.heap.size wr (wr.alloc (.cells #[.int .i64 p,.int .i64 ea,.int .i64 er] 80)):=(di _ _).alloc (aJ _) _;have Og:(wr.alloc (.cells #[.int .i64 p,.int .i64 ea,.int .i64 er] 80)).heap[wr.heap.size]?=some (.cells #[.int .i64 p,.int .i64 ea,.int .i64 er] 80):=cK _ _
   obtain ⟨X,hX⟩:∃X,wr.alloc (.cells #[.int .i64 p,.int .i64 ea,.int .i64 er] 80)=X:=⟨_,rfl⟩;rw [hX] at VY Og;rw [hX];clear hX q1 q2 q3 q4 q5;have hXs:=VY.size;have hXl:=(aI.1 Og).1;obtain ⟨v1,v2,hF,FN,hbz,hbel,hbs,hys,CO, -, -⟩:=HV.out;have hbX:Below w.heap.size w X:=hbel.trans (VY.mono (by omega));obtain ⟨q1,q2,q3,q4,q5⟩:=hF X hbX;have x0:=G6 Og 0;have x1:=G6 Og 1;have x2:=G6 Og 2;simp only [List.getElem?_toArray,List.getElem?_cons_zero,List.getElem?_cons_succ] at x0 x1 x2;have Yw:X.heap[w.heap.size]?=some (LI (nE dK cs d k)):=(VY.block _ (by omega)).trans hbz
   have k5:=xL Yw (k:=x) (by rw [jr];exact hxm);rw [FN] at k5;have f5:=Dh Yw x
   have oh:(X.setCell ⟨w.heap.size,x,none⟩ (.int .i64 (bv+yx lh p))).heap[w.heap.size]?=some (LI (nE dK cs d (k+1))):=by
    rw [hbs];exact JR Yw x _
   have hbY:Below w.heap.size w (X.setCell ⟨w.heap.size,x,none⟩ (.int .i64 (bv+yx lh p))).drew:=(hbX.setCell (p:=⟨w.heap.size,x,none⟩) (aJ _) _).drew;obtain ⟨y1,y2, -, -, -⟩:=hF _ hbY;have y3:=xL (W:=(X.setCell ⟨w.heap.size,x,none⟩ (.int .i64 (bv+yx lh p))).drew) oh (k:=x) (by rw [jr];exact hxm);have hbk:(nE dK cs d (k+1))[x]'(by rw [jr];exact hxm)=bv+yx lh p:=by simp [hbs]
   rw [hbk] at y3;have y4:(X.setCell ⟨w.heap.size,x,none⟩ (.int .i64 (bv+yx lh p))).drew.cell? ⟨wr.heap.size,2,none⟩=some (.int .i64 er):=(dm (a:=⟨wr.heap.size,2,none⟩) (Below.heap_setCell X ⟨w.heap.size,x,none⟩ _ wr.heap.size (by show wr.heap.size≠w.heap.size;omega))).trans x2;have HX:=dw (aM hbY oh);clear hF FN hbz hbel hbs hys CO hbX Yw oh VY Og v1 v2 hbY hbk;have hup:(lh+p - 1) / p=yx lh p:=rfl;have iw1:IntKind.i64.wrap (lh+p)=lh+p:=by rw [cB];omega
   have iw2:IntKind.i64.wrap (lh+p - 1)=lh+p - 1:=by rw [cB];omega
   have iw3:(lh+p - 1).tdiv p=yx lh p:=by rw [Int.tdiv_eq_ediv_of_nonneg (by omega),hup]
   have iw4:IntKind.i64.wrap (yx lh p)=yx lh p:=by rw [cB];omega
   have iw5:IntKind.i64.wrap (bv+yx lh p)=bv+yx lh p:=by rw [cB];omega
   have hp0:¬p=0:=by omega
   obtain ⟨mx,ah8⟩:∃mx,max h (bv+yx lh p)=mx:=⟨_,rfl⟩;have hmx:(if h<bv+yx lh p then bv+yx lh p else h)=mx:=by rw [<-ah8];split<;>omega
   have HM:=dw ah8;clear ah8
   go_still_tail 26,Lo.mixed
   change wpList _ _ _ _ _ X.drew;go_wp2;have iw6:IntKind.i64.wrap (lh*er)=lh*er:=by rw [cB];omega
   have iw7:IntKind.i64.wrap (lh*er+999)=lh*er+999:=by rw [cB];omega
   have ay4:(lh*er+999) / 1000=yx (lh*er) 1000:=by unfold yx;congr 1;omega
   have iw8:(lh*er+999).tdiv 1000=yx (lh*er) 1000:=by rw [Int.tdiv_eq_ediv_of_nonneg (by omega),ay4]
   have iw9:IntKind.i64.wrap (yx (lh*er) 1000)=yx (lh*er) 1000:=by rw [cB];omega
   have iwa:IntKind.i64.wrap (y+yx (lh*er) 1000)=y+yx (lh*er) 1000:=by rw [cB];omega
   obtain ⟨Y,hY⟩:∃Y,(X.setCell ⟨w.heap.size,x,none⟩ (.int .i64 (bv+yx lh p))).drew=Y:=⟨_,rfl⟩;have Zn:Y.heap[w.heap.size]?=some (LI (nE dK cs d (k+1))):=by rw [<-hY];exact HX.out.2
   have ar7:Below w.heap.size w Y:=by rw [<-hY];exact HX.out.1
   have HY:=dw (aM Zn ar7);rw [hY] at y2 y4;rw [hY];clear Zn ar7 y1 y3 hY
   go_quiet (fail)
   go_wp2;obtain ⟨v1,v2,hF,FN,hbz,hbel,hbs,hys,CO,hlt,hsz⟩:=HV.out;go_roundw
   case rel=>
    refine ⟨k+1,mx,hlt,rfl,?_,by go_num,?_,HY.out.1,?_,?_⟩
    ·rw [hys]
    ·rw [hbs, <-HM.out];exact CO
    ·exact ⟨HY.out.2.os,HY.out.2.tape,HY.out.2.output,HY.out.2.size,HY.out.2.block⟩
    ·exact (aI.1 HY.out.1).1
   case measure=>simp [intOf];omega
  ·obtain rfl:k=dK.length:=by omega
   rw [FL HR.out.2.2.2.2] at htop;rw [BX HR.out.2.2.2.2];have hh:=htop.hours (by omega);have HE:=dw (aM hbel hh);clear hbel hh hbz htop;go_wp2
   go_ret2
   exact ⟨by rw [<-HE.out.2];rfl,HE.out.1⟩
end Go.Proofs
end
namespace Go.Proofs
open Go Go.RowKit Go.Maps
section
def ints (d:List Nat):List Value:=(nums d).map λx=>.int .i64 x
theorem V3 (d e:List Nat):ints (d++e)=ints d++ints e:=by simp [ints,nums]
theorem MF {W:World} {a b e s n:Nat} {v:Value} {xs:List Value} (h:W.ownsRow a e s v n xs) (hle:b<=a):W.ownsRow b e s v n xs:=by
 obtain ⟨h1,h2⟩:=h;refine ⟨h1,h2.imp id ?_⟩;rintro ⟨g,cap,cur,x,y,z⟩;exact ⟨g,cap,cur,x,aT hle y,z⟩
theorem own_ne {W:World} {a b i n s:Nat} {u v:Value} {xs l:List Value} (h1:W.ownsRow a 3 s u i xs) (h2:W.ownsRow b 44 s v n l):u.ownBlock=none∨u.ownBlock≠v.ownBlock:=by
 rcases h1.2 with ⟨rfl,_⟩|⟨g,cap,cur,rfl,_,hg,_⟩
 ·exact .inl rfl
 ·rcases h2.2 with ⟨rfl,_⟩|⟨g2,cap2,aA2,rfl,_,hg2,_⟩
  ·exact .inr (by simp [Value.ownBlock])
  ·refine .inr λe=>?_
   simp [Value.ownBlock] at e;subst e;rw [hg] at hg2;cases hg2
structure DR (W:World) (b1 b2 i m cnt:Nat) (v:Value) (l:List Value):Prop where
 own:W.ownsRow b1 44 1 v cnt l
 el:∀q u,l[q]?=some u->∃d,uJ i m d∧val m d=q∧W.ownsRow b2 3 1 u i (ints d)
variable [Lo.St]
theorem DR.below {W W':World} {b1 b2 i m cnt:Nat} {v:Value} {l:List Value} (h:DR W b1 b2 i m cnt v l) (hb:Below W.heap.size W W'):DR W' b1 b2 i m cnt v l:=
 ⟨ownsRow.below h.own hb, λq u hq=>by obtain ⟨d,a,b,c⟩:=h.el q u hq;exact ⟨d,a,b,ownsRow.below c hb⟩⟩
theorem DR.base {W:World} {b1 b2 c1 c2 i m cnt:Nat} {v:Value} {l:List Value} (h:DR W b1 b2 i m cnt v l) (h1:c1<=b1) (h2:c2<=b2):DR W c1 c2 i m cnt v l:=
 ⟨MF h.own h1, λq u hq=>by obtain ⟨d,a,b,c⟩:=h.el q u hq;exact ⟨d,a,b,MF c h2⟩⟩
theorem DR.zero (W:World) (b1 b2 i m:Nat):DR W b1 b2 i m 0 (.slice none 0 0) []:=⟨World.ownsRow_nil _ _ _ _, λq u h=>by simp at h⟩
theorem DR.push {W X X':World} {b1 b2 i m cnt:Nat} {v v' u:Value} {l:List Value} {d:List Nat} (h:DR W b1 b2 i m cnt v l) (hb:Below W.heap.size W X) (hu:X.ownsRow b2 3 1 u i (ints d)) (hd:uJ i m d) (hv:val m d=cnt)
 (ho:X'.ownsRow b1 44 1 v' (cnt+1) (l++ [u])) (hg:X.grownBy X' v.ownBlock):DR X' b1 b2 i m (cnt+1) v' (l++ [u]):=by
 have hl:l.length=cnt:=by have :=h.own.1;omega
 have hv2:=ownsRow.below h.own hb;refine ⟨ho, λq w hq=>?_⟩
 by_cases hlt:q<cnt
 ·rw [List.getElem?_append_left (by omega)] at hq;obtain ⟨e,a,b,c⟩:=h.el q w hq;have c2:=ownsRow.below c hb;exact ⟨e,a,b,c2.kept hg (own_ne c2 hv2)⟩
 ·have h1:=(aZ.1 hq).1;simp at h1;obtain rfl:q=cnt:=by omega
  rw [List.getElem?_append_right (by omega),hl] at hq;simp at hq;subst hq;exact ⟨d,hd,hv,hu.kept hg (own_ne hu hv2)⟩
theorem DR.first (W:World) (m b2:Nat):DR (W.alloc (.cells #[.slice none 0 0] 44)) W.heap.size b2 0 m 1 (.slice (some ⟨W.heap.size,0,none⟩) 1 1) [.slice none 0 0]:=
 ⟨⟨rfl,.inr ⟨W.heap.size,1,_,rfl,aJ _,cK _ _,aJ _,by unfold maxLen;omega,rfl,rfl⟩⟩, λq u hq=>by
   have h1:=(aZ.1 hq).1;simp at h1;subst h1;simp at hq;subst hq;exact ⟨[],⟨rfl, λd h=>absurd h (by simp)⟩,rfl,World.ownsRow_nil _ _ _ _⟩⟩
theorem rP.one {dK cs limit i who hours found eu V4 found'} (h:rP dK cs limit i who hours found) (h':rP dK cs limit i eu V4 found'):who=eu∧hours=V4∧found=found':=by
 cases found with
 |false=>
  obtain ⟨a,b,c⟩:=h.no rfl;cases found' with
  |false=>obtain ⟨a',b',_⟩:=h'.no rfl;exact ⟨a.trans a'.symm,b.trans b'.symm,rfl⟩
  |true=>obtain ⟨a',b',c',_⟩:=h'.yes rfl;exact absurd c' (c _ a' b')
 |true=>
  obtain ⟨a,b,c,d,e⟩:=h.yes rfl;cases found' with
  |false=>obtain ⟨_,_,c'⟩:=h'.no rfl;exact absurd c (c' _ a b)
  |true=>
   obtain ⟨a',b',c',d',e'⟩:=h'.yes rfl;have h1:=e _ a' b' c';have h2:=e' _ a b c;have hw:val cs.length who=val cs.length eu:=by omega
   have :=val_inj _ _ _ (a.1.trans a'.1.symm) a.2 a'.2 hw;exact ⟨this,by omega,rfl⟩
end
section
section
variable {P:Program} {w:World} {ops:Array Oper} {rest:List Oper} {o:Oper} {a:Act} {Q:Exit->Act->World->Prop}
end
variable [Lo.St]
theorem ah9 {W:World} {lo:Nat} {A:Option Addr} {d:List Nat} (h:yA W lo A d):BJ W W.heap.size A (nums d):= λhn=>by
 rw [jT] at hn;obtain ⟨g,e,h1,h2,h3⟩:=h hn;refine ⟨g,0,e,h2, λi j hi hj=>?_⟩;obtain rfl:j=0:=by omega
 rw [jT] at hi;rw [show 0+(i*1+0)=i from by omega,h3 i hi];dsimp only;rw [aO (by rw [jT];exact hi),ak,zB hi]
theorem zN {W W':World} {lo:Nat} {A:Option Addr} {d:List Nat} (h:yA W lo A d) (hb:Below W.heap.size W W'):yA W' lo A d:= λhn=>by
 obtain ⟨g,e,h1,h2,h3⟩:=h hn;exact ⟨g,e,h1,aK h2 hb.size, λj hj=>(dm (a:=⟨g,j,none⟩) (hb.block g h2)).trans (h3 j hj)⟩
end
section
theorem RN {m:Nat} {p q q':List Nat} {a b:Nat} (hl:q.length=q'.length) (hq':∀d∈q',d<m) (h:val m (p++a::q)<=val m (p++b::q')):a<=b:=by
 have h1:=De m q' hq';rw [uZ,uZ,pg,pg,List.length_cons,List.length_cons,hl] at h;rcases bu b a with hlt|hge
 ·have h2:=Nat.mul_le_mul_right (m ^ q'.length) (show b+1<=a from hlt);rw [Nat.succ_mul] at h2;omega
 ·exact hge
theorem Ox {m i:Nat} {who o:List Nat} (hl:who.length=o.length) (hi:i<o.length) (ho:∀d∈o,d<m) (he:who.take i=o.take i) (hv:val m who<=val m o):who[i]'(by omega)<=o[i]:=by
 have hi2:i<who.length:=by omega
 have e1:who=who.take i++who[i]::who.drop (i+1):=by
  rw [<-aW,List.take_append_drop]
 have e2:o=o.take i++o[i]::o.drop (i+1):=by
  rw [<-aW,List.take_append_drop]
 have hv2:val m (who.take i++who[i]::who.drop (i+1))<=val m (who.take i++o[i]::o.drop (i+1)):=by
  rw [<-e1,he, <-e2];exact hv
 exact RN (by simp;omega) (λd hd=>ho d (List.mem_of_mem_drop hd)) hv2
theorem Kr (n:Nat) {m:Nat} (hm:0<m) (jQ:List Int):uJ n m (pM n m jQ):=⟨by simp [pM], λd hd=>by
 simp only [pM,List.mem_map] at hd;obtain ⟨k,_,rfl⟩:=hd;exact VX jQ hm k⟩
theorem Oy {dK:List (Int×Int)} {cs:List (Int×Int×Int)} {limit hours:Int} {who o:List Nat} {found:Bool} (ho:uJ dK.length cs.length o) (hb:rP dK cs limit (cs.length ^ dK.length) who hours found):
 (found=false∧who= []∧hours=0∧limit<kX dK cs o)∨(found=true∧uJ dK.length cs.length who∧kX dK cs who<=limit∧gI dK cs who=hours∧(kX dK cs o<=limit->hours<gI dK cs o∨(hours=gI dK cs o∧val cs.length who<=val cs.length o))):=by
 have hlt:val cs.length o<cs.length ^ dK.length:=by have :=De cs.length o ho.2;rwa [ho.1] at this
 cases found with
 |false=>
  obtain ⟨a,b,c⟩:=hb.no rfl;have :=c o ho hlt;unfold Df at this;exact .inl ⟨rfl,a,b,by omega⟩
 |true=>
  obtain ⟨a,b,c,d,e⟩:=hb.yes rfl;exact .inr ⟨rfl,a,c,d.symm, λh=>e o ho hlt h⟩
end
end Go.Proofs
