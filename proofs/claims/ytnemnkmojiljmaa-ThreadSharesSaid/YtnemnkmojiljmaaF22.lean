/- Part 22. -/
import Derived.Laws.AppendOwnNone
import Derived.Test.YtnemnkmojiljmaaF10
import Derived.Test.YtnemnkmojiljmaaF12
import Derived.Test.YtnemnkmojiljmaaF21
set_option maxRecDepth 100000
set_option maxHeartbeats 8000000
set_option linter.all false
section
namespace Go.Proofs
open Go Go.RowKit Go.Maps
def I8 (l:List Int) (h:Int):Prop:=(∀x∈l,x<=h)∧(h=0∨h∈l)∧∀x∈l,0<=x
theorem KI:∀(l:List Int) (a:Int),yD l a=a∨yD l a∈l
 | [],a=>.inl rfl
 |y::l,a=>by
  rcases KI l (max a y) with h|h
  ·have h2:yD (y::l) a=max a y:=h;rw [h2];rcases Int.le_total a y with h3|h3
   ·exact .inr (by rw [Int.max_eq_right h3];exact az)
   ·exact .inl (Int.max_eq_left h3)
  ·exact .inr (aA _ h)
theorem I8.hours {lots:List (Int×Int)} {cs:List (Int×Int×Int)} {l:List Nat} {h:Int} (hc:1<=cs.length) (ht:I8 (lK lots cs l) h):h=fA lots cs l:=by
 have hlen:(lK lots cs l).length=cs.length:=by simp [lK]
 have h0:(lK lots cs l)[0]?=some ((lK lots cs l)[0]'(by omega)):=ax (by omega)
 have hm:fA lots cs l∈lK lots cs l:=by
  unfold fA;rcases KI (lK lots cs l) (((lK lots cs l)[0]?).getD 0) with h1|h1
  ·rw [h1,h0];exact aI _
  ·exact h1
 have hge:=(NU (lK lots cs l) (((lK lots cs l)[0]?).getD 0)).2;have h1:=ht.1 _ hm;rcases ht.2.1 with h2|h2
 ·have :=ht.2.2 _ hm;omega
 ·have :=hge _ h2;have :h<=fA lots cs l:=this;omega
theorem I8.step {l:List Int} {h b:Int} {x:Nat} (ht:I8 l h) (hx:x<l.length) (hb:l[x]<=b):I8 (l.set x b) (max h b):=by
 have h0:=ht.2.2 _ (aI hx);refine ⟨λy hy=>?_,?_, λy hy=>?_⟩
 ·rcases List.mem_or_eq_of_mem_set hy with h1|rfl
  ·have :=ht.1 _ h1;omega
  ·omega
 ·by_cases h1:h<=b
  ·rw [Int.max_eq_right h1];exact .inr (List.mem_iff_getElem.2 ⟨x,by simpa using hx,by simp⟩)
  ·rw [Int.max_eq_left (by omega)];rcases ht.2.1 with h2|h2
   ·exact .inl h2
   ·obtain ⟨j,hj,e⟩:=List.mem_iff_getElem.1 h2;refine .inr (List.mem_iff_getElem.2 ⟨j,by simpa using hj,?_⟩);rw [List.getElem_set,if_neg (λe2=>by subst e2;omega)];exact e
 ·rcases List.mem_or_eq_of_mem_set hy with h1|rfl
  ·exact ht.2.2 _ h1
  ·omega
theorem I8.start (n:Nat):I8 (List.replicate n 0) 0:=⟨λx hx=>by rw [(List.mem_replicate.1 hx).2];omega,.inl rfl, λx hx=>by rw [(List.mem_replicate.1 hx).2];omega⟩
end Go.Proofs
namespace Go.Proofs
open Go Go.RowKit Go.Maps
variable [Lo.St]
theorem Lo.Qg {w:World} {B:Nat} {lots:List (Int×Int)} {cs:List (Int×Int×Int)} {d:List Nat} {A1 A2 A3:Option Addr} {c1 c2 c3:Nat} {limit:Int} (h1:Lc w B A1 lots) (h2:Ld w B A2 cs) (h3:zT w w.heap.size A3 (nums d)) (hB:B<=w.heap.size) (g:GoodS lots cs limit) (hd:uA lots.length cs.length d):
 Calls Lo.prog 23 #[.slice A1 lots.length c1,.slice A2 cs.length c2,.slice A3 d.length c3] w λe w'=>e= .returned (.tuple #[.int .i64 (fA lots cs d),.int .i64 (nk lots cs d)])∧Below w.heap.size w w':=by
 obtain ⟨U,U2,U3,U4,U5,U6⟩:=@Lo.facts inferInstance;have nl:=g.nl;obtain ⟨nc1,nc2⟩:=g.nc;have M:=Lo.run_make cs.length (by omega);have HR:=Lib.hid (au h1 (au h2 (au h3 (au g hd))));have hdl:=hd.1;rw [hdl];clear h1 h2 h3 g hd;go_enter Lo.func23,Try.ntmps23;go_wp2
 go_loopw [9,10,11] (λa b i wr=>∃(k:Nat) (h:Int),k<=lots.length∧a= .int .i64 h∧b= .int .i64 (iX lots cs d k)∧i= .int .i64 (k:Int)∧I8 (lM lots cs d k) h∧wr.heap[w.heap.size]?=some (LI (lM lots cs d k))∧Below w.heap.size w wr∧w.heap.size+1<=wr.heap.size) (λ_ _ i _=>lots.length - (intOf i).toNat)
 case atStart=>
  refine ⟨0,0,aL _,rfl,by rw [vZ],rfl,by rw [zq];exact I8.start _,by rw [zq];exact World.alloc_heap_new _ _,(Below.refl _ _).alloc (aj _) _,by rw [World.size_alloc];exact aj _⟩
 case round=>
  obtain ⟨k,h,hk,rfl,rfl,rfl,htop,hbz,hbel,hsz⟩:=hrel
  by_cases hlt:k<lots.length
  ·have hlt':(k:Int)<(lots.length:Int):=by omega
   obtain ⟨r1,r2,r3,g,hd⟩:=HR.out;have hkd:k<d.length:=by rw [hd.1];exact hlt
   have hxm:=hd.2 _ (aI hkd);obtain ⟨lb,lo,rfl,hlb,hlc⟩:=r1 (by omega);obtain ⟨cb,co,rfl,hcb,hcc⟩:=r2 (by omega);obtain ⟨db,dd,rfl,hdb,hdc⟩:=r3 (by rw [jC];omega);have k4:=DY hdc (k:=k) (by rw [jC];exact hkd);rw [Dn hkd] at k4;have hbs:=Eo cs hlt hkd;have hys:=rH cs hlt hkd;obtain ⟨x,hx⟩:∃x,d[k]=x:=⟨_,rfl⟩;rw [hx] at hxm k4 hbs hys;have bnd:=g.bnd hd k hk;have VE:=bnd.2 x;have u1:=g.yM hlt hxm;have u2:=g.up2 hlt hxm;have u3:=g.up3 hlt hxm;have VF:=g.lot _ (aI hlt);have N7:=g.YI _ (aI hxm);have N8:=g.errs _ (aI hxm);have k1:=(Em hlc hlt).2;have k2:=(vY hcc hxm).1;have k2':=(vY hcc hxm).2.1;have k3:=(vY hcc hxm).2.2
   have Es:(lM lots cs d k)[x]'(by rw [iw];exact hxm)=jB (lots.take k) cs (d.take k) x:=by
    have :=xI lots cs d k hxm;rw [ax (by rw [iw];exact hxm)] at this;exact aD this
   rw [ax hxm,Option.getD_some] at u1 u2 u3 hbs hys;have Bc:=htop.step (x:=x) (b:=(jB (lots.take k) cs (d.take k) x)+wW lots[k].2 cs[x].1) (by rw [iw];exact hxm) (by rw [Es];omega);obtain ⟨lh,hh⟩:∃lh,lots[k].2=lh:=⟨_,rfl⟩;obtain ⟨p,hp⟩:∃p,cs[x].1=p:=⟨_,rfl⟩;obtain ⟨ea,Wo⟩:∃ea,cs[x].2.1=ea:=⟨_,rfl⟩;obtain ⟨er,her⟩:∃er,cs[x].2.2=er:=⟨_,rfl⟩;rw [hh] at u1 u2 u3 VF hbs hys k1 Bc;rw [hp] at u1 N7 hbs k2 Bc;rw [Wo] at k2';rw [her] at u2 u3 N8 hys k3
   have hF:∀X:World,Below w.heap.size w X->X.cell? ⟨db,dd+k,none⟩=some (.int .i64 (x:Int))∧X.cell? ⟨lb,lo+k*2+1,none⟩=some (.int .i64 lh)∧X.cell? ⟨cb,co+x*3,none⟩=some (.int .i64 p)∧X.cell? ⟨cb,co+x*3+1,none⟩=some (.int .i64 ea)∧X.cell? ⟨cb,co+x*3+2,none⟩=some (.int .i64 er):= λX hX=>
    ⟨(World.cell?_of_block (hX.block _ hdb)).trans k4,(World.cell?_of_block (hX.block _ (by show lb<_;omega))).trans k1,(World.cell?_of_block (hX.block _ (by show cb<_;omega))).trans k2,(World.cell?_of_block (hX.block _ (by show cb<_;omega))).trans k2',(World.cell?_of_block (hX.block _ (by show cb<_;omega))).trans k3⟩
   have ao8:(x:Int)<(cs.length:Int):=by omega
   obtain ⟨q1,q2,q3,q4,q5⟩:=hF wr hbel;obtain ⟨y,hy⟩:∃y,iX lots cs d k=y:=⟨_,rfl⟩;obtain ⟨bv,hbv⟩:∃bv,jB (lots.take k) cs (d.take k) x=bv:=⟨_,rfl⟩;rw [hy] at bnd hys;rw [hbv] at VE Bc hbs Es;have HV:=Lib.hid (au hy (au hbv (au hF (au Es (au hbz (au hbel (au hbs (au hys (au Bc (au hlt hsz))))))))));rw [hy];clear hF Es hbz hbel hbs hys Bc k1 k2 k2' k3 k4 hy hbv hlc hcc hdc hcb hdb hlb r1 r2 r3 hh hp Wo her hx g hd htop;go_wp2;have hXw:Below wr.heap.size wr (wr.alloc (.cells #[.int .i64 p,.int .i64 ea,.int .i64 er] 34)):=(Below.refl _ _).alloc (aj _) _;have Wp:(wr.alloc (.cells #[.int .i64 p,.int .i64 ea,.int .i64 er] 34)).heap[wr.heap.size]?=some (.cells #[.int .i64 p,.int .i64 ea,.int .i64 er] 34):=World.alloc_heap_new _ _
   obtain ⟨X,hX⟩:∃X,wr.alloc (.cells #[.int .i64 p,.int .i64 ea,.int .i64 er] 34)=X:=⟨_,rfl⟩;rw [hX] at hXw Wp;rw [hX];clear hX q1 q2 q3 q4 q5;have hXs:=hXw.size;have hXl:=(aa.1 Wp).1;obtain ⟨v1,v2,hF,Es,hbz,hbel,hbs,hys,Bc, -, -⟩:=HV.out;have hbX:Below w.heap.size w X:=hbel.trans (hXw.mono (by omega));obtain ⟨q1,q2,q3,q4,q5⟩:=hF X hbX;have x0:=Ff Wp 0;have x1:=Ff Wp 1;have x2:=Ff Wp 2;simp only [List.getElem?_toArray,List.getElem?_cons_zero,List.getElem?_cons_succ] at x0 x1 x2;have Wq:X.heap[w.heap.size]?=some (LI (lM lots cs d k)):=(hXw.block _ (by omega)).trans hbz
   have k5:=wh Wq (k:=x) (by rw [iw];exact hxm);rw [Es] at k5;have f5:=BG Wq x
   have hset:(X.setCell ⟨w.heap.size,x,none⟩ (.int .i64 (bv+wW lh p))).heap[w.heap.size]?=some (LI (lM lots cs d (k+1))):=by
    rw [hbs];exact IK Wq x _
   have hbY:Below w.heap.size w (X.setCell ⟨w.heap.size,x,none⟩ (.int .i64 (bv+wW lh p))).drew:=(hbX.setCell (p:=⟨w.heap.size,x,none⟩) (aj _) _).drew;obtain ⟨y1,y2, -, -, -⟩:=hF _ hbY;have y3:=wh (W:=(X.setCell ⟨w.heap.size,x,none⟩ (.int .i64 (bv+wW lh p))).drew) hset (k:=x) (by rw [iw];exact hxm);have hbk:(lM lots cs d (k+1))[x]'(by rw [iw];exact hxm)=bv+wW lh p:=by simp [hbs]
   rw [hbk] at y3;have y4:(X.setCell ⟨w.heap.size,x,none⟩ (.int .i64 (bv+wW lh p))).drew.cell? ⟨wr.heap.size,2,none⟩=some (.int .i64 er):=(World.cell?_of_block (a:=⟨wr.heap.size,2,none⟩) (Below.heap_setCell X ⟨w.heap.size,x,none⟩ _ wr.heap.size (by show wr.heap.size≠w.heap.size;omega))).trans x2;have HX:=Lib.hid (au hbY hset);clear hF Es hbz hbel hbs hys Bc hbX Wq hset hXw Wp v1 v2 hbY hbk;have hup:(lh+p - 1) / p=wW lh p:=rfl;have iw1:IntKind.i64.wrap (lh+p)=lh+p:=by rw [IntKind.wrap_i64];omega
   have iw2:IntKind.i64.wrap (lh+p - 1)=lh+p - 1:=by rw [IntKind.wrap_i64];omega
   have iw3:(lh+p - 1).tdiv p=wW lh p:=by rw [Int.tdiv_eq_ediv_of_nonneg (by omega),hup]
   have iw4:IntKind.i64.wrap (wW lh p)=wW lh p:=by rw [IntKind.wrap_i64];omega
   have iw5:IntKind.i64.wrap (bv+wW lh p)=bv+wW lh p:=by rw [IntKind.wrap_i64];omega
   have hp0:¬p=0:=by omega
   obtain ⟨mx,Zz⟩:∃mx,max h (bv+wW lh p)=mx:=⟨_,rfl⟩;have hmx:(if h<bv+wW lh p then bv+wW lh p else h)=mx:=by rw [<-Zz];split<;>omega
   have HM:=Lib.hid Zz;clear Zz
   go_still_tail 26,Lo.mixed
   change wpList _ _ _ _ _ X.drew;go_wp2;have iw6:IntKind.i64.wrap (lh*er)=lh*er:=by rw [IntKind.wrap_i64];omega
   have iw7:IntKind.i64.wrap (lh*er+999)=lh*er+999:=by rw [IntKind.wrap_i64];omega
   have aq5:(lh*er+999) / 1000=wW (lh*er) 1000:=by unfold wW;congr 1;omega
   have iw8:(lh*er+999).tdiv 1000=wW (lh*er) 1000:=by rw [Int.tdiv_eq_ediv_of_nonneg (by omega),aq5]
   have iw9:IntKind.i64.wrap (wW (lh*er) 1000)=wW (lh*er) 1000:=by rw [IntKind.wrap_i64];omega
   have iwa:IntKind.i64.wrap (y+wW (lh*er) 1000)=y+wW (lh*er) 1000:=by rw [IntKind.wrap_i64];omega
   obtain ⟨Y,hY⟩:∃Y,(X.setCell ⟨w.heap.size,x,none⟩ (.int .i64 (bv+wW lh p))).drew=Y:=⟨_,rfl⟩;have Yb:Y.heap[w.heap.size]?=some (LI (lM lots cs d (k+1))):=by rw [<-hY];exact HX.out.2
   have aj0:Below w.heap.size w Y:=by rw [<-hY];exact HX.out.1
   have HY:=Lib.hid (au Yb aj0);rw [hY] at y2 y4;rw [hY];clear Yb aj0 y1 y3 hY
   go_quiet (fail)
   go_wp2;obtain ⟨v1,v2,hF,Es,hbz,hbel,hbs,hys,Bc,hlt,hsz⟩:=HV.out;go_roundw
   case rel=>
    refine ⟨k+1,mx,hlt,rfl,?_,by go_num,?_,HY.out.1,?_,?_⟩
    ·rw [hys]
    ·rw [hbs, <-HM.out];exact Bc
    ·exact ⟨HY.out.2.os,HY.out.2.tape,HY.out.2.output,HY.out.2.size,HY.out.2.block⟩
    ·exact (aa.1 HY.out.1).1
   case measure=>simp [intOf];omega
  ·obtain rfl:k=lots.length:=by omega
   rw [Ep HR.out.2.2.2.2] at htop;rw [Am HR.out.2.2.2.2];have hh:=htop.hours (by omega);have HE:=Lib.hid (au hbel hh);clear hbel hh hbz htop;go_wp2
   go_ret2
   exact ⟨by rw [<-HE.out.2];rfl,HE.out.1⟩
end Go.Proofs
end
section
namespace Go.Proofs
open Go Go.RowKit Go.Maps
def ints (d:List Nat):List Value:=(nums d).map λx=>.int .i64 x
theorem TP (d e:List Nat):ints (d++e)=ints d++ints e:=by simp [ints,nums]
theorem Fg {W:World} {a b e s n:Nat} {v:Value} {xs:List Value} (h:W.ownsRow a e s v n xs) (hle:b<=a):W.ownsRow b e s v n xs:=by
 obtain ⟨h1,h2⟩:=h;refine ⟨h1,h2.imp id ?_⟩;rintro ⟨g,cap,cur,x,y,z⟩;exact ⟨g,cap,cur,x,aC hle y,z⟩
theorem own_ne {W:World} {a b i n s:Nat} {u v:Value} {xs l:List Value} (h1:W.ownsRow a 3 s u i xs) (h2:W.ownsRow b 25 s v n l):u.ownBlock=none∨u.ownBlock≠v.ownBlock:=by
 rcases h1.2 with ⟨rfl,_⟩|⟨g,cap,cur,rfl,_,hg,_⟩
 ·exact .inl rfl
 ·rcases h2.2 with ⟨rfl,_⟩|⟨g2,cap2,av7,rfl,_,hg2,_⟩
  ·exact .inr (by simp [Value.ownBlock])
  ·refine .inr λe=>?_
   simp [Value.ownBlock] at e;subst e;rw [hg] at hg2;cases hg2
structure wO (W:World) (b1 b2 i m cnt:Nat) (v:Value) (l:List Value):Prop where
 own:W.ownsRow b1 25 1 v cnt l
 el:∀q u,l[q]?=some u->∃d,uA i m d∧val m d=q∧W.ownsRow b2 3 1 u i (ints d)
variable [Lo.St]
theorem wO.below {W W':World} {b1 b2 i m cnt:Nat} {v:Value} {l:List Value} (h:wO W b1 b2 i m cnt v l) (hb:Below W.heap.size W W'):wO W' b1 b2 i m cnt v l:=
 ⟨ownsRow.below h.own hb, λq u hq=>by obtain ⟨d,a,b,c⟩:=h.el q u hq;exact ⟨d,a,b,ownsRow.below c hb⟩⟩
theorem wO.base {W:World} {b1 b2 c1 c2 i m cnt:Nat} {v:Value} {l:List Value} (h:wO W b1 b2 i m cnt v l) (h1:c1<=b1) (h2:c2<=b2):wO W c1 c2 i m cnt v l:=
 ⟨Fg h.own h1, λq u hq=>by obtain ⟨d,a,b,c⟩:=h.el q u hq;exact ⟨d,a,b,Fg c h2⟩⟩
theorem wO.zero (W:World) (b1 b2 i m:Nat):wO W b1 b2 i m 0 (.slice none 0 0) []:=⟨World.ownsRow_nil _ _ _ _, λq u h=>by simp at h⟩
theorem wO.push {W X X':World} {b1 b2 i m cnt:Nat} {v v' u:Value} {l:List Value} {d:List Nat} (h:wO W b1 b2 i m cnt v l) (hb:Below W.heap.size W X) (hu:X.ownsRow b2 3 1 u i (ints d)) (hd:uA i m d) (hv:val m d=cnt)
 (ho:X'.ownsRow b1 25 1 v' (cnt+1) (l++ [u])) (hg:X.grownBy X' v.ownBlock):wO X' b1 b2 i m (cnt+1) v' (l++ [u]):=by
 have hl:l.length=cnt:=by have :=h.own.1;omega
 have hv2:=ownsRow.below h.own hb;refine ⟨ho, λq w hq=>?_⟩
 by_cases hlt:q<cnt
 ·rw [List.getElem?_append_left (by omega)] at hq;obtain ⟨e,a,b,c⟩:=h.el q w hq;have c2:=ownsRow.below c hb;exact ⟨e,a,b,c2.kept hg (own_ne c2 hv2)⟩
 ·have h1:=(aJ.1 hq).1;simp at h1;obtain rfl:q=cnt:=by omega
  rw [List.getElem?_append_right (by omega),hl] at hq;simp at hq;subst hq;exact ⟨d,hd,hv,hu.kept hg (own_ne hu hv2)⟩
theorem wO.first (W:World) (m b2:Nat):wO (W.alloc (.cells #[.slice none 0 0] 25)) W.heap.size b2 0 m 1 (.slice (some ⟨W.heap.size,0,none⟩) 1 1) [.slice none 0 0]:=
 ⟨⟨rfl,.inr ⟨W.heap.size,1,_,rfl,aj _,World.alloc_heap_new _ _,aj _,by unfold maxLen;omega,rfl,rfl⟩⟩, λq u hq=>by
   have h1:=(aJ.1 hq).1;simp at h1;subst h1;simp at hq;subst hq;exact ⟨[],⟨rfl, λd h=>absurd h (by simp)⟩,rfl,World.ownsRow_nil _ _ _ _⟩⟩
theorem Qh {i m:Nat} {d:List Nat} {c:Nat} (h:uA i m d) (hc:c<m):uA (i+1) m (d++ [c]):=⟨by simp [h.1], λx hx=>by
 rcases List.mem_append.1 hx with h1|h1
 ·exact h.2 x h1
 ·simp at h1;omega⟩
theorem TR (m:Nat) (d:List Nat) (c:Nat):val m (d++ [c])=val m d*m+c:=by rw [val_append];simp [val]
theorem mJ.one {lots cs limit i who hours found who' M0 found'} (h:mJ lots cs limit i who hours found) (h':mJ lots cs limit i who' M0 found'):who=who'∧hours=M0∧found=found':=by
 cases found with
 |false=>
  obtain ⟨a,b,c⟩:=h.no rfl;cases found' with
  |false=>obtain ⟨a',b',_⟩:=h'.no rfl;exact ⟨a.trans a'.symm,b.trans b'.symm,rfl⟩
  |true=>obtain ⟨a',b',c',_⟩:=h'.yes rfl;exact absurd c' (c _ a' b')
 |true=>
  obtain ⟨a,b,c,d,e⟩:=h.yes rfl;cases found' with
  |false=>obtain ⟨_,_,c'⟩:=h'.no rfl;exact absurd c (c' _ a b)
  |true=>
   obtain ⟨a',b',c',d',e'⟩:=h'.yes rfl;have h1:=e _ a' b' c';have h2:=e' _ a b c;have hw:val cs.length who=val cs.length who':=by omega
   have :=val_inj _ _ _ (a.1.trans a'.1.symm) a.2 a'.2 hw;exact ⟨this,by omega,rfl⟩
theorem G6 {m i:Nat} (hm:m<=4) (hi:i<=6):m ^ i<=4096:=
 aC (Nat.pow_le_pow_left hm i) (aC (Nat.pow_le_pow_right (by omega) hi) (by decide))
end Go.Proofs
end
section
namespace Go.Proofs
open Go Go.RowKit Go.Maps
section
variable {P:Program} {w:World} {ops:Array Oper} {rest:List Oper} {o:Oper} {a:Act} {Q:Exit->Act->World->Prop}
theorem Cg (hgd:o.guard=none) (s x:Operand) (t:TypeId)
 (ho:o.op= .call { callee:=.builtin .append,args:= #[s,x],argTypes:= #[t,t] })
 (base:Nat) (i:TypeInfo) (ht:P.underlying t=some (.slice 3)) (hi:P.info? 3=some i) (hz:i.zero=some (.int .i64 0)) (hsize:i.size=1) (hby:i.bytes=8)
 (v:Value) (n:Nat) (xs:List Value) (hs:a.eval s=v) (hown:w.ownsRow base 3 1 v n xs) {b2 j:Nat} {d:List Nat} {u:Value} (hx:a.eval x=u) (hu:w.ownsRow b2 3 1 u j (ints d))
 (h63:n+j<=1000) (hbase:base<=w.heap.size)
 (h:∀v' w',w'.ownsRow base 3 1 v' (n+j) (xs++ints d)->w.grownBy w' v.ownBlock->wpList P ops Q rest (a.put o.dst v') w'):wpList P ops Q (o::rest) a w:=by
 have hlen:=hu.1;rcases hu.2 with ⟨rfl,rfl⟩|⟨g,cap,cur,rfl,hbg,hg,hnc,hcm,hcs,htake⟩
 ·have he:ints d= []:=List.eq_nil_of_length_eq_zero (by simpa using hlen);refine wpList_append_own_none hgd s x t ho base 3 i 1 ht hi v n xs hs hown hx ?_
  refine h v w ?_ ⟨rfl,rfl,rfl,aj _, λ_ _ _=>rfl⟩
  rw [he,List.append_nil];exact hown
 ·refine wpList_append_own (P:=P) w hgd s x t ho base 3 i (.int .i64 0) 1 8 ht hi hz hsize hby rfl (by decide) v n xs hs hown ⟨g,0,none⟩ j cap (ints d) hx hlen (hu.cells rfl) ?_ (by unfold maxLen;omega) (by omega) hbase ?_
  ·intro u hu;simp only [ints,List.mem_map] at hu;obtain ⟨y,_,rfl⟩:=hu;rfl
  ·intro v' w' h1 h2 _;exact h v' w' h1 h2
end
theorem Be {fn:Func} {t u v x:Tmp} (h:fn.results= #[.tmp t,.tmp u,.tmp v,.tmp x]) (tmps:Array Value) (P:Program) (w:World):
 (results fn tmps).run P w= .ok (.tuple #[tmps.getD t undef,tmps.getD u undef,tmps.getD v undef,tmps.getD x undef]) w:=by
 simp [results,h]
variable [Lo.St]
theorem Qi {W:World} {base lo n:Nat} {v:Value} {d:List Nat} (h:W.ownsRow base 3 1 v n (ints d)) (hn:d.length=n) (hlo:lo<base):∃A cap,v= .slice A n cap∧tQ W lo A d:=NY h hlo
theorem M3 {W:World} {lo:Nat} {A:Option Addr} {d:List Nat} (h:tQ W lo A d):zT W W.heap.size A (nums d):= λhn=>by
 rw [jC] at hn;obtain ⟨g,e,h1,h2,h3⟩:=h hn;refine ⟨g,0,e,h2, λi j hi hj=>?_⟩;obtain rfl:j=0:=by omega
 rw [jC] at hi;rw [show 0+(i*1+0)=i from by omega,h3 i hi];dsimp only;rw [ax (by rw [jC];exact hi),Option.getD_some,Dn hi]
theorem vE {W W':World} {lo:Nat} {A:Option Addr} {d:List Nat} (h:tQ W lo A d) (hb:Below W.heap.size W W'):tQ W' lo A d:= λhn=>by
 obtain ⟨g,e,h1,h2,h3⟩:=h hn;exact ⟨g,e,h1,ak h2 hb.size, λj hj=>(World.cell?_of_block (a:=⟨g,j,none⟩) (hb.block g h2)).trans (h3 j hj)⟩
theorem Lo.aj1:Lo.prog.underlying 63=some (.slice 25):=(Lo.underlying 63).trans (by kernel_rfl)
theorem Lo.Ws:(Lo.prog.info? 25).map (λi=>(i.zero,i.size,i.bytes))=some (some (.slice none 0 0),1,24):=by
 rw [Lo.info];kernel_rfl
end Go.Proofs
end
section
namespace Go.Proofs
open Go Go.RowKit Go.Maps
variable [Lo.St]
theorem Lo.Qj {w:World} {B:Nat} {lots:List (Int×Int)} {cs:List (Int×Int×Int)} {A1 A2:Option Addr} {c1 c2:Nat} (h1:Lc w B A1 lots) (h2:Ld w B A2 cs) (hl1:lots.length<=64) (hl2:cs.length<=64) (hB:B<=w.heap.size) (limit:Int) (hne:cO lots cs limit≠0):
 Calls Lo.prog 7 #[.slice A1 lots.length c1,.slice A2 cs.length c2,.int .i64 limit] w (jD w lots cs limit):=by
 obtain ⟨U,U2,U3,U4,U5,U6⟩:=@Lo.facts inferInstance;have C:=(@Lo.call9 inferInstance);generalize hcx:cO lots cs limit=cx at hne;have HX:=Lib.hid (au hcx (au h1 h2));clear hcx h1 h2;replace hne:¬cx=0:=hne;go_enter Lo.func7,Try.ntmps7
 go_wp2_with (go_at_call 9;refine (Lo.Sd (B:=B) HX.out.2.1 HX.out.2.2 hl1 hl2 hB _).mono ?_;rintro e w1 ⟨rfl,hb1⟩;rw [HX.out.1])
 (try simp only [Exit.inBlock,Exit.then])
 refine bodyPost_ret (Be rfl _ _ _) rfl ?_
 unfold jD;rw [HX.out.1,if_pos hne];exact ⟨hb1,rfl⟩
theorem Lo.M4 {w:World} {B:Nat} {lots:List (Int×Int)} {cs:List (Int×Int×Int)} {A1 A2:Option Addr} {c1 c2:Nat} (h1:Lc w B A1 lots) (h2:Ld w B A2 cs) (hB:B<=w.heap.size) (limit:Int) (hz:cO lots cs limit=0):
 Calls Lo.prog 7 #[.slice A1 lots.length c1,.slice A2 cs.length c2,.int .i64 limit] w (jD w lots cs limit):=by
 obtain ⟨U,U2,U3,U4,U5,U6⟩:=@Lo.facts inferInstance;have C:=(@Lo.call9 inferInstance);have C2:=(@Lo.call23 inferInstance);have g:=JV hz;have nl:=g.nl;obtain ⟨nc1,nc2⟩:=g.nc;obtain ⟨i3,hi3,hz3,aj2,hz32⟩:=info_parts Lo.info3;obtain ⟨i25,aq6,aq7,aj3,aj4⟩:=info_parts Lo.Ws;have HX:=Lib.hid (au hz (au h1 (au h2 g)));have hl1:lots.length<=64:=by omega
 have hl2:cs.length<=64:=by omega
 clear hz h1 h2 g;go_enter Lo.func7,Try.ntmps7
 go_wp2_with (go_at_call 9;refine (Lo.Sd (B:=B) HX.out.2.1 HX.out.2.2.1 hl1 hl2 hB _).mono ?_;rintro e w1 ⟨rfl,hb1⟩;rw [HX.out.1];have HB1:=Lib.hid hb1;clear hb1)
 go_loopw [11,12] (λv i wr=>∃(j:Nat) (l:List Value),j<=lots.length∧i= .int .i64 (j:Int)∧wO wr w1.heap.size (w1.heap.size+1) j cs.length (cs.length ^ j) v l∧Below w1.heap.size w1 wr∧w1.heap.size+1<=wr.heap.size) (λ_ i _=>lots.length - (intOf i).toNat)
 case atStart=>exact ⟨0,_,aL _,rfl,by simpa using wO.first w1 cs.length _,(Below.refl _ _).alloc (aj _) _,by simp⟩
 case round=>
  obtain ⟨j,l,hj,rfl,hrow,hb,hsz⟩:=hrel;have ZA:0<cs.length ^ j:=Nat.pow_pos (by omega);obtain ⟨g0,cap0,rfl,hg0,hg1⟩:=ownsRow.shape hrow.own ZA;have hps:cs.length ^ j<=4096:=G6 nc2 (by omega)
  by_cases hlt:j<lots.length
  ·have hlt':(j:Int)<(lots.length:Int):=by omega
   have aj5:cs.length ^ (j+1)<=4096:=G6 nc2 (by omega);rw [Nat.pow_succ] at aj5;obtain ⟨N,hN⟩:∃N,cs.length ^ j=N:=⟨_,rfl⟩;rw [hN] at hrow ZA hps aj5;obtain ⟨W,rfl⟩:∃W,W=wr:=⟨_,rfl⟩;have HJ:=Lib.hid (au hrow (au hb hN));clear hrow hb;rw [hN];go_wp2
   go_loopw [13,14] (λv k wq=>∃(q:Nat) (l2:List Value),q<=N∧k= .int .i64 (q:Int)∧wO wq W.heap.size W.heap.size (j+1) cs.length (q*cs.length) v l2∧Below W.heap.size W wq) (λ_ k _=>N - (intOf k).toNat)
   case atStart=>exact ⟨0,[],aL _,rfl,by simpa using wO.zero _ _ _ _ _,Below.refl _ _⟩
   case round=>
    obtain ⟨q,l2,hq,rfl,hrow2,hb2⟩:=hrel
    by_cases hql:q<N
    ·have aq8:(q:Int)<(N:Int):=by omega
     have hqm:q*cs.length+cs.length<=N*cs.length:=by have :=Nat.mul_le_mul_right cs.length (show q+1<=N by omega);rw [Nat.succ_mul] at this;exact this
     have H2:=Lib.hid (au hrow2 hb2);clear hrow2 hb2;go_wp2
     go_loopw [13,15] (λv c wx=>∃(z:Nat) (l3:List Value),z<=cs.length∧c= .int .i64 (z:Int)∧wO wx W.heap.size W.heap.size (j+1) cs.length (q*cs.length+z) v l3∧Below W.heap.size W wx) (λ_ c _=>cs.length - (intOf c).toNat)
     case atStart=>exact ⟨0,l2,aL _,rfl,by simpa using H2.out.1,H2.out.2⟩
     case round=>
      obtain ⟨z,l3,hz,rfl,hrow3,hb3⟩:=hrel
      by_cases hzl:z<cs.length
      ·have av8:(z:Int)<(cs.length:Int):=by omega
       obtain ⟨hrow,hb, -⟩:=HJ.out;have hll:l.length=N:=by have :=hrow.own.1;omega
       have M5:q<l.length:=by omega
       obtain ⟨d,hd,hv,hu⟩:=hrow.el q l[q] (ax M5);have k1:=(World.cell?_of_block (a:=⟨g0,q,none⟩) (hb3.block g0 hg1)).trans ((hrow.own.cellAt q (by omega)).trans (ax M5));have ZC:=ownsRow.below hu hb3;generalize l[q]=u at k1 ZC hu;have hbs:=hb3.size;have k2:=(World.cell?_of_block (w:=wr) (w':=wr.alloc (.cells #[] 3)) (a:=⟨g0,q,none⟩) (Below.heap_alloc _ _ _ (by show g0<_;omega))).trans k1;have H3:=Lib.hid (au hrow3 (au hb3 (au hd (au hv ZC))));clear hrow hb hrow3 hb3 hd hv ZC hu hll M5
       go_wp2_with (at_builtin;refine Cg rfl _ _ 25 rfl wr.heap.size i3 Lo.DU hi3 hz3 aj2 hz32 _ 0 [] rfl (World.ownsRow_made wr #[] 0 (aj _) (by decide) rfl) rfl (World.ownsRow.alloc H3.out.2.2.2.2 _) (by omega) (by simp) ?_)
       intro v1 X1 o1 g1;have hx1:Below wr.heap.size wr X1:=((Below.refl _ _).alloc (aj _) _).grown g1 (by simp) (λk hk=>by simp [Value.ownBlock] at hk;omega);have hs1:=hx1.size;have K1:=Lib.hid (au o1 hx1);clear o1 g1 hx1
       go_wp2_with (at_builtin;refine wpList_append_own _ rfl _ _ 25 rfl wr.heap.size 3 i3 (.int .i64 0) 1 8 Lo.DU hi3 hz3 aj2 hz32 rfl (by decide) v1 j (ints d) rfl (K1.out.1.alloc _) ⟨X1.heap.size,0,none⟩ 1 1 [.int .i64 (z:Int)] rfl rfl ?c1 ?c2 ?c3 ?c4 ?c5 ?_)
       case c1=>exact World.news_of_block (t:=3) (fr:=(0,0)) (cs:= #[.int .i64 (z:Int)]) (World.alloc_heap_new _ _)
       case c2=>intro u hu;simp only [aT,List.not_mem_nil,or_false] at hu;subst hu;rfl
       case c3=>unfold maxLen;omega
       case c4=>omega
       case c5=>rw [World.size_alloc];omega
       intro v2 X2 o2 g2 _;have hx2:Below wr.heap.size wr X2:=(K1.out.2.alloc (by omega) _).grown g2 (by rw [World.size_alloc];omega) (λk hk=>(K1.out.1.lt k hk).1);have hs2:=hx2.size;obtain ⟨g2',cap2,rfl,hg2,av9⟩:=ownsRow.shape o2 (by omega);have K2:=Lib.hid (au o2 hx2);clear o2 g2 hx2
       go_wp2_with (at_builtin;refine wpList_append_own _ rfl _ _ 63 rfl W.heap.size 25 i25 (.slice none 0 0) 1 24 Lo.aj1 aq6 aq7 aj3 aj4 rfl (by decide) _ (q*cs.length+z) l3 rfl (World.ownsRow.alloc (ownsRow.below H3.out.1.own K2.out.2) _) ⟨X2.heap.size,0,none⟩ 1 1 [.slice (some ⟨g2',0,none⟩) (j+1) cap2] rfl rfl ?c1 ?c2 ?c3 ?c4 ?c5 ?_)
       case c1=>exact World.news_of_block (t:=25) (fr:=(0,0)) (cs:= #[.slice (some ⟨g2',0,none⟩) (j+1) cap2]) (World.alloc_heap_new _ _)
       case c2=>intro u hu;simp only [aT,List.not_mem_nil,or_false] at hu;subst hu;rfl
       case c3=>unfold maxLen;omega
       case c4=>omega
       case c5=>rw [World.size_alloc];omega
       intro v3 X3 o3 g3 _;have hx3:=K2.out.2.alloc (by omega) (.cells #[.slice (some ⟨g2',0,none⟩) (j+1) cap2] 25)
       have hrow4:wO X3 W.heap.size W.heap.size (j+1) cs.length (q*cs.length+z+1) v3 (l3++ [.slice (some ⟨g2',0,none⟩) (j+1) cap2]):=by
        obtain ⟨r1,r2,r3,r4,r5⟩:=H3.out;refine r1.push (d:=d++ [z]) hx3 ?_ (Qh r3 hzl) (by rw [TR,r4]) o3 g3
        have o4:=Fg K2.out.1 hbs;rw [TP];exact World.ownsRow.alloc o4 _
       have hb4:Below W.heap.size W X3:=(H3.out.2.1.trans (hx3.mono hbs)).grown g3 (by rw [World.size_alloc];omega) (λk hk=>(H3.out.1.own.lt k hk).1);have K3:=Lib.hid (au hrow4 hb4);clear o3 g3 hx3 hrow4 hb4;go_wp2;go_roundw
       case rel=>exact ⟨z+1,_,hzl,by go_num,K3.out.1,K3.out.2⟩
       case measure=>simp [intOf];omega
      ·obtain rfl:z=cs.length:=by omega
       have K:=Lib.hid (au hrow3 hb3);clear hrow3 hb3;go_wp2;go_roundw
       case rel=>exact ⟨q+1,l3,hql,by go_num,by rw [Nat.succ_mul];exact K.out.1,K.out.2⟩
       case measure=>simp [intOf];omega
    ·obtain rfl:q=N:=by omega
     have K:=Lib.hid (au hrow2 hb2);clear hrow2 hb2;go_wp2;obtain ⟨hrow,hb,hN2⟩:=HJ.out;go_roundw
     case rel=>exact ⟨j+1,l2,hlt,by go_num,by rw [Nat.pow_succ,hN2];exact K.out.1.base hb.size hsz,hb.trans (K.out.2.mono hb.size),aC hsz K.out.2.size⟩
     case measure=>simp [intOf];omega
  ·obtain rfl:j=lots.length:=by omega
   obtain ⟨N,hN⟩:∃N,cs.length ^ lots.length=N:=⟨_,rfl⟩;rw [hN] at hrow ZA hps;obtain ⟨W,rfl⟩:∃W,W=wr:=⟨_,rfl⟩;have HJ:=Lib.hid (au hrow (au hb hN));clear hrow hb;rw [hN];go_wp2
   go_loopw [16,17,18,19] (λb h f i wq=>∃(q:Nat) (who:List Nat) (A:Option Addr) (cap:Nat) (hours:Int) (found:Bool),q<=N∧b= .slice A who.length cap∧h= .int .i64 hours∧f= .bool found∧i= .int .i64 (q:Int)∧mJ lots cs limit q who hours found∧tQ wq w.heap.size A who∧Below W.heap.size W wq) (λ_ _ _ i _=>N - (intOf i).toNat)
   case atStart=>exact ⟨0,[],none,0,0,false,aL _,rfl,rfl,rfl,rfl,mJ.start _ _ _, λh=>absurd h (by simp),Below.refl _ _⟩
   case round=>
    obtain ⟨q,who,A,cap,hours,found,hq,rfl,rfl,rfl,rfl,dS,hwho,hb4⟩:=hrel
    by_cases hql:q<N
    ·have aq8:(q:Int)<(N:Int):=by omega
     obtain ⟨hrow,hb, -⟩:=HJ.out;have hll:l.length=N:=by have :=hrow.own.1;omega
     have M5:q<l.length:=by omega
     obtain ⟨d,hd,hv,hu⟩:=hrow.el q l[q] (ax M5);have k1:=(World.cell?_of_block (a:=⟨g0,q,none⟩) (hb4.block g0 hg1)).trans ((hrow.own.cellAt q (by omega)).trans (ax M5));have ZC:=ownsRow.below hu hb4;generalize l[q]=u at k1 ZC hu;have hb1:=HB1.out.size;have hbs:=hb4.size;obtain ⟨Au,cu,rfl,hwu⟩:=Qi (lo:=w.heap.size) ZC hd.1 (by omega);have hbw:Below w.heap.size w wr:=HB1.out.trans ((hb.trans (hb4.mono hb.size)).mono hb1);have G7:=Lo.Qg (c1:=c1) (c2:=c2) (c3:=cu) (HX.out.2.1.keep λx o h=>bV hbw x o (by omega)) (HX.out.2.2.1.keep λx o h=>bV hbw x o (by omega)) (M3 hwu) (aC hB hbw.size) HX.out.2.2.2 hd;rw [hd.1] at G7;obtain ⟨hv1,hhv⟩:∃x,fA lots cs d=x:=⟨_,rfl⟩;obtain ⟨yv,hyv⟩:∃x,nk lots cs d=x:=⟨_,rfl⟩;rw [hhv,hyv] at G7;have Wt:g0<wr.heap.size:=by omega
     have H4:=Lib.hid (au dS (au hwho (au hb4 (au hd hv))));have HV:=Lib.hid (au hhv (au hyv hwu));clear hrow hb hll M5 hu ZC dS hwho hb4 hd hv hhv hyv hwu hbw
     by_cases hok:yv<=limit
     ·cases found with
      |false=>
       go_wp2_with (go_at_call 23;refine G7.mono ?_;rintro e w5 ⟨rfl,hb5⟩;have k5:=(World.cell?_of_block (a:=⟨g0,q,none⟩) (hb5.block g0 Wt)).trans k1;have K5:=Lib.hid hb5;clear hb5)
       obtain ⟨dS,hwho,hb4,hd,hv⟩:=H4.out;go_roundw
       case rel=>exact ⟨q+1,d,Au,cu,_,true,hql,by rw [hd.1],rfl,rfl,by go_num,by rw [<-HV.out.1];exact dS.take hd hv (by unfold zo;rw [HV.out.2.1];exact hok) (λh=>by cases h),vE HV.out.2.2 K5.out,hb4.trans (K5.out.mono hb4.size)⟩
       case measure=>simp [intOf];omega
      |true=>
       by_cases hlt2:hv1<hours
       ·go_wp2_with (go_at_call 23;refine G7.mono ?_;rintro e w5 ⟨rfl,hb5⟩;have k5:=(World.cell?_of_block (a:=⟨g0,q,none⟩) (hb5.block g0 Wt)).trans k1;have K5:=Lib.hid hb5;clear hb5)
        obtain ⟨dS,hwho,hb4,hd,hv⟩:=H4.out;go_roundw
        case rel=>exact ⟨q+1,d,Au,cu,_,true,hql,by rw [hd.1],rfl,rfl,by go_num,by rw [<-HV.out.1];exact dS.take hd hv (by unfold zo;rw [HV.out.2.1];exact hok) (λ_=>by rw [HV.out.1];exact hlt2),vE HV.out.2.2 K5.out,hb4.trans (K5.out.mono hb4.size)⟩
        case measure=>simp [intOf];omega
       ·go_wp2_with (go_at_call 23;refine G7.mono ?_;rintro e w5 ⟨rfl,hb5⟩;have k5:=(World.cell?_of_block (a:=⟨g0,q,none⟩) (hb5.block g0 Wt)).trans k1;have K5:=Lib.hid hb5;clear hb5)
        obtain ⟨dS,hwho,hb4,hd,hv⟩:=H4.out;go_roundw
        case rel=>exact ⟨q+1,who,A,cap,hours,true,hql,rfl,rfl,rfl,by go_num,dS.pass hd hv (λ_=>⟨rfl,by rw [HV.out.1];omega⟩),vE hwho K5.out,hb4.trans (K5.out.mono hb4.size)⟩
        case measure=>simp [intOf];omega
     ·go_wp2_with (go_at_call 23;refine G7.mono ?_;rintro e w5 ⟨rfl,hb5⟩;have k5:=(World.cell?_of_block (a:=⟨g0,q,none⟩) (hb5.block g0 Wt)).trans k1;have K5:=Lib.hid hb5;clear hb5)
      obtain ⟨dS,hwho,hb4,hd,hv⟩:=H4.out;go_roundw
      case rel=>exact ⟨q+1,who,A,cap,hours,found,hql,rfl,rfl,rfl,by go_num,dS.pass hd hv (λh=>absurd h (by unfold zo;rw [HV.out.2.1];omega)),vE hwho K5.out,hb4.trans (K5.out.mono hb4.size)⟩
      case measure=>simp [intOf];omega
    ·obtain rfl:q=N:=by omega
     obtain ⟨hrow,hb,hN2⟩:=HJ.out;have hbw:Below w.heap.size w wr:=HB1.out.trans ((hb.trans (hb4.mono hb.size)).mono HB1.out.size);have K:=Lib.hid (au dS (au hwho (au hbw hN2)));clear hrow hb dS hwho hb4 hbw hN2;go_wp2
     (try simp only [Exit.inBlock,Exit.then])
     refine bodyPost_ret (Be rfl _ _ _) rfl ?_
     unfold jD;refine ⟨K.out.2.2.1,?_⟩;rw [if_neg (by rw [HX.out.1];simp)];exact ⟨A,cap,who,hours,found,rfl,by rw [K.out.2.2.2];exact K.out.1,K.out.2.1⟩
theorem Lo.Fh {w:World} {B:Nat} {lots:List (Int×Int)} {cs:List (Int×Int×Int)} {A1 A2:Option Addr} {c1 c2:Nat} (h1:Lc w B A1 lots) (h2:Ld w B A2 cs) (hl1:lots.length<=64) (hl2:cs.length<=64) (hB:B<=w.heap.size) (limit:Int):
 Calls Lo.prog 7 #[.slice A1 lots.length c1,.slice A2 cs.length c2,.int .i64 limit] w (jD w lots cs limit):=by
 by_cases h:cO lots cs limit=0
 ·exact Lo.M4 h1 h2 hB limit h
 ·exact Lo.Qj h1 h2 hl1 hl2 hB limit h
end Go.Proofs
end
section
namespace Go.Proofs
open Go Go.RowKit Go.Maps
variable [Lo.St]
theorem Qk {lots cs limit i who hours found} (h:mJ lots cs limit i who hours found) (hn:lots.length<=64):who.length<=64:=by
 cases found with
 |false=>rw [(h.no rfl).1];simp
 |true=>rw [(h.yes rfl).1.1];exact hn
theorem Lo.G8 {w:World} {A1 A2:Option Addr} {l:List Nat} {c1 c2:Nat} (h1:zT w w.heap.size A1 (nums l)) (h2:zT w w.heap.size A2 (nums l)) (hl:l.length<=64):
 Calls Lo.prog 8 #[.slice A1 l.length c1,.slice A2 l.length c2] w λe w'=>e= .returned (.bool true):=by
 have :=Lo.JR (c1:=c1) (c2:=c2) h1 h2 (by rw [jC];exact hl) (by rw [jC];exact hl) (aj _);rw [jC] at this;refine this.mono ?_
 rintro e w' ⟨rfl,_⟩;simp
theorem Lo.Fj {w:World} {lots:List (Int×Int)} {cs:List (Int×Int×Int)} {A1 A2:Option Addr} {c1 c2:Nat} (h5:KH) (limit:Int) (hno:40<lots.length∨40<cs.length):
 Calls Lo.prog 3 #[.slice A1 lots.length c1,.slice A2 cs.length c2,.int .i64 limit] w λe w'=>e= .returned (.bool true):=by
 obtain ⟨U,U2,U3,U4,U5,U6⟩:=@Lo.facts inferInstance;have C:=(@Lo.call5 inferInstance);have H5:=Lib.hid h5;clear h5
 by_cases q1:40<lots.length
 ·have d1:(40:Int)<(lots.length:Int):=by omega
  clear hno q1;go_enter Lo.func3,Try.ntmps3
  go_wp2_with (go_at_call 5;refine (H5.out _).mono ?_;rintro e w1 ⟨rfl,rfl⟩)
  go_ret;rfl
 have d1:¬(40:Int)<(lots.length:Int):=by omega
 have q2:40<cs.length:=by omega
 have d2:(40:Int)<(cs.length:Int):=by omega
 clear hno q2;go_enter Lo.func3,Try.ntmps3
 go_wp2_with (go_at_call 5;refine (H5.out _).mono ?_;rintro e w1 ⟨rfl,rfl⟩)
 go_ret;rfl
theorem Lo.Ql {w:World} {B:Nat} {lots:List (Int×Int)} {cs:List (Int×Int×Int)} {A1 A2:Option Addr} {c1 c2:Nat} (h5:KH) (h1:Lc w B A1 lots) (h2:Ld w B A2 cs) (hB:B<=w.heap.size) (limit:Int) (q1:¬40<lots.length) (q2:¬40<cs.length) (hne:cO lots cs limit≠0):
 Calls Lo.prog 3 #[.slice A1 lots.length c1,.slice A2 cs.length c2,.int .i64 limit] w λe w'=>e= .returned (.bool true):=by
 obtain ⟨U,U2,U3,U4,U5,U6⟩:=@Lo.facts inferInstance;have C:=(@Lo.call5 inferInstance);have C2:=(@Lo.call6 inferInstance);have C3:=(@Lo.call7 inferInstance);have C4:=(@Lo.call8 inferInstance);have d1:¬(40:Int)<(lots.length:Int):=by omega
 have d2:¬(40:Int)<(cs.length:Int):=by omega
 have l1:lots.length<=64:=by omega
 have l2:cs.length<=64:=by omega
 have H5:=Lib.hid h5;generalize hcx:cO lots cs limit=cx at hne;have HX:=Lib.hid (au hcx (au h1 (au h2 hne)));clear h5 h1 h2 hcx hne q1 q2;have KJ:=Lib.hid trivial;have KL:=Lib.hid trivial;go_enter Lo.func3,Try.ntmps3
 go_wp2_with (first
  |(have t:=KJ;clear KJ t;go_at_call 6;refine (Lo.BH HX.out.2.1 HX.out.2.2.1 l1 l2 hB _).mono ?_;rintro e w1 ⟨hb1,hx⟩;rw [HX.out.1,if_pos HX.out.2.2.2] at hx;subst hx;have H1:=Lib.hid hb1;clear hb1)
  |(have t:=KL;clear KL t;go_at_call 7;refine (Lo.Fh (HX.out.2.1.keep λx o h=>bV H1.out x o (by omega)) (HX.out.2.2.1.keep λx o h=>bV H1.out x o (by omega)) l1 l2 (aC hB H1.out.size) _).mono ?_;rintro e w2 ⟨hb2,hx⟩;rw [HX.out.1,if_pos HX.out.2.2.2] at hx;subst hx;clear hb2)
  |(go_at_call 8;refine (Lo.G8 (l:=[]) (λh=>absurd h (by simp [nums])) (λh=>absurd h (by simp [nums])) (by simp)).mono ?_;rintro e w3 rfl)
  |(go_at_call 5;refine (H5.out _).mono ?_;rintro e w4 ⟨rfl,rfl⟩))
 go_ret;rfl
theorem Lo.M6 {w:World} {B:Nat} {lots:List (Int×Int)} {cs:List (Int×Int×Int)} {A1 A2:Option Addr} {c1 c2:Nat} (h5:KH) (h1:Lc w B A1 lots) (h2:Ld w B A2 cs) (hB:B<=w.heap.size) (limit:Int) (q1:¬40<lots.length) (q2:¬40<cs.length) (hz:cO lots cs limit=0):
 Calls Lo.prog 3 #[.slice A1 lots.length c1,.slice A2 cs.length c2,.int .i64 limit] w λe w'=>e= .returned (.bool true):=by
 obtain ⟨U,U2,U3,U4,U5,U6⟩:=@Lo.facts inferInstance;have C:=(@Lo.call5 inferInstance);have C2:=(@Lo.call6 inferInstance);have C3:=(@Lo.call7 inferInstance);have C4:=(@Lo.call8 inferInstance);have d1:¬(40:Int)<(lots.length:Int):=by omega
 have d2:¬(40:Int)<(cs.length:Int):=by omega
 have l1:lots.length<=64:=by omega
 have l2:cs.length<=64:=by omega
 have H5:=Lib.hid h5;have HX:=Lib.hid (au hz (au h1 h2));clear h5 h1 h2 hz q1 q2;have KJ:=Lib.hid trivial;have KL:=Lib.hid trivial;go_enter Lo.func3,Try.ntmps3
 go_wp2_with (first
  |(have t:=KJ;clear KJ t;go_at_call 6;refine (Lo.BH HX.out.2.1 HX.out.2.2 l1 l2 hB _).mono ?_;rintro e w1 ⟨hb1,hx⟩;rw [if_neg (by rw [HX.out.1];simp)] at hx;obtain ⟨Aw,qw,who,hours,found,rfl,dS,hwho⟩:=hx;have H1:=Lib.hid (au hb1 (au dS hwho));clear hb1 dS hwho)
  |(have t:=KL;clear KL t;go_at_call 7;refine (Lo.Fh (HX.out.2.1.keep λx o h=>bV H1.out.1 x o (by omega)) (HX.out.2.2.keep λx o h=>bV H1.out.1 x o (by omega)) l1 l2 (aC hB H1.out.1.size) _).mono ?_;rintro e w2 ⟨hb2,hx⟩;rw [if_neg (by rw [HX.out.1];simp)] at hx;obtain ⟨Av,qv,who',M0,found',rfl,dS,hwho⟩:=hx;obtain ⟨rfl,rfl,rfl⟩:=H1.out.2.1.one dS;have H2:=Lib.hid (au hb2 hwho);clear hb2 hwho dS)
  |(go_at_call 8;refine (Lo.G8 (l:=who) (M3 (vE H1.out.2.2 H2.out.1)) (M3 H2.out.2) (Qk H1.out.2.1 l1)).mono ?_;rintro e w3 rfl)
  |(go_at_call 5;refine (H5.out _).mono ?_;rintro e w4 ⟨rfl,rfl⟩))
 go_ret;rfl
theorem Lo.M7 {w:World} {B:Nat} {lots:List (Int×Int)} {cs:List (Int×Int×Int)} {A1 A2:Option Addr} {c1 c2:Nat} (h5:KH) (h1:Lc w B A1 lots) (h2:Ld w B A2 cs) (hB:B<=w.heap.size) (limit:Int):
 Calls Lo.prog 3 #[.slice A1 lots.length c1,.slice A2 cs.length c2,.int .i64 limit] w λe w'=>e= .returned (.bool true):=by
 by_cases q1:40<lots.length
 ·exact Lo.Fj h5 limit (.inl q1)
 by_cases q2:40<cs.length
 ·exact Lo.Fj h5 limit (.inr q2)
 by_cases hz:cO lots cs limit=0
 ·exact Lo.M6 h5 h1 h2 hB limit q1 q2 hz
 ·exact Lo.Ql h5 h1 h2 hB limit q1 q2 hz
end Go.Proofs
end
