/- Part 3. -/
import Derived.BigRegion
import Derived.Deep.DeepMust
import Derived.Deep.CutRange
import Derived.Test.YtjoahejacacljaaGreatH28
import Derived.Test.YtjoahejacacljaaGreatS02
import Derived.Test.YtjoahejacacljaaGreatS01
set_option maxRecDepth 100000
set_option maxHeartbeats 0
set_option linter.all false
namespace Go.Proofs
open Go Go.RowKit Go.Maps
variable [Lo.St]
attribute [local irreducible] wpQuiet
def Lo.tsieve_any{w:World}{B:Nat}{ls pk:List Int}{ps:List (Int×Int)}{A1 A2 A3:Option Addr}{c1 c2 c3:Nat}(h5:Gk)(h1:xJ w B A1 ls)(h2:YM w B A2 ps)(h3:RdU w B A3 pk)(hu:U16 pk)(hB:B<=w.heap.size):
 Calls Lo.prog 3 #[.slice A1 ls.length c1,.slice A2 ps.length c2,.slice A3 pk.length c3] w λe w'=>e=.returned (.bool true):=by
 obtain⟨U,U2,U3,U4,U5,U6⟩:=Lo.facts;have C:=Lo.call Tryz.func4;have C2:=Lo.call Tryz.func6;have C3:=Lo.call5;have C4:=Lo.call Tryz.func7;have C5:=Lo.call Tryz.func8;have C6:=Lo.call Tryz.func10;have C7:=Lo.call Tryz.func9;have C8:=Lo.call Tryz.func11;have ψS:=Lo.call Tryz.func12;have E1:=(@Lo.ao9 inferInstance);have E2:=(@Lo.ap1 inferInstance);have E3:=(@Lo.ap0 inferInstance);have E4:=(@Lo.iv inferInstance);have H5:=Lib.hid h5
 have HR:=Lib.hid (show∀W,Below w.heap.size w W->xJ W B A1 ls∧YM W B A2 ps∧RdU W B A3 pk fromλW hW=>
  have hk:∀d o,d<B->W.cell? ⟨d,o,none⟩=w.cell? ⟨d,o,none⟩:= λd o h=>dH hW d o (by omega)
  ⟨h1.keep hk,h2.keep hk,h3.keep hk⟩)
 have HU:=Lib.hid hu;clear h1 h2 h3 h5 hu
 by_cases l40:(ls.length:Int)> 40
 .go_enter Lo.get Tryz.func3,Tryz.ntmps3;go_wp2;refine(H5.out _).mono ?_
  rintro e w5⟨rfl,rfl⟩;go_wp2;go_ret;rfl
 by_cases s40:(ps.length:Int)> 40
 .go_enter Lo.get Tryz.func3,Tryz.ntmps3;go_wp2;refine(H5.out _).mono ?_
  rintro e w5⟨rfl,rfl⟩;go_wp2;go_ret;rfl
 go_enter Lo.get Tryz.func3,Tryz.ntmps3;go_wp2;refine(Lo.rcheckSizes_any (HR.out _ (Below.refl _ _)).1 (HR.out _ (Below.refl _ _)).2.1 hB (by omega) (by omega)).mono ?_
 rintro e w1⟨z,rfl,hz,b1⟩
 by_cases z0:z=0
 case neg=>
  go_wp2;refine(H5.out _).mono ?_
  rintro e w5⟨rfl,rfl⟩;go_wp2;go_ret;rfl
 subst z0;have hs:=hz rfl;have hl3:=hs.l3;have hl20:=hs.s20;have HS:=Lib.hid hs;clear hz hs;have CT:=b1.size;have B1:=Lib.hid b1;clear b1
 go_wp2_with(go_at_call 6;refine(Lo.sorted_ok (HR.out _ B1.out).1 (HR.out _ B1.out).2.1 (by omega) HS.out).mono ?_;rintro e w2⟨b2,AS,cq,rfl,hq⟩;have B2:=Lib.hid (B1.out.trans (b2.mono CT));clear b2)
 rw[show(ls.length:Int)+1+1=((ls.length+1+1:Nat):Int) by omega];refine(Lo.named_ok (n:=ls.length+1+1) (by omega) _).mono ?_
 rintro e w3⟨vn,rfl,hn,b3⟩;obtain⟨gn,cn,rfl,hgb,hgl,hcn⟩:=row_at hn;have H3:=Lib.hid (And.intro hn b3);have HQ:=Lib.hid hq;have JT:=b3.size;rw[World.size_alloc]at JT;clear hn b3 hq
 go_wp2_with(go_at_call 8;refine(Lo.Bw _ _ _).mono ?_;rintro e w4⟨rfl,rfl⟩)
 obtain⟨X,hX⟩:∃X,nZ [.cells #[.int .i64 0] 3,.cells #[.int .i64 (ps.length:Int),.int .i64 (ps.length:Int)] 33,.cells #[.int .i64 0] 3,stepsO (ps.length:Int) w3.heap.size (w3.heap.size+1+1) (.slice none 0 0),bookO w2.heap.size (w3.heap.size+1+1+1) (.slice (some ⟨gn,0,none⟩) (ls.length+1+1) cn) (.slice none 0 0)] w3=X:=⟨_,rfl⟩;have sX:X.heap.size=w3.heap.size+5:=by rw[<-hX,qD];rfl
 have bX:Below w3.heap.size w3 X:=hX ▸ mo _ w3;have g:∀k,k<5->X.heap[w3.heap.size+k]?=_:= λk h=>hX ▸ jT _ w3 k (by simpa using h)
 have hI0:SvI (w3.heap.size+5) (w3.heap.size+1+1+1+1) (w3.heap.size+1+1+1) w2.heap.size w3.heap.size (w3.heap.size+1+1) (.slice (some ⟨gn,0,none⟩) (ls.length+1+1) cn) (ps.length:Int) (ls.length+1) (sortF ls ps) X 0 (.slice none 0 0) 0 (.slice none 0 0) [] (.slice none 0 0):=by
  have b23:=H3.out.2;rw[World.size_alloc]at b23;refine⟨g 4 (by omega),g 3 (by omega),?_,g 0 (by omega),g 2 (by omega),⟨by omega,by omega,by omega,by omega,by omega,by omega,by omega⟩,?_,?_,World.ownsRow_nil _ _ _ _,World.ownsRow_nil _ _ _ _,World.ownsRow_nil _ _ _ _, λ_=>rfl, λ_=>rfl⟩
  .rw[bX.block _ (by omega),b23.block _ (by omega)];exact World.alloc_heap_new _ _
  .exact ownsRow.below (ownsRow.base H3.out.1 (Nat.zero_le _)) bX
  .intro q hq;obtain rfl:gn=q:=by simpa[Value.ownBlock]using hq
   exact⟨by omega,by omega,by omega⟩
 have b2X:Below w2.heap.size w2 X:=by have b23:=H3.out.2;exact((Below.refl _ _).alloc (Nat.le_refl _) _).trans ((b23.mono (by simp)).trans (bX.mono (by omega)))
 have HI0:=Lib.hid (And.intro hI0 b2X);have hgn:gn<w3.heap.size:=hgl;obtain⟨n3,hn3⟩:∃n3,w3.heap.size=n3:=⟨_,rfl⟩;show Code.wp Lo.prog _ _ _ (nZ [.cells #[.int .i64 0] 3,.cells #[.int .i64 (ps.length:Int),.int .i64 (ps.length:Int)] 33,.cells #[.int .i64 0] 3,stepsO (ps.length:Int) w3.heap.size (w3.heap.size+1+1) (.slice none 0 0),bookO w2.heap.size (w3.heap.size+1+1+1) (.slice (some ⟨gn,0,none⟩) (ls.length+1+1) cn) (.slice none 0 0)] w3);rw[hX];rw[hn3]at HI0 sX hgn JT⊢;clear hX bX g hI0 b2X hgb hgl hn3 H3;obtain⟨i3,hi3,hz3,hz31,hz32⟩:=info_parts Lo.info3;obtain⟨i0,hi,hz0,hz1,hz2⟩:=info_parts Lo.YS;have hw1:∀k:Nat,k<ls.length+1->IntKind.i64.wrap ((k:Int)+1)=(k:Int)+1:= λk h=>by rw[IntKind.wrap_i64];omega
 go_loopw [11,12] (λvr i wr=>∃(k:Nat)(νv vs:Value),k<=ls.length+1∧i=.int .i64 (k:Int)∧SvI (n3+5) (n3+1+1+1+1) (n3+1+1+1) w2.heap.size n3 (n3+1+1) (.slice (some ⟨gn,0,none⟩) (ls.length+1+1) cn) (ps.length:Int) (ls.length+1) (sortF ls ps) wr k νv k vs (List.replicate k 0) vr∧Below w2.heap.size w2 wr) (λ_ i _=>ls.length+1-(intOf i).toNat)
 case atStart=>exact⟨0,_,_,Nat.zero_le _,rfl,HI0.out.1,HI0.out.2⟩
 case round=>
  obtain⟨k,νv,vs,hk,rfl,hI,hbw⟩:=hrel
  by_cases hlt:k<ls.length+1
  .have hlt':(k:Int)<(ls.length:Int)+1:=by omega
   have iw:=hw1 k hlt;have x2:=cell_of hI.box 2;have x3:=cell_of hI.box 3;have θe:=cell_of hI.stp 9;have y9':=cell_of (hI.alloc (.cells #[.int .i64 ((k:Int)+1)] 3)).stp 9;have x2':=cell_of (hI.alloc (.cells #[.int .i64 ((k:Int)+1)] 3)).box 2;have fb:∀j,wr.frozen? ⟨n3+1+1+1+1,j,none⟩=false:= λj=>by have :=hI.box;unfold bookO at this;unfold World.frozen?;simp only[this];simp
   have fs:∀j,wr.frozen? ⟨n3+1+1+1,j,none⟩=false:= λj=>by have :=hI.stp;unfold stepsO at this;unfold World.frozen?;simp only[this];simp
   have hrz:∀x∈List.replicate k (0:Int),x=0:= λx hx=>(List.mem_replicate.1 hx).2
   have swr:=hI.lt.2.2.2.2.2.2;have HI:=Lib.hid (And.intro hI (And.intro hbw hrz));clear hI hbw hrz;go_wp2;apply AP (λg cap wx=>SvI (n3+5) (n3+1+1+1+1) (n3+1+1+1) w2.heap.size n3 (n3+1+1) (.slice (some ⟨gn,0,none⟩) (ls.length+1+1) cn) (ps.length:Int) (ls.length+1) (sortF ls ps) wx (k+1) (.slice (some ⟨g,0,none⟩) (k+1) cap) k vs (List.replicate k 0) u11∧Below w2.heap.size w2 wx)
   case h1=>
    intro Q' hK
    go_region_law ((
     refine cS.PK rfl (.tmp 81) (.tmp 84) 22 rfl (n3+5) 3 i3 (.int .i64 0) 1 8 Lo.I1 hi3 hz3 hz31 hz32 rfl (by decide) νv k (ints1 k) rfl (HI.out.1.ro.drew.alloc _) ⟨wr.heap.size,0,none⟩ 1 1 [.int .i64 ((k:Int)+1)] rfl rfl (World.news_of_block (heap_alloc_new wr.drew _)) (λu hu=>by simp at hu;subst hu;rfl) (by unfold maxLen;omega) (by omega) (by first|(simp;done)|(simp;omega)) ?_
     go_must(
      intro v' w1 hown1 hgrow;obtain⟨g,cap,rfl, -⟩:=row_at hown1;have hO:=SvI.out (HI.out.1.drew.alloc _) HI.out.2.2 (by rw[ints1_succ];exact_mod_cast hown1) hgrow;have f1:=(SvI.fix (HI.out.1.drew.alloc _) (HI.out.1.ro.drew.alloc _) hgrow).1;have hB1:Below w2.heap.size w2 w1:=(HI.out.2.1.drew.alloc (by show w2.heap.size<=wr.heap.size;omega) _).grown hgrow (by first|(simp;done)|(simp;omega)) (λj hj=>by have :=(HI.out.1.ro.lt j hj).1;omega);have hS:=(f1 (n3+1+1+1) (by omega)).trans (HI.out.1.drew.alloc (.cells #[.int .i64 ((k:Int)+1)] 3)).stp;have fs1:∀j,w1.frozen? ⟨n3+1+1+1,j,none⟩=false:= λj=>by unfold stepsO at hS;unfold World.frozen?;simp only[hS];simp
      have y91:=cell_of hS 9;have hX1:=(f1 (n3+1+1+1+1) (by omega)).trans (HI.out.1.drew.alloc (.cells #[.int .i64 ((k:Int)+1)] 3)).box;have x21:=cell_of hX1 2;have HO:=Lib.hid (And.intro hO hB1);clear hO hB1 f1 hown1 hgrow hS hX1)))
    all_goals exact hK g cap _ ⟨HO.out.1,HO.out.2.setCell (by show w2.heap.size<=n3+1+1+1;omega) _⟩
   case h2=>
    rintro g cap wx⟨hI,hbw⟩;have x3:=cell_of hI.box 3;have hqw:YM wx w2.heap.size AS (sortF ls ps):=HQ.out.keep λd o h=>dH hbw d o h
    have hsl:(sortF ls ps).length=ls.length+1:=sortF_len;obtain⟨κn,φq,rfl,hbq,hcq⟩:=hqw (by omega);obtain⟨q0,q1⟩:=Si hcq (show k<(sortF ls ps).length by omega)
    have hsk:(scOf (sortF ls ps)).take (k+1)=(scOf (sortF ls ps)).take k++ [⟨(k:Int)+1,(sortF ls ps)[k].1,(sortF ls ps)[k].2⟩]:=by rw[List.take_succ_eq_append_getElem (by rw[scOf_len];omega)];congr 2;simp[scOf,show k<(sortF ls ps).length by omega]
    obtain⟨lk,hlk⟩:∃lk,(sortF ls ps)[k]=lk:=⟨_,rfl⟩;rw[hlk]at q0 q1 hsk;have fb:∀j,wx.frozen? ⟨n3+1+1+1+1,j,none⟩=false:= λj=>by have :=hI.box;unfold bookO at this;unfold World.frozen?;simp only[this];simp
    have x3':=cell_of (hI.alloc (.cells #[.int .i64 ((k:Int)+1),.int .i64 lk.1,.int .i64 lk.2] 42)).box 3;have hk0:=dH ((Below.refl _ wx).alloc (Nat.le_refl _) (.cells #[.int .i64 ((k:Int)+1),.int .i64 lk.1,.int .i64 lk.2] 42)) κn (φq+k*2) (by have :=hbw.size;omega);have hk1:=dH ((Below.refl _ wx).alloc (Nat.le_refl _) (.cells #[.int .i64 ((k:Int)+1),.int .i64 lk.1,.int .i64 lk.2] 42)) κn (φq+k*2+1) (by have :=hbw.size;omega);have q0':=hk0.trans q0;have q1':=hk1.trans q1;have sbx:=hbw.size;have swx:=hI.lt.2.2.2.2.2.2;have HI2:=Lib.hid (And.intro hI (And.intro hbw hsk));clear hI hbw hsk hqw hcq hk0 hk1 hlk HI x2 θe y9' x2' fs;go_wp2;apply AP (λg2 cap2 wy=>SvI (n3+5) (n3+1+1+1+1) (n3+1+1+1) w2.heap.size n3 (n3+1+1) (.slice (some ⟨gn,0,none⟩) (ls.length+1+1) cn) (ps.length:Int) (ls.length+1) (sortF ls ps) wy (k+1) (.slice (some ⟨g,0,none⟩) (k+1) cap) (k+1) (.slice (some ⟨g2,0,none⟩) (k+1) cap2) (List.replicate k 0) u11∧Below w2.heap.size w2 wy)
    case h1=>
     intro Q' hK
     go_region_law ((
      refine cS.PK rfl (.tmp 89) (.tmp 97) 38 rfl (n3+5) 42 i0 (.agg #[.int .i64 0,.int .i64 0,.int .i64 0]) 3 24 Lo.Xi hi hz0 hz1 hz2 rfl (by decide) vs k (cells3 ((scOf (sortF ls ps)).take k)) rfl (HI2.out.1.rw.drew.alloc _) ⟨wx.heap.size,0,none⟩ 1 1 [.int .i64 ((k:Int)+1),.int .i64 lk.1,.int .i64 lk.2] rfl rfl (World.news_of_block (heap_alloc_new wx.drew _)) (λu hu=>by simp at hu;rcases hu with rfl|rfl|rfl<;>rfl) (by unfold maxLen;omega) (by omega) (by first|(simp;done)|(simp;omega)) ?_
      go_must(
       intro v' w1 hown1 hgrow;obtain⟨g2,cap2,rfl, -⟩:=row_at hown1;have hO:=SvI.scl (HI2.out.1.drew.alloc _) (by rw[HI2.out.2.2, <-cells3_app];exact hown1) hgrow;have f1:=(SvI.fix (HI2.out.1.drew.alloc _) (HI2.out.1.rw.drew.alloc _) hgrow).1;have hB1:Below w2.heap.size w2 w1:=(HI2.out.2.1.drew.alloc (by show w2.heap.size<=wx.heap.size;omega) _).grown hgrow (by first|(simp;done)|(simp;omega)) (λj hj=>by have :=(HI2.out.1.rw.lt j hj).1;omega);have hX1:=(f1 (n3+1+1+1+1) (by omega)).trans (HI2.out.1.drew.alloc (.cells #[.int .i64 ((k:Int)+1),.int .i64 lk.1,.int .i64 lk.2] 42)).box;have x31:=cell_of hX1 3;have fb1:∀j,w1.frozen? ⟨n3+1+1+1+1,j,none⟩=false:= λj=>by unfold bookO at hX1;unfold World.frozen?;simp only[hX1];simp
       have HO:=Lib.hid (And.intro hO hB1);clear hO hB1 f1 hown1 hgrow hX1)))
     all_goals exact hK g2 cap2 _ ⟨HO.out.1,HO.out.2.setCell (by show w2.heap.size<=n3+1+1+1+1;omega) _⟩
    case h2=>
     rintro g2 cap2 wy⟨hI,hbw⟩;have sby:=hbw.size;have swy:=hI.lt.2.2.2.2.2.2;have HI3:=Lib.hid (And.intro hI (And.intro hbw (show∀x∈List.replicate k (0:Int),x=0 fromλx hx=>(List.mem_replicate.1 hx).2)));clear hI hbw HI2 x3 x3' fb q0 q1 q0' q1'
     go_wp2_with(at_builtin;refine wpList_append_own _ rfl _ _ 22 rfl (n3+5) 3 i3 (.int .i64 0) 1 8 Lo.I1 hi3 hz3 hz31 hz32 rfl (by decide) u11 (List.replicate k (0:Int)).length ((List.replicate k (0:Int)).map λx=>.int .i64 x) rfl (HI3.out.1.rr.alloc _) ⟨wy.heap.size,0,none⟩ 1 1 [.int .i64 0] rfl rfl ?c1 ?c2 ?c3 ?c4 ?c5 ?_)
     case c1=>exact World.news_of_block (t:=3) (fr:=(0,0)) (cs:= #[.int .i64 0]) (World.alloc_heap_new _ _)
     case c2=>intro u hu;simp only[List.mem_cons,List.not_mem_nil,or_false]at hu;subst hu;rfl
     case c3=>rw[List.length_replicate];unfold maxLen;omega
     case c4=>rw[List.length_replicate];omega
     case c5=>rw[World.size_alloc];omega
     intro v3 X3 o3 g3 _;have hR:=SvI.real (vr':=v3) (HI3.out.1.alloc (.cells #[.int .i64 0] 3)) HI3.out.2.2 (by simpa[List.map_replicate]using o3) g3;rw[<-List.replicate_succ']at hR;have hB3:Below w2.heap.size w2 X3:=(HI3.out.2.1.alloc (by omega) _).grown g3 (by rw[World.size_alloc];omega) (λj hj=>by have :=(HI3.out.1.rr.lt j hj).1;omega);have K:=Lib.hid (And.intro hR hB3);clear hR hB3 o3 g3;go_wp2;go_roundw
     case rel=>exact⟨k+1,_,_,by omega,by go_num,K.out.1,K.out.2⟩
     case measure=>simp[intOf];omega
  .have hke:k=ls.length+1:=by omega
   have hkd:¬((k:Int)<(ls.length:Int)+1):=by omega
   rw[hke]at hI;clear hke hk hlt
   have r0:realL ls [] (ls.length+1)=List.replicate (ls.length+1) 0:=by
    apply List.ext_getElem
    .simp[realL]
    .intro i h1 h2;simp[realL,realN]
   obtain⟨gr,cr,hur,hgr1,hgr2,hcr⟩:=row_at (n:=ls.length) (by have :=hI.rr;rw[List.length_replicate]at this;exact this);obtain⟨gs,cs,RN,hgs1,hgs2,hcs⟩:=row_at hI.rw;obtain⟨go,co,WX,hgo1,hgo2,hco⟩:=row_at hI.ro;have hap:=hI.apart (λx hx=>(List.mem_replicate.1 hx).2);have hap2:=row_ty hI.rr hI.rw (by decide);subst hur RN WX;have ngo:gr≠go:=by simpa[Value.ownBlock]using hap
   have ngs:gr≠gs:=by simpa[Value.ownBlock]using hap2
   have ngs2:go≠gs:=by simpa[Value.ownBlock]using row_ty hI.ro hI.rw (by decide)
   have hr0:(List.replicate (ls.length+1) (0:Int)).length=ls.length+1:=by simp
   have hI1:SvI (n3+5) (n3+1+1+1+1) (n3+1+1+1) w2.heap.size n3 (n3+1+1) (.slice (some ⟨gn,0,none⟩) (ls.length+1+1) cn) (ps.length:Int) (ls.length+1) (sortF ls ps) wr (ls.length+1) (.slice (some ⟨go,0,none⟩) (ls.length+1) co) (ls.length+1) (.slice (some ⟨gs,0,none⟩) (ls.length+1) cs) (realL ls [] (ls.length+1)) (.slice (some ⟨gr,0,none⟩) (realL ls [] (ls.length+1)).length cr):=by rw[r0];simpa using hI
   have HI:=Lib.hid (And.intro hI1 hbw);have swr:=hI.lt.2.2.2.2.2.2;clear hI hI1 hbw hap hap2 r0;go_wp2
   go_loopw [13] (λi wq=>∃(k:Nat)(xs:List Int),k<=ps.length∧i=.int .i64 (k:Int)∧RealS (ps.take k) xs∧SvI (n3+5) (n3+1+1+1+1) (n3+1+1+1) w2.heap.size n3 (n3+1+1) (.slice (some ⟨gn,0,none⟩) (ls.length+1+1) cn) (ps.length:Int) (ls.length+1) (sortF ls ps) wq (ls.length+1) (.slice (some ⟨go,0,none⟩) (ls.length+1) co) (ls.length+1) (.slice (some ⟨gs,0,none⟩) (ls.length+1) cs) (realL ls xs (ls.length+1)) (.slice (some ⟨gr,0,none⟩) (realL ls xs (ls.length+1)).length cr)∧Below w2.heap.size w2 wq) (λi _=>ps.length-(intOf i).toNat)
   case atStart=>exact⟨0,[],Nat.zero_le _,rfl,⟨by simp, λi h=>by simp at h⟩,HI.out.1,HI.out.2⟩
   case round=>
    obtain⟨k,xs,hk,rfl,hX,hI,hbw⟩:=hrel
    by_cases hlt:k<ps.length
    .have hlt':(k:Int)<(ps.length:Int):=by omega
     have hkr:=B2.out.trans (hbw.mono B2.out.size);obtain⟨b2,o2,rfl,hb2,hc2⟩:=(HR.out _ hkr).2.1 (by omega);obtain⟨k0,k1⟩:=Si hc2 hlt;have hrg:=HS.out.sp _ (List.getElem_mem hlt);have ck:=Lib.hid (And.intro hX (show∀x,ps[k].1<=x->x<=ps[k].2->RealS (ps.take (k+1)) (xs++ [x])fromλx h1 h2=>real_snoc hX hlt ⟨h1,h2⟩));obtain⟨pk0,hpk⟩:∃x,ps[k]=x:=⟨_,rfl⟩;rw[hpk]at k0 k1 hrg ck;have sbw:=hbw.size;have s2w:=B2.out.size;have HI2:=Lib.hid (And.intro hI (And.intro hbw hkr));clear hc2 hX hI hbw hkr hpk;obtain⟨lo,hi'⟩:=pk0;simp only at k0 k1 hrg;have swq:=HI2.out.1.lt.2.2.2.2.2.2;go_wp2;refine(Lo.pick_to (k:=(k:Int)) (HR.out _ HI2.out.2.2).2.2 HU.out (by omega) ⟨hrg.1,hrg.2.1,by omega⟩ ⟨by omega,by omega⟩).mono ?_
     rintro e w6⟨x,rfl,hx1,hx2,hb6⟩;have hI6:=HI2.out.1.below hb6;have hbw6:=HI2.out.2.1.trans (hb6.mono sbw);have hkr6:=B2.out.trans (hbw6.mono s2w);have hXS6:=ck.out.2 x hx1 hx2;have hcl:=classF_le ls x;have sz6:=hb6.size;have hcc:=hI6.rr.cells rfl (classF ls x) (.int .i64 (realN ls xs (classF ls x))) (by rw[List.getElem?_map,List.getElem?_eq_getElem (by rw[realL_len];omega),realL_at (by omega)];rfl);rw[show(⟨gr,0,none⟩:Addr).add (classF ls x)=⟨gr,classF ls x,none⟩from by unfold Addr.add;split<;>simp_all]at hcc;have hrn:=realN_rg (ls:=ls) ck.out.1 (classF ls x);rw[List.length_take]at hrn;have HI6:=Lib.hid (And.intro hI6 (And.intro hbw6 (And.intro hkr6 hXS6)))
     have hfr:∀j,w6.frozen? ⟨gr,j,none⟩=false:= λj=>by
      obtain⟨cur,hcur⟩:∃cur,w6.heap[gr]?=some (.cells cur 3 (0,0)):=by
       rcases hI6.rr.2 with⟨h0,_⟩|⟨g',cap',cur,e1,hb,hg,_⟩
       .cases h0
       .cases e1;exact⟨cur,hg⟩
      unfold World.frozen?;simp only[hcur];simp
     clear hI6 hbw6 hkr6 hXS6 hb6 ck HI2 k0 k1
     go_wp2_with(go_at_call 9;refine(Lo.class_any (HR.out _ HI6.out.2.2.1).1 (by omega) (by have :=HI6.out.2.2.1.size;omega) x).mono ?_;rintro e w7⟨rfl,rfl⟩)
     go_roundw
     case rel=>
      refine⟨k+1,xs++ [x],by omega,by go_num,HI6.out.2.2.2,?_,HI6.out.2.1.setCell (by have :=(HI6.out.1.rr.lt gr rfl).1;show w2.heap.size<=gr;omega) _⟩;rw[realL_snoc,List.length_set];exact HI6.out.1.put (λe=>ngo (Option.some.inj e).symm) (λe=>ngs (Option.some.inj e).symm) (by rw[realL_len];omega)
     case measure=>simp[intOf];omega
    .obtain rfl:k=ps.length:=by omega
     rw[List.take_length]at hX;obtain⟨rs,hrs⟩:∃rs,realL ls xs (ls.length+1)=rs:=⟨_,rfl⟩;have hsl:(sortF ls ps).length=ls.length+1:=sortF_len;have hrl:rs.length=ls.length+1:=by rw[<-hrs];exact realL_len
     have hrr:∀x∈rs,0<=x∧x<=20:= λx hx=>by rw[<-hrs]at hx;obtain⟨c,hc,rfl⟩:=List.mem_map.1 hx;have :=realN_rg (ls:=ls) hX c;omega
     have hrsum:rs.sum=(ps.length:Int):=by rw[<-hrs];exact real_all hX
     have fk:1<=ls.length+1∧ls.length+1<=4:=by omega
     have hn20:0<=(ps.length:Int)∧(ps.length:Int)<=20:=by omega
     have hsx:∀x∈sortF ls ps,0<=x.1∧x.1<=x.2∧x.2<=1000000:= λx hx=>by obtain⟨c,hc,rfl⟩:=List.mem_map.1 hx;have a1:=real_in (ls:=ls) hX c;have a2:=real_may (ls:=ls) hX c;have a3:=cntS_le (inC ls c) ps;have a4:=cntS_le (mayC ls c) ps;simp only;omega
     have hin:∀c(h1:c<(sortF ls ps).length)(h2:c<rs.length),(sortF ls ps)[c].1<=rs[c]∧rs[c]<=(sortF ls ps)[c].2:= λc h1 h2=>by subst hrs;simp only[realL,List.getElem_map,List.getElem_range,sortF];exact⟨real_in hX c,real_may hX c⟩
     have hfit:=sieve_fit (n:=(ps.length:Int)) hsl hrl hin;have hchk:=sieve_check fk hn20 hsl hsx;have hsml:=sieve_small (n:=(ps.length:Int)) fk hsl;have hhold:=sieve_holds fk hn20 hsl hsx hrl hrr hrsum hfit;have hmass:= λc (h:c<rs.length)=>sieve_mass fk hn20 hsl hsx hrl hrr hrsum hfit h
     have htop:=sieve_mass0 fk hn20 hsl hsx hrl hrr hrsum hfit;have sR:= λc (h:c<ls.length+1)=>sieve_box (n:=(ps.length:Int)) hsl h
     have hsrt:∀a b,a<=b->b<rs.length->cntS (wiC ls a b) ps<=((rs.take (b+1)).drop a).sum:= λa b h1 h2=>by rw[<-hrs];exact real_sums hX h1 (by omega)
     rw[hrs]at hI;have HP:=Lib.hid (And.intro hchk (And.intro hsml (And.intro hhold (And.intro hmass (And.intro htop (And.intro sR hsrt))))));have HP2:=Lib.hid (And.intro hsx (And.intro hin (And.intro hrr hrsum)));have swq:=hI.lt.2.2.2.2.2.2;have x0:=cell_of hI.box 0;have x1:=cell_of hI.box 1;have x2:=cell_of hI.box 2;have x3:=cell_of hI.box 3;have HJ:=Lib.hid (And.intro hI hbw);clear hX hsx hin hrr hrsum hfit hchk hsml hhold hmass htop sR hsrt hI hbw HI hrs;go_wp2;have hbk:=(SvI.book (by exact hsl) (by omega) (by omega) HJ.out.1);refine(Lo.masses_own (b:=sieveB (ps.length:Int) (ls.length+1) (scOf (sortF ls ps))) (v:=sieveV w2.heap.size gn cn (n3+1+1+1) gs cs n3 (n3+1+1) go co) ?hx hbk (Nat.le_refl _) HP.out.2.1 HP.out.1 HP.out.2.2.1 (by simp[sieveB])).mono ?_
     case hx=>
      have e1:(sieveB (ps.length:Int) (ls.length+1) (scOf (sortF ls ps))).dz.length=ls.length+1+1:=by simp[sieveB]
      have e2:(sieveB (ps.length:Int) (ls.length+1) (scOf (sortF ls ps))).dA.length=ls.length+1:=by show(scOf (sortF ls ps)).length=_;rw[scOf_len,hsl]
      unfold dY;rw[e1,e2];rfl
     have e1:(sieveB (ps.length:Int) (ls.length+1) (scOf (sortF ls ps))).dz.length=ls.length+1+1:=by simp[sieveB]
     rw[e1];rintro e w8⟨SN,gm,cM,rfl,hgm1,hgm2,hcm⟩;have sw8:=SN.size;have hgsl:gs<wr.heap.size:=(HJ.out.1.rw.lt gs rfl).2;have hgsb:n3+5<=gs:=(HJ.out.1.rw.lt gs rfl).1;have hgrl:gr<wr.heap.size:=(HJ.out.1.rr.lt gr rfl).2;have ngm:gm≠gs:=by omega
     have hJ8:=HJ.out.1.below SN;have hbw8:=HJ.out.2.trans (SN.mono HJ.out.2.size);have HJ8:=Lib.hid (And.intro hJ8 hbw8);have htop:=HP.out.2.2.2.2.1;have m0:w8.cell? ⟨gm,0,none⟩=some (.int .i64 (ps.length:Int)):=by have :=hcm 0 0 (by omega) (by omega);rw[show 0*2+0=0 by omega]at this;rw[this];exact congrArg (λz=>some (Value.int .i64 z)) htop.1
     have m1:w8.cell? ⟨gm,1,none⟩=some (.int .i64 (ps.length:Int)):=by have :=hcm 0 1 (by omega) (by omega);rw[show 0*2+1=1 by omega]at this;rw[this];exact congrArg (λz=>some (Value.int .i64 z)) htop.2
     have HCM:=Lib.hid hcm;clear hJ8 hbw8 SN hbk x0 x1 x2 x3 e1 hcm htop;go_wp2;obtain⟨Cl,tS⟩:∃Cl:World->Prop,∀W,Cl W↔Below w8.heap.size w8 W:=⟨_, λ_=>Iff.rfl⟩;have jI:=Lib.hid tS;have HC0:=Lib.hid (show∀W,Below w8.heap.size w8 W->W.cell? ⟨gm,0,none⟩=some (.int .i64 (ps.length:Int))∧W.cell? ⟨gm,1,none⟩=some (.int .i64 (ps.length:Int))fromλW hW=>⟨(dH hW gm 0 hgm2).trans m0,(dH hW gm 1 hgm2).trans m1⟩);clear tS m0 m1;refine iH (C:=Cl) Lo.mixed (by kernel_rfl) ((jI.out _).2 (Below.refl _ _).drew) ?_
     repeat
      first
       |go_big_quiet_skip
       |(go_big_quiet_want
         go_big_quiet_op
         first
          |go_big_quiet_on
          |(apply Exists.intro;refine⟨λW hW=>?_,?_⟩
            .obtain⟨f0,f1⟩:=HC0.out W ((jI.out W).1 hW)
             first
              |rfl
              |(go_simp;rfl)
              |(go_simp;go_at_call 8;refine(Lo.Bw _ _ _).mono ?_;rintro e w9⟨rfl,rfl⟩;exact⟨rfl,(jI.out _).2 (((jI.out W).1 hW).alloc ((jI.out W).1 hW).size _)⟩)
            go_big_quiet_on))
     refine wpQuiet_nil ?_
     intro w9 hb9;replace hb9:=(jI.out _).1 hb9;have hJ9:=HJ8.out.1.below hb9;have hbw9:=HJ8.out.2.trans (hb9.mono HJ8.out.2.size);have hcm9:∀i j,i<ls.length+1+1->j<2->w9.cell? ⟨gm,i*2+j,none⟩=_:= λi j hi hj=>(dH hb9 gm _ hgm2).trans (HCM.out i j hi hj)
     have s9:=hb9.size;have hgm9:gm<w9.heap.size:=by omega
     have hq9:YM w9 w2.heap.size AS (sortF ls ps):=HQ.out.keep λd o h=>dH hbw9 d o h
     obtain⟨κn,φq,rfl,hbq,hcq⟩:=hq9 (by omega);have s29:=hbw9.size;have hne:rs.length=ls.length+1:=hrl
     have HK:=Lib.hid (show∀k,k<ls.length+1->∀W,Off gs gs w9 W->W.cell? ⟨gm,(k+1)*2,none⟩=some (.int .i64 (lO9 (p8 (sieveB (ps.length:Int) (ls.length+1) (scOf (sortF ls ps)))) (k+1)))∧W.cell? ⟨gm,(k+1)*2+1,none⟩=some (.int .i64 (hI9 (p8 (sieveB (ps.length:Int) (ls.length+1) (scOf (sortF ls ps)))) (k+1)))∧
      ∀lk,(sortF ls ps)[k]?=some lk->W.cell? ⟨κn,φq+k*2,none⟩=some (.int .i64 lk.1)∧W.cell? ⟨κn,φq+k*2+1,none⟩=some (.int .i64 lk.2)fromλk hk W hW=>
      have kp:∀d o,d<w9.heap.size->d≠gs->W.cell? ⟨d,o,none⟩=w9.cell? ⟨d,o,none⟩:= λd o h1 h2=>World.cell?_of_block (hW.block d h1 (by omega))
      ⟨(kp gm _ hgm9 ngm).trans (hcm9 (k+1) 0 (by omega) (by omega)),(kp gm _ hgm9 ngm).trans (hcm9 (k+1) 1 (by omega) (by omega)), λlk hlk=>by obtain⟨h1,h2⟩:=List.getElem?_eq_some_iff.1 hlk;subst h2;obtain⟨q0,q1⟩:=Si hcq h1;exact⟨(kp κn _ (by omega) (by omega)).trans q0,(kp κn _ (by omega) (by omega)).trans q1⟩⟩)
     have HJ9:=Lib.hid (And.intro hJ9 hbw9);clear hJ9 hbw9 hb9 HJ8 HCM HJ HC0 jI Cl hcm9 hq9 hcq;go_wp2
     go_loopw [16] (λi wq=>∃(k:Nat)(l':List (Int×Int)),k<=ls.length+1∧i=.int .i64 (k:Int)∧l'.length=ls.length+1∧(∀c(h1:c<l'.length)(h2:c<rs.length),c<k->l'[c]=(rs[c],rs[c]))∧SvI (n3+5) (n3+1+1+1+1) (n3+1+1+1) w2.heap.size n3 (n3+1+1) (.slice (some ⟨gn,0,none⟩) (ls.length+1+1) cn) (ps.length:Int) (ls.length+1) l' wq (ls.length+1) (.slice (some ⟨go,0,none⟩) (ls.length+1) co) (ls.length+1) (.slice (some ⟨gs,0,none⟩) (ls.length+1) cs) rs (.slice (some ⟨gr,0,none⟩) rs.length cr)∧Off gs gs w9 wq) (λi _=>ls.length+1-(intOf i).toNat)
     case atStart=>exact⟨0,_,Nat.zero_le _,rfl,hsl, λc _ _ h=>by omega,HJ9.out.1,Off.refl _ _ _⟩
     case round=>
      obtain⟨k,l',hk,rfl,hl',hlc,hI,hof⟩:=hrel
      by_cases hlt:k<ls.length+1
      .have hlt':(k:Int)<(ls.length:Int)+1:=by omega
       have iw:=hw1 k hlt;obtain⟨t0,t1,t2⟩:=HK.out k hlt wr hof;obtain⟨lk,hlk⟩:∃lk,(sortF ls ps)[k]?=some lk:=⟨_,List.getElem?_eq_getElem (by omega)⟩
       obtain⟨t3,t4⟩:=t2 lk hlk;obtain⟨rk,hrk⟩:∃rk,rs[k]?=some rk:=⟨_,List.getElem?_eq_getElem (by omega)⟩
       obtain⟨hrk1,hrk2⟩:=List.getElem?_eq_some_iff.1 hrk;have t5:=hI.rr.cells rfl k (.int .i64 rk) (by rw[List.getElem?_map,hrk];rfl);rw[show(⟨gr,0,none⟩:Addr).add k=⟨gr,k,none⟩from by unfold Addr.add;split<;>simp_all]at t5;have a1:=HP.out.2.2.2.1 k (by omega);have a2:=HP.out.2.2.2.2.2.1 k hlt;obtain⟨hlk1,hlk2⟩:=List.getElem?_eq_some_iff.1 hlk;rw[hrk2]at a1;rw[hlk2]at a2;generalize lO9 (p8 (sieveB (ps.length:Int) (ls.length+1) (scOf (sortF ls ps)))) (k+1)=ml at t0 a1 a2;generalize hI9 (p8 (sieveB (ps.length:Int) (ls.length+1) (scOf (sortF ls ps)))) (k+1)=φ8 at t1 a1 a2;have d1:decide (rk<ml)=false:=decide_eq_false (by omega);have d2:decide (φ8<rk)=false:=decide_eq_false (by omega);have d3:decide (ml<lk.1)=false:=decide_eq_false (by omega);have d4:decide (lk.2<φ8)=false:=decide_eq_false (by omega);have HL:=Lib.hid (And.intro hI (And.intro hof (And.intro hlc (And.intro hl' hrk))));clear hI hof hlc hl' hrk t2 a1 a2 hlk hlk2 hrk2;generalize lk.1=ll at t3 d3;generalize lk.2=lh at t4 d4;go_wp2
       go_quiet(fail)
       obtain⟨V,hVe⟩:∃V,wr.drewN nq=V:=⟨_,rfl⟩;rw[hVe];have hV:=HL.out.1.below (below_drewN (Below.refl _ wr) nq);have κ7:=HL.out.2.1.trans (Off.drewN gs gs wr nq);rw[hVe]at hV κ7;have v5:V.cell? ⟨gr,k,none⟩=some (.int .i64 rk):=by rw[<-hVe];exact t5
       have hsc:=hV.rw.cells rfl;have hS:(scOf l').take (ls.length+1)=scOf l':=List.take_of_length_le (by rw[scOf_len,HL.out.2.2.2.1];exact Nat.le_refl _);rw[hS]at hsc;have hadd:∀j,(⟨gs,0,none⟩:Addr).add j=⟨gs,j,none⟩:= λj=>by unfold Addr.add;split<;>simp_all
       have y1:=hsc (k*3+1) _ (cells3_get (scOf l') (by rw[scOf_len,HL.out.2.2.2.1];exact hlt) (by omega));have y2:=hsc (k*3+2) _ (cells3_get (scOf l') (by rw[scOf_len,HL.out.2.2.2.1];exact hlt) (by omega));rw[hadd]at y1 y2;replace y2:V.cell? ⟨gs,k*3+1+1,none⟩=_:=y2;have x3:=cell_of hV.box 3
       have fg:∀j,V.frozen? ⟨gs,j,none⟩=false:= λj=>by
        obtain⟨cur,ee,hcur⟩:∃cur ee,V.heap[gs]?=some (.cells cur ee (0,0)):=by
         rcases hV.rw.2 with⟨h0,_⟩|⟨g',cap',cur,e1,hb,hg,_⟩
         .cases h0
         .cases e1;exact⟨cur,_,hg⟩
        unfold World.frozen?;simp only[hcur];simp
       have bA:Below V.heap.size V (V.alloc (.cells #[.int .i64 rk,.int .i64 rk] 33)):=(Below.refl _ V).alloc (Nat.le_refl _) _;have δ2:=(hV.rw.lt gs rfl).2;have φQ:=(hV.rr.lt gr rfl).2;have bV:=hV.lt.2.2.2.2.2.2;have y1':=(dH bA gs _ δ2).trans y1;have y2':=(dH bA gs _ δ2).trans y2;have v5':=(dH bA gr _ φQ).trans v5;have x3':=(dH bA (n3+1+1+1+1) 3 (by omega)).trans x3;have fg':∀j,(V.alloc (.cells #[.int .i64 rk,.int .i64 rk] 33)).frozen? ⟨gs,j,none⟩=false:= λj=>(Bv bA gs j δ2).trans (fg j)
       have HV:=Lib.hid (And.intro hV κ7);clear hV κ7 hsc hS hVe hadd bA t0 t1 t3 t4 t5 d1 d2 d3 d4;go_wp2;apply Jd (λwx=>SvI (n3+5) (n3+1+1+1+1) (n3+1+1+1) w2.heap.size n3 (n3+1+1) (.slice (some ⟨gn,0,none⟩) (ls.length+1+1) cn) (ps.length:Int) (ls.length+1) (l'.set k (rk,rk)) wx (ls.length+1) (.slice (some ⟨go,0,none⟩) (ls.length+1) co) (ls.length+1) (.slice (some ⟨gs,0,none⟩) (ls.length+1) cs) rs (.slice (some ⟨gr,0,none⟩) rs.length cr)∧Off gs gs w9 wx)
       case h1=>
        intro Q' hK
        go_region_law ((go_simp;go_at_call 8;refine(Lo.Bw _ _ _).mono ?_;rintro e w11⟨rfl,rfl⟩))
        all_goals exact hK _ ⟨((SvI.fixS HV.out.1 HL.out.2.2.2.1 hlt (λe=>ngs2 (Option.some.inj e)) (λe=>ngs (Option.some.inj e))).alloc _).drew,((((HV.out.2.trans (Off.grown _ _ rfl)).trans (Off.grown _ _ rfl)).trans (Off.alloc _ _ _ _)).trans (Off.drew _ _ _))⟩
       case h2=>
        rintro wx⟨hS,hO⟩;have HSO:=Lib.hid (And.intro hS hO);clear hS hO y1 y2 y1' y2' v5 v5' x3 x3' fg fg' HV;go_wp2;go_roundw
        case rel=>
         refine⟨k+1,_,by omega,by go_num,by rw[List.length_set];exact HL.out.2.2.2.1, λc h1 h2 h3=>?_,HSO.out.1,HSO.out.2⟩;rw[List.getElem_set]
         by_cases e:k=c
         .subst e;rw[if_pos rfl];obtain⟨_,h4⟩:=List.getElem?_eq_some_iff.1 HL.out.2.2.2.2;rw[h4]
         .rw[if_neg e];exact HL.out.2.2.1 c (by rw[List.length_set]at h1;exact h1) h2 (by omega)
        case measure=>simp[intOf];omega
      .have hkd2:¬((k:Int)<(ls.length:Int)+1):=by omega
       have hls:l'=rs.map λx=>(x,x):=by
        apply List.ext_getElem
        .rw[hl',List.length_map,hrl]
        .intro c h1 h2;rw[hlc c h1 (by simpa using h2) (by omega)];simp
       subst hls
       have hlx:∀x∈rs.map (λx=>(x,x)),0<=x.1∧x.1<=x.2∧x.2<=1000000:= λx hx=>by obtain⟨y,hy,rfl⟩:=List.mem_map.1 hx;have :=HP2.out.2.2.1 y hy;simp only;omega
       have hfit2:FitAll ((ps.length:Int)::rs) (scOf (rs.map λx=>(x,x))):=sieve_fit (m:=ls.length+1) hl' hrl λc h1 h2=>by simp
       have hchk2:=sieve_check fk hn20 hl' hlx;have hsml2:=sieve_small (n:=(ps.length:Int)) fk hl';have hhold2:=sieve_holds fk hn20 hl' hlx hrl HP2.out.2.2.1 HP2.out.2.2.2 hfit2;have hkw:=((HJ9.out.2).mono (Nat.le_refl _))
       have hRw:xJ wr B A1 ls∧YM wr B A2 ps:=by have hb:Below w.heap.size w wr:=hof.below (B2.out.trans (HJ9.out.2.mono B2.out.size)) (by have :=B2.out.size;omega) (Nat.le_refl _);exact⟨(HR.out _ hb).1,(HR.out _ hb).2.1⟩
       have hBr:B<=wr.heap.size:=by have :=hof.size;have :=B2.out.size;omega
       have hrr:xJ wr wr.heap.size (some ⟨gr,0,none⟩) rs:=row_rd hI.rr λi j hi hj=>by
        obtain rfl:j=0:=by omega
        simp[hi]
       have hSo:=Lo.sorts_ok (c1:=c1) (c2:=c2) (c3:=cr) (Rd.up hRw.1 hBr) (Rd.up hRw.2 hBr) hrr (Nat.le_refl _) HS.out hrl HP2.out.2.2.1 (by omega) HP2.out.2.2.2 HP.out.2.2.2.2.2.2;rw[hrl]at hSo;have HSo:=Lib.hid hSo;have HI9:=Lib.hid (And.intro hI (And.intro hchk2 (And.intro hsml2 hhold2)));clear hI hof hlc hlx hfit2 hchk2 hsml2 hhold2 hkw hRw hrr hSo HK HJ9;go_wp2;refine HSo.out.mono ?_
       rintro e w10⟨rfl,Lp⟩;have hI10:=HI9.out.1.below Lp;have x0:=cell_of hI10.box 0;have x1:=cell_of hI10.box 1;have x2:=cell_of hI10.box 2;have x3:=cell_of hI10.box 3;have hbk:=SvI.book hl' (by omega) (by omega) hI10;have HB10:=Lib.hid hbk;clear hI10 hbk Lp;go_wp2;refine(Lo.masses_own (b:=sieveB (ps.length:Int) (ls.length+1) (scOf (rs.map λx=>(x,x)))) (v:=sieveV w2.heap.size gn cn (n3+1+1+1) gs cs n3 (n3+1+1) go co) ?hx2 HB10.out (Nat.le_refl _) HI9.out.2.2.1 HI9.out.2.1 HI9.out.2.2.2 (by simp[sieveB])).mono ?_
       case hx2=>
        have e1:(sieveB (ps.length:Int) (ls.length+1) (scOf (rs.map λx=>(x,x)))).dz.length=ls.length+1+1:=by simp[sieveB]
        have e2:(sieveB (ps.length:Int) (ls.length+1) (scOf (rs.map λx=>(x,x)))).dA.length=ls.length+1:=by show(scOf (rs.map λx=>(x,x))).length=_;rw[scOf_len,hl']
        unfold dY;rw[e1,e2];rfl
       rintro e w12⟨hb12,ρN,cQ,rfl, -, -, -⟩;go_wp2;refine(H5.out _).mono ?_
       rintro e w5⟨rfl,rfl⟩;go_wp2;go_ret;rfl
end Go.Proofs
