/- Part 33. -/
import Derived.Test.YtnemnkmojiljmaaGreatG32
set_option maxRecDepth 100000
set_option maxHeartbeats 0
set_option linter.all false
namespace Go.Proofs.Tryz
open Go Go.RowKit Go.ChangeShapes Go.WideShapes Go.ChangeAt Go.Conc Go.ConcM Par
section
theorem ak4:Tryz.prog.cellsOf 9=1:=by kernel_rfl
theorem Li:Tryz.prog.cellsOf 22=1:=by kernel_rfl
theorem QX:Tryz.prog.cellsOf 23=1:=by kernel_rfl
theorem QY:Tryz.prog.cellsOf 24=1:=by kernel_rfl
theorem Lj:Tryz.prog.cellsOf 44=1:=by kernel_rfl
theorem Zv:Tryz.prog.cellsOf 53=7:=by kernel_rfl
theorem Zx:Tryz.prog.cellsOf 59=3:=by kernel_rfl
theorem Zy:Tryz.prog.cellsOf 26=4:=by kernel_rfl
def R7 (W:World) (j:Nat) (v:Value):Prop:=if j=1∨j=2 then BK W 1 (λ_=>EP) v else EP v
def R4 (W:World) (j:Nat) (v:Value):Prop:=if j=2 then BK W 7 (R7 W) v else if j=3 then BK W 3 (λ_=>EP) v else BK W 1 (λ_=>Z9) v
section
variable {H:Type} {enc:TypeId×Value->H} {W:World}
theorem av6:nE enc Tryz.prog W 44 (Tryz.prog.cellsOf 44) λ_=>BK W 1 λ_=>EP:=by rw [Lj];exact FJ Tryz.underlying44 cells3 (by decide) (MJ Tryz.underlying3)
theorem aB2:nE enc Tryz.prog W 53 7 (R7 W):=vW Tryz.underlying53 λj hj=>by
 rcases j with _|_|_|_|_|_|_|j
 ·refine ⟨0,{ name:= "Hand",type:=3,offset:=0,embedded:=false,tag:= "",pkgPath:= "",byteOffset:=0 }, λ_=>EP,rfl,?_,?_,el3, λv h=>by unfold R7;rw [aa (by omega)];exact h⟩<;>(try dsimp only)<;>(try rw [cells3])<;>omega
 ·refine ⟨1,{ name:= "In",type:=44,offset:=1,embedded:=false,tag:= "",pkgPath:= "",byteOffset:=8 }, λ_=>BK W 1 λ_=>EP,rfl,?_,?_,av6, λv h=>by unfold R7;rw [aj (by omega)];exact h⟩<;>(try dsimp only)<;>(try rw [Lj])<;>omega
 ·refine ⟨2,{ name:= "Out",type:=44,offset:=2,embedded:=false,tag:= "",pkgPath:= "",byteOffset:=32 }, λ_=>BK W 1 λ_=>EP,rfl,?_,?_,av6, λv h=>by unfold R7;rw [aj (by omega)];exact h⟩<;>(try dsimp only)<;>(try rw [Lj])<;>omega
 ·refine ⟨3,{ name:= "Gain",type:=51,offset:=3,embedded:=false,tag:= "",pkgPath:= "",byteOffset:=56 }, λ_=>EP,rfl,?_,?_,Kb, λv h=>by unfold R7;rw [aa (by omega)];exact h⟩<;>(try dsimp only)<;>(try rw [yU])<;>omega
 ·refine ⟨3,{ name:= "Gain",type:=51,offset:=3,embedded:=false,tag:= "",pkgPath:= "",byteOffset:=56 }, λ_=>EP,rfl,?_,?_,Kb, λv h=>by unfold R7;rw [aa (by omega)];exact h⟩<;>(try dsimp only)<;>(try rw [yU])<;>omega
 ·refine ⟨4,{ name:= "Loss",type:=51,offset:=5,embedded:=false,tag:= "",pkgPath:= "",byteOffset:=72 }, λ_=>EP,rfl,?_,?_,Kb, λv h=>by unfold R7;rw [aa (by omega)];exact h⟩<;>(try dsimp only)<;>(try rw [yU])<;>omega
 ·refine ⟨4,{ name:= "Loss",type:=51,offset:=5,embedded:=false,tag:= "",pkgPath:= "",byteOffset:=72 }, λ_=>EP,rfl,?_,?_,Kb, λv h=>by unfold R7;rw [aa (by omega)];exact h⟩<;>(try dsimp only)<;>(try rw [yU])<;>omega
 ·omega
theorem aB3:nE enc Tryz.prog W 59 3 λ_=>EP:=vW Tryz.underlying59 λj hj=>by
 rcases j with _|_|_|j
 ·refine ⟨0,{ name:= "Pile",type:=3,offset:=0,embedded:=false,tag:= "",pkgPath:= "",byteOffset:=0 }, λ_=>EP,rfl,?_,?_,el3, λv h=>h⟩<;>(try dsimp only)<;>(try rw [cells3])<;>omega
 ·refine ⟨1,{ name:= "Mass",type:=51,offset:=1,embedded:=false,tag:= "",pkgPath:= "",byteOffset:=8 }, λ_=>EP,rfl,?_,?_,Kb, λv h=>h⟩<;>(try dsimp only)<;>(try rw [yU])<;>omega
 ·refine ⟨1,{ name:= "Mass",type:=51,offset:=1,embedded:=false,tag:= "",pkgPath:= "",byteOffset:=8 }, λ_=>EP,rfl,?_,?_,Kb, λv h=>h⟩<;>(try dsimp only)<;>(try rw [yU])<;>omega
 ·omega
theorem av7:nE enc Tryz.prog W 22 (Tryz.prog.cellsOf 22) λ_=>BK W 1 λ_=>Z9:=by rw [Li];exact FJ Tryz.underlying22 ak4 (by decide) (Vi Tryz.underlying9)
theorem aB4:nE enc Tryz.prog W 23 (Tryz.prog.cellsOf 23) λ_=>BK W 7 (R7 W):=by rw [QX];exact FJ Tryz.underlying23 Zv (by decide) aB2
theorem aB5:nE enc Tryz.prog W 24 (Tryz.prog.cellsOf 24) λ_=>BK W 3 λ_=>EP:=by rw [QY];exact FJ Tryz.underlying24 Zx (by decide) aB3
theorem aB6:nE enc Tryz.prog W 26 4 (R4 W):=vW Tryz.underlying26 λj hj=>by
 rcases j with _|_|_|_|j
 ·refine ⟨0,{ name:= "Hands",type:=22,offset:=0,embedded:=false,tag:= "",pkgPath:= "",byteOffset:=0 }, λ_=>BK W 1 λ_=>Z9,rfl,?_,?_,av7, λv h=>by unfold R4;rw [aa (by omega),aa (by omega)];exact h⟩<;>(try dsimp only)<;>(try rw [Li])<;>omega
 ·refine ⟨1,{ name:= "Piles",type:=22,offset:=1,embedded:=false,tag:= "",pkgPath:= "",byteOffset:=24 }, λ_=>BK W 1 λ_=>Z9,rfl,?_,?_,av7, λv h=>by unfold R4;rw [aa (by omega),aa (by omega)];exact h⟩<;>(try dsimp only)<;>(try rw [Li])<;>omega
 ·refine ⟨2,{ name:= "Steps",type:=23,offset:=2,embedded:=false,tag:= "",pkgPath:= "",byteOffset:=48 }, λ_=>BK W 7 (R7 W),rfl,?_,?_,aB4, λv h=>by unfold R4;rw [aj (by omega)];exact h⟩<;>(try dsimp only)<;>(try rw [QX])<;>omega
 ·refine ⟨3,{ name:= "Scales",type:=24,offset:=3,embedded:=false,tag:= "",pkgPath:= "",byteOffset:=72 }, λ_=>BK W 3 λ_=>EP,rfl,?_,?_,aB5, λv h=>by unfold R4;rw [aa (by omega),aj (by omega)];exact h⟩<;>(try dsimp only)<;>(try rw [QY])<;>omega
 ·omega
structure gL (W:World) (v:Value) where
 (Ah Ap As Ac:Option Addr)
 (nh ch np cp ns cs nc cc:Nat)
 e:v= .agg #[.slice Ah nh ch,.slice Ap np cp,.slice As ns cs,.slice Ac nc cc]
 s1:Db W Ah nh ch 1 λ_=>Z9
 s2:Db W Ap np cp 1 λ_=>Z9
 s3:Db W As ns cs 7 (R7 W)
 s4:Db W Ac nc cc 3 λ_=>EP
theorem TB {base:Nat} {v:Value} (hok:Value.okWide Tryz.prog W .any base 26 v) {fuel:Nat} {x:DataW H×List MemPlace} (h:DataW.trod enc Tryz.prog W 0 (λ_=>true) true fuel 26 v.cells.toList=some x):Nonempty (gL W v):=by
 obtain ⟨cs,rfl,hsz⟩:=okWide_struct Tryz.underlying26 hok;rw [Zy] at hsz;obtain ⟨l⟩:=cs;have hE:=aB6 (enc:=enc) (W:=W) _ _ _ h;have hl:l.length=4:=by simpa using hsz
 obtain ⟨v0,v1,v2,v3,rfl⟩:∃v0 v1 v2 v3,l= [v0,v1,v2,v3]:=by
  rcases l with _|⟨a,_|⟨b,_|⟨c,_|⟨d,_|⟨e,l⟩⟩⟩⟩⟩<;>simp at hl;exact ⟨_,_,_,_,rfl⟩
 obtain ⟨u0,e0,h0⟩:=hE 0 (by omega);obtain ⟨u1,e1,h1⟩:=hE 1 (by omega);obtain ⟨u2,e2,h2⟩:=hE 2 (by omega);obtain ⟨u3,e3,h3⟩:=hE 3 (by omega);simp [Value.cells] at e0 e1 e2 e3;subst e0 e1 e2 e3;unfold R4 at h0 h1 h2 h3;rw [aa (by omega),aa (by omega)] at h0 h1;rw [aj rfl] at h2;rw [aa (by omega),aj rfl] at h3;obtain ⟨Ah,nh,ch,rfl,s1⟩:=h0;obtain ⟨Ap,np,cp,rfl,s2⟩:=h1;obtain ⟨As,ns,cs,rfl,s3⟩:=h2;obtain ⟨Ac,nc,cc,rfl,s4⟩:=h3;exact ⟨⟨Ah,Ap,As,Ac,nh,ch,np,cp,ns,cs,nc,cc,rfl,s1,s2,s3,s4⟩⟩
end
end
section
theorem Xn (j:Nat) (v:Value) (h:Z9 v):fA v=true∧Vj v=false:=by obtain ⟨m,rfl⟩:=h;exact ⟨rfl,rfl⟩
def bytesOf:Value->ByteArray
 | .string s=>s
 |_=>ByteArray.empty
structure AQ where
 A:Option Addr
 len:Nat
 cap:Nat
 D:Nat->Nat->Value
structure Xo (W:World) (v:Value) (z:AQ):Prop where
 e:v= .slice z.A z.len z.cap
 le:z.len<=z.cap
 int:∀i j,i<z.len->j<1->EP (z.D i j)
 pl:∀v∈ug z.len 1 z.D,fA v=true
 ok:∀(L:List Part) (bad:TypeId),KL W z.A z.len z.cap (letI:=DN L bad;rv (fL L)) (ug z.len 1 z.D)
def AQ.part (z:AQ):Part:=partOf z.A z.cap (ug z.len 1 z.D)
def AQ.nums (z:AQ):List Int:=(List.range z.len).map λq=>intOf (z.D q 0)
section
variable {W:World} {v:Value}
def gL.d (s:gL W v) (D1 D2 D3 D4:Nat->Nat->Value) (f1 f2:Nat->AQ):dY:=
 ⟨(List.range s.nh).map λi=>bytesOf (D1 i 0),(List.range s.np).map λi=>bytesOf (D2 i 0),
  (List.range s.ns).map λi=>⟨intOf (D3 i 0),(f1 i).nums,(f2 i).nums,intOf (D3 i 3),intOf (D3 i 4),intOf (D3 i 5),intOf (D3 i 6)⟩,
  (List.range s.nc).map λi=>⟨intOf (D4 i 0),intOf (D4 i 1),intOf (D4 i 2)⟩⟩
def gL.bv (s:gL W v) (f1 f2:Nat->AQ):gK:=
 ⟨vV 1 s.Ah,s.ch,vV 2 s.Ap,s.cp,vV 3 s.As,s.cs,vV 4 s.Ac,s.cc, λi=>⟨vV (4+2*i+1) (f1 i).A,(f1 i).cap,vV (4+(2*i+1)+1) (f2 i).A,(f2 i).cap⟩⟩
def wH (D3:Nat->Nat->Value) (f1 f2:Nat->AQ) (i j:Nat):Value:=
 if j=1 then .slice (vV (4+2*i+1) (f1 i).A) (f1 i).len (f1 i).cap else if j=2 then .slice (vV (4+(2*i+1)+1) (f2 i).A) (f2 i).len (f2 i).cap else D3 i j
def gL.parts (s:gL W v) (D1 D2 D3 D4:Nat->Nat->Value) (f1 f2:Nat->AQ):List Part:=
 [partOf s.Ah s.ch (ug s.nh 1 D1),partOf s.Ap s.cp (ug s.np 1 D2),partOf s.As s.cs (ug s.ns 7 (wH D3 f1 f2)),partOf s.Ac s.cc (ug s.nc 3 D4)]++
   (List.range (2*s.ns)).map λq=>if q%2=0 then (f1 (q / 2)).part else (f2 (q / 2)).part
theorem QZ {o:Obj} (ho:W.heap[0]?=some o) (hodd:R3 o=true) {n:Nat} {D3:Nat->Nat->Value} {j:Nat} (hj:j=1∨j=2) (h:∀i j,i<n->j<7->R7 W j (D3 i j)):∃f:Nat->AQ,∀i,i<n->Xo W (D3 i j) (f i):=by
 have hx:∀i:Nat,∃z:AQ,i<n->Xo W (D3 i j) z:= λi=>by
  by_cases hi:i<n
  ·have hR:=h i j hi (by omega);unfold R7 at hR;rw [aj hj] at hR;obtain ⟨A,len,cap,e,hs⟩:=hR;obtain ⟨D,r,t,ok⟩:=hs.flat (by omega) Xl ho hodd;exact ⟨⟨A,len,cap,D⟩, λ_=>⟨e,hs.le,r,t,ok⟩⟩
  ·exact ⟨⟨none,0,0, λ_ _=>undef⟩, λh=>absurd h hi⟩
 exact Classical.axiomOfChoice hx
theorem Xp {s:gL W v} {D1 D2 D3 D4:Nat->Nat->Value} {f1 f2:Nat->AQ} {X:List Part} {i:Nat} (hi:i<s.ns):
 (s.parts D1 D2 D3 D4 f1 f2++X)[4+2*i]?=some (f1 i).part∧(s.parts D1 D2 D3 D4 f1 f2++X)[4+(2*i+1)]?=some (f2 i).part:=by
 have hl:((List.range (2*s.ns)).map λq=>if q%2=0 then (f1 (q / 2)).part else (f2 (q / 2)).part).length=2*s.ns:=by simp
 unfold gL.parts;refine ⟨?_,?_⟩
 ·rw [List.getElem?_append_left (by simp;omega),List.getElem?_append_right (by simp)];simp only [List.length_cons,List.length_nil];rw [List.getElem?_map,List.getElem?_range (by omega),show 4+2*i - (0+1+1+1+1)=2*i by omega];simp
 ·rw [List.getElem?_append_left (by simp;omega),List.getElem?_append_right (by simp)];simp only [List.length_cons,List.length_nil];rw [List.getElem?_map,List.getElem?_range (by omega),show 4+(2*i+1) - (0+1+1+1+1)=2*i+1 by omega];simp only [ay];rw [aa (by omega),show (2*i+1) / 2=i by omega]
theorem Ll {D3:Nat->Nat->Value} {n i j:Nat} (h:∀i j,i<n->j<7->R7 W j (D3 i j)) (hi:i<n) (hj:j<7) (h1:j≠1) (h2:j≠2):∃m:Int,D3 i j= .int .i64 m:=by
 have hR:=h i j hi hj;unfold R7 at hR;rw [aa (by omega)] at hR;exact hR
theorem Zz {o:Obj} (ho:W.heap[0]?=some o) (hodd:R3 o=true) (s:gL W v):∃(b:dY) (bv:gK) (M:List Part),DI b bv∧∀L X:List Part,L=M++X->
 (∀x∈M,x.h=false->Yx L Tryz.prog.types.size W x)∧
 (∀(S V:FuncId->Bool) (cd:Code->Bool),letI:=DN L Tryz.prog.types.size;vs (FA S V cd (Bd (aL L) (L.length+1))) (eH b bv)=true)∧
 (letI:=DN L Tryz.prog.types.size;rv (fL L) (eH b bv)=v)∧
 ∀τ,fJ ((wL L Tryz.prog.types.size W).tp τ) ((wL L Tryz.prog.types.size W).tp τ).heap.size b bv:=by
 obtain ⟨D1,r1,t1,i1⟩:=s.s1.flat (by omega) Xn ho hodd;obtain ⟨D2,r2,t2,i2⟩:=s.s2.flat (by omega) Xn ho hodd;obtain ⟨D4,r4,t4,i4⟩:=s.s4.flat (by omega) Xl ho hodd;obtain ⟨D3,r3,c3⟩:=s.s3.tab;obtain ⟨f1,h1⟩:=QZ ho hodd (.inl rfl) r3;obtain ⟨f2,h2⟩:=QZ ho hodd (.inr rfl) r3
 have hd:∀i x,(s.d D1 D2 D3 D4 f1 f2).steps[i]?=some x->i<s.ns∧x=⟨intOf (D3 i 0),(f1 i).nums,(f2 i).nums,intOf (D3 i 3),intOf (D3 i 4),intOf (D3 i 5),intOf (D3 i 6)⟩:= λi x hx=>by
  have hi:i<s.ns:=by simpa [gL.d] using (bg.1 hx).1
  refine ⟨hi,?_⟩;simp only [gL.d,List.getElem?_map,List.getElem?_range hi,ay] at hx;exact (aU hx).symm
 have hnl:∀z:AQ,z.nums.length=z.len:= λz=>by simp [AQ.nums]
 refine ⟨s.d D1 D2 D3 D4 f1 f2,s.bv f1 f2,s.parts D1 D2 D3 D4 f1 f2, λi x hx=>?_, λL X hL=>?_⟩
 ·obtain ⟨hi,rfl⟩:=hd i x hx;exact ⟨aT (Nat.le_of_eq (hnl _)) (h1 i hi).le,aT (Nat.le_of_eq (hnl _)) (h2 i hi).le⟩
 have k0:L[0]?=some (partOf s.Ah s.ch (ug s.nh 1 D1)):=by rw [hL];rfl
 have k1:L[1]?=some (partOf s.Ap s.cp (ug s.np 1 D2)):=by rw [hL];rfl
 have k2:L[2]?=some (partOf s.As s.cs (ug s.ns 7 (wH D3 f1 f2))):=by rw [hL];rfl
 have k3:L[3]?=some (partOf s.Ac s.cc (ug s.nc 3 D4)):=by rw [hL];rfl
 have kn:∀i,i<s.ns->L[4+2*i]?=some (f1 i).part∧L[4+(2*i+1)]?=some (f2 i).part:= λi hi=>by rw [hL];exact Xp hi
 letI:=DN L Tryz.prog.types.size
 have nv:∀i,i<s.ns->(∀(S V:FuncId->Bool) (cd:Code->Bool),vs (FA S V cd (Bd (aL L) (L.length+1))) (.slice (vV (4+2*i+1) (f1 i).A) (f1 i).len (f1 i).cap)=true)∧∀(S V:FuncId->Bool) (cd:Code->Bool),vs (FA S V cd (Bd (aL L) (L.length+1))) (.slice (vV (4+(2*i+1)+1) (f2 i).A) (f2 i).len (f2 i).cap)=true:= λi hi=>
  ⟨λS V cd=>xE (bad:=Tryz.prog.types.size) ((h1 i hi).ok L Tryz.prog.types.size).part (kn i hi).1 (h1 i hi).le, λS V cd=>xE (bad:=Tryz.prog.types.size) ((h2 i hi).ok L Tryz.prog.types.size).part (kn i hi).2 (h2 i hi).le⟩
 have hF:∀i j,i<s.ns->j<7->rv (fL L) (wH D3 f1 f2 i j)=D3 i j:= λi j hi hj=>by
  unfold wH
  by_cases e1:j=1
  ·subst e1;rw [aj rfl,fV,xD (bad:=Tryz.prog.types.size) ((h1 i hi).ok L Tryz.prog.types.size).part (kn i hi).1,(h1 i hi).e]
  rw [aa e1]
  by_cases e2:j=2
  ·subst e2;rw [aj rfl,fV,xD (bad:=Tryz.prog.types.size) ((h2 i hi).ok L Tryz.prog.types.size).part (kn i hi).2,(h2 i hi).e]
  rw [aa e2];obtain ⟨m,hm⟩:=Ll r3 hi hj e1 e2;rw [hm,jM]
 have i3:KL W s.As s.ns s.cs (rv (fL L)) (ug s.ns 7 (wH D3 f1 f2)):=
  s.s3.ap4 (by omega) (s.s3.pos (by omega) (λv hv=>by unfold R7 at hv;rw [aa (by omega)] at hv;obtain ⟨m,rfl⟩:=hv;rfl) ho hodd) c3 hF
 have v3:∀v∈ug s.ns 7 (wH D3 f1 f2),∀(S V:FuncId->Bool) (cd:Code->Bool),vs (FA S V cd (Bd (aL L) (L.length+1))) v=true:= λv hv S V cd=>by
  obtain ⟨i,j,hi,hj,rfl⟩:=MK hv;unfold wH
  by_cases e1:j=1
  ·rw [aj e1];exact (nv i hi).1 S V cd
  rw [aa e1]
  by_cases e2:j=2
  ·rw [aj e2];exact (nv i hi).2 S V cd
  rw [aa e2];obtain ⟨m,hm⟩:=Ll r3 hi hj e1 e2;rw [hm,Kh]
 refine ⟨λx hx hh=>?_, λS V cd=>?_,?_, λτ=>?_⟩
 ·unfold gL.parts at hx;rcases List.mem_append.1 hx with hx|hx
  ·simp only [bF,ax,or_false] at hx;rcases hx with rfl|rfl|rfl|rfl
   ·exact (i1 L Tryz.prog.types.size).lies (xG t1).2 hh
   ·exact (i2 L Tryz.prog.types.size).lies (xG t2).2 hh
   ·exact i3.lies v3 hh
   ·exact (i4 L Tryz.prog.types.size).lies (xG t4).2 hh
  ·obtain ⟨q,hq,rfl⟩:=List.mem_map.1 hx;have hq:=List.mem_range.1 hq
   by_cases e:q%2=0
   ·rw [aj e] at hh ⊢;exact ((h1 (q / 2) (by omega)).ok L Tryz.prog.types.size).lies (xG (h1 (q / 2) (by omega)).pl).2 hh
   ·rw [aa e] at hh ⊢;exact ((h2 (q / 2) (by omega)).ok L Tryz.prog.types.size).lies (xG (h2 (q / 2) (by omega)).pl).2 hh
 ·unfold eH;rw [pM];intro x hx;simp only [aB,bF,ax,or_false] at hx;rcases hx with rfl|rfl|rfl|rfl
  ·exact xE (bad:=Tryz.prog.types.size) (i1 L Tryz.prog.types.size).part k0 (by simpa [gL.d,gL.bv] using s.s1.le)
  ·exact xE (bad:=Tryz.prog.types.size) (i2 L Tryz.prog.types.size).part k1 (by simpa [gL.d,gL.bv] using s.s2.le)
  ·exact xE (bad:=Tryz.prog.types.size) i3.part k2 (by simpa [gL.d,gL.bv] using s.s3.le)
  ·exact xE (bad:=Tryz.prog.types.size) (i4 L Tryz.prog.types.size).part k3 (by simpa [gL.d,gL.bv] using s.s4.le)
 ·refine Eq.trans ?_ s.e.symm
  unfold eH;have e1:=xD (bad:=Tryz.prog.types.size) (i1 L Tryz.prog.types.size).part k0;have e2:=xD (bad:=Tryz.prog.types.size) (i2 L Tryz.prog.types.size).part k1;have e3:=xD (bad:=Tryz.prog.types.size) i3.part k2;have e4:=xD (bad:=Tryz.prog.types.size) (i4 L Tryz.prog.types.size).part k3;simp only [uo,List.map_toArray,aC,List.map_nil,fV,gL.bv];rw [e1,e2,e3,e4];simp [gL.d]
 ·have x0:=Kc k0 (i1 L Tryz.prog.types.size) (by omega) τ;have x1:=Kc k1 (i2 L Tryz.prog.types.size) (by omega) τ;have x2:=Kc k2 i3 (by omega) τ;have x3:=Kc k3 (i4 L Tryz.prog.types.size) (by omega) τ;have l1:(s.d D1 D2 D3 D4 f1 f2).dR.length=s.nh:=by simp [gL.d]
  have l2:(s.d D1 D2 D3 D4 f1 f2).dF.length=s.np:=by simp [gL.d]
  have l3:(s.d D1 D2 D3 D4 f1 f2).steps.length=s.ns:=by simp [gL.d]
  have l4:(s.d D1 D2 D3 D4 f1 f2).dJ.length=s.nc:=by simp [gL.d]
  refine ⟨?_,?_,?_, λi x hx=>?_, λi x hx=>?_,?_,?_,?_,?_,?_⟩
  ·show Rd _ _ 1 _ (s.d D1 D2 D3 D4 f1 f2).dR.length _;rw [l1];refine x0.conv λi j hi hj=>?_
   obtain rfl:j=0:=by omega
   obtain ⟨m,hm⟩:=r1 i 0 hi hj;simp [gL.d,hi,hm,bytesOf]
  ·show Rd _ _ 1 _ (s.d D1 D2 D3 D4 f1 f2).dF.length _;rw [l2];refine x1.conv λi j hi hj=>?_
   obtain rfl:j=0:=by omega
   obtain ⟨m,hm⟩:=r2 i 0 hi hj;simp [gL.d,hi,hm,bytesOf]
  ·rw [l3];refine x2.conv λi j hi hj=>?_
   have hq:∀j,j<7->j≠1->j≠2->D3 i j= .int .i64 (intOf (D3 i j)):= λj h1 h2 h3=>by
    obtain ⟨m,hm⟩:=Ll r3 hi h1 h2 h3;rw [hm];rfl
   unfold KX wH;simp only [gL.d,List.getElem?_map,List.getElem?_range hi,ay,ak,gL.bv];rcases j with _|_|_|_|_|_|_|j
   ·exact hq 0 (by omega) (by omega) (by omega)
   ·simp [eY.cells,hnl]
   ·simp [eY.cells,hnl]
   ·exact hq 3 (by omega) (by omega) (by omega)
   ·exact hq 4 (by omega) (by omega) (by omega)
   ·exact hq 5 (by omega) (by omega) (by omega)
   ·exact hq 6 (by omega) (by omega) (by omega)
   ·omega
  ·obtain ⟨hi,rfl⟩:=hd i x hx;show Rd _ _ 1 _ (f1 i).nums.length _;rw [hnl];refine (Kc (kn i hi).1 ((h1 i hi).ok L Tryz.prog.types.size) (by omega) τ).conv λq j hq hj=>?_
   obtain rfl:j=0:=by omega
   obtain ⟨m,hm⟩:=(h1 i hi).int q 0 hq hj;simp [AQ.nums,hq,hm,intOf]
  ·obtain ⟨hi,rfl⟩:=hd i x hx;show Rd _ _ 1 _ (f2 i).nums.length _;rw [hnl];refine (Kc (kn i hi).2 ((h2 i hi).ok L Tryz.prog.types.size) (by omega) τ).conv λq j hq hj=>?_
   obtain rfl:j=0:=by omega
   obtain ⟨m,hm⟩:=(h2 i hi).int q 0 hq hj;simp [AQ.nums,hq,hm,intOf]
  ·rw [l4];refine x3.conv λi j hi hj=>?_
   obtain ⟨m,hm⟩:=r4 i j hi hj;unfold Ak;simp only [gL.d,List.getElem?_map,List.getElem?_range hi,ay,ak];rcases j with _|_|_|j
   ·rw [hm];simp [lW.cells,hm,intOf]
   ·rw [hm];simp [lW.cells,hm,intOf]
   ·rw [hm];simp [lW.cells,hm,intOf]
   ·omega
  ·rw [l1];exact s.s1.le
  ·rw [l2];exact s.s2.le
  ·rw [l3];exact s.s3.le
  ·rw [l4];exact s.s4.le
end
end
end Go.Proofs.Tryz
