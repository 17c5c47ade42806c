/- Part 34. -/
import Derived.Test.YtmhmpoeoapkbaaaGreatRows
import Derived.Test.YtmhmpoeoapkbaaaGreatH07
import Derived.Test.YtmhmpoeoapkbaaaGreatH33
set_option maxRecDepth 100000
set_option maxHeartbeats 0
set_option linter.all false
namespace Go.Proofs.Tryz
open Go Go.RowKit Par
section
attribute [local instance] noSh
@[reducible] noncomputable def TP:Lo.St:=⟨Tryz.c0,Tryz.f13.body.getD .skip⟩
noncomputable def jY:Program:=Tryz.prog.stub 6 Tryz.c0
noncomputable def TR:Func:={ Tryz.f6 with body:=some Tryz.c0 }
theorem DX:jY.funcs[6]?=some TR:=by unfold jY TR;exact Nt Tryz.func6 _
def l0:List FuncId:=[10,11,24,6,21,20,46,47,48,49,50,17,18,27,80,81,53,82,83,84,99,100,
 4,9,25,5,12,44,26,51,52,14,15,16,28,29,45,54,85,86,42,43,55,56,57,58,87,101,102,103,88,89,112,104]
def S0(g:FuncId):Bool:=l0.contains g
def b5:Frame:={ fn:=6,tmps:= #[],todo:=[],defers:=[],mode:=.run,kind:=.normal }
noncomputable def fT(P:Program):Frame:={ b5.at ⟨(Array.replicate 160 undef).setIfInBounds 0 (.bool true),[]⟩ [.code .ret]with mode:=.returning }
theorem TT{P:Program}(h:P.funcs[6]?=some TR)(cs:List Frame)(w:World):runN P 5 (lone (Frame.enter P 6 #[] .normal) cs w)=.next (lone (fT P) cs w):=by
 have hn:TR.ntmps=160:=by unfold TR Tryz.f6;rfl
 have hb:TR.body=some Tryz.c0:=rfl
 have e:Frame.enter P 6 #[] .normal=b5.at ⟨Array.replicate 160 undef,[]⟩ [.code Tryz.c0]:=by
  simp[Frame.enter,h,hb,hn,Frame.at,b5]
 have s3:∀(T:Array Value)(ops:Array Oper),ops= #[{ dst:=some 0,op:=.assign (.const (.bool true)),type:=4,pos:= "",after:= #[],guard:=none }]->step P (lone (b5.at ⟨T,[]⟩ (.inRegion ops [0]:: [.code .ret])) cs w)=.next (lone (b5.at ⟨T.setIfInBounds 0 (.bool true),[]⟩ (.inRegion ops []:: [.code .ret])) cs w):= λT ops ho=>by
  subst ho;refine step_lone_go ?_
  rw[stepG_op (o:={ dst:=some 0,op:=.assign (.const (.bool true)),type:=4,pos:= "",after:= #[],guard:=none }) rfl rfl];simp[stepG.apply,execOp,Frame.at,b5,Frame.finish,Act.eval]
 rw[e];unfold Tryz.c0;simp only[runN,step_seq,step_region];rw[show List.range (#[({ dst:=some 0,op:=.assign (.const (.bool true)),type:=4,pos:= "",after:= #[],guard:=none }:Oper)]).size= [0]from rfl,s3 _ _ rfl];simp only[step_region_end,step_ret];rfl
theorem JF{P:Program}(h:P.funcs[6]?=some TR)(w:World):(fT P).leaving P w (.returned (.bool true)):=by
 refine⟨rfl,rfl,rfl,TR,h,?_⟩;have hr:TR.results= #[.tmp 0]:=by unfold TR Tryz.f6;rfl
 unfold results;rw[hr];simp[fT,Frame.at]
theorem plain0:Plain jY 6 (.bool true):=by
 refine⟨5, λc cs w hc=>?_⟩;rw[runN_add,TT DX];show runN jY 1 (lone (fT jY) (c::cs) w)=_;simp only[runN];rw[step_leave_returned (JF DX w)]
theorem NC:Tryz.prog.globals.size=0:=by kernel_rfl
end
end Go.Proofs.Tryz
section
namespace Go.Proofs
open Go
theorem Rd.conv{w:World}{B K n:Nat}{A:Option Addr}{F G:Nat->Nat->Value}(h:Rd w B K A n F)(e:∀i j,i<n->j<K->F i j=G i j):Rd w B K A n G:= λhn=>by
 obtain⟨b,o,h1,h2,h3⟩:=h hn;exact⟨b,o,h1,h2, λi j hi hj=>by rw[h3 i j hi hj,e i j hi hj]⟩
end Go.Proofs
namespace Go.Proofs.Tryz
open Go Go.RowKit Go.ChangeShapes Go.WideShapes Go.ChangeAt Go.Conc Go.ConcM Par
theorem laid:laidOutB Tryz.prog=true:=by kernel_rfl
theorem knob:ownKnob Tryz.prog.godebug=none:=by kernel_rfl
theorem V9:Tryz.prog.info? Tryz.prog.types.size=none:=by kernel_rfl
theorem LJ:Tryz.prog.types.all (λi=>match i.desc with | .named n _=>n != "sync.copyChecker" |_=>true)=true:=by kernel_rfl
theorem PI(t:TypeId)(i:TypeInfo)(h:Tryz.prog.info? t=some i)(u:TypeId):i.desc≠ .named "sync.copyChecker" u:=FZ LJ t i h u
theorem TU:((begin Tryz.prog (λ_ _=>0) default).world.heap[0]?).map OE=some true:=by kernel_rfl
theorem ZK{W:World}(h:W.ShapedOpen Tryz.prog):∃o,W.heap[0]?=some o∧OE o=true:=by
 have hlt:0<(begin Tryz.prog (λ_ _=>0) default).world.heap.size:=by
  cases hx:(begin Tryz.prog (λ_ _=>0) default).world.heap[0]? with
  |none=>have :=TU;rw[hx]at this;cases this
  |some o=>exact(aI.1 hx).1
 obtain⟨o,o0,h1,h2,h3⟩:=h.2 0 (by rw[NC];exact aJ _) hlt;rw[aa (by rw[NC];decide)]at h3;subst h3;have :=TU;rw[h2]at this;exact⟨o,h1,aT this⟩
theorem cells3:Tryz.prog.cellsOf 3=1:=by kernel_rfl
theorem tN:Tryz.prog.cellsOf 48=2:=by kernel_rfl
theorem al9:Tryz.prog.cellsOf 27=1:=by kernel_rfl
section
variable {H:Type} {enc:TypeId×Value->H} {W:World}
theorem el3:jm enc Tryz.prog W 3 (Tryz.prog.cellsOf 3) λ_=>Au:=by rw[cells3];exact II Tryz.underlying3
theorem ar8:jm enc Tryz.prog W 48 2 λ_=>Au:=qz Tryz.underlying48 λj hj=>by
 rcases j with _|_|j
 .refine⟨0,{ name:= "Low",type:=3,offset:=0,embedded:=false,tag:= "",pkgPath:= "",byteOffset:=0 }, λ_=>Au,rfl,?_,?_,el3, λv h=>h⟩<;>dsimp only <;>(try rw[cells3])<;>omega
 .refine⟨1,{ name:= "High",type:=3,offset:=1,embedded:=false,tag:= "",pkgPath:= "",byteOffset:=8 }, λ_=>Au,rfl,?_,?_,el3, λv h=>h⟩<;>dsimp only <;>(try rw[cells3])<;>omega
 .omega
theorem Fq:jm enc Tryz.prog W 48 (Tryz.prog.cellsOf 48) λ_=>Au:=by rw[tN];exact ar8
theorem av0:jm enc Tryz.prog W 27 1 λ_=>IsK .u16:=Ym Tryz.underlying27
end
theorem TV(j:Nat)(v:Value)(h:Au v):eF v=true∧OD v=false:=by obtain⟨m,rfl⟩:=h;exact⟨rfl,rfl⟩
theorem ar9(j:Nat)(v:Value)(h:IsK .u16 v):eF v=true∧OD v=false:=by obtain⟨m,rfl,_⟩:=h;exact⟨rfl,rfl⟩
theorem Fs{L:List Part}{W:World}{k K len cap:Nat}{A:Option Addr}{F:Nat->Nat->Value}{g:Value->Value}(hk:L[k]?=some (partOf A cap (nS len K F)))(h:F6 W A len cap g (nS len K F))(hK:0<K)(τ:Nat->Question->Nat):Rd ((wL L Tryz.prog.types.size W).tp τ) ((wL L Tryz.prog.types.size W).tp τ).heap.size K (qy (k+1) A) len F:= λhn=>by
 cases A with
 |none=>have :=h.nil rfl;omega
 |some a=>
  have hc:0<cap:=by have :=h.le;omega
  obtain⟨hs,_⟩:=h.at_ a rfl hc;have e:partOf (some a) cap (nS len K F)=⟨a.block,a.off,(nS len K F).toArray,false⟩:=by unfold partOf;simp only;rw[aa (by omega)]
  rw[e]at hk;refine⟨k+1,0,by unfold qy;rw[ay,hs],?_, λi j hi hj=>?_⟩
  .show k+1<(wL L Tryz.prog.types.size W).heap.size;have :=(aY.1 hk).1;rw[sQ];omega
  .rw[Nat.zero_add,Va hk];simpa using CF hi hj
end Go.Proofs.Tryz
end
namespace Go.Proofs.Tryz
open Go Go.RowKit Go.ChangeShapes Go.WideShapes Go.ChangeAt Go.Conc Go.ConcM Par
section
theorem ZL:Tryz.prog.cellsOf 9=1:=by kernel_rfl
theorem GN:Tryz.prog.cellsOf 22=1:=by kernel_rfl
theorem ND:Tryz.prog.cellsOf 23=1:=by kernel_rfl
theorem NF:Tryz.prog.cellsOf 24=1:=by kernel_rfl
theorem GQ:Tryz.prog.cellsOf 33=1:=by kernel_rfl
theorem Wd:Tryz.prog.cellsOf 50=7:=by kernel_rfl
theorem We:Tryz.prog.cellsOf 58=3:=by kernel_rfl
theorem Wh:Tryz.prog.cellsOf 26=4:=by kernel_rfl
def R7(W:World)(j:Nat)(v:Value):Prop:=if j=1∨j=2 then xg W 1 (λ_=>Au) v else Au v
def R4(W:World)(j:Nat)(v:Value):Prop:=if j=2 then xg W 7 (R7 W) v else if j=3 then xg W 3 (λ_=>Au) v else xg W 1 (λ_=>WM) v
section
variable {H:Type} {enc:TypeId×Value->H} {W:World}
theorem al3:jm enc Tryz.prog W 33 (Tryz.prog.cellsOf 33) λ_=>xg W 1 λ_=>Au:=by rw[GQ];exact Bt Tryz.underlying33 cells3 (by decide) (II Tryz.underlying3)
theorem as0:jm enc Tryz.prog W 50 7 (R7 W):=qz Tryz.underlying50 λj hj=>by
 rcases j with _|_|_|_|_|_|_|j
 .refine⟨0,{ name:= "Hand",type:=3,offset:=0,embedded:=false,tag:= "",pkgPath:= "",byteOffset:=0 }, λ_=>Au,rfl,?_,?_,el3, λv h=>by unfold R7;rw[aa (by omega)];exact h⟩<;>(try dsimp only)<;>(try rw[cells3])<;>omega
 .refine⟨1,{ name:= "In",type:=33,offset:=1,embedded:=false,tag:= "",pkgPath:= "",byteOffset:=8 }, λ_=>xg W 1 λ_=>Au,rfl,?_,?_,al3, λv h=>by unfold R7;rw[aj (by omega)];exact h⟩<;>(try dsimp only)<;>(try rw[GQ])<;>omega
 .refine⟨2,{ name:= "Out",type:=33,offset:=2,embedded:=false,tag:= "",pkgPath:= "",byteOffset:=32 }, λ_=>xg W 1 λ_=>Au,rfl,?_,?_,al3, λv h=>by unfold R7;rw[aj (by omega)];exact h⟩<;>(try dsimp only)<;>(try rw[GQ])<;>omega
 .refine⟨3,{ name:= "Gain",type:=48,offset:=3,embedded:=false,tag:= "",pkgPath:= "",byteOffset:=56 }, λ_=>Au,rfl,?_,?_,Fq, λv h=>by unfold R7;rw[aa (by omega)];exact h⟩<;>(try dsimp only)<;>(try rw[tN])<;>omega
 .refine⟨3,{ name:= "Gain",type:=48,offset:=3,embedded:=false,tag:= "",pkgPath:= "",byteOffset:=56 }, λ_=>Au,rfl,?_,?_,Fq, λv h=>by unfold R7;rw[aa (by omega)];exact h⟩<;>(try dsimp only)<;>(try rw[tN])<;>omega
 .refine⟨4,{ name:= "Loss",type:=48,offset:=5,embedded:=false,tag:= "",pkgPath:= "",byteOffset:=72 }, λ_=>Au,rfl,?_,?_,Fq, λv h=>by unfold R7;rw[aa (by omega)];exact h⟩<;>(try dsimp only)<;>(try rw[tN])<;>omega
 .refine⟨4,{ name:= "Loss",type:=48,offset:=5,embedded:=false,tag:= "",pkgPath:= "",byteOffset:=72 }, λ_=>Au,rfl,?_,?_,Fq, λv h=>by unfold R7;rw[aa (by omega)];exact h⟩<;>(try dsimp only)<;>(try rw[tN])<;>omega
 .omega
theorem as1:jm enc Tryz.prog W 58 3 λ_=>Au:=qz Tryz.underlying58 λj hj=>by
 rcases j with _|_|_|j
 .refine⟨0,{ name:= "Pile",type:=3,offset:=0,embedded:=false,tag:= "",pkgPath:= "",byteOffset:=0 }, λ_=>Au,rfl,?_,?_,el3, λv h=>h⟩<;>(try dsimp only)<;>(try rw[cells3])<;>omega
 .refine⟨1,{ name:= "Mass",type:=48,offset:=1,embedded:=false,tag:= "",pkgPath:= "",byteOffset:=8 }, λ_=>Au,rfl,?_,?_,Fq, λv h=>h⟩<;>(try dsimp only)<;>(try rw[tN])<;>omega
 .refine⟨1,{ name:= "Mass",type:=48,offset:=1,embedded:=false,tag:= "",pkgPath:= "",byteOffset:=8 }, λ_=>Au,rfl,?_,?_,Fq, λv h=>h⟩<;>(try dsimp only)<;>(try rw[tN])<;>omega
 .omega
theorem al4:jm enc Tryz.prog W 22 (Tryz.prog.cellsOf 22) λ_=>xg W 1 λ_=>WM:=by rw[GN];exact Bt Tryz.underlying22 ZL (by decide) (Re Tryz.underlying9)
theorem as2:jm enc Tryz.prog W 23 (Tryz.prog.cellsOf 23) λ_=>xg W 7 (R7 W):=by rw[ND];exact Bt Tryz.underlying23 Wd (by decide) as0
theorem as3:jm enc Tryz.prog W 24 (Tryz.prog.cellsOf 24) λ_=>xg W 3 λ_=>Au:=by rw[NF];exact Bt Tryz.underlying24 We (by decide) as1
theorem as4:jm enc Tryz.prog W 26 4 (R4 W):=qz Tryz.underlying26 λj hj=>by
 rcases j with _|_|_|_|j
 .refine⟨0,{ name:= "Hands",type:=22,offset:=0,embedded:=false,tag:= "",pkgPath:= "",byteOffset:=0 }, λ_=>xg W 1 λ_=>WM,rfl,?_,?_,al4, λv h=>by unfold R4;rw[aa (by omega),aa (by omega)];exact h⟩<;>(try dsimp only)<;>(try rw[GN])<;>omega
 .refine⟨1,{ name:= "Piles",type:=22,offset:=1,embedded:=false,tag:= "",pkgPath:= "",byteOffset:=24 }, λ_=>xg W 1 λ_=>WM,rfl,?_,?_,al4, λv h=>by unfold R4;rw[aa (by omega),aa (by omega)];exact h⟩<;>(try dsimp only)<;>(try rw[GN])<;>omega
 .refine⟨2,{ name:= "Steps",type:=23,offset:=2,embedded:=false,tag:= "",pkgPath:= "",byteOffset:=48 }, λ_=>xg W 7 (R7 W),rfl,?_,?_,as2, λv h=>by unfold R4;rw[aj (by omega)];exact h⟩<;>(try dsimp only)<;>(try rw[ND])<;>omega
 .refine⟨3,{ name:= "Scales",type:=24,offset:=3,embedded:=false,tag:= "",pkgPath:= "",byteOffset:=72 }, λ_=>xg W 3 λ_=>Au,rfl,?_,?_,as3, λv h=>by unfold R4;rw[aa (by omega),aj (by omega)];exact h⟩<;>(try dsimp only)<;>(try rw[NF])<;>omega
 .omega
structure gu(W:World)(v:Value) where
 (Ah Ap As Ac:Option Addr)
 (nh ch np cp ns cs nc cc:Nat)
 e:v=.agg #[.slice Ah nh ch,.slice Ap np cp,.slice As ns cs,.slice Ac nc cc]
 s1:yD W Ah nh ch 1 λ_=>WM
 s2:yD W Ap np cp 1 λ_=>WM
 s3:yD W As ns cs 7 (R7 W)
 s4:yD W Ac nc cc 3 λ_=>Au
theorem aa1{base:Nat}{v:Value}(hok:Value.okWide Tryz.prog W .any base 26 v){fuel:Nat}{x:DataW H×List MemPlace}(h:DataW.trod enc Tryz.prog W 0 (λ_=>true) true fuel 26 v.cells.toList=some x):Nonempty (gu W v):=by
 obtain⟨cs,rfl,hsz⟩:=okWide_struct Tryz.underlying26 hok;rw[Wh]at hsz;obtain⟨l⟩:=cs;have hE:=as4 (enc:=enc) (W:=W) _ _ _ h;have hl:l.length=4:=by simpa using hsz
 obtain⟨v0,v1,v2,v3,rfl⟩:∃v0 v1 v2 v3,l= [v0,v1,v2,v3]:=by
  rcases l with _|⟨a,_|⟨b,_|⟨c,_|⟨d,_|⟨e,l⟩⟩⟩⟩⟩<;>simp at hl;exact⟨_,_,_,_,rfl⟩
 obtain⟨u0,e0,h0⟩:=hE 0 (by omega);obtain⟨u1,e1,h1⟩:=hE 1 (by omega);obtain⟨u2,e2,h2⟩:=hE 2 (by omega);obtain⟨u3,e3,h3⟩:=hE 3 (by omega);simp[Value.cells]at e0 e1 e2 e3;subst e0 e1 e2 e3;unfold R4 at h0 h1 h2 h3;rw[aa (by omega),aa (by omega)]at h0 h1;rw[aj rfl]at h2;rw[aa (by omega),aj rfl]at h3;obtain⟨Ah,nh,ch,rfl,s1⟩:=h0;obtain⟨Ap,np,cp,rfl,s2⟩:=h1;obtain⟨As,ns,cs,rfl,s3⟩:=h2;obtain⟨Ac,nc,cc,rfl,s4⟩:=h3;exact⟨⟨Ah,Ap,As,Ac,nh,ch,np,cp,ns,cs,nc,cc,rfl,s1,s2,s3,s4⟩⟩
end
end
section
theorem TW(j:Nat)(v:Value)(h:WM v):eF v=true∧OD v=false:=by obtain⟨m,rfl⟩:=h;exact⟨rfl,rfl⟩
def bytesOf:Value->ByteArray
 | .string s=>s
 |_=>ByteArray.empty
structure vV where
 A:Option Addr
 len:Nat
 cap:Nat
 D:Nat->Nat->Value
structure TY(W:World)(v:Value)(z:vV):Prop where
 e:v=.slice z.A z.len z.cap
 le:z.len<=z.cap
 int:∀i j,i<z.len->j<1->Au (z.D i j)
 pl:∀v∈nS z.len 1 z.D,eF v=true
 ok:∀(L:List Part)(bad:TypeId),F6 W z.A z.len z.cap (letI:=zi L bad;rv (fL L)) (nS z.len 1 z.D)
def vV.part(z:vV):Part:=partOf z.A z.cap (nS z.len 1 z.D)
def vV.nums(z:vV):List Int:=(List.range z.len).map λq=>intOf (z.D q 0)
section
variable {W:World} {v:Value}
def gu.d(s:gu W v)(D1 D2 D3 D4:Nat->Nat->Value)(f1 f2:Nat->vV):dO:=
 ⟨(List.range s.nh).map λi=>bytesOf (D1 i 0),(List.range s.np).map λi=>bytesOf (D2 i 0),
  (List.range s.ns).map λi=>⟨intOf (D3 i 0),(f1 i).nums,(f2 i).nums,intOf (D3 i 3),intOf (D3 i 4),intOf (D3 i 5),intOf (D3 i 6)⟩,
  (List.range s.nc).map λi=>⟨intOf (D4 i 0),intOf (D4 i 1),intOf (D4 i 2)⟩⟩
def gu.bv(s:gu W v)(f1 f2:Nat->vV):gJ:=
 ⟨qy 1 s.Ah,s.ch,qy 2 s.Ap,s.cp,qy 3 s.As,s.cs,qy 4 s.Ac,s.cc, λi=>⟨qy (4+2*i+1) (f1 i).A,(f1 i).cap,qy (4+(2*i+1)+1) (f2 i).A,(f2 i).cap⟩⟩
def qG(D3:Nat->Nat->Value)(f1 f2:Nat->vV)(i j:Nat):Value:=
 if j=1 then .slice (qy (4+2*i+1) (f1 i).A) (f1 i).len (f1 i).cap else if j=2 then .slice (qy (4+(2*i+1)+1) (f2 i).A) (f2 i).len (f2 i).cap else D3 i j
def gu.parts(s:gu W v)(D1 D2 D3 D4:Nat->Nat->Value)(f1 f2:Nat->vV):List Part:=
 [partOf s.Ah s.ch (nS s.nh 1 D1),partOf s.Ap s.cp (nS s.np 1 D2),partOf s.As s.cs (nS s.ns 7 (qG D3 f1 f2)),partOf s.Ac s.cc (nS s.nc 3 D4)]++
   (List.range (2*s.ns)).map λq=>if q%2=0 then(f1 (q/ 2)).part else(f2 (q/ 2)).part
theorem NG{o:Obj}(ho:W.heap[0]?=some o)(hodd:OE o=true){n:Nat}{D3:Nat->Nat->Value}{j:Nat}(hj:j=1∨j=2)(h:∀i j,i<n->j<7->R7 W j (D3 i j)):∃f:Nat->vV,∀i,i<n->TY W (D3 i j) (f i):=by
 have hx:∀i:Nat,∃z:vV,i<n->TY W (D3 i j) z:= λi=>by
  by_cases hi:i<n
  .have hR:=h i j hi (by omega);unfold R7 at hR;rw[aj hj]at hR;obtain⟨A,len,cap,e,hs⟩:=hR;obtain⟨D,r,t,ok⟩:=hs.flat (by omega) TV ho hodd;exact⟨⟨A,len,cap,D⟩, λ_=>⟨e,hs.le,r,t,ok⟩⟩
  .exact⟨⟨none,0,0, λ_ _=>undef⟩, λh=>absurd h hi⟩
 exact Classical.axiomOfChoice hx
theorem TZ{s:gu W v}{D1 D2 D3 D4:Nat->Nat->Value}{f1 f2:Nat->vV}{X:List Part}{i:Nat}(hi:i<s.ns):
 (s.parts D1 D2 D3 D4 f1 f2++X)[4+2*i]?=some (f1 i).part∧(s.parts D1 D2 D3 D4 f1 f2++X)[4+(2*i+1)]?=some (f2 i).part:=by
 have hl:((List.range (2*s.ns)).map λq=>if q%2=0 then(f1 (q/ 2)).part else(f2 (q/ 2)).part).length=2*s.ns:=by simp
 unfold gu.parts;refine⟨?_,?_⟩
 .rw[List.getElem?_append_left (by simp;omega),List.getElem?_append_right (by simp)];simp only[List.length_cons,List.length_nil];rw[List.getElem?_map,List.getElem?_range (by omega),show 4+2*i-(0+1+1+1+1)=2*i by omega];simp
 .rw[List.getElem?_append_left (by simp;omega),List.getElem?_append_right (by simp)];simp only[List.length_cons,List.length_nil];rw[List.getElem?_map,List.getElem?_range (by omega),show 4+(2*i+1)-(0+1+1+1+1)=2*i+1 by omega];simp only[ay];rw[aa (by omega),show(2*i+1)/ 2=i by omega]
theorem GR{D3:Nat->Nat->Value}{n i j:Nat}(h:∀i j,i<n->j<7->R7 W j (D3 i j))(hi:i<n)(hj:j<7)(h1:j≠1)(h2:j≠2):∃m:Int,D3 i j=.int .i64 m:=by
 have hR:=h i j hi hj;unfold R7 at hR;rw[aa (by omega)]at hR;exact hR
theorem am1{o:Obj}(ho:W.heap[0]?=some o)(hodd:OE o=true)(s:gu W v):∃(b:dO)(bv:gJ)(M:List Part),GG b bv∧∀L X:List Part,L=M++X->
 (∀x∈M,x.h=false->U9 L Tryz.prog.types.size W x)∧
 (∀(S V:FuncId->Bool)(cd:Code->Bool),letI:=zi L Tryz.prog.types.size;vs (FA S V cd (Bd (aL L) (L.length+1))) (dY b bv)=true)∧
 (letI:=zi L Tryz.prog.types.size;rv (fL L) (dY b bv)=v)∧
 ∀τ,fC ((wL L Tryz.prog.types.size W).tp τ) ((wL L Tryz.prog.types.size W).tp τ).heap.size b bv:=by
 obtain⟨D1,r1,t1,i1⟩:=s.s1.flat (by omega) TW ho hodd;obtain⟨D2,r2,t2,i2⟩:=s.s2.flat (by omega) TW ho hodd;obtain⟨D4,r4,t4,i4⟩:=s.s4.flat (by omega) TV ho hodd;obtain⟨D3,r3,c3⟩:=s.s3.tab;obtain⟨f1,h1⟩:=NG ho hodd (.inl rfl) r3;obtain⟨f2,h2⟩:=NG ho hodd (.inr rfl) r3
 have hd:∀i x,(s.d D1 D2 D3 D4 f1 f2).steps[i]?=some x->i<s.ns∧x=⟨intOf (D3 i 0),(f1 i).nums,(f2 i).nums,intOf (D3 i 3),intOf (D3 i 4),intOf (D3 i 5),intOf (D3 i 6)⟩:= λi x hx=>by
  have hi:i<s.ns:=by simpa[gu.d]using(aY.1 hx).1
  refine⟨hi,?_⟩;simp only[gu.d,List.getElem?_map,List.getElem?_range hi,ay]at hx;exact(aT hx).symm
 have hnl:∀z:vV,z.nums.length=z.len:= λz=>by simp[vV.nums]
 refine⟨s.d D1 D2 D3 D4 f1 f2,s.bv f1 f2,s.parts D1 D2 D3 D4 f1 f2, λi x hx=>?_, λL X hL=>?_⟩
 .obtain⟨hi,rfl⟩:=hd i x hx;exact⟨aS (Nat.le_of_eq (hnl _)) (h1 i hi).le,aS (Nat.le_of_eq (hnl _)) (h2 i hi).le⟩
 have k0:L[0]?=some (partOf s.Ah s.ch (nS s.nh 1 D1)):=by rw[hL];rfl
 have k1:L[1]?=some (partOf s.Ap s.cp (nS s.np 1 D2)):=by rw[hL];rfl
 have k2:L[2]?=some (partOf s.As s.cs (nS s.ns 7 (qG D3 f1 f2))):=by rw[hL];rfl
 have k3:L[3]?=some (partOf s.Ac s.cc (nS s.nc 3 D4)):=by rw[hL];rfl
 have kn:∀i,i<s.ns->L[4+2*i]?=some (f1 i).part∧L[4+(2*i+1)]?=some (f2 i).part:= λi hi=>by rw[hL];exact TZ hi
 letI:=zi L Tryz.prog.types.size
 have nv:∀i,i<s.ns->(∀(S V:FuncId->Bool)(cd:Code->Bool),vs (FA S V cd (Bd (aL L) (L.length+1))) (.slice (qy (4+2*i+1) (f1 i).A) (f1 i).len (f1 i).cap)=true)∧∀(S V:FuncId->Bool)(cd:Code->Bool),vs (FA S V cd (Bd (aL L) (L.length+1))) (.slice (qy (4+(2*i+1)+1) (f2 i).A) (f2 i).len (f2 i).cap)=true:= λi hi=>
  ⟨λS V cd=>rO (bad:=Tryz.prog.types.size) ((h1 i hi).ok L Tryz.prog.types.size).part (kn i hi).1 (h1 i hi).le, λS V cd=>rO (bad:=Tryz.prog.types.size) ((h2 i hi).ok L Tryz.prog.types.size).part (kn i hi).2 (h2 i hi).le⟩
 have hF:∀i j,i<s.ns->j<7->rv (fL L) (qG D3 f1 f2 i j)=D3 i j:= λi j hi hj=>by
  unfold qG
  by_cases e1:j=1
  .subst e1;rw[aj rfl,fD,rM (bad:=Tryz.prog.types.size) ((h1 i hi).ok L Tryz.prog.types.size).part (kn i hi).1,(h1 i hi).e]
  rw[aa e1]
  by_cases e2:j=2
  .subst e2;rw[aj rfl,fD,rM (bad:=Tryz.prog.types.size) ((h2 i hi).ok L Tryz.prog.types.size).part (kn i hi).2,(h2 i hi).e]
  rw[aa e2];obtain⟨m,hm⟩:=GR r3 hi hj e1 e2;rw[hm,iC]
 have i3:F6 W s.As s.ns s.cs (rv (fL L)) (nS s.ns 7 (qG D3 f1 f2)):=
  s.s3.af2 (by omega) (s.s3.pos (by omega) (λv hv=>by unfold R7 at hv;rw[aa (by omega)]at hv;obtain⟨m,rfl⟩:=hv;rfl) ho hodd) c3 hF
 have v3:∀v∈nS s.ns 7 (qG D3 f1 f2),∀(S V:FuncId->Bool)(cd:Code->Bool),vs (FA S V cd (Bd (aL L) (L.length+1))) v=true:= λv hv S V cd=>by
  obtain⟨i,j,hi,hj,rfl⟩:=IJ hv;unfold qG
  by_cases e1:j=1
  .rw[aj e1];exact(nv i hi).1 S V cd
  rw[aa e1]
  by_cases e2:j=2
  .rw[aj e2];exact(nv i hi).2 S V cd
  rw[aa e2];obtain⟨m,hm⟩:=GR r3 hi hj e1 e2;rw[hm,Fv]
 refine⟨λx hx hh=>?_, λS V cd=>?_,?_, λτ=>?_⟩
 .unfold gu.parts at hx;rcases List.mem_append.1 hx with hx|hx
  .simp only[bD,ax,or_false]at hx;rcases hx with rfl|rfl|rfl|rfl
   .exact(i1 L Tryz.prog.types.size).lies (rP t1).2 hh
   .exact(i2 L Tryz.prog.types.size).lies (rP t2).2 hh
   .exact i3.lies v3 hh
   .exact(i4 L Tryz.prog.types.size).lies (rP t4).2 hh
  .obtain⟨q,hq,rfl⟩:=List.mem_map.1 hx;have hq:=List.mem_range.1 hq
   by_cases e:q%2=0
   .rw[aj e]at hh⊢;exact((h1 (q/ 2) (by omega)).ok L Tryz.prog.types.size).lies (rP (h1 (q/ 2) (by omega)).pl).2 hh
   .rw[aa e]at hh⊢;exact((h2 (q/ 2) (by omega)).ok L Tryz.prog.types.size).lies (rP (h2 (q/ 2) (by omega)).pl).2 hh
 .unfold dY;rw[lV];intro x hx;simp only[aB,bD,ax,or_false]at hx;rcases hx with rfl|rfl|rfl|rfl
  .exact rO (bad:=Tryz.prog.types.size) (i1 L Tryz.prog.types.size).part k0 (by simpa[gu.d,gu.bv]using s.s1.le)
  .exact rO (bad:=Tryz.prog.types.size) (i2 L Tryz.prog.types.size).part k1 (by simpa[gu.d,gu.bv]using s.s2.le)
  .exact rO (bad:=Tryz.prog.types.size) i3.part k2 (by simpa[gu.d,gu.bv]using s.s3.le)
  .exact rO (bad:=Tryz.prog.types.size) (i4 L Tryz.prog.types.size).part k3 (by simpa[gu.d,gu.bv]using s.s4.le)
 .refine Eq.trans ?_ s.e.symm
  unfold dY;have e1:=rM (bad:=Tryz.prog.types.size) (i1 L Tryz.prog.types.size).part k0;have e2:=rM (bad:=Tryz.prog.types.size) (i2 L Tryz.prog.types.size).part k1;have e3:=rM (bad:=Tryz.prog.types.size) i3.part k2;have e4:=rM (bad:=Tryz.prog.types.size) (i4 L Tryz.prog.types.size).part k3;simp only[nX,List.map_toArray,aC,List.map_nil,fD,gu.bv];rw[e1,e2,e3,e4];simp[gu.d]
 .have x0:=Fs k0 (i1 L Tryz.prog.types.size) (by omega) τ;have x1:=Fs k1 (i2 L Tryz.prog.types.size) (by omega) τ;have x2:=Fs k2 i3 (by omega) τ;have x3:=Fs k3 (i4 L Tryz.prog.types.size) (by omega) τ;have l1:(s.d D1 D2 D3 D4 f1 f2).dJ.length=s.nh:=by simp[gu.d]
  have l2:(s.d D1 D2 D3 D4 f1 f2).dz.length=s.np:=by simp[gu.d]
  have l3:(s.d D1 D2 D3 D4 f1 f2).steps.length=s.ns:=by simp[gu.d]
  have l4:(s.d D1 D2 D3 D4 f1 f2).dA.length=s.nc:=by simp[gu.d]
  refine⟨?_,?_,?_, λi x hx=>?_, λi x hx=>?_,?_,?_,?_,?_,?_⟩
  .show Rd _ _ 1 _ (s.d D1 D2 D3 D4 f1 f2).dJ.length _;rw[l1];refine x0.conv λi j hi hj=>?_
   obtain rfl:j=0:=by omega
   obtain⟨m,hm⟩:=r1 i 0 hi hj;simp[gu.d,hi,hm,bytesOf]
  .show Rd _ _ 1 _ (s.d D1 D2 D3 D4 f1 f2).dz.length _;rw[l2];refine x1.conv λi j hi hj=>?_
   obtain rfl:j=0:=by omega
   obtain⟨m,hm⟩:=r2 i 0 hi hj;simp[gu.d,hi,hm,bytesOf]
  .rw[l3];refine x2.conv λi j hi hj=>?_
   have hq:∀j,j<7->j≠1->j≠2->D3 i j=.int .i64 (intOf (D3 i j)):= λj h1 h2 h3=>by
    obtain⟨m,hm⟩:=GR r3 hi h1 h2 h3;rw[hm];rfl
   unfold Gi qG;simp only[gu.d,List.getElem?_map,List.getElem?_range hi,ay,ak,gu.bv];rcases j with _|_|_|_|_|_|_|j
   .exact hq 0 (by omega) (by omega) (by omega)
   .simp[dW.cells,hnl]
   .simp[dW.cells,hnl]
   .exact hq 3 (by omega) (by omega) (by omega)
   .exact hq 4 (by omega) (by omega) (by omega)
   .exact hq 5 (by omega) (by omega) (by omega)
   .exact hq 6 (by omega) (by omega) (by omega)
   .omega
  .obtain⟨hi,rfl⟩:=hd i x hx;show Rd _ _ 1 _ (f1 i).nums.length _;rw[hnl];refine(Fs (kn i hi).1 ((h1 i hi).ok L Tryz.prog.types.size) (by omega) τ).conv λq j hq hj=>?_
   obtain rfl:j=0:=by omega
   obtain⟨m,hm⟩:=(h1 i hi).int q 0 hq hj;simp[vV.nums,hq,hm,intOf]
  .obtain⟨hi,rfl⟩:=hd i x hx;show Rd _ _ 1 _ (f2 i).nums.length _;rw[hnl];refine(Fs (kn i hi).2 ((h2 i hi).ok L Tryz.prog.types.size) (by omega) τ).conv λq j hq hj=>?_
   obtain rfl:j=0:=by omega
   obtain⟨m,hm⟩:=(h2 i hi).int q 0 hq hj;simp[vV.nums,hq,hm,intOf]
  .rw[l4];refine x3.conv λi j hi hj=>?_
   obtain⟨m,hm⟩:=r4 i j hi hj;unfold vD;simp only[gu.d,List.getElem?_map,List.getElem?_range hi,ay,ak];rcases j with _|_|_|j
   .rw[hm];simp[jD.cells,hm,intOf]
   .rw[hm];simp[jD.cells,hm,intOf]
   .rw[hm];simp[jD.cells,hm,intOf]
   .omega
  .rw[l1];exact s.s1.le
  .rw[l2];exact s.s2.le
  .rw[l3];exact s.s3.le
  .rw[l4];exact s.s4.le
end
end
end Go.Proofs.Tryz
section
end
