/- Part 17. -/
import Derived.Test.YtnemnkmojiljmaaGreatB16
set_option maxRecDepth 100000
set_option maxHeartbeats 0
set_option linter.all false
namespace Par
def an5 (i:Nat):Nat:=Nat.land (Nat.shiftRight (an4 (i / 1024)) (28*(i%1024))) 268435455
def an6 (j:Nat):Nat:=Nat.land (Nat.shiftRight av2 (21*j)) 2097151
def Jc (i:Nat):Nat:=let w:=an5 i;an6 (w%256)+2097152*(an6 (w / 256%256)+2097152*(w / 65536%32+32*(w / 2097152%2)))
def Gv (i:Nat):Nat:=an5 i / 4194304
def UA:Nat->Nat->Nat->Nat->Nat
 |0,lo,_,_=>lo
 |f+1,lo,hi,c=>bif Nat.ble (Jc ((lo+hi) / 2)) c then UA f ((lo+hi) / 2) hi c else UA f lo ((lo+hi) / 2) c
def at? (g:LG):Nat:=UA 13 0 Jb g.enc
def LK.DD (T:LK):Bool:=match T.pc with
 | .ur=>true
 |_=>false
def edgeOk (r:Nat) (cut:Bool) (h:LG):Bool:=Nat.blt (at? h) Jb&&decide (LG.dec (Jc (at? h))=h)&&(cut||Nat.blt (Gv (at? h)) r)
def rowOk (i:Nat):Bool:=
 let g:=LG.dec (Jc i)
 g.safe&&Nat.beq (at? g) i&&g.sa.all (edgeOk (Gv i) g.a.DD)&&g.sb.all (edgeOk (Gv i) g.b.DD)
def UB:Bool:=decide (LG.dec (Jc 0)=⟨lk .out,lk .out,0,0⟩)&&(List.range 51).all λk=>(List.range 100).all λj=>Nat.ble Jb (100*k+j)||rowOk (100*k+j)
set_option maxRecDepth 1000000 in
theorem Zb:UB=true:=by kernel_rfl
theorem rows_ok {i:Nat} (h:i<Jb):rowOk i=true:=by
 have hr:=Zb;simp only [UB,bC,bG,List.mem_range,Bool.or_eq_true] at hr;have hb:i<5100:=aK h (by decide);have :=hr.2 (i / 100) (by omega) (i%100) (by omega);rw [show 100*(i / 100)+i%100=i by omega] at this;exact this.resolve_left λh2=>by have :=Nat.le_of_ble_eq_true h2;omega
def Reach (g:LG):Prop:=∃i,i<Jb∧LG.dec (Jc i)=g
def Al (g:LG):Nat:=Gv (at? g)
theorem Ma:Reach ⟨lk .out,lk .out,0,0⟩:=by
 have h:=Zb;simp only [UB,bC,decide_eq_true_eq] at h;exact ⟨0,by decide,h.1⟩
theorem DF {g:LG} {i:Nat} (h:i<Jb) (e:LG.dec (Jc i)=g):g.safe=true∧Al g=Gv i∧g.sa.all (edgeOk (Gv i) g.a.DD)=true∧g.sb.all (edgeOk (Gv i) g.b.DD)=true:=by
 have :=rows_ok h;simp only [rowOk,e,bC] at this;exact ⟨this.1.1.1,by unfold Al;rw [Nat.eq_of_beq_eq_true this.1.1.2],this.1.2,this.2⟩
theorem Gx {g:LG} (h:Reach g):g.safe=true:=by
 obtain ⟨i,h1,h2⟩:=h;exact (DF h1 h2).1
theorem edge {r:Nat} {cut:Bool} {h:LG} (he:edgeOk r cut h=true):Reach h∧(cut=false->Al h<r):=by
 simp only [edgeOk,bC,decide_eq_true_eq,Bool.or_eq_true] at he;exact ⟨⟨at? h,by have :=Nat.le_of_ble_eq_true he.1.1;omega,he.1.2⟩, λhc=>Nat.le_of_ble_eq_true (he.2.resolve_left (by rw [hc];simp))⟩
theorem Mc {g h:LG} (hg:Reach g) (hh:h∈g.sa):Reach h∧(g.a.DD=false->Al h<Al g):=by
 obtain ⟨i,h1,h2⟩:=hg;have hp:=DF h1 h2;rw [hp.2.1];exact edge (bG.1 hp.2.2.1 h hh)
theorem Md {g h:LG} (hg:Reach g) (hh:h∈g.sb):Reach h∧(g.b.DD=false->Al h<Al g):=by
 obtain ⟨i,h1,h2⟩:=hg;have hp:=DF h1 h2;rw [hp.2.1];exact edge (bG.1 hp.2.2.2 h hh)
end Par
