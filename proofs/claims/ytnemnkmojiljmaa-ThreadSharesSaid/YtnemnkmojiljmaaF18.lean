/- Part 18. -/
import Derived.Test.YtnemnkmojiljmaaF17
set_option maxRecDepth 100000
set_option maxHeartbeats 8000000
set_option linter.all false
namespace Par
def ai6 (i:Nat):Nat:=Nat.land (Nat.shiftRight (ai5 (i / 1024)) (28*(i%1024))) 268435455
def ai7 (j:Nat):Nat:=Nat.land (Nat.shiftRight aq3 (21*j)) 2097151
def GZ (i:Nat):Nat:=let w:=ai6 i;ai7 (w%256)+2097152*(ai7 (w / 256%256)+2097152*(w / 65536%32+32*(w / 2097152%2)))
def E5 (i:Nat):Nat:=ai6 i / 4194304
def TF:Nat->Nat->Nat->Nat->Nat
 |0,lo,_,_=>lo
 |f+1,lo,hi,c=>bif Nat.ble (GZ ((lo+hi) / 2)) c then TF f ((lo+hi) / 2) hi c else TF f lo ((lo+hi) / 2) c
def at? (g:LG):Nat:=TF 13 0 GY g.enc
def LK.Ce (T:LK):Bool:=match T.pc with
 | .ur=>true
 |_=>false
def edgeOk (r:Nat) (cut:Bool) (h:LG):Bool:=Nat.blt (at? h) GY&&decide (LG.dec (GZ (at? h))=h)&&(cut||Nat.blt (E5 (at? h)) r)
def rowOk (i:Nat):Bool:=
 let g:=LG.dec (GZ i)
 g.safe&&Nat.beq (at? g) i&&g.sa.all (edgeOk (E5 i) g.a.Ce)&&g.sb.all (edgeOk (E5 i) g.b.Ce)
def TG:Bool:=decide (LG.dec (GZ 0)=⟨lk .out,lk .out,0,0⟩)&&(List.range 51).all λk=>(List.range 100).all λj=>Nat.ble GY (100*k+j)||rowOk (100*k+j)
set_option maxRecDepth 1000000 in
theorem X7:TG=true:=by kernel_rfl
theorem rows_ok {i:Nat} (h:i<GY):rowOk i=true:=by
 have hr:=X7;simp only [TG,aR,aV,List.mem_range,Bool.or_eq_true] at hr;have hb:i<5100:=ak h (by decide);have :=hr.2 (i / 100) (by omega) (i%100) (by omega);rw [show 100*(i / 100)+i%100=i by omega] at this;exact this.resolve_left λh2=>by have :=Nat.le_of_ble_eq_true h2;omega
def Reach (g:LG):Prop:=∃i,i<GY∧LG.dec (GZ i)=g
def yY (g:LG):Nat:=E5 (at? g)
theorem KC:Reach ⟨lk .out,lk .out,0,0⟩:=by
 have h:=X7;simp only [TG,aR,decide_eq_true_eq] at h;exact ⟨0,by decide,h.1⟩
theorem Cf {g:LG} {i:Nat} (h:i<GY) (e:LG.dec (GZ i)=g):g.safe=true∧yY g=E5 i∧g.sa.all (edgeOk (E5 i) g.a.Ce)=true∧g.sb.all (edgeOk (E5 i) g.b.Ce)=true:=by
 have :=rows_ok h;simp only [rowOk,e,aR] at this;exact ⟨this.1.1.1,by unfold yY;rw [Nat.eq_of_beq_eq_true this.1.1.2],this.1.2,this.2⟩
theorem E8 {g:LG} (h:Reach g):g.safe=true:=by
 obtain ⟨i,h1,h2⟩:=h;exact (Cf h1 h2).1
theorem edge {r:Nat} {cut:Bool} {h:LG} (he:edgeOk r cut h=true):Reach h∧(cut=false->yY h<r):=by
 simp only [edgeOk,aR,decide_eq_true_eq,Bool.or_eq_true] at he;exact ⟨⟨at? h,by have :=Nat.le_of_ble_eq_true he.1.1;omega,he.1.2⟩, λhc=>Nat.le_of_ble_eq_true (he.2.resolve_left (by rw [hc];simp))⟩
theorem KD {g h:LG} (hg:Reach g) (hh:h∈g.sa):Reach h∧(g.a.Ce=false->yY h<yY g):=by
 obtain ⟨i,h1,h2⟩:=hg;have hp:=Cf h1 h2;rw [hp.2.1];exact edge (aV.1 hp.2.2.1 h hh)
theorem KE {g h:LG} (hg:Reach g) (hh:h∈g.sb):Reach h∧(g.b.Ce=false->yY h<yY g):=by
 obtain ⟨i,h1,h2⟩:=hg;have hp:=Cf h1 h2;rw [hp.2.1];exact edge (aV.1 hp.2.2.2 h hh)
end Par
