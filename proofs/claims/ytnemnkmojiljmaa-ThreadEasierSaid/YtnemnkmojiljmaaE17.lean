/- Part 17. -/
import Derived.Test.YtnemnkmojiljmaaE16
set_option maxRecDepth 100000
set_option maxHeartbeats 8000000
set_option linter.all false
namespace Par
def ai8 (i:Nat):Nat:=Nat.land (Nat.shiftRight (ai7 (i / 1024)) (28*(i%1024))) 268435455
def ai9 (j:Nat):Nat:=Nat.land (Nat.shiftRight aq3 (21*j)) 2097151
def GV (i:Nat):Nat:=let w:=ai8 i;ai9 (w%256)+2097152*(ai9 (w / 256%256)+2097152*(w / 65536%32+32*(w / 2097152%2)))
def EY (i:Nat):Nat:=ai8 i / 4194304
def TF:Nat->Nat->Nat->Nat->Nat
 |0,lo,_,_=>lo
 |f+1,lo,hi,c=>bif Nat.ble (GV ((lo+hi) / 2)) c then TF f ((lo+hi) / 2) hi c else TF f lo ((lo+hi) / 2) c
def at? (g:LG):Nat:=TF 13 0 GR g.enc
def LK.Cm (T:LK):Bool:=match T.pc with
 | .ur=>true
 |_=>false
def edgeOk (r:Nat) (cut:Bool) (h:LG):Bool:=Nat.blt (at? h) GR&&decide (LG.dec (GV (at? h))=h)&&(cut||Nat.blt (EY (at? h)) r)
def rowOk (i:Nat):Bool:=
 let g:=LG.dec (GV i)
 g.safe&&Nat.beq (at? g) i&&g.sa.all (edgeOk (EY i) g.a.Cm)&&g.sb.all (edgeOk (EY i) g.b.Cm)
def TG:Bool:=decide (LG.dec (GV 0)=⟨lk .out,lk .out,0,0⟩)&&(List.range 51).all λk=>(List.range 100).all λj=>Nat.ble GR (100*k+j)||rowOk (100*k+j)
set_option maxRecDepth 1000000 in
theorem XX:TG=true:=by kernel_rfl
theorem rows_ok {i:Nat} (h:i<GR):rowOk i=true:=by
 have hr:=XX;simp only [TG,aR,aV,List.mem_range,Bool.or_eq_true] at hr;have hb:i<5100:=ak h (by decide);have :=hr.2 (i / 100) (by omega) (i%100) (by omega);rw [show 100*(i / 100)+i%100=i by omega] at this;exact this.resolve_left λh2=>by have :=Nat.le_of_ble_eq_true h2;omega
def Reach (g:LG):Prop:=∃i,i<GR∧LG.dec (GV i)=g
def y8 (g:LG):Nat:=EY (at? g)
theorem Ky:Reach ⟨lk .out,lk .out,0,0⟩:=by
 have h:=XX;simp only [TG,aR,decide_eq_true_eq] at h;exact ⟨0,by decide,h.1⟩
theorem Cn {g:LG} {i:Nat} (h:i<GR) (e:LG.dec (GV i)=g):g.safe=true∧y8 g=EY i∧g.sa.all (edgeOk (EY i) g.a.Cm)=true∧g.sb.all (edgeOk (EY i) g.b.Cm)=true:=by
 have :=rows_ok h;simp only [rowOk,e,aR] at this;exact ⟨this.1.1.1,by unfold y8;rw [Nat.eq_of_beq_eq_true this.1.1.2],this.1.2,this.2⟩
theorem EZ {g:LG} (h:Reach g):g.safe=true:=by
 obtain ⟨i,h1,h2⟩:=h;exact (Cn h1 h2).1
theorem edge {r:Nat} {cut:Bool} {h:LG} (he:edgeOk r cut h=true):Reach h∧(cut=false->y8 h<r):=by
 simp only [edgeOk,aR,decide_eq_true_eq,Bool.or_eq_true] at he;exact ⟨⟨at? h,by have :=Nat.le_of_ble_eq_true he.1.1;omega,he.1.2⟩, λhc=>Nat.le_of_ble_eq_true (he.2.resolve_left (by rw [hc];simp))⟩
theorem Kz {g h:LG} (hg:Reach g) (hh:h∈g.sa):Reach h∧(g.a.Cm=false->y8 h<y8 g):=by
 obtain ⟨i,h1,h2⟩:=hg;have hp:=Cn h1 h2;rw [hp.2.1];exact edge (aV.1 hp.2.2.1 h hh)
theorem KA {g h:LG} (hg:Reach g) (hh:h∈g.sb):Reach h∧(g.b.Cm=false->y8 h<y8 g):=by
 obtain ⟨i,h1,h2⟩:=hg;have hp:=Cn h1 h2;rw [hp.2.1];exact edge (aV.1 hp.2.2.2 h hh)
end Par
