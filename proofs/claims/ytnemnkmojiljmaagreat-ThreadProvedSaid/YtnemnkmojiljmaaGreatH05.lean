/- Part 5. -/
import Derived.Test.YtnemnkmojiljmaaGreatH04
set_option maxRecDepth 100000
set_option maxHeartbeats 0
set_option linter.all false
namespace Par
inductive MT where
 |z
 |l (k v:Nat)
 |n (a:MT) (k:Nat) (b:MT)
noncomputable def MT.get (c:Nat) (t:MT):Nat:=@MT.rec (λ_=>Nat) 0 (λk v=>@Bool.rec (λ_=>Nat) 0 v (Nat.beq c k)) (λ_ k _ x y=>@Bool.rec (λ_=>Nat) y x (Nat.ble c k)) t
noncomputable def MT.put (c u:Nat) (t:MT):MT:=@MT.rec (λ_=>MT) (.l c u) (λk v=>@Bool.rec (λ_=>MT) (.n (.l k v) k (.l c u)) (.n (.l c u) c (.l k v)) (Nat.ble c k)) (λa k b x y=>@Bool.rec (λ_=>MT) (.n a k y) (.n x k b) (Nat.ble c k)) t
noncomputable def MT.all (p:Nat->Nat->Bool) (t:MT):Bool:=@MT.rec (λ_=>Bool) true p (λ_ _ _ x y=>x&&y) t
theorem MT.FR {p:Nat->Nat->Bool} {c:Nat}:∀t:MT,t.all p=true->t.get c≠0->p c (t.get c)=true
 | .z,_,h=>(h rfl).elim
 | .l k v,ha,h=>by
   change p k v=true at ha;change @Bool.rec (λ_=>Nat) 0 v (Nat.beq c k)≠0 at h;change p c (@Bool.rec (λ_=>Nat) 0 v (Nat.beq c k))=true;cases h1:Nat.beq c k with
   |true=>rw [Nat.eq_of_beq_eq_true h1];exact ha
   |false=>rw [h1] at h;exact (h rfl).elim
 | .n a k b,ha,h=>by
   have ha:=(bB (a.all p) (b.all p)).mp ha;change @Bool.rec (λ_=>Nat) (b.get c) (a.get c) (Nat.ble c k)≠0 at h;change p c (@Bool.rec (λ_=>Nat) (b.get c) (a.get c) (Nat.ble c k))=true;cases h1:Nat.ble c k with
   |true=>rw [h1] at h;exact FR a ha.1 h
   |false=>rw [h1] at h;exact FR b ha.2 h
def LK.wW (T:LK):Bool:=match T.pc with
 | .ur=>true
 |_=>false
def keyOf (g:LG):Nat:=(g.enc+1)*133837611498517%281474976710656
def yw (k:Nat):LG:=LG.dec (k*145004961428285%281474976710656 - 1)
noncomputable def bare {A:Type} (n:Nat) (f:Nat->A):A:=@Nat.rec (λ_=>A) (f 0) (λm _=>f (Nat.succ m)) n
noncomputable def Ko (l:List LG) (r:List Nat):List Nat:=@List.rec LG (λ_=>List Nat) r (λh _ x=>bare (keyOf h) λk=>k::x) l
noncomputable def QW (g:LG) (cut:Bool):List Nat:=(λr=>@Bool.rec (λ_=>List Nat) r (Ko g.sa r) (g.a.wW==cut)) (@Bool.rec (λ_=>List Nat) [] (Ko g.sb []) (g.b.wW==cut))
noncomputable def missing (t:MT) (l:List Nat):Nat:=@List.rec Nat (λ_=>Nat) 0 (λd _ x=>@Bool.rec (λ_=>Nat) x d (Nat.beq (t.get d) 0)) l
noncomputable def onto (l r:List Nat):List Nat:=@List.rec Nat (λ_=>List Nat) r (λd _ x=>d::x) l
noncomputable def ae0 (f:Nat):List Nat->Nat->MT->MT:=@Nat.rec (λ_=>List Nat->Nat->MT->MT) (λ_ _ t=>t) (λ_ go l n t=>@List.rec Nat (λ_=>MT) t (λc l' _=>
 @Bool.rec (λ_=>MT) (go l' n t) (bare (missing t (QW (yw c) false)) λd=>
   @Bool.rec (λ_=>MT) (go (d::l) n t) (go (onto (QW (yw c) true) l') (Nat.succ n) (t.put c n)) (Nat.beq d 0)) (Nat.beq (t.get c) 0)) l) f
noncomputable def Mm:MT:=ae0 30000 (Ko [⟨lk .out,lk .out,0,0⟩] []) 1 .z
noncomputable def edgeOk (r:Nat) (cut:Bool) (h:LG):Bool:=bare (keyOf h) λk=>Nat.blt 0 (Mm.get k)&&decide (yw k=h)&&(cut||Nat.blt (Mm.get k) r)
noncomputable def rowOk (c r:Nat):Bool:=(yw c).safe&&(yw c).sa.all (edgeOk r (yw c).a.wW)&&(yw c).sb.all (edgeOk r (yw c).b.wW)
set_option maxRecDepth 1000000 in
theorem WI:(Mm.all rowOk&&edgeOk 0 true ⟨lk .out,lk .out,0,0⟩)=true:=by kernel_rfl
noncomputable def uG (g:LG):Nat:=Mm.get (keyOf g)
def Reach (g:LG):Prop:=uG g≠0∧yw (keyOf g)=g
theorem bare_eq {A:Type} (n:Nat) (f:Nat->A):bare n f=f n:=by cases n<;>rfl
theorem edge {r:Nat} {cut:Bool} {h:LG} (he:edgeOk r cut h=true):Reach h∧(cut=false->uG h<r):=by
 simp only [edgeOk,bare_eq,bB,decide_eq_true_eq,Bool.or_eq_true] at he;exact ⟨⟨Nat.ne_of_gt (Nat.le_of_ble_eq_true he.1.1),he.1.2⟩, λhc=>Nat.le_of_ble_eq_true (he.2.resolve_left (by rw [hc];simp))⟩
theorem IB:Reach ⟨lk .out,lk .out,0,0⟩:=(edge ((bB _ _).mp WI).2).1
theorem zL {g:LG} (h:Reach g):(g.safe=true∧g.sa.all (edgeOk (uG g) g.a.wW)=true)∧g.sb.all (edgeOk (uG g) g.b.wW)=true:=by
 have :=MT.FR _ ((bB _ _).mp WI).1 h.1;rw [rowOk,h.2,bB,bB] at this;exact this
theorem Cx {g:LG} (h:Reach g):g.safe=true:=(zL h).1.1
theorem IC {g h:LG} (hg:Reach g) (hh:h∈g.sa):Reach h∧(g.a.wW=false->uG h<uG g):=edge (bF.1 (zL hg).1.2 h hh)
theorem IE {g h:LG} (hg:Reach g) (hh:h∈g.sb):Reach h∧(g.b.wW=false->uG h<uG g):=edge (bF.1 (zL hg).2 h hh)
end Par
