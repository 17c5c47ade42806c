/- Part 14. -/
import Derived.Conc.MuSpec
import Derived.Conc.LockTrace
import Derived.Conc.QuitsD
import Derived.Conc.Beside
import Derived.Test.YtnemnkmojiljmaaGreatB13
set_option maxRecDepth 100000
set_option maxHeartbeats 0
set_option linter.all false
namespace Par
open Go Go.Conc
section
variable [Sh]
section
variable {P Q:Program} {F:Fit} {f:Nat->Nat} {w W:World} {cs K:List Frame}
theorem SR.out {w2:World} {s S:GStep} (ho:Out F w w2) (hs:w2.heap.size<=(gw s).heap.size):SR P Q F f cs K w W s S:=
 let ⟨b,h1,h2,h3⟩:=ho; .inl ⟨b,h1,aK h2 hs,h3⟩
theorem mV (ma:Bool) (fr:Frame) (k:List Frame) (d:Option Dying) (v:Value) (w:World):w.heap.size<=(gw (doReturn P ma fr k d v w)).heap.size:=by
 unfold doReturn;split
 ·split<;>exact aJ _
 ·split
  ·exact aJ _
  ·exact aJ _
  ·split
   ·exact aJ _
   ·split<;>exact aJ _
theorem tZ (hQ:Alike P Q) (ma mb:Bool) {fr g:Frame} {up:List Frame} {w1 W1:World} {fn:FuncId} {es es':Array Event} {v v':Value} (hfr:mU P F fr) (hg:g.mode= .run) (hs:yC P F g up) (hv:VR F f v v') (hm:Mv F f w W w1 W1) (he:CR F f w1 #[] #[] es es'):
 SR P Q F f cs K w W (GStep.after (seen P fn es) (doReturn P ma fr (g::(up++cs)) none v w1)) (GStep.after (seen Q fn es') (doReturn Q mb (jv f fr) (jv f g::(up.map (jv f)++K)) none v' W1)):=by
 obtain ⟨rfl,hv⟩:=hv;have :=SR.acts (P:=P) (Q:=Q) (cs:=cs) (K:=K) (fn:=fn) hQ (hs.set (hs.top.finish hv) (pE g v)) (.inl ((sW g v).trans hg)) hm he;rw [<-uL (f:=f) g v hs.top.todo] at this;unfold doReturn;have hk:(jv f fr).kind= .normal:=hfr.kind;simp only [hfr.kind,hk];exact this
theorem SR.after (hQ:Alike P Q) {w1 W1:World} {fn:FuncId} {es es':Array Event} {s S:GStep} (ha:Ag F f w W) (hm:Mv F f w W w1 W1) (he:CR F f w1 #[] #[] es es') (h:SR P Q F f cs K w1 W1 s S):
 SR P Q F f cs K w W (GStep.after (seen P fn es) s) (GStep.after (seen Q fn es') S):=by
 rcases h with ho|h
 ·obtain ⟨k,hk,_⟩:=hm.size;exact SR.out (ho.mono (by omega)) (by rw [nN];exact aJ _)
 refine .inr ?_
 cases s with
 |go g w2 u=>
  rcases h with h|⟨vk,zZ,X,W2,u',rfl,h1,h2,h5,rfl,h3,h4⟩
  ·exact .inl h
  ·refine .inr ⟨vk,zZ,X,W2,_,rfl,h1,h2,h5,rfl,hm.trans ha h3,?_⟩;rw [hQ.seen];obtain ⟨z,rfl,rfl,hz⟩:=h4;obtain ⟨y,rfl,rfl,hy⟩:=he;refine ⟨seen P fn y++z,by simp,by simp [Lu], λe he=>?_⟩;rcases Array.mem_append.1 he with he|he
   ·exact (hy e (mem_seen he)).mono h3
   ·exact hz e he
 |ended _ _ _=>exact trivial
 |_=>exact h.elim
theorem TT (hQ:Alike P Q) (hF:nM P F) (hR:Rn P f) (ha:Ag F f w W) (ma mb:Bool) {fr:Frame} {up:List Frame} (hs:yC P F fr up) (hm:fr.mode= .run):
 SR P Q F f cs K w W (stepG.exec P ma true fr (up++cs) none w) (stepG.exec Q mb true (jv f fr) (up.map (jv f)++K) none W):=by
 have hfr:=hs.top;have hT:(jv f fr).todo=fr.todo.map (vE f):=rfl
 have to:∀t:List Item,(∀i∈t,Dn P F i)->SR P Q F f cs K w W (.go (G { fr with todo:=t } (up++cs)) w #[]) (.go (G { jv f fr with todo:=t.map (vE f) } (up.map (jv f)++K)) W #[]):=
  λt ht=>SR.quiet ha (hs.set (hfr.todo' ht) rfl) (.inl hm)
 cases ht:fr.todo with
 |nil=>
  unfold stepG.exec;simp only [hT,ht,List.map_nil];cases hro:fr.roundOf with
  |none=>
   have Ba:(jv f fr).roundOf=none:=by show fr.roundOf.map f=none;rw [hro];rfl
   simp only [hro,Ba,if_true];have h1:=SR.quiet (P:=P) (Q:=Q) (cs:=cs) (K:=K) ha (hs.set (fr':={ fr with todo:=[],mode:=.returning,roundOf:=none }) ⟨hfr.fn,hfr.tmps,(by intro i hi;cases hi),hfr.defers,hfr.kind,(by intro l hl;cases hl)⟩ hro.symm) (.inr rfl);exact h1
  |some l=>
   have Ba:(jv f fr).roundOf=some (f l):=by show fr.roundOf.map f=_;rw [hro];rfl
   simp only [hro,Ba];have hr:=(oC (P:=P) (F:=F) (f:=f) l (hfr.round l hro) (jump:=none) (by intro c hc;cases hc)).EX hQ hR.inj w W #[] #[] ha;generalize Sem.runT P (Instr.endRound l none) w #[]=x at hr;generalize Sem.runT Q (Instr.endRound (f l) none) W #[]=y at hr;obtain ⟨x1,x2⟩:=x;obtain ⟨y1,y2⟩:=y;rcases hr with ho|hr
   ·refine SR.out ho ?_
    try rw [nN]
    cases x1<;>first |exact aJ _|exact mV .. |(rename_i hh _;cases hh<;>exact aJ _)|(dsimp only;split<;>exact aJ _)
   cases x1 with
   |ok v w1=>
    obtain ⟨v',W1,h1,h2,h3,h4⟩:=hr;simp only at h1 h4;subst h1;cases up with
    |nil=>exact absurd (hs.2.symm.trans hro) (by simp)
    |cons g up=>exact tZ hQ ma mb hfr hs.2.1 hs.2.2 h2 h3 h4
   |halt _ _=>exact .inr trivial
 |cons i k=>
  have hall:=hfr.todo;rw [ht] at hall;have hi:=hall i (aQ ..);have hk:∀j∈k,Dn P F j:= λj hj=>hall j (aR _ hj)
  have cons:∀{x:Item} {k:List Item},Dn P F x->(∀j∈k,Dn P F j)->∀j∈x::k,Dn P F j:=by
   intro x k h1 h2 j hj;rcases bE.1 hj with rfl|hj
   ·exact h1
   ·exact h2 j hj
  cases i with
  |inBlock _=>
   unfold stepG.exec;simp only [hT,ht,aC,vE];exact to k hk
  |inScope _=>
   unfold stepG.exec;simp only [hT,ht,aC,vE];exact to k hk
  |inLoop c=>
   unfold stepG.exec;simp only [hT,ht,aC,vE];exact to (.code c:: .inLoop c::k) (cons hi (cons hi hk))
  |inRegion ops l=>
   cases l with
   |nil=>
    unfold stepG.exec;simp only [hT,ht,aC,vE];exact to k hk
   |cons n rest=>
    have hy:yielded ops (jv f fr).tmps=yielded ops fr.tmps:=Ls ops fr.tmps;unfold stepG.exec;simp only [hT,ht,aC,vE,hy];cases hw:((ops[n]?).map (λx=>Region.wanted x (yielded ops fr.tmps))).getD false with
    |false=>
     simp only [bD,if_false];have h1:=SR.quiet (P:=P) (Q:=Q) (cs:=cs) (K:=K) ha (hs.set (hfr.finish (v:=undef) uy) (pE fr undef)) (.inl ((sW fr _).trans hm));rw [<-uL (f:=f) fr undef hfr.todo,Kv] at h1;simp only [Frame.finish,hT,ht,aC,vE] at h1 ⊢;exact h1
    |true=>
     simp only [if_true]
     have ho:∃o,ops[n]?=some o:=by
      cases h:ops[n]? with
      |none=>rw [h] at hw;cases hw
      |some o=>exact ⟨o,rfl⟩
     obtain ⟨o,ho⟩:=ho
     have hop:lq P F o.op=true:=by
      have :=aV.1 hi o (bg ho);exact this
     have e1:fr.oper?=some o:=by unfold Frame.oper?;rw [ht];exact ho
     have e2:(jv f fr).oper?=some o:=by unfold Frame.oper?;rw [hT,ht];exact ho
     have key:=Dt (P:=P) (Q:=Q) (cs:=cs) (K:=K) hQ hF hR.inj ha hs hm (IV hR hF.fit hfr.vsr hop);unfold stepG.oper;simp only [e1,e2]
     cases hx:o.op<;>first
      |(rw [hx] at hop;cases hop;done)
      |(cases fr.roundOf<;>cases (jv f fr).roundOf<;>exact key)
  |inRangeFunc l=>
   unfold stepG.exec;simp only [hT,ht,aC,vE];exact .inr trivial
  |endRangeFunc l=>
   unfold stepG.exec;simp only [hT,ht,aC,vE];have hr:=(Gd (P:=P) (F:=F) (f:=f) l hi).EX hQ hR.inj w W #[] #[] ha;generalize Sem.runT P (Instr.endLoop l) w #[]=x at hr;generalize Sem.runT Q (Instr.endLoop (f l)) W #[]=y at hr;obtain ⟨x1,x2⟩:=x;obtain ⟨y1,y2⟩:=y;rcases hr with ho|hr
   ·refine SR.out ho ?_
    try rw [nN]
    cases x1<;>first |exact aJ _|exact mV .. |(rename_i hh _;cases hh<;>exact aJ _)|(dsimp only;split<;>exact aJ _)
   cases x1 with
   |ok v w1=>
    obtain ⟨v',W1,h1,⟨rfl,h2⟩,h3,h4⟩:=hr;simp only at h1 h4;subst h1
    have h5:=SR.acts (P:=P) (Q:=Q) (cs:=cs) (K:=K) (fn:=fr.fn) hQ (hs.set (hfr.todo' (t:=(v.map Item.code).toList++k) (by
     intro i hi;rcases List.mem_append.1 hi with hi|hi
     ·cases v with
      |none=>cases hi
      |some c=>simp at hi;subst hi;exact h2 c rfl
     ·exact hk i hi)) rfl) (.inl hm) h3 h4
    have e:((v.map Item.code).toList++k).map (vE f)=(v.map Item.code).toList++k.map (vE f):=by
     cases v<;>simp [vE]
    have e2:jv f { fr with todo:=(v.map Item.code).toList++k }= { jv f fr with todo:=(v.map Item.code).toList++k.map (vE f) }:=by
     rw [<-e];rfl
    rw [e2] at h5;exact h5
   |halt hh w1=>
    obtain ⟨hb,hd⟩:=hr;cases hh with
    |panic v=>exact SR.falls _ hs hd
    |_=>exact .inr trivial
  |beginRound=>
   unfold stepG.exec;simp only [hT,ht,aC,vE];refine Dt hQ hF hR.inj ha hs hm ?_
   cases hro:fr.roundOf with
   |none=>exact .bad trivial
   |some l=>
    have Ba:(jv f fr).roundOf=some (f l):=by show fr.roundOf.map f=_;rw [hro];rfl
    rw [Ba];exact (Ae l (hfr.round l hro)).dY λ_=>.ret rfl
  |call _ _ _ _=>exact hi.elim
  |extern _ _=>exact hi.elim
  |code c=>
   have hc:codeOk P F c=true:=(hF.code c).symm.trans hi;cases c with
   |skip=>
    unfold stepG.exec;simp only [hT,ht,aC,vE];exact to k hk
   |label _=>
    unfold stepG.exec;simp only [hT,ht,aC,vE];exact to k hk
   |seq a b=>
    unfold stepG.exec;simp only [hT,ht,aC,vE];simp only [codeOk,bC, <-hF.code] at hc;exact to (.code a:: .code b::k) (cons hc.1 (cons hc.2 hk))
   |block id b=>
    unfold stepG.exec;simp only [hT,ht,aC,vE];simp only [codeOk, <-hF.code] at hc;exact to (.code b:: .inBlock id::k) (cons hc (cons trivial hk))
   |loop b=>
    unfold stepG.exec;simp only [hT,ht,aC,vE];simp only [codeOk, <-hF.code] at hc;exact to (.code b:: .inLoop b::k) (cons hc (cons hc hk))
   |scope b=>
    unfold stepG.exec;simp only [hT,ht,aC,vE];simp only [codeOk, <-hF.code] at hc;exact to (.code b:: .inScope b::k) (cons hc (cons hc hk))
   |goto l=>cases hc
   |refuse s=>
    unfold stepG.exec;simp only [hT,ht,aC,vE];exact .inr trivial
   |cond c a b=>
    unfold stepG.exec;simp only [hT,ht,aC,vE];simp only [codeOk,bC, <-hF.code] at hc;obtain ⟨e1,e2⟩:=tY hR hfr.vsr hc.1.1;rw [e1];cases fr.eval c with
    |bool t=>
     rw [mZ];exact to (.code (if t then a else b)::k) (cons (by cases t;exact hc.2;exact hc.1.2) hk)
    |_=>exact .inr trivial
   |ret=>
    unfold stepG.exec;simp only [hT,ht,aC,vE];cases hro:fr.roundOf with
    |none=>
     have Ba:(jv f fr).roundOf=none:=by show fr.roundOf.map f=none;rw [hro];rfl
     simp only [hro,Ba,if_true];have h1:=SR.quiet (P:=P) (Q:=Q) (cs:=cs) (K:=K) ha (hs.set (fr':={ fr with todo:=.code .ret::k,mode:=.returning,roundOf:=none }) ⟨hfr.fn,hfr.tmps,hall,hfr.defers,hfr.kind,(by intro l hl;cases hl)⟩ hro.symm) (.inr rfl);exact h1
    |some l=>
     have Ba:(jv f fr).roundOf=some (f l):=by show fr.roundOf.map f=_;rw [hro];rfl
     simp only [hro,Ba];have hr:=(oC (P:=P) (F:=F) (f:=f) l (hfr.round l hro) (jump:=some .ret) (by intro c hc;cases hc;exact hi)).EX hQ hR.inj w W #[] #[] ha;generalize Sem.runT P (Instr.endRound l (some .ret)) w #[]=x at hr;generalize Sem.runT Q (Instr.endRound (f l) (some .ret)) W #[]=y at hr;obtain ⟨x1,x2⟩:=x;obtain ⟨y1,y2⟩:=y;rcases hr with ho|hr
     ·refine SR.out ho ?_
      try rw [nN]
      cases x1<;>first |exact aJ _|exact mV .. |(rename_i hh _;cases hh<;>exact aJ _)|(dsimp only;split<;>exact aJ _)
     cases x1 with
     |ok v w1=>
      obtain ⟨v',W1,h1,h2,h3,h4⟩:=hr;simp only at h1 h4;subst h1;cases up with
      |nil=>exact absurd (hs.2.symm.trans hro) (by simp)
      |cons g up=>exact tZ hQ ma mb hfr hs.2.1 hs.2.2 h2 h3 h4
     |halt _ _=>exact .inr trivial
   |exit id=>
    unfold stepG.exec;simp only [hT,ht,aC,vE];rw [Gb];cases he:exitTo id k with
    |some k'=>
     simp only [ay,Option.elim_some];exact to k' λj hj=>hk j (Gc he j hj)
    |none=>
     simp only [Option.map_none,Option.elim_none];cases hro:fr.roundOf with
     |none=>
      have Ba:(jv f fr).roundOf=none:=by show fr.roundOf.map f=none;rw [hro];rfl
      simp only [hro,Ba,if_true];exact .inr trivial
     |some l=>
      have Ba:(jv f fr).roundOf=some (f l):=by show fr.roundOf.map f=_;rw [hro];rfl
      simp only [hro,Ba];have hr:=(oC (P:=P) (F:=F) (f:=f) l (hfr.round l hro) (jump:=some (.exit id)) (by intro c hc;cases hc;exact hi)).EX hQ hR.inj w W #[] #[] ha;generalize Sem.runT P (Instr.endRound l (some (.exit id))) w #[]=x at hr;generalize Sem.runT Q (Instr.endRound (f l) (some (.exit id))) W #[]=y at hr;obtain ⟨x1,x2⟩:=x;obtain ⟨y1,y2⟩:=y;rcases hr with ho|hr
      ·refine SR.out ho ?_
       try rw [nN]
       cases x1<;>first |exact aJ _|exact mV .. |(rename_i hh _;cases hh<;>exact aJ _)|(dsimp only;split<;>exact aJ _)
      cases x1 with
      |ok v w1=>
       obtain ⟨v',W1,h1,h2,h3,h4⟩:=hr;simp only at h1 h4;subst h1;cases up with
       |nil=>exact absurd (hs.2.symm.trans hro) (by simp)
       |cons g up=>exact tZ hQ ma mb hfr hs.2.1 hs.2.2 h2 h3 h4
      |halt _ _=>exact .inr trivial
   |region id ops draw=>
    unfold stepG.exec;simp only [hT,ht,aC,vE];simp only [codeOk] at hc;cases draw with
    |false=>exact to (.inRegion ops (List.range ops.size)::k) (cons hc hk)
    |true=>
     simp only [Bool.not_true,bD,if_false];have hr:=(oq (P:=P) (F:=F) (f:=f) (.order fr.fn id)).EX hQ hR.inj w W #[] #[] ha;rw [<-Sem.runT_fst P _ w #[], <-Sem.runT_fst Q _ W #[]];have hfn:(jv f fr).fn=fr.fn:=rfl;rw [hfn];generalize Sem.runT P (choose (.order fr.fn id)) w #[]=x at hr;generalize Sem.runT Q (choose (.order fr.fn id)) W #[]=y at hr;obtain ⟨x1,x2⟩:=x;obtain ⟨y1,y2⟩:=y;rcases hr with ho|hr
     ·refine SR.out ho ?_
      try rw [nN]
      cases x1<;>first |exact aJ _|exact mV .. |(rename_i hh _;cases hh<;>exact aJ _)|(dsimp only;split<;>exact aJ _)
     cases x1 with
     |ok v w1=>
      obtain ⟨v',W1,h1,rfl,h3,h4⟩:=hr;simp only at h1 h4;subst h1;refine .inr <| .inr ⟨_,up,_,W1,#[],rfl,hs.set (hfr.todo' (t:=.inRegion ops (Region.schedule (P.follows .mixedOrders) ops v)::k) (cons hc hk)) rfl,.inl hm,.inl rfl,?_,h3,O9 w1⟩;have hfo:Q.follows .mixedOrders=P.follows .mixedOrders:=by rcases hQ with rfl|⟨_,_,_,_,_,_,rfl⟩<;>rfl
      rw [hfo];rfl
     |halt _ _=>exact .inr trivial
   |rangeFunc x ps a b=>
    unfold stepG.exec;simp only [hT,ht,aC,vE];simp only [codeOk,bC, <-hF.code] at hc;have hr:=(Ci (P:=P) (F:=F) (f:=f) hfr.fn hfr.tmps ps hc.1.2 hc.2 (ar:=fr.roundOf) hfr.round).EX hQ hR.inj w W #[] #[] ha;have hfn:(jv f fr).fn=fr.fn:=rfl;have htm:(jv f fr).tmps=fr.tmps.map (rv f):=rfl;have hro:(jv f fr).roundOf=fr.roundOf.map f:=rfl;rw [hfn,htm,hro];generalize Sem.runT P (Instr.enterLoop fr.fn fr.tmps ps a b fr.roundOf) w #[]=x at hr;generalize Sem.runT Q (Instr.enterLoop fr.fn (fr.tmps.map (rv f)) ps a b (fr.roundOf.map f)) W #[]=y at hr;obtain ⟨x1,x2⟩:=x;obtain ⟨y1,y2⟩:=y;rcases hr with ho|hr
    ·refine SR.out ho ?_
     try rw [nN]
     cases x1 with
     |ok a w2=>
      refine aT (runT_size (P:=P) _ w2 #[]) (Lx (P:=P) (fr:={ fr with todo:=.inRangeFunc a.1::k,defers:=a.2++fr.defers }) (k:=up++cs) ?_ _ w2);show (fr.kind==CallKind.early)=false;rw [hfr.kind];rfl
     |halt hh _=>exact aJ _
    cases x1 with
    |ok v w1=>
     obtain ⟨v',W1,h1,⟨h2a,ZZ,h2c⟩,h3,h4⟩:=hr;obtain ⟨l,mk⟩:=v;simp only at h1 h4 h2a ZZ h2c;subst h2a;subst h1;refine SR.after hQ ha h3 h4 ?_
     have hd:List.map (rd f) (mk++fr.defers)=List.map (rd f) mk++(jv f fr).defers:=by rw [List.map_append];rfl
     dsimp only;rw [<-hd]
     have hfr2:mU P F { fr with todo:=.inRangeFunc l::k,defers:=mk++fr.defers }:=
      ⟨hfr.fn,hfr.tmps,cons ZZ hk, λd hd=>(List.mem_append.1 hd).elim (h2c d) (hfr.defers d),hfr.kind,hfr.round⟩
     have hv:=tY (P:=P) (F:=F) (f:=f) hR hfr2.vsr hc.1.1;refine Dt (fr:={ fr with todo:=.inRangeFunc l::k,defers:=mk++fr.defers }) hQ hF hR.inj h3.ag (hs.set hfr2 rfl) hm ?_
     refine xQ hF.fit hv ?_
     refine ⟨?_, λy hy=>?_⟩
     ·simp [Frame.eval,V7]
     ·simp [Frame.eval] at hy;subst hy;exact xz.2 ⟨ZZ,by intro y hy;simp at hy,by intro y hy;simp at hy⟩
    |halt _ _=>exact .inr trivial
theorem Ei {γ:Type} {k k':γ->Sem Value}:∀(l:List γ),(∀x∈l,dN P F f (VR F f) (k x) (k' x))->dN P F f (λas bs=>bs=as.map (rv f)∧∀a∈as,vs F a=true) (l.mapM k) (l.mapM k')
 | [],_=>by rw [List.mapM_nil,List.mapM_nil];exact .ret ⟨rfl,by simp⟩
 |x::l,h=>by
  rw [List.mapM_cons,List.mapM_cons];refine (h x (aQ ..)).bind λa b hab=>?_
  refine (Ei l λy hy=>h y (aR _ hy)).bind λas bs hs=>?_
  refine .ret ⟨by rw [hab.1,hs.1];rfl, λy hy=>?_⟩;rcases bE.1 hy with rfl|hy
  ·exact hab.2
  ·exact hs.2 y hy
theorem Pb {t:Array Value} (ht:VS F t) (i:Nat):VR F f (t.getD i undef) ((t.map (rv f)).getD i undef):=by
 rw [aA,aA,aG];cases h:t[i]? with
 |none=>exact ⟨by simp,uy⟩
 |some v=>exact ⟨rfl,ht v (bg h)⟩
theorem Bb (hR:Rn P f) (fn:Func) {t:Array Value} (ht:VS F t):dN P F f (VR F f) (results fn t) (results fn (t.map (rv f))):=by
 unfold results;refine dN.bind (R:=kZ F f) ?_ ?_
 ·rw [Array.mapM_eq_mapM_toList,Array.mapM_eq_mapM_toList];refine dN.Sa (Ei _ λr _=>?_) λas bs h=>?_
  ·cases r with
   |tmp i=>exact .ret (Pb ht i)
   |cell a i=>exact (IM (Pb ht a)).bind λx y hxy=>by obtain ⟨rfl,hx⟩:=hxy;exact E5 i x hx
  ·obtain ⟨h1,h2⟩:=h;refine .ret ⟨by rw [h1];simp, λx hx=>h2 x (by simpa using hx)⟩
 ·intro as bs h;refine .ret ?_
  obtain ⟨rfl,h2⟩:=h
  by_cases hz:as.size=1
  ·rw [dif_pos hz,dif_pos (by simpa using hz)];exact ⟨by simp,h2 _ (Array.getElem_mem _)⟩
  ·rw [dif_neg hz,dif_neg (by simpa using hz)];exact VR.tuple ⟨rfl,h2⟩
theorem NM (hQ:Alike P Q) (hF:nM P F) (hR:Rn P f) (ha:Ag F f w W) (ma mb:Bool) {fr:Frame} {up:List Frame} (hs:yC P F fr up) (hm:fr.mode= .returning) (hnl:up= []->fr.defers≠ []):
 SR P Q F f cs K w W (unwind P ma fr (up++cs) none w) (unwind Q mb (jv f fr) (up.map (jv f)++K) none W):=by
 have hfr:=hs.top;have hD:(jv f fr).defers=fr.defers.map (rd f):=rfl;have hM:(jv f fr).mode=fr.mode:=rfl;have hfn:(jv f fr).fn=fr.fn:=rfl;have htm:(jv f fr).tmps=fr.tmps.map (rv f):=rfl;cases hd:fr.defers with
 |cons d ds=>
  obtain ⟨r,rfl,hr⟩:=hfr.defers d (by rw [hd];exact aQ ..);have hds:∀d∈ds,∃r,d=Lr r∧F.A r=true:= λx hx=>hfr.defers x (by rw [hd];exact aR _ hx)
  unfold unwind;have e0:rd f (Lr r)=Lr (f r):=by simp [Lr,rd]
  simp only [hD,hd,aC,e0,hfn];simp only [Lr];have h:=(yD (P:=P) (F:=F) (f:=f) r hr).EX hQ hR.inj w W #[] #[] ha;generalize Sem.runT P (Instr.takeDeferred r) w #[]=x at h;generalize Sem.runT Q (Instr.takeDeferred (f r)) W #[]=y at h;obtain ⟨x1,x2⟩:=x;obtain ⟨y1,y2⟩:=y;rcases h with ho|h
  ·refine SR.out ho ?_
   try rw [nN]
   cases x1<;>first |exact aJ _|exact mV .. |(rename_i hh _;cases hh<;>exact aJ _)|(dsimp only;split<;>exact aJ _)
  cases x1 with
  |ok v w1=>
   obtain ⟨v',W1,h1,⟨rfl,rfl⟩,h3,h4⟩:=h;simp only at h1 h4;subst h1;exact SR.acts (P:=P) (Q:=Q) (cs:=cs) (K:=K) (fn:=fr.fn) hQ (hs.set (fr':={ fr with defers:=ds }) ⟨hfr.fn,hfr.tmps,hfr.todo,hds,hfr.kind,hfr.round⟩ rfl) (.inr hm) h3 h4
  |halt _ _=>exact .inr trivial
 |nil=>
  cases up with
  |nil=>exact absurd hd (hnl rfl)
  |cons g up=>
   obtain ⟨fn,c,WZ,_⟩:=hF.fit.body fr.fn hfr.fn;unfold unwind;obtain ⟨hh,hg1,hg2⟩:=hQ.get fr.fn;obtain ⟨bb,hb2,_⟩:=hg2 fn;have hfq:Q.funcs[fr.fn]?=some { fn with body:=bb }:=by rw [hg1,WZ];simp [hb2]
   have hrs:∀t,results { fn with body:=bb } t=results fn t:= λ_=>rfl
   simp only [hD,hd,List.map_nil,hM,hm,hfn,htm,WZ,hfq,hrs];have h:=(Bb (P:=P) (F:=F) (f:=f) hR fn hfr.tmps).EX hQ hR.inj w W #[] #[] ha;generalize Sem.runT P (results fn fr.tmps) w #[]=x at h;generalize Sem.runT Q (results fn (fr.tmps.map (rv f))) W #[]=y at h;obtain ⟨x1,x2⟩:=x;obtain ⟨y1,y2⟩:=y;rcases h with ho|h
   ·refine SR.out ho ?_
    try rw [nN]
    cases x1<;>first |exact aJ _|exact mV .. |(rename_i hh _;cases hh<;>exact aJ _)|(dsimp only;split<;>exact aJ _)
   cases x1 with
   |ok v w1=>
    obtain ⟨v',W1,h1,h2,h3,h4⟩:=h;simp only at h1 h4;subst h1;exact tZ hQ ma mb hfr hs.2.1 hs.2.2 h2 h3 h4
   |halt hh w1=>
    cases hh<;>exact .inr trivial
theorem TU (hQ:Alike P Q) (hF:nM P F) (hR:Rn P f) (ha:Ag F f w W) (ma mb:Bool) {fr:Frame} {up:List Frame} (hs:yC P F fr up) (hm:fr.mode= .run∨fr.mode= .returning∧(up= []->fr.defers≠ [])):
 SR P Q F f cs K w W (stepG P ma (G fr (up++cs)) w) (stepG Q mb (G (jv f fr) (up.map (jv f)++K)) W):=by
 unfold stepG G;have h1:(jv f fr).mode=fr.mode:=rfl;rcases hm with hm|⟨hm,hn⟩
 ·simp only [hm,h1];exact TT hQ hF hR ha ma mb hs hm
 ·simp only [hm,h1];exact NM hQ hF hR ha ma mb hs hm hn
def SR1 (P:Program) (F:Fit) (f:Nat->Nat) (cs K:List Frame) (w W:World) (s S:GStep):Prop:=
 Out F w (gw s)∨match s with
 | .ended .. =>True
 | .go g w1 es=>PS F cs g w1∨∃vk zZ W1 es',g=G vk (zZ++cs)∧yC P F vk zZ∧(vk.mode= .run∨vk.mode= .returning)∧
     S= .go (G (jv f vk) (zZ.map (jv f)++K)) W1 es'∧Mv F f w W w1 W1∧CR F f w1 #[] #[] es es'
 |_=>False
theorem SR.one (hF:nM P F) {s S:GStep} (h:SR P P F f cs K w W s S):SR1 P F f cs K w W s S:=by
 rcases h with h|h
 ·exact .inl h
 refine .inr ?_
 cases s with
 |go g w1 es=>
  rcases h with h|⟨vk,zZ,X,W1,es',a1,a2,a3,a4,a5,a6,a7⟩
  ·exact .inl h
  ·refine .inr ⟨vk,zZ,W1,es',a1,a2,a3,?_,a6,a7⟩;rcases a4 with rfl|⟨g,as,hg,_,_,_,rfl,rfl⟩
   ·exact a5
   ·rw [<-Dq hF hg as];exact a5
 |ended _ _ _=>exact trivial
 |_=>exact h.elim
end
end
end Par
section
def Go.World.tp (w:Go.World) (τ:Nat->Go.Question->Nat):Go.World:={ w with tape:=τ }
namespace Par
open Go Go.Conc
variable [Sh]
@[simp] theorem al0 (w:World) (τ:Nat->Question->Nat):(w.tp τ).drawn=w.drawn:=rfl
@[simp] theorem as2 (w:World) (τ:Nat->Question->Nat):(w.tp τ).heap=w.heap:=rfl
@[simp] theorem ay6 (w:World) (τ σ:Nat->Question->Nat):(w.tp τ).tp σ=w.tp σ:=rfl
def Tps (w w1:World) (τ:Nat->Question->Nat):Prop:=∀j q,w.drawn<=j->j<w1.drawn->τ j q=w.tape j q
def al1 (P:Program) {α:Type} (m:Sem α) (w:World) (es:Array Event):Prop:=
 ∀a w1 es1,m.runT P w es=(.ok a w1,es1)->w.drawn<=w1.drawn∧∀τ,Tps w w1 τ->m.runT P (w.tp τ) es=(.ok a (w1.tp τ),es1)
section
variable {P:Program} {F:Fit} {f:Nat->Nat} {α β:Type} {R:α->β->Prop}
theorem dN.loc {n0:Nat} (hn:∀b,n0<=b->F.A b=true) (hf:∀a b,Sh.lk a=false->Sh.hol b=false->f a=f b->a=b) {m:Sem α} {m':Sem β} (h:dN P F f R m m'):
 ∀(w W:World) (es:Array Event),n0<=w.heap.size->Ag F f w W->al1 P m w es:=by
 induction h with
 |pure h=>
  intro w W es h0 ha a w1 es1 h;simp only [Sem.runT] at h;cases h;exact ⟨aJ _, λτ _=>rfl⟩
 | @load a k k' hA h ih=>
   intro w W es h0 ha b w1 es1 h
   have e1:∀w:World,Sem.runT P (.load .plain a k) w es=match w.cell? a with
    |some v=>(k v).runT P w (es.push ⟨.cell a,false,Mode.plain==Mode.atomic⟩)
    |none=>match w.farLoad P a (Mode.plain==Mode.atomic) with
     | .ok (v,touched)=>(k v).runT P w (es++touched.toArray.map (⟨.cell ·,false,Mode.plain==Mode.atomic⟩))
     | .error h=>(.halt h w,es):= λw=>by
     simp only [Sem.runT];cases w.cell? a with
     |some v=>rfl
     |none=>dsimp only;cases World.farLoad P w a (Mode.plain==Mode.atomic)<;>rfl
   rw [e1] at h;cases hc:w.cell? a with
   |none=>
    obtain ⟨x,hx,hb⟩:=(ha.wr.noCell a hA "").2 P (Mode.plain==Mode.atomic);simp only [hc,hx] at h;cases h
   |some v=>
    obtain ⟨h1,h2⟩:=ha.wr.cell hA hc;simp only [hc] at h;obtain ⟨i1,i2⟩:=ih v h2 w W _ h0 ha b w1 es1 h;refine ⟨i1, λτ ht=>?_⟩;rw [e1];have hc':(w.tp τ).cell? a=some v:=hc;simp only [hc'];exact i2 τ ht
 | @store a v k k' hA hv h ih=>
   intro w W es h0 ha b w1 es1 h
   have hs:(∃c,v= .agg c∨v= .tuple c)∨((∀c,v≠ .agg c∧v≠ .tuple c)):=by
    cases v<;>first |(refine .inr λc=>⟨?_,?_⟩<;>(intro h;cases h;done))|exact .inl ⟨_,.inl rfl⟩|exact .inl ⟨_,.inr rfl⟩
   rcases hs with ⟨c,rfl|rfl⟩|hs
   ·simp only [Sem.runT] at h;cases h
   ·simp only [Sem.runT] at h;cases h
   ·have e1:∀(w:World) (es:Array Event),Sem.runT P (.store .plain a v k) w es=match w.cell? a with
     |some _=>if w.frozen? a then (.halt (.unsupported (.unsafePointer "a write to bytes that a string shares")) w,es) else k.runT P (w.setCell a v) (es.push ⟨.cell a,true,false⟩)
     |none=>match w.farStore P a v false with
      | .ok (w,touched)=>k.runT P w (es++touched.toArray.map (⟨.cell ·,true,false⟩))
      | .error h=>(.halt h w,es):=by
     intro w es;cases v<;>first |rfl|exact absurd rfl (hs _).1|exact absurd rfl (hs _).2
    rw [e1] at h;cases hc:w.cell? a with
    |none=>
     obtain ⟨x,hx,hb⟩:=ha.wr.OE a hA P v false;simp only [hc,hx] at h;cases h
    |some x=>
     simp only [hc] at h;cases hz:w.frozen? a with
     |true=>simp only [hz,if_true] at h;cases h
     |false=>
      simp only [hz,if_false,bD] at h;obtain ⟨hm,_⟩:=ha.store hf hA hc hz hv;obtain ⟨i1,i2⟩:=ih _ _ _ (by simpa [World.setCell] using h0) hm.ag b w1 es1 h;refine ⟨i1, λτ ht=>?_⟩;rw [e1];have hc':(w.tp τ).cell? a=some x:=hc;have hz':(w.tp τ).frozen? a=false:=hz;simp only [hc',hz',if_false,bD];exact i2 τ ht
 | @new o k k' ho h ih=>
   intro w W es h0 ha b w1 es1 h;simp only [Sem.runT] at h
   have hm:Mv F f w W { w with heap:=w.heap.push o } { W with heap:=W.heap.push (ro f o) }:=ha.new (by
    cases o with
    |cells c e fr=>exact .inr (.inl ⟨ha.Kt _ (aJ _),c,e,fr,fr,rfl,ho,rfl, λi _ h1 h2=>⟨h1,h2⟩⟩)
    |_=>exact .inl ⟨ha.Kt _ (aJ _),ho,rfl,rfl⟩)
   obtain ⟨i1,i2⟩:=ih _ (hn _ h0) (ha.Kt _ (aJ _)) _ _ _ (by simp only [Array.size_push];omega) hm.ag b w1 es1 h;exact ⟨i1, λτ ht=>i2 τ ht⟩
 | @rW c e k0 k0' k k' ho e1 e2 h ih=>
   intro w W es h0 ha b w1 es1 h
   have hsh:∀(w:World) (c:Array Value),World.shape? { w with heap:=w.heap.push (.cells c e (0,0)) } w.heap.size=some (e,c.size):=by
    intro w c;simp [World.shape?]
   have hm:Mv F f w W { w with heap:=w.heap.push (.cells c e (c.size,c.size+1)) } { W with heap:=W.heap.push (.cells (c.map (rv f)) e (c.size,c.size+1)) }:=
    ha.new (.inr (.inl ⟨ha.Kt _ (aJ _),c,e,_,(c.size,c.size+1),rfl,ho,rfl, λi _ h1 h2=>⟨h1,h2⟩⟩))
   have e3:∀w:World,Sem.runT P (.new (.cells c e (0,0)) λr=>.shape r (k0 r)) w es=(k w.heap.size).runT P { w with heap:=w.heap.push (.cells c e (c.size,c.size+1)) } es:=by
    intro w;simp only [Sem.runT];rw [hsh w c,e1];simp only [Sem.runT];rw [yP]
   rw [e3] at h;obtain ⟨i1,i2⟩:=ih _ (hn _ h0) (ha.Kt _ (aJ _)) _ _ _ (by simp only [Array.size_push];omega) hm.ag b w1 es1 h;refine ⟨i1, λτ ht=>?_⟩;rw [e3];exact i2 τ ht
 | @shape r k k' hA h hl ih ihl=>
   intro w W es h0 ha b w1 es1 h;simp only [Sem.runT] at h
   by_cases hk:Sh.lk r=true∧∃c fr,w.heap[r]?=some (.cells c Sh.bad fr)
   ·obtain ⟨h3,c,fr,h4⟩:=hk;have e1:w.shape? r=some (Sh.bad,c.size):=by unfold World.shape?;rw [h4]
    rw [e1] at h;obtain ⟨i1,i2⟩:=ihl h3 c.size (0,0) w W es h0 ha b w1 es1 h;refine ⟨i1, λτ ht=>?_⟩;have e2:(w.tp τ).shape? r=some (Sh.bad,c.size):=e1;simp only [Sem.runT];rw [e2];exact i2 τ ht
   ·obtain ⟨i1,i2⟩:=ih _ (λh3=>by
     rcases ha.wr.Jw hA h3 with hr|⟨c,fr,hr⟩
     ·unfold World.shape?;rw [hr]
     ·exact absurd ⟨h3,c,fr,hr⟩ hk) w W es h0 ha b w1 es1 h
    exact ⟨i1, λτ ht=>i2 τ ht⟩
 | @ET r k m' hA hl=>
   intro w W es h0 ha b w1 es1 h;rcases ha.wr.Jw hA hl with hr|⟨c,fr,hr⟩<;>(simp only [Sem.runT,hr] at h;cases h)
 | @getObj r k k' hA h ih=>
   intro w W es h0 ha b w1 es1 h;cases hr:w.heap[r]? with
   |none=>simp only [Sem.runT,hr] at h;cases h
   |some o=>
    by_cases hc:isCells o=true
    ·cases o<;>first |(simp only [Sem.runT,hr] at h;cases h;done)|cases hc
    ·have hc':isCells o=false:=by simpa using hc
     rcases ha.wr.blk r o hA hr with ⟨hlk,hS,_,hO⟩|⟨_,c,e,fr,fr',rfl,_⟩|⟨_,c,fr,C,e',fr',rfl,_⟩
     ·rw [xB k es hr hc'] at h;obtain ⟨i1,i2⟩:=ih o hS hc' hlk w W _ h0 ha b w1 es1 h;refine ⟨i1, λτ ht=>?_⟩;rw [xB (w:=w.tp τ) k es hr hc'];exact i2 τ ht
     ·cases hc'
     ·cases hc'
 | @setObj r o k k' hA ho hc h ih=>
   intro w W es h0 ha b w1 es1 h;cases hr:w.heap[r]? with
   |none=>simp only [Sem.runT,hr] at h;cases h
   |some x=>
    by_cases Ia:isCells x=true
    ·cases x<;>first |(simp only [Sem.runT,hr] at h;cases h;done)|cases Ia
    ·have Ib:isCells x=false:=by simpa using Ia
     rw [uA o k es hr Ib] at h;have hm:=ha.setObj hf hA hr Ib ho hc;obtain ⟨i1,i2⟩:=ih _ _ _ (by simpa [World.setCell] using h0) hm.ag b w1 es1 h;refine ⟨i1, λτ ht=>?_⟩;rw [uA (w:=w.tp τ) o k es hr Ib];exact i2 τ ht
 | @choose q k k' h ih=>
   intro w W es h0 ha b w1 es1 h;simp only [Sem.runT] at h ⊢
   by_cases hq:q.forced=true
   ·simp only [hq,if_true] at h ⊢;exact ih 0 w W es h0 ha b w1 es1 h
   ·simp only [hq,if_false,bD] at h ⊢
    have hag:Ag F f { w with drawn:=w.drawn+1 } { W with drawn:=W.drawn+1 }:=
     ⟨⟨ha.wr.lt,ha.wr.blk⟩, λj q'=>by have :=ha.tape (1+j) q';simpa [Nat.add_assoc] using this,ha.next,ha.Kt,ha.hol⟩
    obtain ⟨i1,i2⟩:=ih _ { w with drawn:=w.drawn+1 } _ es h0 hag b w1 es1 h;have i1':w.drawn+1<=w1.drawn:=i1;refine ⟨by omega, λτ ht=>?_⟩;have e:τ w.drawn q=w.tape w.drawn q:=ht _ _ (aJ _) (by omega);have e':(w.tp τ).tape (w.tp τ).drawn q=w.tape w.drawn q:=e;rw [e'];exact i2 τ λj q' h1 h2=>ht j q' (by simp only at h1;omega) h2
 |program e h ih=>
  intro w W es h0 ha b w1 es1 h;simp only [Sem.runT] at h;obtain ⟨i1,i2⟩:=ih w W es h0 ha b w1 es1 h;exact ⟨i1, λτ ht=>i2 τ ht⟩
 |noRoom h ih=>
  intro w W es h0 ha b w1 es1 h;simp only [Sem.runT] at h;obtain ⟨i1,i2⟩:=ih w W _ h0 ha b w1 es1 h;exact ⟨i1, λτ ht=>i2 τ ht⟩
 |oP h=>
  intro w W es h0 ha b w1 es1 hr;obtain ⟨x,w',es1,h1,h2⟩:=h w es;rw [h1] at hr;cases hr
end
end Par
end
namespace Par
open Go Go.Conc
section
variable [Sh]
def Panics (g:Goroutine):Prop:=∃ch,g.frame.mode= .panicking ch
def GL (s:World->GStep) (w:World):Prop:=
 ∀g w1 es,s w= .go g w1 es->¬Panics g->w.drawn<=w1.drawn∧∀τ,Tps w w1 τ->s (w.tp τ)= .go g (w1.tp τ) es
section
variable {P:Program} {F:Fit} {f:Nat->Nat} {w W:World} {cs:List Frame}
theorem GL.quiet (g:Goroutine):GL (λw=>.go g w #[]) w:=by
 intro g' w1 es h _;cases h;exact ⟨aJ _, λ_ _=>rfl⟩
theorem GL.ended (o:Outcome):GL (λw=>.ended o w) w:=by
 intro g' w1 es h _;cases h
theorem GL.run {α:Type} {m:Sem α} (fn:FuncId) (K:Result α->GStep) (hl:al1 P m w #[])
 (hk:∀a w2 es2,m.runT P w #[]=(.ok a w2,es2)->∃g',∀w3,K (.ok a w3)= .go g' w3 #[])
 (hh:∀h w2 g w3 es,K (.halt h w2)= .go g w3 es->Panics g):GL (λw=>GStep.after (seen P fn (m.runT P w #[]).2) (K (m.runT P w #[]).1)) w:=by
 intro g w1 es h hp;dsimp only at h;generalize hx:m.runT P w #[]=x at h;obtain ⟨x1,x2⟩:=x;cases x1 with
 |ok a w2=>
  obtain ⟨g',hg⟩:=hk a w2 x2 hx;obtain ⟨i1,i2⟩:=hl a w2 x2 hx;simp only [hg,GStep.after] at h;cases h;refine ⟨i1, λτ ht=>?_⟩;simp only [i2 τ ht,hg,GStep.after]
 |halt y w2=>
  exfalso;dsimp only at h;cases hk:K (.halt y w2) with
  |go g2 w3 es3=>
   rw [hk] at h;simp only [GStep.after] at h;cases h;exact hp (hh _ _ _ _ _ hk)
  |_=>rw [hk] at h;simp [GStep.after] at h
theorem Du (hn:∀b,w.heap.size<=b->F.A b=true) (hi:∀a b,Sh.lk a=false->Sh.hol b=false->f a=f b->a=b) (ha:Ag F f w W) {fr:Frame} (hfr:mU P F fr) {m m':Sem Next} (h:dN P F f (NR F f) m m'):
 GL (λw=>stepG.apply P true fr cs none m w) w:=by
 have hl:=h.loc hn hi w W #[] (aJ _) ha;have hr:=h.run hi w W #[] #[] ha;have hk:(fr.kind==CallKind.early)=false:=by rw [hfr.kind];rfl
 intro g w1 es hgo hp;unfold stepG.apply at hgo;simp only [if_true,hk,bD,if_false] at hgo;generalize hx:m.runT P w #[]=x at hr hgo;generalize m'.runT P W #[]=y at hr;obtain ⟨x1,x2⟩:=x;rcases hr with ⟨b,hb1,hb2,hb3⟩|hr
 ·rw [hn b hb1] at hb3;cases hb3
 cases x1 with
 |ok a w2=>
  obtain ⟨b,W1,h1,h2,h3,h4⟩:=hr;obtain ⟨i1,i2⟩:=hl a w2 x2 hx;cases a with
  |value v=>
   simp only [GStep.after] at hgo;cases hgo;refine ⟨i1, λτ ht=>?_⟩;unfold stepG.apply;simp only [if_true,hk,bD,if_false,i2 τ ht];rfl
  |skip=>
   simp only [GStep.after] at hgo;cases hgo;refine ⟨i1, λτ ht=>?_⟩;unfold stepG.apply;simp only [if_true,hk,bD,if_false,i2 τ ht];rfl
  |enter g as=>
   simp only [GStep.after] at hgo;cases hgo;refine ⟨i1, λτ ht=>?_⟩;unfold stepG.apply;simp only [if_true,hk,bD,if_false,i2 τ ht];rfl
  |round l g t x y=>
   simp only [GStep.after] at hgo;cases hgo;refine ⟨i1, λτ ht=>?_⟩;unfold stepG.apply;simp only [if_true,hk,bD,if_false,i2 τ ht];rfl
  |_=>exact h2.elim
 |halt hh w2=>
  exfalso;obtain ⟨hb,hd⟩:=hr
  have pn:∀v,Panics (G (fr.raise v) cs):=by
   intro v;unfold Panics Frame.raise G;cases fr.mode<;>exact ⟨_,rfl⟩
  cases hh with
  |panic v=>
   simp only [GStep.after] at hgo;cases hgo;exact hp (pn _)
  |stuck s=>simp [GStep.after] at hgo
  |unsupported u=>cases u<;>first |exact hb.elim|(simp [GStep.after] at hgo;done)
  |_=>exact hb.elim
theorem uf {ma:Bool} {fr g:Frame} {k:List Frame} (hk:fr.kind= .normal) (v:Value):∃g',∀w3,doReturn P ma fr (g::k) none v w3= .go g' w3 #[]:=by
 refine ⟨G (g.finish v) k, λw3=>?_⟩;unfold doReturn;simp only [hk];rfl
theorem TV (hn:∀b,w.heap.size<=b->F.A b=true) (hF:nM P F) (hR:Rn P f) (ha:Ag F f w W) (ma:Bool) {fr:Frame} {up:List Frame} (hs:yC P F fr up):
 GL (λw=>stepG.exec P ma true fr (up++cs) none w) w:=by
 have hfr:=hs.top;cases ht:fr.todo with
 |nil=>
  unfold stepG.exec;simp only [ht];cases hro:fr.roundOf with
  |none=>exact GL.quiet _
  |some l=>
   have hs1:=oC (P:=P) (F:=F) (f:=f) l (hfr.round l hro) (jump:=none) (by intro c hc;cases hc);cases up with
   |nil=>exact absurd (hs.2.symm.trans hro) (by simp)
   |cons g up=>
    refine GL.run fr.fn (λr=>match r with | .ok v w=>doReturn P ma fr (g::(up++cs)) none v w| .halt _ w=>.ended (.stuck "range over a function: no such loop" (fr.pos P)) w) (hs1.loc hn hR.inj w W #[] (aJ _) ha) (λa w2 es2 _=>uf hfr.kind a) (λh w2 g w3 es hx=>by cases hx)
 |cons i k=>
  have hall:=hfr.todo;rw [ht] at hall;have hi:=hall i (aQ ..);cases i with
  |inBlock _=>unfold stepG.exec;simp only [ht];exact GL.quiet _
  |inScope _=>unfold stepG.exec;simp only [ht];exact GL.quiet _
  |inLoop c=>unfold stepG.exec;simp only [ht];exact GL.quiet _
  |inRegion ops l=>
   cases l with
   |nil=>unfold stepG.exec;simp only [ht];exact GL.quiet _
   |cons n rest=>
    unfold stepG.exec;simp only [ht];cases hw:((ops[n]?).map (λx=>Region.wanted x (yielded ops fr.tmps))).getD false with
    |false=>simp only [bD,if_false];exact GL.quiet _
    |true=>
     simp only [if_true]
     have ho:∃o,ops[n]?=some o:=by
      cases h:ops[n]? with
      |none=>rw [h] at hw;cases hw
      |some o=>exact ⟨o,rfl⟩
     obtain ⟨o,ho⟩:=ho;have hop:lq P F o.op=true:=aV.1 hi o (bg ho);have e1:fr.oper?=some o:=by unfold Frame.oper?;rw [ht];exact ho
     have key:=Du (P:=P) (cs:=up++cs) hn hR.inj ha hfr (IV (f:=f) hR hF.fit hfr.vsr hop);unfold stepG.oper;simp only [e1]
     cases hx:o.op<;>first
      |(rw [hx] at hop;cases hop;done)
      |(cases fr.roundOf<;>exact key)
  |inRangeFunc l=>unfold stepG.exec;simp only [ht];exact GL.ended _
  |endRangeFunc l=>
   unfold stepG.exec;simp only [ht]
   refine GL.run fr.fn (λr=>match r with | .ok jump w=>.go (G { fr with todo:=(jump.map Item.code).toList++k } (up++cs)) w| .halt (.panic v) w=>.go (G (fr.raise [{ v,recovered:=false }]) (up++cs)) w| .halt _ w=>.ended (.stuck "range over a function: no such loop" (fr.pos P)) w)
    ((Gd (P:=P) (F:=F) (f:=f) l hi).loc hn hR.inj w W #[] (aJ _) ha) (λa w2 es2 _=>⟨_, λw3=>rfl⟩) (λh w2 g w3 es hx=>?_)
   cases h with
   |panic v=>
    cases hx;unfold Panics Frame.raise G;cases fr.mode<;>exact ⟨_,rfl⟩
   |_=>cases hx
  |beginRound=>
   unfold stepG.exec;simp only [ht];refine Du (f:=f) (W:=W) hn hR.inj ha hfr (m':=(do (jv f fr).roundOf.elim (stuck "beginRound: no round") Instr.beginRound;pure .skip)) ?_
   cases hro:fr.roundOf with
   |none=>exact .bad trivial
   |some l=>
    have Ba:(jv f fr).roundOf=some (f l):=by show fr.roundOf.map f=_;rw [hro];rfl
    rw [Ba];exact (Ae l (hfr.round l hro)).dY λ_=>.ret rfl
  |call _ _ _ _=>exact az hi
  |extern _ _=>exact az hi
  |code c=>
   have hc:codeOk P F c=true:=(hF.code c).symm.trans hi;cases c with
   |skip=>unfold stepG.exec;simp only [ht];exact GL.quiet _
   |label _=>unfold stepG.exec;simp only [ht];exact GL.quiet _
   |seq a b=>unfold stepG.exec;simp only [ht];exact GL.quiet _
   |block id b=>unfold stepG.exec;simp only [ht];exact GL.quiet _
   |loop b=>unfold stepG.exec;simp only [ht];exact GL.quiet _
   |scope b=>unfold stepG.exec;simp only [ht];exact GL.quiet _
   |goto l=>cases hc
   |refuse s=>unfold stepG.exec;simp only [ht];exact GL.ended _
   |cond c a b=>
    unfold stepG.exec;simp only [ht];cases fr.eval c with
    |bool t=>exact GL.quiet _
    |_=>exact GL.ended _
   |ret=>
    unfold stepG.exec;simp only [ht];cases hro:fr.roundOf with
    |none=>exact GL.quiet _
    |some l=>
     have hs1:=oC (P:=P) (F:=F) (f:=f) l (hfr.round l hro) (jump:=some .ret) (by intro c hc;cases hc;exact hi);cases up with
     |nil=>exact absurd (hs.2.symm.trans hro) (by simp)
     |cons g up=>
      refine GL.run fr.fn (λr=>match r with | .ok v w=>doReturn P ma fr (g::(up++cs)) none v w| .halt _ w=>.ended (.stuck "range over a function: no such loop" (fr.pos P)) w) (hs1.loc hn hR.inj w W #[] (aJ _) ha) (λa w2 es2 _=>uf hfr.kind a) (λh w2 g w3 es hx=>by cases hx)
   |exit id=>
    unfold stepG.exec;simp only [ht];cases he:exitTo id k with
    |some k'=>exact GL.quiet _
    |none=>
     simp only [Option.elim_none];cases hro:fr.roundOf with
     |none=>exact GL.ended _
     |some l=>
      have hs1:=oC (P:=P) (F:=F) (f:=f) l (hfr.round l hro) (jump:=some (.exit id)) (by intro c hc;cases hc;exact hi);cases up with
      |nil=>exact absurd (hs.2.symm.trans hro) (by simp)
      |cons g up=>
       refine GL.run fr.fn (λr=>match r with | .ok v w=>doReturn P ma fr (g::(up++cs)) none v w| .halt _ w=>.ended (.stuck "range over a function: no such loop" (fr.pos P)) w) (hs1.loc hn hR.inj w W #[] (aJ _) ha) (λa w2 es2 _=>uf hfr.kind a) (λh w2 g w3 es hx=>by cases hx)
   |region id ops draw=>
    unfold stepG.exec;simp only [ht];cases draw with
    |false=>exact GL.quiet _
    |true=>
     simp only [Bool.not_true,bD,if_false];have hl:=(oq (P:=P) (F:=F) (f:=f) (.order fr.fn id)).loc hn hR.inj w W #[] (aJ _) ha;intro g w1 es h hp;dsimp only at h;rw [<-Sem.runT_fst P _ w #[]] at h;generalize hx:(choose (.order fr.fn id)).runT P w #[]=x at h;obtain ⟨x1,x2⟩:=x;cases x1 with
     |ok a w2=>
      obtain ⟨i1,i2⟩:=hl a w2 x2 hx;simp only at h;cases h;refine ⟨i1, λτ ht=>?_⟩;dsimp only;rw [<-Sem.runT_fst P _ (w.tp τ) #[],i2 τ ht]
     |halt y w2=>cases h
   |rangeFunc x ps a b=>
    unfold stepG.exec;simp only [ht];simp only [codeOk,bC, <-hF.code] at hc;have hk:∀j∈k,Dn P F j:= λj hj=>hall j (aR _ hj)
    have ML:=Ci (P:=P) (F:=F) (f:=f) hfr.fn hfr.tmps ps hc.1.2 hc.2 (ar:=fr.roundOf) hfr.round;have hl:=ML.loc hn hR.inj w W #[] (aJ _) ha;have hr:=ML.run hR.inj w W #[] #[] ha;intro g w1 es h hp;dsimp only at h;generalize hx:Sem.runT P (Instr.enterLoop fr.fn fr.tmps ps a b fr.roundOf) w #[]=x at h hr;generalize Sem.runT P (Instr.enterLoop fr.fn (fr.tmps.map (rv f)) ps a b (fr.roundOf.map f)) W #[]=y at hr;obtain ⟨x1,x2⟩:=x;rcases hr with ⟨b,hb1,hb2,hb3⟩|hr
    ·rw [hn b hb1] at hb3;cases hb3
    cases x1 with
    |halt y w2=>simp [GStep.after] at h
    |ok v w2=>
     obtain ⟨v',W2,h1,⟨h2a,ZZ,h2c⟩,h3,h4⟩:=hr;obtain ⟨i1,i2⟩:=hl v w2 x2 hx;obtain ⟨l,mk⟩:=v;simp only at ZZ h2c h
     have hfr2:mU P F { fr with todo:=.inRangeFunc l::k,defers:=mk++fr.defers }:=
      ⟨hfr.fn,hfr.tmps, λj hj=>(bE.1 hj).elim (λe=>e ▸ ZZ) (hk j), λd hd=>(List.mem_append.1 hd).elim (h2c d) (hfr.defers d),hfr.kind,hfr.round⟩
     have hv:=tY (P:=P) (F:=F) (f:=f) hR hfr2.vsr hc.1.1
     have hargs:kZ F f (#[Operand.const (.func (.yield l) #[] #[])].map ({ fr with todo:=.inRangeFunc l::k,defers:=mk++fr.defers }:Frame).eval) #[.func (.yield (f l)) #[] #[]]:=by
      refine ⟨?_, λy hy=>?_⟩
      ·simp [Frame.eval,V7]
      ·simp [Frame.eval] at hy;subst hy;exact xz.2 ⟨ZZ,by intro y hy;simp at hy,by intro y hy;simp at hy⟩
     have key:=Du (P:=P) (cs:=up++cs) (λb hb=>hn b (by obtain ⟨k,hk,_⟩:=h3.size;omega)) hR.inj h3.ag hfr2 (xQ hF.fit hv hargs);generalize hq:stepG.apply P true { fr with todo:=.inRangeFunc l::k,defers:=mk++fr.defers } (up++cs) none _ w2=s2 at h;cases s2 with
     |go g2 w3 es2=>
      simp only [GStep.after] at h;cases h;obtain ⟨j1,j2⟩:=key _ _ _ hq hp;refine ⟨by omega, λτ ht'=>?_⟩;have t1:Tps w w2 τ:= λj q a b=>ht' j q a (by omega)
      have t2:Tps w2 w1 τ:= λj q a b=>by
       rw [ht' j q (by omega) b,h3.tape]
      dsimp only;simp only [i2 τ t1];exact congrArg (GStep.after (seen P fr.fn x2)) (j2 τ t2)
     |_=>simp [GStep.after] at h
theorem NN (hn:∀b,w.heap.size<=b->F.A b=true) (hF:nM P F) (hR:Rn P f) (ha:Ag F f w W) (ma:Bool) {fr:Frame} {up:List Frame} (hs:yC P F fr up) (hm:fr.mode= .returning) (hnl:up= []->fr.defers≠ []):
 GL (λw=>unwind P ma fr (up++cs) none w) w:=by
 have hfr:=hs.top;cases hd:fr.defers with
 |cons d ds=>
  obtain ⟨r,rfl,hr⟩:=hfr.defers d (by rw [hd];exact aQ ..);unfold unwind;simp only [hd,Lr]
  exact GL.run fr.fn (λr=>match r with | .ok calls w=>.go (G { fr with defers:=calls++ds } (up++cs)) w| .halt _ w=>.ended (.stuck "the deferred calls of a range-over-func loop have been taken" (fr.pos P)) w)
   ((yD (P:=P) (F:=F) (f:=f) r hr).loc hn hR.inj w W #[] (aJ _) ha) (λa w2 es2 _=>⟨_, λw3=>rfl⟩) (λh w2 g w3 es hx=>by cases hx)
 |nil=>
  cases up with
  |nil=>exact absurd hd (hnl rfl)
  |cons g up=>
   obtain ⟨fn,c,WZ,_⟩:=hF.fit.body fr.fn hfr.fn;unfold unwind;simp only [hd,hm,WZ]
   refine GL.run fr.fn (λr=>match r with | .ok v w=>doReturn P ma fr (g::(up++cs)) none v w| .halt (.stuck s) w=>.ended (.stuck s (fr.pos P)) w| .halt _ w=>.ended (.stuck "return: the result variables cannot be read" (fr.pos P)) w)
    ((Bb (P:=P) (F:=F) (f:=f) hR fn hfr.tmps).loc hn hR.inj w W #[] (aJ _) ha) (λa w2 es2 _=>uf hfr.kind a) (λh w2 g w3 es hx=>by cases h<;>cases hx)
theorem TW (hn:∀b,w.heap.size<=b->F.A b=true) (hF:nM P F) (hR:Rn P f) (ha:Ag F f w W) (ma:Bool) {fr:Frame} {up:List Frame} (hs:yC P F fr up) (hm:fr.mode= .run∨fr.mode= .returning∧(up= []->fr.defers≠ [])):
 GL (λw=>stepG P ma (G fr (up++cs)) w) w:=by
 unfold stepG G;rcases hm with hm|⟨hm,hnl⟩
 ·simp only [hm];exact TV hn hF hR ha ma hs
 ·simp only [hm];exact NN hn hF hR ha ma hs hm hnl
end
end
end Par
namespace Par
open Go Go.Conc Go.ConcM
section
structure gB where
 ro:Nat->Prop
 sy:Nat->Prop
 cl:Nat->Nat->Prop
 mute:Prop:=False
def yE (o O:Option Obj):Prop:=∀c e fr,o=some (.cells c e fr)->∃c':Array Value,O=some (.cells c' e fr)∧c'.size=c.size∧∀(i:Nat) (k:IntKind) (n:Int),c[i]?=some (.int k n)->∃m,c'[i]?=some (.int k m)
theorem yE.refl (o:Option Obj):yE o o:= λc _ _ h=>⟨c,h,rfl, λ_ _ n h=>⟨n,h⟩⟩
theorem yE.trans {a b c:Option Obj} (h:yE a b) (k:yE b c):yE a c:= λx e fr hx=>
 let ⟨y,hy,e1,i1⟩:=h x e fr hx
 let ⟨z,hz,e2,i2⟩:=k y e fr hy
 ⟨z,hz,e2.trans e1, λi kd n hn=>let ⟨m,hm⟩:=i1 i kd n hn;i2 i kd m hm⟩
structure dZ (Z:gB) (own:Nat->Prop) (W W1:World):Prop where
 tape:W1.tape=W.tape
 out:W1.output=W.output
 os:OsLater W.os W1.os
 size:W.heap.size<=W1.heap.size
 own:∀b,own b->W1.heap[b]?=W.heap[b]?
 ro:∀b,Z.ro b->W1.heap[b]?=W.heap[b]?
 sy:∀b,Z.sy b->yE W.heap[b]? W1.heap[b]?
 cl:∀b i,Z.cl b i->W1.cell? ⟨b,i,none⟩=W.cell? ⟨b,i,none⟩
structure vX (Z:gB) (own:Nat->Prop) (W W1:World):Prop where
 tape:W1.tape=W.tape
 out:W1.output=W.output
 os:W1.os=W.os
 size:W.heap.size<=W1.heap.size
 rest:∀b,b<W.heap.size->¬own b->¬Z.sy b->W1.heap[b]?=W.heap[b]?
 sy:∀b,Z.sy b->yE W.heap[b]? W1.heap[b]?∧∀i,¬Z.cl b i->W1.cell? ⟨b,i,none⟩=W.cell? ⟨b,i,none⟩
def grow (own:Nat->Prop) (W W1:World):Nat->Prop:= λb=>own b∨(W.heap.size<=b∧b<W1.heap.size)
def QB (Z:gB) (own:Nat->Prop) (e:Event):Prop:=
 ¬Z.mute∧match e.loc with
 | .cell a=>e.sync=false∧(own a.block∨(Z.ro a.block∧e.write=false)∨Z.cl a.block a.off)
 | .obj r=>e.sync=false∧own r
 | .mark m=>m= .noRoom
 |_=>False
inductive Gw (P:Program) (main:Bool) (Z:gB) (Stop:(Nat->Prop)->Goroutine->World->Prop):(Nat->Prop)->Goroutine->World->Prop
 |stop {own:Nat->Prop} {g:Goroutine} {W:World} (h:∀W1,dZ Z own W W1->Stop own g W1):Gw P main Z Stop own g W
 |step {own:Nat->Prop} {g:Goroutine} {W:World} (hs:g.status= .running) (g':World->Goroutine) (W':World->World) (es:World->Array Event)
   (h:∀W1,dZ Z own W W1->stepG P main g W1= .go (g' W1) (W' W1) (es W1)) (hg:∀W1,dZ Z own W W1->vX Z own W1 (W' W1))
   (he:∀W1,dZ Z own W W1->∀e∈es W1,QB Z (grow own W1 (W' W1)) e) (hn:∀W1,dZ Z own W W1->Gw P main Z Stop (grow own W1 (W' W1)) (g' W1) (W' W1)):Gw P main Z Stop own g W
section
variable {P:Program} {main:Bool} {Z:gB} {Stop:(Nat->Prop)->Goroutine->World->Prop} {own:Nat->Prop} {g:Goroutine} {W:World}
theorem dZ.refl (W:World):dZ Z own W W:=⟨rfl,rfl,OsLater.refl _,aJ _, λ_ _=>rfl, λ_ _=>rfl, λ_ _=>yE.refl _, λ_ _ _=>rfl⟩
theorem dZ.trans {a b c:World} (h:dZ Z own a b) (k:dZ Z own b c):dZ Z own a c:=
 ⟨k.tape.trans h.tape,k.out.trans h.out,h.os.trans k.os,aT h.size k.size, λx hx=>(k.own x hx).trans (h.own x hx), λx hx=>(k.ro x hx).trans (h.ro x hx), λx hx=>(h.sy x hx).trans (k.sy x hx), λx i hx=>(k.cl x i hx).trans (h.cl x i hx)⟩
theorem Gw.Cj (hs:g.status= .running) (h:∀W1,dZ Z own W W1->∃g' W' es,stepG P main g W1= .go g' W' es∧vX Z own W1 W'∧(∀e∈es,QB Z (grow own W1 W') e)∧Gw P main Z Stop (grow own W1 W') g' W'):Gw P main Z Stop own g W:=by
 classical
 refine .step hs (λW1=>if hr:dZ Z own W W1 then (h W1 hr).choose else g) (λW1=>if hr:dZ Z own W W1 then (h W1 hr).choose_spec.choose else W1)
  (λW1=>if hr:dZ Z own W W1 then (h W1 hr).choose_spec.choose_spec.choose else #[]) ?_ ?_ ?_ ?_
 all_goals
  intro W1 hr;simp only [dif_pos hr]
 ·exact (h W1 hr).choose_spec.choose_spec.choose_spec.1
 ·exact (h W1 hr).choose_spec.choose_spec.choose_spec.2.1
 ·exact (h W1 hr).choose_spec.choose_spec.choose_spec.2.2.1
 ·exact (h W1 hr).choose_spec.choose_spec.choose_spec.2.2.2
theorem Gw.not (hs:g.status= .running) (h:¬Gw P main Z Stop own g W):
 ∃W1,dZ Z own W W1∧∀g' W' es,stepG P main g W1= .go g' W' es->vX Z own W1 W'->(∀e∈es,QB Z (grow own W1 W') e)->¬Gw P main Z Stop (grow own W1 W') g' W':=by
 apply bq;intro hc;refine h (Gw.Cj hs λW1 hr=>?_);apply bq;intro hx;exact hc ⟨W1,hr, λg' W' es h1 h2 h3 h4=>hx ⟨g',W',es,h1,h2,h3,h4⟩⟩
theorem Gw.rely {W1:World} (h:Gw P main Z Stop own g W) (hr:dZ Z own W W1):Gw P main Z Stop own g W1:=by
 cases h with
 |stop h=>exact .stop λW2 h2=>h W2 (hr.trans h2)
 |step hs g' W' es h1 h2 h3 h4=>exact .step hs g' W' es (λW2 h=>h1 W2 (hr.trans h)) (λW2 h=>h2 W2 (hr.trans h)) (λW2 h=>h3 W2 (hr.trans h)) (λW2 h=>h4 W2 (hr.trans h))
theorem Gw.bind {Stop':(Nat->Prop)->Goroutine->World->Prop} (h:Gw P main Z Stop own g W) (hk:∀own g W,(∀W1,dZ Z own W W1->Stop own g W1)->Gw P main Z Stop' own g W):Gw P main Z Stop' own g W:=by
 induction h with
 |stop h=>exact hk _ _ _ h
 |step hs g' W' es h1 h2 h3 _ ih=>exact .step hs g' W' es h1 h2 h3 ih
end
end
section
variable [Sh]
section
variable {F F':Fit} {f g:Nat->Nat}
theorem LA (h:∀b,(F.A b=true∨Sh.hol b=true)->f b=g b) {a:Addr} (ha:F.A a.block=true):ra f a=ra g a:=by
 unfold ra;rw [h _ (.inl ha)]
theorem QC (h:∀b,(F.A b=true∨Sh.hol b=true)->f b=g b) {fn:Fn} (hf:Yy F fn=true):V7 f fn=V7 g fn:=by
 cases fn with
 |yield l=>exact congrArg Fn.yield (h l (.inl hf))
 |_=>rfl
mutual
theorem wR (h:∀b,(F.A b=true∨Sh.hol b=true)->f b=g b):∀v:Value,vs F v=true->rv f v=rv g v
 | .bool _,_=>by simp
 | .int _ _,_=>by simp
 | .float _ _,_=>by simp [wu]
 | .complex _ _ _,_=>by simp [rU]
 | .string _,_=>by simp
 | .pointer none,_=>by simp
 | .pointer (some a),hv=>by
   have :=LA h (a:=a) (by simpa using hv);simp [this]
 | .slice none _ _,_=>by simp
 | .slice (some a) _ _,hv=>by
   have :ra f a=ra g a:=by
    unfold ra;rw [h _ ((sM (by simpa using hv)).imp id And.left)]
   simp [this]
 | .map none,_=>by simp
 | .map (some r),hv=>by
   have :=h r (.inl (by simpa using hv));simp [this]
 | .chan none,_=>by simp
 | .chan (some r),hv=>by simp at hv
 | .func fn a b,hv=>by
   rw [rv,rv];rw [vs,bC,bC] at hv;rw [QC h hv.1.1,zD h a hv.1.2,zD h b hv.2]
 | .nilFunc,_=>by simp
 | .iface t v,hv=>by
   rw [rv,rv,wR h v (by rw [vs] at hv;exact hv)]
 | .nilIface,_=>by simp
 | .agg a,hv=>by
   rw [rv,rv,zD h a (by rw [vs] at hv;exact hv)]
 | .tuple a,hv=>by
   rw [rv,rv,zD h a (by rw [vs] at hv;exact hv)]
theorem zD (h:∀b,(F.A b=true∨Sh.hol b=true)->f b=g b):∀a:Array Value,MN F a=true->OC f a=OC g a
 |⟨l⟩,hv=>by rw [OC,OC,IW h l (by rw [MN] at hv;exact hv)]
theorem IW (h:∀b,(F.A b=true∨Sh.hol b=true)->f b=g b):∀l:List Value,MK F l=true->Ku f l=Ku g l
 | [],_=>by rw [Ku,Ku]
 |v::l,hv=>by
  rw [MK,bC] at hv;rw [Ku,Ku,wR h v hv.1,IW h l hv.2]
end
theorem xR (h:∀b,(F.A b=true∨Sh.hol b=true)->f b=g b) {a:Array Value} (ha:VS F a):a.map (rv f)=a.map (rv g):=
 Array.map_congr_left λv hv=>wR h v (ha v hv)
theorem LB (hS:F.S=F'.S∧F.V=F'.V) (hA:∀b,F.A b=true->F'.A b=true) {fn:Fn} (h:Yy F fn=true):Yy F' fn=true:=by
 cases fn with
 |func g=>show F'.V g=true;rw [<-hS.2];exact h
 |yield l=>exact hA l h
 |_=>exact h
mutual
theorem Ck (hS:F.S=F'.S∧F.V=F'.V) (hA:∀b,F.A b=true->F'.A b=true):∀v:Value,vs F v=true->vs F' v=true
 | .bool _,_=>by simp
 | .int _ _,_=>by simp
 | .float _ _,h=>by simp at h
 | .complex _ _ _,h=>by simp at h
 | .string _,_=>by simp
 | .pointer none,_=>by simp
 | .pointer (some a),h=>by simp at h ⊢;exact hA _ h
 | .slice none _ _,_=>by simp
 | .slice (some a) l c,h=>by
   rw [jo] at h ⊢;rcases sM h with h|⟨h,h1,h2⟩
   ·exact vP (hA _ h)
   ·unfold MJ;simp [h,h1,h2]
 | .map none,_=>by simp
 | .map (some r),h=>by simp at h ⊢;exact hA _ h
 | .chan r,h=>by simpa using h
 | .func fn a b,h=>by
   rw [vs,bC,bC] at h ⊢;exact ⟨⟨LB hS hA h.1.1,Cm hS hA a h.1.2⟩,Cm hS hA b h.2⟩
 | .nilFunc,_=>by simp
 | .iface t v,h=>by rw [vs] at h ⊢;exact Ck hS hA v h
 | .nilIface,_=>by simp
 | .agg a,h=>by rw [vs] at h ⊢;exact Cm hS hA a h
 | .tuple a,h=>by rw [vs] at h ⊢;exact Cm hS hA a h
theorem Cm (hS:F.S=F'.S∧F.V=F'.V) (hA:∀b,F.A b=true->F'.A b=true):∀a:Array Value,MN F a=true->MN F' a=true
 |⟨l⟩,h=>by rw [MN] at h ⊢;exact LC hS hA l h
theorem LC (hS:F.S=F'.S∧F.V=F'.V) (hA:∀b,F.A b=true->F'.A b=true):∀l:List Value,MK F l=true->MK F' l=true
 | [],_=>by rw [MK]
 |v::l,h=>by
  rw [MK,bC] at h ⊢;exact ⟨Ck hS hA v h.1,LC hS hA l h.2⟩
end
theorem VS.mono (hS:F.S=F'.S∧F.V=F'.V) (hA:∀b,F.A b=true->F'.A b=true) {a:Array Value} (h:VS F a):VS F' a:= λv hv=>Ck hS hA v (h v hv)
theorem Xa (hS:F.S=F'.S∧F.V=F'.V) (hc:F.code=F'.code) (hA:∀b,F.A b=true->F'.A b=true) {o:Obj} (h:oS F o):oS F' o:=by
 cases o with
 |cells c e fr=>exact VS.mono hS hA h
 |number a l=>exact hA _ h
 |map es c=>exact λe he=>⟨Ck hS hA _ (h e he).1,Ck hS hA _ (h e he).2⟩
 |stringIter _ _=>trivial
 |mapIter m _ _ _=>
  cases m with
  |none=>rfl
  |some r=>exact hA r h
 |loop l=>exact ⟨VS.mono hS hA h.1,hS.1 ▸ h.2.1,hA _ h.2.2.1,hc ▸ h.2.2.2.1,hc ▸ h.2.2.2.2.1, λc hx=>hc ▸ h.2.2.2.2.2 c hx⟩
 |deferred ds=>exact h
 |_=>exact h.elim
theorem TY (h:∀b,(F.A b=true∨Sh.hol b=true)->f b=g b) {o:Obj} (ho:oS F o):ro f o=ro g o:=by
 cases o with
 |cells c e fr=>simp only [ro];rw [xR h ho]
 |number a l=>simp only [ro];rw [LA h ho]
 |map es c=>
  simp only [ro];congr 1;refine Array.map_congr_left λe he=>?_
  unfold re;rw [wR h _ (ho e he).1,wR h _ (ho e he).2]
 |stringIter _ _=>rfl
 |mapIter m _ _ _=>
  cases m with
  |none=>rfl
  |some r=>simp only [ro,ay];rw [h r (.inl ho)]
 |loop l=>simp only [ro];rw [xR h ho.1,h _ (.inl ho.2.2.1)]
 |deferred ds=>rcases ho with rfl|rfl<;>rfl
 |_=>exact ho.elim
theorem BR.conv (hS:F.S=F'.S∧F.V=F'.V) (hc:F.code=F'.code) (hA:∀b,F.A b=true->F'.A b=true) (h:∀b,(F.A b=true∨Sh.hol b=true)->f b=g b) {b:Nat} {o:Obj} {O:Option Obj} (hb:BR F f b o O):BR F' g b o O:=by
 rcases hb with ⟨hl,h1,h2,h3⟩|⟨hl,c,e,fr,fr',h1,h2,h3,h4⟩|⟨hl,c,fr,C,e',fr',h1,h2,h5,h3,h4⟩
 ·exact .inl ⟨hl,Xa hS hc hA h1,h2,by rw [h3,TY h h1]⟩
 ·exact .inr (.inl ⟨hl,c,e,fr,fr',h1,VS.mono hS hA h2,by rw [h3,xR h h2],h4⟩)
 ·exact .inr (.inr ⟨hl,c,fr,C,e',fr',h1,VS.mono hS hA h2,h5,h3, λi v hi=>by rw [h4 i v hi,wR h v (h2 v (bg hi))]⟩)
variable {P:Program}
theorem TZ (hS:F.S=F'.S∧F.V=F'.V) {v:Value} (h:cOk F v=true):cOk F' v=true:=by
 unfold cOk at h ⊢;split at h
 ·rw [hS.2] at h;exact h
 ·exact h
theorem sZ (hS:F.S=F'.S∧F.V=F'.V) (hA:∀b,F.A b=true->F'.A b=true) {x:Operand} (h:fB P F x=true):fB P F' x=true:=by
 cases x with
 |tmp _=>rfl
 |const v=>exact TZ hS h
 |global g=>exact absurd h (by simp [fB])
 |func g=>show F'.V g=true;rw [<-hS.2];exact h
theorem LD (hS:F.S=F'.S∧F.V=F'.V) {x:Operand} (h:F9 F x=true):F9 F' x=true:=by
 unfold F9 at h ⊢;split at h
 ·rw [hS.1] at h;exact h
 ·rw [hS.1] at h;exact h
 ·cases h
theorem zb {α:Type} {p q:α->Bool} (h:∀x,p x=true->q x=true) {a:Array α} (ha:a.all p=true):a.all q=true:=by
 rw [aV] at ha ⊢;exact λx hx=>h x (ha x hx)
theorem QD {α:Type} {p q:α->Bool} (h:∀x,p x=true->q x=true) {a:Option α} (ha:a.all p=true):a.all q=true:=by
 cases a with
 |none=>rfl
 |some x=>exact h x ha
theorem LF (hS:F.S=F'.S∧F.V=F'.V) (hA:∀b,F.A b=true->F'.A b=true) {c:Call} (h:xP P F c=true):xP P F' c=true:=by
 unfold xP at h ⊢;rw [bC] at h ⊢;refine ⟨zb (λx=>sZ hS hA) h.1,?_⟩;have h2:=h.2;cases hc:c.callee with
 |value x=>
  rw [hc] at h2
  exact Bool.or_eq_true_iff.2 ((Bool.or_eq_true_iff.1 h2).imp (sZ hS hA) λh=>by
   rw [bC] at h ⊢;exact ⟨h.1,LD hS h.2⟩)
 |builtin b=>rw [hc] at h2;exact h2
 |invoke _ _=>rw [hc] at h2;cases h2
theorem QE (hS:F.S=F'.S∧F.V=F'.V) (hA:∀b,F.A b=true->F'.A b=true) {o:Op} (h:lq P F o=true):lq P F' o=true:=by
 have m:∀{x:Operand},fB P F x=true->fB P F' x=true:= λh=>sZ hS hA h
 have am:∀{x:Array Operand},x.all (fB P F)=true->x.all (fB P F')=true:= λh=>zb (λx=>sZ hS hA) h
 have om:∀{x:Option Operand},x.all (fB P F)=true->x.all (fB P F')=true:= λh=>QD (λx=>sZ hS hA) h
 cases o with
 |call c=>exact LF hS hA h
 |makeFunc fn a b=>
  simp only [lq,bC] at h ⊢;exact ⟨⟨⟨LB hS hA h.1.1.1,h.1.1.2⟩,am h.1.2⟩,am h.2⟩
 |build t ps=>exact zb (λx hx=>m hx) h
 |buildSlice t n ps=>exact zb (λx hx=>m hx) h
 |makeMap t r=>exact om h
 |alloc _=>rfl
 |panic _=>rfl
 |slice t x l hh mm=>
  simp only [lq,bC] at h ⊢;exact ⟨⟨⟨m h.1.1.1,om h.1.1.2⟩,om h.1.2⟩,om h.2⟩
 |move x=>exact m h
 |assign x=>exact m h
 |nilCheck x=>exact m h
 |unOp _ _ x=>exact m h
 |box _ x=>exact m h
 |load _ x=>exact m h
 |field _ x _=>exact m h
 |extract x _=>exact m h
 |makeInterface _ x=>exact m h
 |range _ x=>exact m h
 |next x _=>exact m h
 |pick c a b=>simp only [lq,bC] at h ⊢;exact ⟨⟨m h.1.1,m h.1.2⟩,m h.2⟩
 |store _ a x=>simp only [lq,bC] at h ⊢;exact ⟨m h.1,m h.2⟩
 |makeSlice _ a x=>simp only [lq,bC] at h ⊢;exact ⟨m h.1,m h.2⟩
 |indexAddr _ a x=>simp only [lq,bC] at h ⊢;exact ⟨m h.1,m h.2⟩
 |index _ a x=>simp only [lq,bC] at h ⊢;exact ⟨m h.1,m h.2⟩
 |binOp op t x y _=>simp only [lq,bC] at h ⊢;exact ⟨⟨m h.1.1,m h.1.2⟩,h.2⟩
 |convert s d x=>simp only [lq,bC] at h ⊢;exact ⟨m h.1,h.2⟩
 |fieldAddr t x i=>simp only [lq,bC] at h ⊢;exact ⟨m h.1,h.2⟩
 |lookup t x k _=>simp only [lq,bC] at h ⊢;exact ⟨⟨m h.1.1,m h.1.2⟩,h.2⟩
 |mapUpdate t x k v=>simp only [lq,bC] at h ⊢;exact ⟨⟨⟨m h.1.1.1,m h.1.1.2⟩,m h.1.2⟩,h.2⟩
 |insert t x k v=>simp only [lq,bC] at h ⊢;exact ⟨⟨⟨m h.1.1.1,m h.1.1.2⟩,m h.1.2⟩,h.2⟩
 |mapEntry t x k=>simp only [lq,bC] at h ⊢;exact ⟨⟨m h.1.1,m h.1.2⟩,h.2⟩
 |entryStore _ x k v=>simp only [lq,bC] at h ⊢;exact ⟨⟨m h.1.1,m h.1.2⟩,m h.2⟩
 |_=>cases h
theorem QG (hS:F.S=F'.S∧F.V=F'.V) (hc:F.code=F'.code) (hA:∀b,F.A b=true->F'.A b=true) {i:Item} (h:Dn P F i):Dn P F' i:=by
 cases i with
 |code c=>show F'.code c=true;rw [<-hc];exact h
 |inBlock _=>trivial
 |inLoop c=>show F'.code c=true;rw [<-hc];exact h
 |inScope c=>show F'.code c=true;rw [<-hc];exact h
 |inRegion ops l=>exact zb (λo ho=>QE hS hA ho) h
 |inRangeFunc l=>exact hA l h
 |endRangeFunc l=>exact hA l h
 |beginRound=>trivial
 |call _ _ _ _=>exact az h
 |extern _ _=>exact az h
theorem mU.mono (hS:F.S=F'.S∧F.V=F'.V) (hc:F.code=F'.code) (hA:∀b,F.A b=true->F'.A b=true) {fr:Frame} (h:mU P F fr):mU P F' fr:=
 ⟨hS.1 ▸ h.fn,VS.mono hS hA h.tmps, λi hi=>QG hS hc hA (h.todo i hi), λd hd=>let ⟨r,h1,h2⟩:=h.defers d hd;⟨r,h1,hA r h2⟩,h.kind, λl hl=>hA l (h.round l hl)⟩
theorem yC.mono (hS:F.S=F'.S∧F.V=F'.V) (hc:F.code=F'.code) (hA:∀b,F.A b=true->F'.A b=true):∀{fr:Frame} {up:List Frame},yC P F fr up->yC P F' fr up
 |_,[],h=>⟨h.1.mono hS hc hA,h.2⟩
 |_,_::_,h=>⟨h.1.mono hS hc hA,h.2.1,yC.mono hS hc hA h.2.2⟩
theorem QH (h:∀b,(F.A b=true∨Sh.hol b=true)->f b=g b) {i:Item} (hi:Dn P F i):vE f i=vE g i:=by
 cases i with
 |inRangeFunc l=>exact congrArg Item.inRangeFunc (h l (.inl hi))
 |endRangeFunc l=>exact congrArg Item.endRangeFunc (h l (.inl hi))
 |_=>rfl
theorem Dv (h:∀b,(F.A b=true∨Sh.hol b=true)->f b=g b) {fr:Frame} (hf:mU P F fr):jv f fr=jv g fr:=by
 have e1:=xR h hf.tmps;have e2:fr.todo.map (vE f)=fr.todo.map (vE g):=List.map_congr_left λi hi=>QH h (hf.todo i hi)
 have e3:fr.defers.map (rd f)=fr.defers.map (rd g):=List.map_congr_left λd hd=>by
  obtain ⟨r,rfl,hr⟩:=hf.defers d hd;simp [Lr,rd,h r (.inl hr)]
 have e4:fr.roundOf.map f=fr.roundOf.map g:=by
  cases hr:fr.roundOf with
  |none=>rfl
  |some l=>simp only [ay];rw [h l (.inl (hf.round l hr))]
 unfold jv;rw [e1,e2,e3,e4]
theorem yC.all:∀{fr:Frame} {up:List Frame},yC P F fr up->∀x∈up,mU P F x
 |_,[],_=>by intro x hx;cases hx
 |_,_::_,h=>by
  intro x hx;rcases bE.1 hx with rfl|hx
  ·exact h.2.2.top
  ·exact yC.all h.2.2 x hx
theorem T9 (h:∀b,(F.A b=true∨Sh.hol b=true)->f b=g b) {fr:Frame} {up:List Frame} (hs:yC P F fr up):up.map (jv f)=up.map (jv g):=
 List.map_congr_left λx hx=>Dv h (hs.all x hx)
end
end
section
def stk:Frame:={ fn:=0,tmps:= #[],todo:=[.code (.refuse "")],defers:=[{ target:=.nil,args:= #[] }],mode:=.run,kind:=.normal }
def Fin (fr:Frame) (up:List Frame):Prop:=up= []∧fr.mode= .returning∧fr.defers= []
section
variable {P:Program}
theorem uM {fr fr':Frame} {cs cs':List Frame} {w w':World} (h:lone fr cs w=lone fr' cs' w'):fr=fr'∧cs=cs'∧w=w':=by
 unfold lone at h;injection h with h1 h2 h3;injection h2 with h4;injection h4 with h5 _;injection h5 with h6 h7;exact ⟨h6,h7,h1⟩
theorem zF {fr vk:Frame} {cs cs1:List Frame} {w w1:World} {es:Array Event} (h:stepG P true (G fr cs) w= .go (G vk cs1) w1 es):step P (lone fr cs w)= .next (lone vk cs1 w1):=
 step_lone_go (by unfold G at h;rw [h];rfl)
theorem uN {fr:Frame} {cs:List Frame} {w w1:World} {o:Outcome} {es:Array Event} (h:stepG P true (G fr cs) w= .ended o w1 es):step P (lone fr cs w)= .ended o w1:=
 step_lone_ended (by unfold G at h;rw [h];rfl)
theorem wS:∀(n:Nat) (m:Machine),runN P (n+1) m=(match runN P n m with | .next m'=>step P m'|e=>e)
 |0,m=>by
  simp only [runN];cases step P m<;>rfl
 |n+1,m=>by
  have e:runN P (n+1+1) m=(match step P m with | .next m'=>runN P (n+1) m'|e=>e):=rfl;have e':runN P (n+1) m=(match step P m with | .next m'=>runN P n m'|e=>e):=rfl;rw [e,e'];cases step P m with
  |next m'=>exact wS n m'
  |ended o w=>rfl
theorem oD (a b:Nat) (m:Machine):runN P (a+b) m=(match runN P a m with | .next m'=>runN P b m'|e=>e):=by
 induction b with
 |zero=>
  cases h:runN P a m with
  |next m'=>rfl
  |ended o w=>rfl
 |succ b ih=>
  rw [<-Nat.add_assoc,wS,ih];cases h:runN P a m with
  |next m'=>exact (wS b m').symm
  |ended o w=>rfl
theorem runN_ended (n:Nat) {m:Machine} {o:Outcome} {w:World} (h:step P m= .ended o w):runN P (n+1) m= .ended o w:=by
 show (match step P m with | .next m'=>runN P n m'|e=>e)=_;rw [h]
theorem LH (w:World) (cs:List Frame):∃o w1,step P (lone stk cs w)= .ended o w1:=
 ⟨_,_,uN (o:=_) (w1:=w) (es:= #[]) rfl⟩
theorem zG {fr:Frame} (hf:∃fn,P.funcs[fr.fn]?=some fn) (hk:fr.kind= .normal) (hm:fr.mode= .returning) (hd:fr.defers= []) (w:World) (n:Nat) (fr':Frame) (up':List Frame) (w':World):
 runN P (n+1) (lone fr [stk] w)≠ .next (lone fr' (up'++ [stk]) w'):=by
 obtain ⟨fn,hf⟩:=hf
 have h1:(∃o w1,step P (lone fr [stk] w)= .ended o w1)∨∃w1,step P (lone fr [stk] w)= .next (lone stk [] w1):=by
  generalize hr:(results fn fr.tmps).runT P w #[]=r;obtain ⟨r1,r2⟩:=r;cases r1 with
  |ok v w1=>
   refine .inr ⟨w1,zF (es:=seen P fr.fn r2++ #[]) ?_⟩;unfold stepG G;simp only [hm];unfold unwind;simp only [hd,hm,hf];rw [hr];unfold doReturn;simp only [hk];rfl
  |halt h w1=>
   have key:∃o,stepG P true (G fr [stk]) w= .ended o w1 (seen P fr.fn r2++ #[]):=by
    unfold stepG G;simp only [hm];unfold unwind;simp only [hd,hm,hf];rw [hr];cases h<;>exact ⟨_,rfl⟩
   obtain ⟨o,key⟩:=key;exact .inl ⟨o,w1,uN key⟩
 rcases h1 with ⟨o,w1,h1⟩|⟨w1,h1⟩
 ·rw [runN_ended n h1];simp
 ·show (match step P (lone fr [stk] w) with | .next m'=>runN P n m'|e=>e)≠_;rw [h1];dsimp only;cases n with
  |zero=>
   simp only [runN];intro h;have :=(uM (Stepped.next.inj h)).2.1;have :=congrArg List.length this;simp at this
  |succ n=>
   obtain ⟨o,w2,h2⟩:=LH (P:=P) w1 [];rw [runN_ended n h2];simp
def al2 (g:Goroutine):Prop:=∃ch,g=G { stk with mode:=.panicking ch } []
theorem QI (w:World) (ch:List PanicEntry):∃o w1,step P (lone { stk with mode:=.panicking ch } [] w)= .ended o w1:=by
 have h:∃o,stepG P true (G { stk with mode:=.panicking ch } []) w= .ended o w #[]:=by
  unfold stepG G;dsimp only [stk];unfold unwind;dsimp only;unfold callDeferred;exact ⟨_,rfl⟩
 obtain ⟨o,h⟩:=h;exact ⟨o,w,uN h⟩
variable {F:Fit}
theorem Ua (r:Nat) (w:World) (hd:ES F w) (hr:F.A r=true):
 (∃h w1 es,(Instr.takeDeferred r).runT P w #[]=(.halt h w1,es))∨∃w1 es,(Instr.takeDeferred r).runT P w #[]=(.ok [] w1,es)∧ES F w1:=by
 have e:∀(k:Obj->Sem (List Deferred)),Instr.takeDeferred r=(getObj r >>=k)->Sem.runT P (Instr.takeDeferred r) w #[]=Sem.runT P (.getObj r k) w #[]:=by
  intro k hk;rw [hk];rfl
 unfold Instr.takeDeferred;show (∃h w1 es,Sem.runT P (.getObj r _) w #[]=(.halt h w1,es))∨∃w1 es,Sem.runT P (.getObj r _) w #[]=(.ok [] w1,es)∧ES F w1;simp only [Sem.runT];cases hb:w.heap[r]? with
 |none=>exact .inl ⟨_,_,_,rfl⟩
 |some o=>
  cases o with
  |deferred ds=>
   rcases hd r ds hr hb with rfl|rfl
   ·refine .inr ⟨{ w with heap:=w.heap.setIfInBounds r (.deferred none) },(#[].push ⟨.obj r,false,false⟩).push ⟨.obj r,true,false⟩,?_,?_⟩
    ·show Sem.runT P (.setObj r (.deferred none) (.pure [])) w _=_;rw [uA (x:=.deferred (some [])) (.deferred none) (.pure []) _ hb rfl];rfl
    ·intro b ds hA hb'
     by_cases hbr:r=b
     ·subst hbr;have :=(aI.1 hb).1;simp only [] at hb';rw [aD this] at hb';cases hb';exact .inr rfl
     ·simp only [] at hb';rw [au hbr] at hb';exact hd b ds hA hb'
   ·exact .inl ⟨_,_,_,rfl⟩
  |_=>exact .inl ⟨_,_,_,rfl⟩
theorem Xb {g:Goroutine} {w:World} (h:PS F [stk] g w):
 (∃o w1,step P (lone g.frame g.callers w)= .ended o w1)∨∃g1 w1,step P (lone g.frame g.callers w)= .next (lone g1.frame g1.callers w1)∧(PS F [stk] g1 w1∨al2 g1):=by
 obtain ⟨fr,up,ch,rfl,hm,hc,hd⟩:=h;show (∃o w1,step P (lone fr (up++ [stk]) w)= .ended o w1)∨∃(g1:Goroutine) (w1:World),step P (lone fr (up++ [stk]) w)= .next (lone g1.frame g1.callers w1)∧(PS F [stk] g1 w1∨al2 g1)
 have hsg:stepG P true (G fr (up++ [stk])) w=unwind P true fr (up++ [stk]) none w:=by
  unfold stepG G;simp only [hm]
 cases hds:fr.defers with
 |cons d ds=>
  obtain ⟨r,rfl,hr⟩:=hc fr (aQ ..) d (by rw [hds];exact aQ ..)
  have hu:stepG P true (G fr (up++ [stk])) w=GStep.after (seen P fr.fn ((Instr.takeDeferred r).runT P w #[]).2) (match ((Instr.takeDeferred r).runT P w #[]).1 with
   | .ok calls w=>.go (G { fr with defers:=calls++ds } (up++ [stk])) w
   | .halt _ w=>.ended (.stuck "the deferred calls of a range-over-func loop have been taken" (fr.pos P)) w):=by
   rw [hsg];unfold unwind;simp only [hds,Lr];rfl
  rcases Ua (P:=P) r w hd hr with ⟨x,w1,es,h⟩|⟨w1,es,h,hd1⟩
  ·rw [h] at hu;exact .inl ⟨_,_,uN hu⟩
  ·rw [h] at hu;refine .inr ⟨G { fr with defers:=ds } (up++ [stk]),w1,zF hu,.inl ⟨_,up,ch,rfl,hm, λx hx=>?_,hd1⟩⟩;rcases bE.1 hx with rfl|hx
   ·intro d Tw;exact hc fr (aQ ..) d (by rw [hds];exact aR _ Tw)
   ·exact hc x (aR _ hx)
 |nil=>
  by_cases Z4:fr.catches P=true
  ·left
   have h:∃o,stepG P true (G fr (up++ [stk])) w= .ended o w #[]:=by
    rw [hsg];unfold unwind;simp only [hds,hm,Z4,if_true];exact ⟨_,rfl⟩
   obtain ⟨o,h⟩:=h;exact ⟨o,w,uN h⟩
  ·right;cases up with
   |nil=>
    refine ⟨G (stk.raise ch) [],w,zF (es:= #[]) ?_,.inr ⟨ch,rfl⟩⟩;rw [hsg];unfold unwind;simp only [hds,hm,Z4,List.nil_append,if_false];rfl
   |cons x up=>
    refine ⟨G (x.raise ch) (up++ [stk]),w,zF (es:= #[]) ?_,.inl ?_⟩
    ·rw [hsg];unfold unwind;simp only [hds,hm,Z4,List.cons_append,if_false];rfl
    ·have hm2:∃c2,(x.raise ch).mode= .panicking c2:=by
      unfold Frame.raise;cases x.mode<;>exact ⟨_,rfl⟩
     obtain ⟨c2,hm2⟩:=hm2;refine ⟨x.raise ch,up,c2,rfl,hm2, λy hy=>?_,hd⟩;rcases bE.1 hy with rfl|hy
     ·intro d Tw;refine hc x (aR _ (aQ ..)) d ?_
      unfold Frame.raise at Tw;cases hxm:x.mode<;>(rw [hxm] at Tw;exact Tw)
     ·exact hc y (aR _ (aR _ hy))
theorem IX:∀(n:Nat) {g:Goroutine} {w:World},PS F [stk] g w->∀fr' w',(∀ch,fr'.mode≠ .panicking ch)->runN P n (lone g.frame g.callers w)≠ .next (lone fr' [stk] w')
 |0,g,w,h,fr',w',hm=>by
  obtain ⟨fr,up,ch,rfl,hm',_⟩:=h;simp only [runN];intro e;obtain ⟨h1,_⟩:=uM (Stepped.next.inj e);have h1:fr=fr':=h1;exact hm ch (h1 ▸ hm')
 |n+1,g,w,h,fr',w',hm=>by
  rcases Xb (P:=P) h with ⟨o,w1,h1⟩|⟨g1,w1,h1,h2⟩
  ·rw [runN_ended n h1];simp
  ·show (match step P (lone g.frame g.callers w) with | .next m'=>runN P n m'|e=>e)≠_;rw [h1];dsimp only;rcases h2 with h2|⟨ch,rfl⟩
   ·exact IX n h2 fr' w' hm
   ·cases n with
    |zero=>
     simp only [runN];intro e;have :=(uM (Stepped.next.inj e)).2.1;cases this
    |succ n=>
     obtain ⟨o,w2,h3⟩:=QI (P:=P) w1 ch;have h3':step P (lone (G { stk with mode:=.panicking ch } []).frame (G { stk with mode:=.panicking ch } []).callers w1)= .ended o w2:=h3;rw [runN_ended n h3'];simp
end
end
section
variable [Sh]
def FA (S V:FuncId->Bool) (cd:Code->Bool) (A:Nat->Bool):Fit:=⟨S,A,cd,V⟩
def Bd (A:Nat->Bool) (n:Nat):Nat->Bool:= λb=>A b&&decide (b<n)
theorem gN {A:Nat->Bool} {n b:Nat}:Bd A n b=true↔A b=true∧b<n:=by simp [Bd]
theorem YU {A:Nat->Bool} {n m:Nat} (h:n<=m):∀b,Bd A n b=true->Bd A m b=true:= λb hb=>by
 rw [gN] at hb ⊢;exact ⟨hb.1,by omega⟩
def YV:Obj->Obj
 | .cells c e _=>.cells c e (0,c.size)
 |o=>o
open Classical in
noncomputable def lw (ro:Nat->Prop) (W:World) (τ:Nat->Question->Nat):World:=
 { W with heap:=W.heap.mapIdx λb o=>if ro b then YV o else o,tape:=τ }
structure Since (Z:gB) (W W':World):Prop where
 tape:W'.tape=W.tape
 out:W'.output=W.output
 os:OsLater W.os W'.os
 size:W.heap.size<=W'.heap.size
 ro:∀b,Z.ro b->W'.heap[b]?=W.heap[b]?
 sy:∀b,Z.sy b->yE W.heap[b]? W'.heap[b]?
 cl:∀b i,Z.cl b i->W'.cell? ⟨b,i,none⟩=W.cell? ⟨b,i,none⟩
theorem Since.refl (Z:gB) (W:World):Since Z W W:=⟨rfl,rfl,OsLater.refl _,aJ _, λ_ _=>rfl, λ_ _=>yE.refl _, λ_ _ _=>rfl⟩
theorem Since.trans {Z:gB} {a b c:World} (h:Since Z a b) (k:Since Z b c):Since Z a c:=
 ⟨k.tape.trans h.tape,k.out.trans h.out,h.os.trans k.os,aT h.size k.size, λx hx=>(k.ro x hx).trans (h.ro x hx), λx hx=>(h.sy x hx).trans (k.sy x hx), λx i hx=>(k.cl x i hx).trans (h.cl x i hx)⟩
theorem dZ.since {Z:gB} {own:Nat->Prop} {a b:World} (h:dZ Z own a b):Since Z a b:=⟨h.tape,h.out,h.os,h.size,h.ro,h.sy,h.cl⟩
structure St (δ:Type) where
 fr:Frame
 up:List Frame
 w:World
 f:Nat->Nat
 own:Nat->Prop
 W:World
 d:δ
structure QJ where
 w0:World
 W0:World
 f0:Nat->Nat
 L:Nat->Prop
 eG:Nat->Prop
 A:Nat->Bool
structure Ex (P:Program) (S V:FuncId->Bool) (cd:Code->Bool) (Z:gB) (D:QJ) (gz:Frame) (t:Nat) {δ:Type} (s:St δ):Prop where
 stk:yC P (FA S V cd (Bd D.A s.w.heap.size)) s.fr s.up
 mode:s.fr.mode= .run∨s.fr.mode= .returning
 wr:WR (FA S V cd (Bd D.A s.w.heap.size)) s.f s.w s.W
 n0:D.w0.heap.size<=s.w.heap.size
 fid:∀b,b<D.w0.heap.size->s.f b=D.f0 b
 Ht:∀b,b<s.w.heap.size->Sh.hol b=false->s.f b<s.W.heap.size
 YX:∀b,D.w0.heap.size<=b->b<s.w.heap.size->D.W0.heap.size<=s.f b
 IY:∀b c,D.w0.heap.size<=b->b<c->c<s.w.heap.size->s.f b<s.f c
 img:∀b,b<s.w.heap.size->D.A b=true->s.own (s.f b)∨Z.ro (s.f b)
 lk:∀(b:Nat) (o:Obj),D.A b=true->s.w.heap[b]?=some o->¬kT o->s.own (s.f b)∧¬D.L (s.f b)
 owns:∀b,D.eG b->s.own b
 RY:∀b,s.own b->D.eG b∨D.W0.heap.size<=b
 YY:∀b,s.own b->b<s.W.heap.size
 since:Since Z D.W0 s.W
 kept:∀b,D.L b->s.W.heap[b]?=D.W0.heap[b]?
 run:∀τ,(∀j q,j<s.w.drawn->τ j q=s.w.tape j q)->runN P t (lone gz [Par.stk] (D.w0.tp τ))= .next (lone s.fr (s.up++ [Par.stk]) (s.w.tp τ))
structure Inv (P Q:Program) (S V:FuncId->Bool) (cd:Code->Bool) (main:Bool) (Z:gB) {δ:Type} (Stop:δ->(Nat->Prop)->Goroutine->World->Prop) (D:QJ) (K:List Frame) (gz:Frame) (t:Nat) (s:St δ):Prop extends Ex P S V cd Z D gz t s where
 ngw:¬Gw Q main Z (Stop s.d) s.own (G (jv s.f s.fr) (s.up.map (jv s.f)++K)) s.W
structure AtQ (P Q:Program) (S V:FuncId->Bool) (cd:Code->Bool) (main:Bool) (Z:gB) {δ:Type} (Stop:δ->(Nat->Prop)->Goroutine->World->Prop) (D:QJ) (K:List Frame) (gz:Frame) (t:Nat) (s:St δ):Prop extends Ex P S V cd Z D gz t s where
 ent:∃g as,S g=true∧(V g=true∨as= #[])∧s.up≠ []∧s.fr=Frame.enter P g as .normal∧Q.funcs[g]?≠P.funcs[g]?∧
  ¬Gw Q main Z (Stop s.d) s.own (G (Frame.enter Q g (as.map (rv s.f)) .normal) (s.up.map (jv s.f)++K)) s.W
section
variable {P Q:Program} {S V:FuncId->Bool} {cd:Code->Bool} {main:Bool} {Z:gB} {δ:Type} {Stop:δ->(Nat->Prop)->Goroutine->World->Prop} {D:QJ} {K:List Frame} {gz:Frame} {R:Value->World->Prop}
structure Ground (P:Program) (S V:FuncId->Bool) (cd:Code->Bool) (Z:gB) (D:QJ):Prop where
 good:∀A:Nat->Bool,nM P (FA S V cd A)
 gK:jD P=true
 kU:P.globals.size<D.w0.heap.size
 f0g:∀b,b<=P.globals.size->D.f0 b=b
 Z5:∀b,b<D.w0.heap.size->Sh.hol b=false->D.f0 b<D.W0.heap.size
 al3:∀a b,a<D.w0.heap.size->b<D.w0.heap.size->Sh.lk a=false->Sh.hol b=false->D.f0 a=D.f0 b->a=b
 glk:∀b,b<=P.globals.size->Sh.lk b=false
 bad:∀b,Sh.lk b=true->P.info? Sh.bad=none
 cc:∀b,Sh.lk b=true->∀t i,P.info? t=some i->∀u,i.desc≠ .named "sync.copyChecker" u
 lkn:∀b,Sh.lk b=true->b<D.w0.heap.size
 a0:∀b,b<D.w0.heap.size->D.A b=true->D.eG (D.f0 b)∨Z.ro (D.f0 b)
 af:∀b,D.w0.heap.size<=b->D.A b=true
 own:∀b,D.eG b->b<D.W0.heap.size∧¬Z.sy b∧¬Z.ro b
 ro:∀b,Z.ro b->b<D.W0.heap.size
 sy:∀b,Z.sy b->b<D.W0.heap.size
 cl:∀b i,Z.cl b i->Z.sy b
 lL:∀b,D.L b->b<D.W0.heap.size∧(Z.ro b∨D.eG b)
 nm:¬Z.mute
 Xc:∀b,D.A b=true->Sh.hol b=false
theorem Ground.hlt (G0:Ground P S V cd Z D) {b:Nat} (h:Sh.hol b=true):b<D.w0.heap.size:=G0.lkn b (Sh.ai2 b h)
theorem Ground.hge (G0:Ground P S V cd Z D) {b:Nat} (h:D.w0.heap.size<=b):Sh.hol b=false:=by
 cases hx:Sh.hol b with
 |false=>rfl
 |true=>have :=G0.hlt hx;omega
theorem Ground.below (G0:Ground P S V cd Z D) {n b:Nat} (hn:D.w0.heap.size<=n) (h:Bd D.A n b=true∨Sh.hol b=true):b<n:=h.elim (λh=>(gN.1 h).2) λh=>aK (G0.hlt h) hn
def Wj (P:Program) (w0:World) (gz:Frame) (R:Value->World->Prop):Prop:=
 ∀τ,∃n v w' fr',R v w'∧runN P n (lone gz [Par.stk] (w0.tp τ))= .next (lone fr' [Par.stk] w')∧fr'.leaving P w' (.returned v)
theorem ahead {t n:Nat} {fr fr':Frame} {up:List Frame} {m0:Machine} {w w':World} {v:Value} (h1:runN P t m0= .next (lone fr (up++ [Par.stk]) w)) (hn:¬Fin fr up) (h2:runN P n m0= .next (lone fr' [Par.stk] w')) (hl:fr'.leaving P w' (.returned v)):∃k,n=t+1+k:=by
 obtain ⟨hm,hd,hk,fn,hf,_⟩:=hl;rcases bu t n with hlt|hge
 ·exact ⟨n - t - 1,by omega⟩
 ·exfalso;obtain ⟨d,rfl⟩:=Nat.exists_eq_add_of_le hge;rw [oD,h2] at h1;dsimp only at h1;cases d with
  |zero=>
   simp only [runN] at h1;obtain ⟨e1,e2,_⟩:=uM (Stepped.next.inj h1);refine hn ⟨?_,by rw [<-e1];exact hm,by rw [<-e1];exact hd⟩;have :=congrArg List.length e2;simp at this;exact this
  |succ d=>exact zG ⟨fn,hf⟩ hk hm hd w' d fr up w h1
theorem wT {own:Nat->Prop} {a b:World} {x:Nat} (h:own x):grow own a b x:=.inl h
theorem al4 {F:Fit} {f:Nat->Nat} {w W:World} {τ:Nat->Question->Nat} (h:WR F f w W):WR F f (w.tp τ) W:=⟨h.lt,h.blk⟩
theorem Ex.agree (G0:Ground P S V cd Z D) {t:Nat} {s:St δ} (h:Ex P S V cd Z D gz t s) {W1:World} (hr:dZ Z s.own s.W W1) (N:Nat) (hN:s.w.heap.size<=N)
 {f1:Nat->Nat} (hf1:f1= λb=>if b<s.w.heap.size then s.f b else W1.heap.size+(b - s.w.heap.size)) {τ:Nat->Question->Nat} (LJ:τ= λj q=>if j<s.w.drawn then s.w.tape j q else W1.tape (W1.drawn+(j - s.w.drawn)) q):
 Rn P f1∧Ag (FA S V cd (Bd D.A N)) f1 (s.w.tp τ) W1∧Ag (FA S V cd D.A) f1 (s.w.tp τ) W1∧(∀b,b<s.w.heap.size->f1 b=s.f b):=by
 have e1:∀b,b<s.w.heap.size->f1 b=s.f b:= λb hb=>by rw [hf1];exact aj hb
 have e2:∀b,s.w.heap.size<=b->f1 b=W1.heap.size+(b - s.w.heap.size):= λb hb=>by rw [hf1];exact aa (by omega)
 have hsz:=hr.size
 have blk:∀(F':Fit),F'.S=S->F'.V=V->F'.code=cd->(∀b,Bd D.A s.w.heap.size b=true->F'.A b=true)->(∀b,b<s.w.heap.size->F'.A b=true->D.A b=true)->WR F' f1 (s.w.tp τ) W1:=by
  intro F' hS hV hc hA hA';refine ⟨λb hb KA=>?_, λb o hb ho=>?_⟩
  ·have hb':b<s.w.heap.size:=hb;rw [e1 b hb'];have :=h.Ht b hb' (G0.Xc b (hA' b hb' KA));omega
  ·have ho':s.w.heap[b]?=some o:=ho
   have hlt:=(aI.1 ho').1;have hAb:=hA' b hlt hb;have key:=h.wr.blk b o (gN.2 ⟨hAb,hlt⟩) ho'
   have e:W1.heap[f1 b]?=s.W.heap[s.f b]?:=by
    rw [e1 b hlt];rcases h.img b hlt hAb with x|x
    ·exact hr.own _ x
    ·exact hr.ro _ x
   rw [e];exact key.conv ⟨hS.symm,hV.symm⟩ hc.symm hA λb hb=>(e1 b (G0.below h.n0 hb)).symm
 have tape:∀j q,(s.w.tp τ).tape ((s.w.tp τ).drawn+j) q=W1.tape (W1.drawn+j) q:=by
  intro j q;show τ (s.w.drawn+j) q=_;simp only [LJ];rw [aa (by omega),show s.w.drawn+j - s.w.drawn=j from by omega]
 have next :∀j,f1 ((s.w.tp τ).heap.size+j)=W1.heap.size+j:=by
  intro j;show f1 (s.w.heap.size+j)=_;rw [e2 _ (by omega)];omega
 have Kt:∀b,s.w.heap.size<=b->Sh.lk b=false:= λb hb=>by
  cases hx:Sh.lk b with
  |false=>rfl
  |true=>have :=G0.lkn b hx;have :=h.n0;omega
 refine ⟨⟨λa b hla hhb hab=>?_, λb hb=>?_,G0.gK,G0.glk,G0.bad,G0.cc⟩,⟨blk _ rfl rfl rfl (YU hN) (λb _ hb=>(gN.1 hb).1),tape,next,Kt, λb hb=>G0.Xc b (gN.1 hb).1⟩,⟨blk _ rfl rfl rfl (λb hb=>(gN.1 hb).1) (λb _ hb=>hb),tape,next,Kt,G0.Xc⟩,e1⟩
 ·have hn0:=h.n0;have hW:=h.since.size
  have hsmall:∀b,b<D.w0.heap.size->Sh.hol b=false->f1 b=D.f0 b∧f1 b<D.W0.heap.size:= λb hb hh=>by
   rw [e1 b (by omega),h.fid b hb];exact ⟨rfl,G0.Z5 b hb hh⟩
  have hbig:∀b,D.w0.heap.size<=b->D.W0.heap.size<=f1 b:= λb hb=>by
   rcases bu b s.w.heap.size with h1|h1
   ·rw [e1 b h1];exact h.YX b hb h1
   ·rw [e2 b h1];omega
  have hmono:∀b c,D.w0.heap.size<=b->b<c->f1 b<f1 c:= λb c hb hbc=>by
   rcases bu c s.w.heap.size with h1|h1
   ·rw [e1 c h1,e1 b (by omega)];exact h.IY b c hb hbc h1
   ·rw [e2 c h1];rcases bu b s.w.heap.size with h2|h2
    ·rw [e1 b h2];have :=h.Ht b h2 (G0.hge hb);omega
    ·rw [e2 b h2];omega
  rcases bu a D.w0.heap.size with ha|ha
  ·have k1:=hsmall a ha (OA hla);rcases bu b D.w0.heap.size with hb|hb
   ·exact G0.al3 a b ha hb hla hhb (by rw [<-k1.1, <-(hsmall b hb hhb).1,hab])
   ·have :=hbig b hb;omega
  ·rcases bu b D.w0.heap.size with hb|hb
   ·have :=(hsmall b hb hhb).2;have :=hbig a ha;omega
   ·rcases Nat.lt_trichotomy a b with hlt|heq|hgt
    ·have :=hmono a b ha hlt;omega
    ·exact heq
    ·have :=hmono b a hb hgt;omega
 ·have :=G0.kU;have hb':b<D.w0.heap.size:=by omega
  rw [e1 b (aK hb' h.n0),h.fid b hb'];exact G0.f0g b hb
theorem Inv.YZ (hQ:Alike P Q) (G0:Ground P S V cd Z D) {t:Nat} {s:St δ} (h:Inv P Q S V cd main Z Stop D K gz t s)
 (at7:∀τ:Nat->Question->Nat,(∀j q,j<s.w.drawn->τ j q=s.w.tape j q)->∃k fr' w',(∀ch,fr'.mode≠ .panicking ch)∧runN P (t+1+k) (lone gz [Par.stk] (D.w0.tp τ))= .next (lone fr' [Par.stk] w')) (hn:¬Fin s.fr s.up):
 ∃s',(Inv P Q S V cd main Z Stop D K gz (t+1) s'∨AtQ P Q S V cd main Z Stop D K gz (t+1) s')∧s.w.drawn<=s'.w.drawn∧∀j q,j<s.w.drawn->s'.w.tape j q=s.w.tape j q:=by
 obtain ⟨W1,hr,hno⟩:=Gw.not rfl h.ngw;obtain ⟨f1,hf1⟩:∃f1:Nat->Nat,f1= λb=>if b<s.w.heap.size then s.f b else W1.heap.size+(b - s.w.heap.size):=⟨_,rfl⟩
 obtain ⟨τ,LJ⟩:∃τ:Nat->Question->Nat,τ= λj q=>if j<s.w.drawn then s.w.tape j q else W1.tape (W1.drawn+(j - s.w.drawn)) q:=⟨_,rfl⟩
 have QK:∀j q,j<s.w.drawn->τ j q=s.w.tape j q:= λj q hj=>by rw [LJ];exact aj hj
 obtain ⟨N,al5⟩:∃N,N=max s.w.heap.size (gw (stepG P true (G s.fr (s.up++ [Par.stk])) (s.w.tp τ))).heap.size:=⟨_,rfl⟩;have hN:s.w.heap.size<=N:=by omega
 obtain ⟨hRn,hag,al6,e1⟩:=h.toEx.agree G0 hr N hN hf1 LJ;have Xd:yC P (FA S V cd (Bd D.A N)) s.fr s.up:=yC.mono (F:=FA S V cd (Bd D.A s.w.heap.size)) (F':=FA S V cd (Bd D.A N)) ⟨rfl,rfl⟩ rfl (YU hN) h.stk;have al7:yC P (FA S V cd D.A) s.fr s.up:=yC.mono (F:=FA S V cd (Bd D.A s.w.heap.size)) (F':=FA S V cd D.A) ⟨rfl,rfl⟩ rfl (λb hb=>(gN.1 hb).1) h.stk;have hmode:s.fr.mode= .run∨s.fr.mode= .returning∧(s.up= []->s.fr.defers≠ []):=h.mode.imp id λhm=>⟨hm, λhu hd=>hn ⟨hu,hm,hd⟩⟩
 have ML:=TU (cs:=[Par.stk]) (K:=K) hQ (G0.good _) hRn hag true main Xd hmode;have hloc:=TW (cs:=[Par.stk]) (f:=f1) (W:=W1) (w:=s.w.tp τ) (F:=FA S V cd D.A) (λb hb=>G0.af b (aT h.n0 hb)) (G0.good _) hRn al6 true al7 hmode;have hrun:=h.run τ QK;have efr:jv f1 s.fr=jv s.f s.fr:=Dv (F:=FA S V cd (Bd D.A s.w.heap.size)) (λb hb=>e1 b (G0.below h.n0 hb)) h.stk.top;have eup:s.up.map (jv f1)=s.up.map (jv s.f):=T9 (F:=FA S V cd (Bd D.A s.w.heap.size)) (λb hb=>e1 b (G0.below h.n0 hb)) h.stk;rw [efr,eup] at ML;obtain ⟨k,fr',w',hlv,hend⟩:=at7 τ QK;have hnext:runN P (t+1) (lone gz [Par.stk] (D.w0.tp τ))=step P (lone s.fr (s.up++ [Par.stk]) (s.w.tp τ)):=by rw [wS,hrun]
 rw [oD,hnext] at hend;rcases ML with ⟨b,b1,b2,b3⟩|ML
 ·exfalso;have b1':s.w.heap.size<=b:=b1;have :Bd D.A N b=true:=gN.2 ⟨G0.af b (aT h.n0 b1'),by omega⟩;rw [show (FA S V cd (Bd D.A N)).A b=Bd D.A N b from rfl,this] at b3;cases b3
 ·generalize hs:stepG P true (G s.fr (s.up++ [Par.stk])) (s.w.tp τ)=sS at ML;cases sS with
  |ended o w1 es=>
   exfalso;rw [uN hs] at hend;cases hend
  |go g w1 es=>
   rcases ML with hps|⟨vk,zZ,X,vF,es',rfl,h1,h2,hX,h3,h4,h5⟩
   ·exfalso;have au0:=hps;obtain ⟨Ub,up2,ch,rfl,_⟩:=au0;rw [zF hs] at hend;exact IX (P:=P) k hps fr' w' hlv hend
   ·have au1:N=w1.heap.size:=by
     rw [al5,hs];obtain ⟨k,hk,_⟩:=h4.size;have hk':w1.heap.size=s.w.heap.size+k:=hk;show max s.w.heap.size w1.heap.size=w1.heap.size;omega
    subst au1;obtain ⟨kk,hk1,hk2⟩:=h4.size;have hk1:w1.heap.size=s.w.heap.size+kk:=hk1;have hWs:=hr.size
    have hnp:¬Panics (G vk (zZ++ [Par.stk])):=by
     rintro ⟨ch,hc⟩;have hc:vk.mode= .panicking ch:=hc;rcases h2 with h2|h2<;>(rw [h2] at hc;cases hc)
    obtain ⟨hd,hlc⟩:=hloc _ _ _ hs hnp;have hd:s.w.drawn<=w1.drawn:=hd;have Uc:w1.tape=τ:=h4.tape;have e2:∀b,s.w.heap.size<=b->f1 b=W1.heap.size+(b - s.w.heap.size):= λb hb=>by rw [hf1];exact aa (by omega)
    have au2:D.W0.heap.size<=s.W.heap.size:=h.since.size
    have hown:∀b,b<w1.heap.size->D.A b=true->grow s.own W1 vF (f1 b)∨Z.ro (f1 b):=by
     intro b hb hA;rcases bu b s.w.heap.size with hlt|hge
     ·rw [e1 b hlt];exact (h.img b hlt hA).imp wT id
     ·refine .inl (.inr ?_);rw [e2 b hge];omega
    have hlk:∀(b:Nat) (o:Obj),D.A b=true->w1.heap[b]?=some o->¬kT o->grow s.own W1 vF (f1 b)∧¬D.L (f1 b):=by
     intro b o hA ho hl;rcases bu b s.w.heap.size with hlt|hge
     ·have hx:(s.w.tp τ).heap[b]?=some s.w.heap[b]:=by show s.w.heap[b]?=_;simp [hlt]
      obtain ⟨o1,ho1,hl1,_⟩:=h4.lock b _ hx;rw [ho1] at ho;cases ho;rw [e1 b hlt];have :=h.lk b _ hA hx λy=>hl (hl1.2 y)
      exact ⟨wT this.1,this.2⟩
     ·have hb:=(aI.1 ho).1;rw [e2 b hge];refine ⟨.inr ?_, λx=>?_⟩
      ·omega
      ·have :=(G0.lL _ x).1;omega
    have Z6:∀b,grow s.own W1 vF b->D.eG b∨D.W0.heap.size<=b:=by
     intro b hb;rcases hb with hb|hb
     ·exact h.RY b hb
     ·exact .inr (by omega)
    have Z7:∀b,grow s.own W1 vF b->b<vF.heap.size:=by
     intro b hb;rcases hb with hb|hb
     ·have :=h.YY b hb;omega
     ·exact hb.2
    have hkeep:∀b,b<W1.heap.size->¬s.own b->vF.heap[b]?=W1.heap[b]?:=by
     intro b hb hno;rcases h4.frame b hb with e|⟨b',o,hA,ho,Z8,hl⟩
     ·exact e
     ·exfalso;have ho':s.w.heap[b']?=some o:=ho
      have hlt:=(aI.1 ho').1;have :=(h.lk b' o (gN.1 hA).1 ho' hl).1;rw [<-Z8,e1 b' hlt] at hno;exact hno this
    have hkept:∀b,D.L b->vF.heap[b]?=D.W0.heap[b]?:=by
     intro b hb;have hbL:=G0.lL b hb
     have k1:vF.heap[b]?=W1.heap[b]?:=by
      rcases h4.frame b (by omega) with e|⟨b',o,hA,ho,Z8,hl⟩
      ·exact e
      ·exfalso;have ho':s.w.heap[b']?=some o:=ho
       have hlt:=(aI.1 ho').1;have :=(h.lk b' o (gN.1 hA).1 ho' hl).2;rw [<-Z8,e1 b' hlt] at hb;exact this hb
     rw [k1, <-h.kept b hb];rcases hbL.2 with x|x
     ·exact hr.ro b x
     ·exact hr.own b (h.owns b x)
    have Wl:∀b,Z.sy b->¬s.own b:=by
     intro b hb ho;rcases h.RY b ho with x|x
     ·exact (G0.own b x).2.1 hb
     ·have :=G0.sy b hb;omega
    have nro:∀b,Z.ro b->¬s.own b:=by
     intro b hb ho;rcases h.RY b ho with x|x
     ·exact (G0.own b x).2.2 hb
     ·have :=G0.ro b hb;omega
    have rQ:vX Z s.own W1 vF:=by
     refine ⟨h4.tape',h4.out',h4.os',by omega, λb hb hno _=>hkeep b hb hno, λb hb=>?_⟩;have hbl:=G0.sy b hb;have e:=hkeep b (by omega) (Wl b hb);refine ⟨by rw [e];exact yE.refl _, λi _=>?_⟩;unfold World.cell?;simp only [e]
    have hev:∀e∈es',QB Z (grow s.own W1 vF) e:=by
     obtain ⟨u,hu1,hu2,hu3⟩:=h5;intro e he;rw [hu2] at he;simp only [Array.empty_append,Array.mem_map] at he;obtain ⟨e0,he0,rfl⟩:=he;have hx:=hu3 e0 he0;obtain ⟨loc,wr,sy⟩:=e0;obtain ⟨hx1,hx2⟩:=hx;refine ⟨G0.nm,?_⟩;cases loc with
     |cell a=>
      obtain ⟨hA,⟨v,hv⟩,hw⟩:=hx2
      have zT:∃o:Obj,w1.heap[a.block]?=some o:=by
       unfold World.cell? at hv;cases hb:w1.heap[a.block]? with
       |none=>rw [hb] at hv;cases hv
       |some o=>exact ⟨o,rfl⟩
      obtain ⟨o,ho⟩:=zT;have hlt:=(aI.1 ho).1;have hA':=(gN.1 hA).1;refine ⟨hx1,?_⟩;cases wr with
      |true=>
       obtain ⟨o',ho',hl'⟩:=hw rfl;exact .inl (hlk _ o' hA' ho' hl').1
      |false=>
       rcases hown _ hlt hA' with x|x
       ·exact .inl x
       ·exact .inr (.inl ⟨x,rfl⟩)
     |obj r=>
      obtain ⟨hA,o,ho,hc⟩:=hx2;have hA':=(gN.1 hA).1;refine ⟨hx1,(hlk _ o hA' ho ?_).1⟩;rintro ⟨c,e,fr,rfl,_⟩;cases hc
     |mark m=>
      have hm:m= .noRoom:=hx2;subst hm;rfl
     |output=>exact hx2.elim
     |goroutines=>exact hx2.elim
    have inv0:Ex P S V cd Z D gz (t+1) (⟨vk,zZ,w1,f1,grow s.own W1 vF,vF,s.d⟩:St δ):=by
     refine ⟨h1,h2,h4.ag.wr,by show _<=w1.heap.size;have :=h.n0;omega, λb hb=>?_, λb hb hh=>?_, λb hb hb2=>?_, λb c hb0 hbc hc=>?_,hown,hlk, λb hb=>wT (h.owns b hb),Z6,Z7,?_,hkept, λτ' Xe=>?_⟩
     ·show f1 b=D.f0 b;rw [e1 b (aK hb h.n0)];exact h.fid b hb
     ·show f1 b<vF.heap.size;have hb:b<w1.heap.size:=hb;rcases bu b s.w.heap.size with hlt|hge
      ·rw [e1 b hlt];have :=h.Ht b hlt hh;omega
      ·rw [e2 b hge];omega
     ·show D.W0.heap.size<=f1 b;rcases bu b s.w.heap.size with hlt|hge
      ·rw [e1 b hlt];exact h.YX b hb hlt
      ·rw [e2 b hge];omega
     ·show f1 b<f1 c;have hc:c<w1.heap.size:=hc;rcases bu c s.w.heap.size with hlt|hge
      ·rw [e1 c hlt,e1 b (by omega)];exact h.IY b c hb0 hbc hlt
      ·rw [e2 c hge];rcases bu b s.w.heap.size with hlt2|Xf
       ·rw [e1 b hlt2];have :=h.Ht b hlt2 (G0.hge hb0);omega
       ·rw [e2 b Xf];omega
     ·refine h.since.trans (hr.since.trans ⟨h4.tape',h4.out',by rw [h4.os'];exact OsLater.refl _,(by show W1.heap.size<=vF.heap.size;omega), λb hb=>hkeep b (by have :=G0.ro b hb;omega) (nro b hb), λb hb=>?_, λb i hb=>?_⟩)
      ·rw [hkeep b (by have :=G0.sy b hb;omega) (Wl b hb)];exact yE.refl _
      ·have hsy:=G0.cl b i hb;have e:=hkeep b (by have :=G0.sy b hsy;omega) (Wl b hsy);unfold World.cell?;simp only [e]
     ·have Xe:∀j q,j<w1.drawn->τ' j q=w1.tape j q:=Xe
      have ag0:∀j q,j<s.w.drawn->τ' j q=s.w.tape j q:= λj q hj=>by
       rw [Xe j q (by omega),Uc,QK j q hj]
      show runN P (t+1) _= .next (lone vk (zZ++ [Par.stk]) (w1.tp τ'))
      rw [wS,h.run τ' ag0];have hl:=hlc τ' (λj q _ h2=>by rw [Xe j q h2,Uc];rfl);exact zF hl
    refine ⟨⟨vk,zZ,w1,f1,grow s.own W1 vF,vF,s.d⟩,?_,hd, λj q hj=>by show w1.tape j q=_;rw [Uc,QK j q hj]⟩;have hgo:=hno _ _ _ h3 rQ hev;rcases hX with hX|⟨g,as,hg,has,hv,hup,hfr,hX⟩<;>subst hX
    ·exact .inl ⟨inv0,hgo⟩
    ·by_cases hsame:Q.funcs[g]?=P.funcs[g]?
     ·refine .inl ⟨inv0,?_⟩
      have e:Frame.enter Q g (as.map (rv f1)) .normal=jv f1 vk:=by
       rw [hfr];rw [<-Dq (F:=FA S V cd D.A) (G0.good _) hg as];unfold Frame.enter;rw [hsame]
      show ¬Gw Q main Z (Stop s.d) _ (G (jv f1 vk) _) _;rw [<-e];exact hgo
     ·exact .inr ⟨inv0,g,as,hg,hv,hup,hfr,hsame,hgo⟩
  |_=>exact ML.elim
theorem Inv.next (hQ:Alike P Q) (G0:Ground P S V cd Z D) (nS:Wj P D.w0 gz R) {t:Nat} {s:St δ} (h:Inv P Q S V cd main Z Stop D K gz t s) (hn:¬Fin s.fr s.up):
 ∃s',(Inv P Q S V cd main Z Stop D K gz (t+1) s'∨AtQ P Q S V cd main Z Stop D K gz (t+1) s')∧s.w.drawn<=s'.w.drawn∧∀j q,j<s.w.drawn->s'.w.tape j q=s.w.tape j q:=
 h.YZ hQ G0 (λτ LJ=>by
  obtain ⟨n,v,w',fr',h1,h2,h3⟩:=nS τ;obtain ⟨k,rfl⟩:=ahead (h.run τ LJ) hn h2 h3;exact ⟨k,fr',w',⟨λch e=>(by rw [h3.1] at e;cases e),h2⟩⟩) hn
end
end
section
variable [Sh]
structure J2 (S V:FuncId->Bool) (cd:Code->Bool) (Z:gB) (D:QJ) (v:Value) (w':World) (f':Nat->Nat) (dL:Nat->Prop) (W':World):Prop where
 wr:WR (FA S V cd (Bd D.A w'.heap.size)) f' w' W'
 val:vs (FA S V cd (Bd D.A w'.heap.size)) v=true
 n0:D.w0.heap.size<=w'.heap.size
 fid:∀b,b<D.w0.heap.size->f' b=D.f0 b
 Ht:∀b,b<w'.heap.size->Sh.hol b=false->f' b<W'.heap.size
 YX:∀b,D.w0.heap.size<=b->b<w'.heap.size->D.W0.heap.size<=f' b
 IY:∀b c,D.w0.heap.size<=b->b<c->c<w'.heap.size->f' b<f' c
 img:∀b,b<w'.heap.size->D.A b=true->dL (f' b)∨Z.ro (f' b)
 lk:∀(b:Nat) (o:Obj),D.A b=true->w'.heap[b]?=some o->¬kT o->dL (f' b)∧¬D.L (f' b)
 owns:∀b,D.eG b->dL b
 RY:∀b,dL b->D.eG b∨D.W0.heap.size<=b
 YY:∀b,dL b->b<W'.heap.size
 since:Since Z D.W0 W'
 kept:∀b,D.L b->W'.heap[b]?=D.W0.heap[b]?
section
variable {P Q:Program} {S V:FuncId->Bool} {cd:Code->Bool} {main:Bool} {Z:gB} {δ:Type} {Stop:δ->(Nat->Prop)->Goroutine->World->Prop} {D:QJ} {K:List Frame} {gz:Frame} {R:Value->World->Prop}
theorem Z9 (hnm:¬Z.mute) {A:Nat->Bool} {N:Nat} {f:Nat->Nat} {w1:World} {dL:Nat->Prop} (hown:∀b,b<w1.heap.size->A b=true->dL (f b)∨Z.ro (f b)) (hlk:∀(b:Nat) (o:Obj),A b=true->w1.heap[b]?=some o->¬kT o->dL (f b))
 {e:Event} (hx:YA (FA S V cd (Bd A N)) w1 e):QB Z dL (rev f e):=by
 obtain ⟨loc,wr,sy⟩:=e;obtain ⟨hx1,hx2⟩:=hx;refine ⟨hnm,?_⟩;cases loc with
 |cell a=>
  obtain ⟨hA,⟨v,hv⟩,hw⟩:=hx2
  have zT:∃o:Obj,w1.heap[a.block]?=some o:=by
   unfold World.cell? at hv;cases hb:w1.heap[a.block]? with
   |none=>rw [hb] at hv;cases hv
   |some o=>exact ⟨o,rfl⟩
  obtain ⟨o,ho⟩:=zT;have hlt:=(aI.1 ho).1;have hA':=(gN.1 hA).1;refine ⟨hx1,?_⟩;cases wr with
  |true=>
   obtain ⟨o',ho',hl'⟩:=hw rfl;exact .inl (hlk _ o' hA' ho' hl')
  |false=>
   rcases hown _ hlt hA' with x|x
   ·exact .inl x
   ·exact .inr (.inl ⟨x,rfl⟩)
 |obj r=>
  obtain ⟨hA,o,ho,hc⟩:=hx2;have hA':=(gN.1 hA).1;refine ⟨hx1,hlk _ o hA' ho ?_⟩;rintro ⟨c,e,fr,rfl,_⟩;cases hc
 |mark m=>
  have hm:m= .noRoom:=hx2;subst hm;rfl
 |output=>exact hx2.elim
 |goroutines=>exact hx2.elim
theorem Ex.fin (G0:Ground P S V cd Z D) (nS:Wj P D.w0 gz R) {t:Nat} {s:St δ} (h:Ex P S V cd Z D gz t s) (hf:Fin s.fr s.up) {τ:Nat->Question->Nat} (LJ:∀j q,j<s.w.drawn->τ j q=s.w.tape j q):
 ∃v,R v (s.w.tp τ)∧s.fr.leaving P (s.w.tp τ) (.returned v):=by
 obtain ⟨n,v,w',fr',h1,h2,h3⟩:=nS τ;have hrun:=h.run τ LJ;obtain ⟨hu,hm,hd⟩:=hf;rw [hu,List.nil_append] at hrun;have hfr:=h.stk.top;obtain ⟨fn,c,hfn,_⟩:=(G0.good _).fit.body s.fr.fn hfr.fn;rcases Nat.lt_trichotomy n t with hlt|heq|hgt
 ·exfalso;obtain ⟨d,hd'⟩:=Nat.exists_eq_add_of_lt hlt;obtain ⟨hm',hd2,hk',fn',hf',_⟩:=h3;rw [hd',show n+d+1=n+(d+1) from rfl,oD,h2] at hrun;exact zG ⟨fn',hf'⟩ hk' hm' hd2 w' d s.fr [] _ hrun
 ·subst heq;rw [hrun] at h2;obtain ⟨e1,_,e3⟩:=uM (Stepped.next.inj h2);rw [<-e1, <-e3] at h3;rw [<-e3] at h1;exact ⟨v,h1,h3⟩
 ·exfalso;obtain ⟨d,hd'⟩:=Nat.exists_eq_add_of_lt hgt;rw [hd',show t+d+1=t+(d+1) from rfl,oD,hrun] at h2;exact zG ⟨fn,hfn⟩ hfr.kind hm hd _ d fr' [] w' h2
theorem Ex.leave (hQ:Alike P Q) (G0:Ground P S V cd Z D) (nS:Wj P D.w0 gz R) {t:Nat} {s:St δ} (h:Ex P S V cd Z D gz t s) (hf:Fin s.fr s.up) {W1:World} (hr:dZ Z s.own s.W W1):
 ∃v w1 f1 vF u fn,R v w1∧Q.funcs[s.fr.fn]?=some fn∧(results fn (jv s.f s.fr).tmps).runT Q W1 #[]=(.ok (rv f1 v) vF,u)∧vF.heap.size=W1.heap.size∧vX Z s.own W1 vF∧(∀e∈seen Q s.fr.fn u++ #[],QB Z (grow s.own W1 vF) e)∧
  J2 S V cd Z D v w1 f1 (grow s.own W1 vF) vF:=by
 obtain ⟨f1,hf1⟩:∃f1:Nat->Nat,f1= λb=>if b<s.w.heap.size then s.f b else W1.heap.size+(b - s.w.heap.size):=⟨_,rfl⟩
 obtain ⟨τ,LJ⟩:∃τ:Nat->Question->Nat,τ= λj q=>if j<s.w.drawn then s.w.tape j q else W1.tape (W1.drawn+(j - s.w.drawn)) q:=⟨_,rfl⟩
 have QK:∀j q,j<s.w.drawn->τ j q=s.w.tape j q:= λj q hj=>by rw [LJ];exact aj hj
 obtain ⟨hRn,hag,al6,e1⟩:=h.agree G0 hr s.w.heap.size (aJ _) hf1 LJ;obtain ⟨v,hR,hlv⟩:=h.fin G0 nS hf QK;have hfr:=h.stk.top;obtain ⟨_,_,_,fn,hfn,hres⟩:=hlv;have hrT:((results fn s.fr.tmps).runT P (s.w.tp τ) #[]).1= .ok v (s.w.tp τ):=by rw [Sem.runT_fst];exact hres
 have ML:=(Bb (P:=P) (F:=FA S V cd (Bd D.A s.w.heap.size)) (f:=f1) hRn fn hfr.tmps).EX hQ hRn.inj (s.w.tp τ) W1 #[] #[] hag;rcases ML with ⟨b,b1,b2,_⟩|ML
 ·exfalso;rw [hrT] at b2;have b1:s.w.heap.size<=b:=b1;have b2:b<s.w.heap.size:=b2;omega
 generalize hx:(results fn s.fr.tmps).runT P (s.w.tp τ) #[]=x at hrT ML;generalize hy:(results fn (s.fr.tmps.map (rv f1))).runT Q W1 #[]=y at ML;obtain ⟨hh,hq1,hq2⟩:=hQ.get s.fr.fn;obtain ⟨bb,hq3,_⟩:=hq2 fn;have Ud:Q.funcs[s.fr.fn]?=some { fn with body:=bb }:=by rw [hq1,hfn,ay,hq3]
 rw [hrT] at ML;obtain ⟨v',vF,hy1,⟨hv',hvs⟩,h4,h5⟩:=ML;have efr:jv f1 s.fr=jv s.f s.fr:=Dv (F:=FA S V cd (Bd D.A s.w.heap.size)) (λb hb=>e1 b (G0.below h.n0 hb)) hfr;obtain ⟨w1,hw1⟩:∃w1,w1=s.w.tp τ:=⟨_,rfl⟩;have h4:Mv (FA S V cd (Bd D.A s.w.heap.size)) f1 (s.w.tp τ) W1 w1 vF:=by rw [hw1];exact h4
 rw [<-hw1] at h5 hR;have aa0:w1.heap.size=s.w.heap.size:=by rw [hw1];rfl
 obtain ⟨kk,hk1,hk2⟩:=h4.size;have hWs:=hr.size;have e2:∀b,s.w.heap.size<=b->f1 b=W1.heap.size+(b - s.w.heap.size):= λb hb=>by rw [hf1];exact aa (by omega)
 have au2:D.W0.heap.size<=s.W.heap.size:=h.since.size
 have hown:∀b,b<w1.heap.size->D.A b=true->grow s.own W1 vF (f1 b)∨Z.ro (f1 b):=by
  intro b hb hA;rcases bu b s.w.heap.size with hlt|hge
  ·rw [e1 b hlt];exact (h.img b hlt hA).imp wT id
  ·refine .inl (.inr ?_);rw [e2 b hge];omega
 have hlk:∀(b:Nat) (o:Obj),D.A b=true->w1.heap[b]?=some o->¬kT o->grow s.own W1 vF (f1 b)∧¬D.L (f1 b):=by
  intro b o hA ho hl;have hb:=(aI.1 ho).1;have hlt:b<s.w.heap.size:=by omega
  have hx:(s.w.tp τ).heap[b]?=some s.w.heap[b]:=by show s.w.heap[b]?=_;simp [hlt]
  obtain ⟨o1,ho1,hl1,_⟩:=h4.lock b _ hx;rw [ho1] at ho;cases ho;rw [e1 b hlt];have :=h.lk b _ hA hx λy=>hl (hl1.2 y)
  exact ⟨wT this.1,this.2⟩
 have Z6:∀b,grow s.own W1 vF b->D.eG b∨D.W0.heap.size<=b:=by
  intro b hb;rcases hb with hb|hb
  ·exact h.RY b hb
  ·exact .inr (by omega)
 have Z7:∀b,grow s.own W1 vF b->b<vF.heap.size:=by
  intro b hb;rcases hb with hb|hb
  ·have :=h.YY b hb;omega
  ·exact hb.2
 have hkeep:∀b,b<W1.heap.size->¬s.own b->vF.heap[b]?=W1.heap[b]?:=by
  intro b hb hno;rcases h4.frame b hb with e|⟨b',o,hA,ho,Z8,hl⟩
  ·exact e
  ·exfalso;have ho':s.w.heap[b']?=some o:=ho
   have hlt:=(aI.1 ho').1;have :=(h.lk b' o (gN.1 hA).1 ho' hl).1;rw [<-Z8,e1 b' hlt] at hno;exact hno this
 have hkept:∀b,D.L b->vF.heap[b]?=D.W0.heap[b]?:=by
  intro b hb;have hbL:=G0.lL b hb
  have k1:vF.heap[b]?=W1.heap[b]?:=by
   rcases h4.frame b (by omega) with e|⟨b',o,hA,ho,Z8,hl⟩
   ·exact e
   ·exfalso;have ho':s.w.heap[b']?=some o:=ho
    have hlt:=(aI.1 ho').1;have :=(h.lk b' o (gN.1 hA).1 ho' hl).2;rw [<-Z8,e1 b' hlt] at hb;exact this hb
  rw [k1, <-h.kept b hb];rcases hbL.2 with x|x
  ·exact hr.ro b x
  ·exact hr.own b (h.owns b x)
 have Wl:∀b,Z.sy b->¬s.own b:=by
  intro b hb ho;rcases h.RY b ho with x|x
  ·exact (G0.own b x).2.1 hb
  ·have :=G0.sy b hb;omega
 have nro:∀b,Z.ro b->¬s.own b:=by
  intro b hb ho;rcases h.RY b ho with x|x
  ·exact (G0.own b x).2.2 hb
  ·have :=G0.ro b hb;omega
 have rQ:vX Z s.own W1 vF:=by
  refine ⟨h4.tape',h4.out',h4.os',by omega, λb hb hno _=>hkeep b hb hno, λb hb=>?_⟩;have hbl:=G0.sy b hb;have e:=hkeep b (by omega) (Wl b hb);refine ⟨by rw [e];exact yE.refl _, λi _=>?_⟩;unfold World.cell?;simp only [e]
 have hev:∀e∈seen Q s.fr.fn y.2++ #[],QB Z (grow s.own W1 vF) e:=by
  obtain ⟨u,hu1,hu2,hu3⟩:=h5;intro e he;rw [Array.append_empty] at he;have he:=mem_seen he;rw [hu2] at he;simp only [Array.empty_append,Array.mem_map] at he;obtain ⟨e0,he0,rfl⟩:=he;exact Z9 G0.nm hown (λb o h1 h2 h3=>(hlk b o h1 h2 h3).1) (hu3 e0 he0)
 refine ⟨v,w1,f1,vF,y.2,_,hR,Ud,?_,by have e9:(s.w.tp τ).heap.size=s.w.heap.size:=rfl;omega,rQ,hev,?_⟩
 ·have m4:(jv f1 s.fr).tmps=s.fr.tmps.map (rv f1):=rfl;have hy':(results { fn with body:=bb } (s.fr.tmps.map (rv f1))).runT Q W1 #[]=y:=hy;rw [<-efr,m4,hy', <-hv', <-hy1]
 refine ⟨?_,?_,by rw [aa0];exact h.n0, λb hb=>?_, λb hb hh=>?_, λb hb hb2=>?_, λb c hb0 hbc hc=>?_,hown,hlk, λb hb=>wT (h.owns b hb),Z6,Z7,?_,hkept⟩
 ·rw [aa0];exact h4.ag.wr
 ·rw [aa0];exact hvs
 ·rw [e1 b (aK hb h.n0)];exact h.fid b hb
 ·rw [e1 b (by omega)];have :=h.Ht b (by omega) hh;omega
 ·rw [e1 b (by omega)];exact h.YX b hb (by omega)
 ·rw [e1 c (by omega),e1 b (by omega)];exact h.IY b c hb0 hbc (by omega)
 ·refine h.since.trans (hr.since.trans ⟨h4.tape',h4.out',by rw [h4.os'];exact OsLater.refl _,by omega, λb hb=>hkeep b (by have :=G0.ro b hb;omega) (nro b hb), λb hb=>?_, λb i hb=>?_⟩)
  ·rw [hkeep b (by have :=G0.sy b hb;omega) (Wl b hb)];exact yE.refl _
  ·have hsy:=G0.cl b i hb;have e:=hkeep b (by have :=G0.sy b hsy;omega) (Wl b hsy);unfold World.cell?;simp only [e]
theorem Inv.back (hQ:Alike P Q) (G0:Ground P S V cd Z D) (nS:Wj P D.w0 gz R) {t:Nat} {s:St δ} {c:Frame} {K':List Frame} (h:Inv P Q S V cd main Z Stop D (c::K') gz t s) (hf:Fin s.fr s.up)
 (oO:∀d v w' f' dL W',R v w'->J2 S V cd Z D v w' f' dL W'->Gw Q main Z (Stop d) dL (G (c.finish (rv f' v)) K') W'):False:=by
 refine h.ngw (Gw.Cj rfl λW1 hr=>?_);obtain ⟨v,w1,f1,vF,u,fn,hR,Ud,hres,hsz,rQ,hev,hback⟩:=h.toEx.leave hQ G0 nS hf hr;obtain ⟨hu,hm,hd⟩:=hf;have hfr:=h.stk.top
 have hcomp:stepG Q main (G (jv s.f s.fr) (s.up.map (jv s.f)++c::K')) W1= .go (G (c.finish (rv f1 v)) K') vF (seen Q s.fr.fn u++ #[]):=by
  rw [hu];have m1:(jv s.f s.fr).mode= .returning:=hm;have m2:(jv s.f s.fr).defers= []:=by show s.fr.defers.map (rd s.f)= [];rw [hd];rfl
  have m3:(jv s.f s.fr).fn=s.fr.fn:=rfl;have m5:(jv s.f s.fr).kind= .normal:=hfr.kind;unfold stepG G;simp only [m1];unfold unwind;simp only [m1,m2,m3,Ud,List.map_nil,List.nil_append];rw [hres];unfold doReturn;simp only [m5];rfl
 exact ⟨_,_,_,hcomp,rQ,hev,oO s.d v w1 f1 _ vF hR hback⟩
end
end
section
variable [Sh]
section
variable {P Q:Program} {S V:FuncId->Bool} {cd:Code->Bool} {main:Bool} {Z:gB} {δ:Type} {Stop:δ->(Nat->Prop)->Goroutine->World->Prop} {D:QJ} {K:List Frame} {gz:Frame} {R:Value->World->Prop}
def Past (P Q:Program) (S V:FuncId->Bool) (cd:Code->Bool) (main:Bool) (Z:gB) {δ:Type} (Stop:δ->(Nat->Prop)->Goroutine->World->Prop) (D:QJ) (K:List Frame) (gz:Frame):Prop:=
 ∀t s,AtQ P Q S V cd main Z Stop D K gz t s->∃k s',Inv P Q S V cd main Z Stop D K gz (t+k+1) s'∧s.w.drawn<=s'.w.drawn∧∀j q,j<s.w.drawn->s'.w.tape j q=s.w.tape j q
theorem al8 (hQ:Alike P Q) (G0:Ground P S V cd Z D) (nS:Wj P D.w0 gz R) {s0:St δ} (h0:Inv P Q S V cd main Z Stop D K gz 0 s0) (hpast:Past P Q S V cd main Z Stop D K gz)
 (nf:∀{t s},Inv P Q S V cd main Z Stop D K gz t s->¬Fin s.fr s.up):False:=by
 classical
 have nx:∀(x:{ p:Nat×St δ // Inv P Q S V cd main Z Stop D K gz p.1 p.2 }),∃y:{ p:Nat×St δ // Inv P Q S V cd main Z Stop D K gz p.1 p.2 },x.1.1<y.1.1∧x.1.2.w.drawn<=y.1.2.w.drawn∧∀j q,j<x.1.2.w.drawn->y.1.2.w.tape j q=x.1.2.w.tape j q:=by
  rintro ⟨⟨t,s⟩,h⟩;obtain ⟨s',h1,h2,h3⟩:=h.next hQ G0 nS (nf h);rcases h1 with h1|h1
  ·exact ⟨⟨(t+1,s'),h1⟩,Nat.lt_succ_self t,h2,h3⟩
  ·obtain ⟨k,s'',h4,h5,h6⟩:=hpast _ _ h1;exact ⟨⟨(t+1+k+1,s''),h4⟩,by show t<t+1+k+1;omega,aT h2 h5, λj q hj=>(h6 j q (aK hj h2)).trans (h3 j q hj)⟩
 let seq:(i:Nat)->{ p:Nat×St δ // Inv P Q S V cd main Z Stop D K gz p.1 p.2 }:= λi=>Nat.rec ⟨(0,s0),h0⟩ (λ_ x=>(nx x).choose) i
 have hlt:∀i,(seq i).1.1<(seq (i+1)).1.1:= λi=>(nx (seq i)).choose_spec.1
 have hd:∀i,(seq i).1.2.w.drawn<=(seq (i+1)).1.2.w.drawn:= λi=>(nx (seq i)).choose_spec.2.1
 have ht:∀i j q,j<(seq i).1.2.w.drawn->(seq (i+1)).1.2.w.tape j q=(seq i).1.2.w.tape j q:= λi=>(nx (seq i)).choose_spec.2.2
 have hge:∀i,i<=(seq i).1.1:=by
  intro i
  induction i with
  |zero=>exact bn _
  |succ i ih=>have :=hlt i;omega
 have hdd:∀d t,(seq t).1.2.w.drawn<=(seq (t+d)).1.2.w.drawn:=by
  intro d
  induction d with
  |zero=>intro t;exact aJ _
  |succ d ih=>intro t;exact aT (ih t) (hd (t+d))
 have htt:∀d t j q,j<(seq t).1.2.w.drawn->(seq (t+d)).1.2.w.tape j q=(seq t).1.2.w.tape j q:=by
  intro d
  induction d with
  |zero=>intro t j q _;rfl
  |succ d ih=>
   intro t j q hj;exact (ht (t+d) j q (aK hj (hdd d t))).trans (ih t j q hj)
 let τ:Nat->Question->Nat:= λj q=>if h:∃t,j<(seq t).1.2.w.drawn then (seq h.choose).1.2.w.tape j q else 0
 have LJ:∀t j q,j<(seq t).1.2.w.drawn->τ j q=(seq t).1.2.w.tape j q:=by
  intro t j q hj;have h:∃t,j<(seq t).1.2.w.drawn:=⟨t,hj⟩;have e:τ j q=(seq h.choose).1.2.w.tape j q:=dif_pos h;rw [e];have hc:=h.choose_spec;generalize h.choose=u at hc;rcases Nat.le_total t u with hle|hle
  ·obtain ⟨d,rfl⟩:=Nat.exists_eq_add_of_le hle;exact htt d t j q hj
  ·obtain ⟨d,rfl⟩:=Nat.exists_eq_add_of_le hle;exact (htt d u j q hc).symm
 obtain ⟨n,v,w',fr',h1,h2,h3⟩:=nS τ;have hrun:=(seq n).2.run τ λj q hj=>LJ n j q hj
 obtain ⟨k,hk⟩:=ahead hrun (nf (seq n).2) h2 h3;have :=hge n;omega
theorem IZ (hQ:Alike P Q) (G0:Ground P S V cd Z D) {g:FuncId} (hg:S g=true) (hgQ:Q.funcs[g]?=P.funcs[g]?) {args args':Array Value} (ha:VS (FA S V cd (Bd D.A D.w0.heap.size)) args) (haa:args'=args.map (rv D.f0))
 (hwr:WR (FA S V cd (Bd D.A D.w0.heap.size)) D.f0 D.w0 D.W0) (hlk:∀(b:Nat) (o:Obj),D.A b=true->D.w0.heap[b]?=some o->¬kT o->D.eG (D.f0 b)∧¬D.L (D.f0 b))
 (nS:∀τ,Calls P g args (D.w0.tp τ) λe w'=>∃v,e= .returned v∧R v w') (d0:δ)
 (hpast:Past P Q S V cd main Z Stop D K (Frame.enter P g args .normal))
 (hend:Wj P D.w0 (Frame.enter P g args .normal) R->∀{t s},Inv P Q S V cd main Z Stop D K (Frame.enter P g args .normal) t s->¬Fin s.fr s.up):
 Gw Q main Z (Stop d0) D.eG (G (Frame.enter Q g args' .normal) K) D.W0:=by
 apply bq;intro hn
 have ent:jv D.f0 (Frame.enter P g args .normal)=Frame.enter Q g args' .normal:=by
  have :=Dq (P:=P) (F:=FA S V cd (Bd D.A D.w0.heap.size)) (f:=D.f0) (G0.good _) hg args;rw [<-this,haa];unfold Frame.enter;rw [hgQ]
 have hc:Wj P D.w0 (Frame.enter P g args .normal) R:= λτ=>by
  obtain ⟨e,w',fr,⟨v,rfl,h1⟩,⟨n,h2⟩,_,h3⟩:=nS τ [Par.stk];exact ⟨n,v,w',fr,h1,h2,h3⟩
 refine al8 (main:=main) (Stop:=Stop) (R:=R) (gz:=Frame.enter P g args .normal) (s0:=⟨Frame.enter P g args .normal,[],D.w0,D.f0,D.eG,D.W0,d0⟩) hQ G0 hc
  ⟨⟨⟨mU.enter (G0.good _) hg ha,rfl⟩,.inl rfl,hwr,aJ _, λb _=>rfl,G0.Z5, λb h1 h2=>absurd h1 (Nat.not_le.2 h2), λb c h1 h2 h3=>absurd h1 (Nat.not_le.2 (Nat.lt_trans h2 h3)),G0.a0,hlk, λb hb=>hb, λb hb=>.inl hb, λb hb=>(G0.own b hb).1,Since.refl Z D.W0, λb _=>rfl, λτ _=>rfl⟩,?_⟩ hpast (hend hc)
 show ¬Gw Q main Z (Stop d0) D.eG (G (jv D.f0 (Frame.enter P g args .normal)) (List.map (jv D.f0) []++K)) D.W0;rw [ent];exact hn
theorem QL (hSQ:∀g,S g=true->Q.funcs[g]?=P.funcs[g]?):Past P Q S V cd main Z Stop D K gz:= λ_ _ h=>by
 obtain ⟨g,as,hg,_,_,_,hne,_⟩:=h.ent;exact absurd (hSQ g hg) hne
end
end
end Par
namespace Par
open Go Go.Conc Go.ConcN
section
def lb:Loc->Nat
 | .cell a=>a.block
 | .obj r=>r
 |_=>0
def fQ:Loc->Prop
 | .cell _| .obj _=>True
 |_=>False
inductive Who where
 |gP (g:Nat)
 |ro
 |sy
 |lk
 |dn
 |fr
 |pt
structure Gh where
 B:Nat
 who:Loc->Who
 live:Nat->Prop
 act:Nat->Prop
 lock:Option Addr
 wg:Option Addr
def LM (a:Option Addr) (t:Trace) (i:Nat):Prop:=∃a0,a=some a0∧∃p,t.act? p=some (.mark (.releaseMerge a0))∧t.heard p∧Before t i p
def Says (γ:Gh) (t:Trace) (i:Nat):Prop:=t.counts i∨∃x,touchAt t i=some x∧γ.who x.loc≠ .sy
structure TI (γ:Gh) (t:Trace):Prop where
 gP:∀l g,γ.who l= .gP g->Perm t g l
 ro:∀l g,γ.who l= .ro->γ.live g->PermW t g l
 sy:∀i x op,γ.who x.loc= .sy->touchAt t i=some x->t[i]?=some op->(x.kind≠ .plain∧(x.kind= .said->op.g=0))∨∀g,γ.live g->Knows t g i
 lk:∀l i x,γ.who l= .lk->touchAt t i=some x->x.loc=l->(∀g,γ.live g->Knows t g i)∨LM γ.lock t i
 new:∀i x,touchAt t i=some x->fQ x.loc->lb x.loc<γ.B
 ho:∀i op,t[i]?=some op->op.g≠0->Says γ t i->γ.act op.g∨Knows t 0 i∨LM γ.wg t i
 nr:∀said,¬Race said t
 nl:∀a,NoRelease a t
def OkT (who:Loc->Who) (g:Nat) (x:Touch):Prop:=
 who x.loc= .gP g∨(who x.loc= .ro∧x.write=false)∨(who x.loc= .sy∧x.kind≠ .plain∧(x.kind= .said->g=0))∨(who x.loc= .fr∧¬fQ x.loc)
section
variable {γ:Gh} {t u:Trace} {g:Nat}
theorem Ue {l:Loc} (h:l.isMemory=true):fQ l:=by cases l<;>first |trivial|cases h
theorem LM.app {a:Option Addr} {i:Nat} (h:LM a t i):LM a (t++u) i:=by
 obtain ⟨a0,h0,p,h1,h2,h3⟩:=h;have hp:=lt_of_act? h1;exact ⟨a0,h0,p,by rw [act?_old hp];exact h1,(heard_old hp).2 h2,h3.app u⟩
theorem ze {i:Nat} {x:Touch} (hx:touchAt (t++u) i=some x):(i<t.size∧touchAt t i=some x)∨∃op∈u,(t++u)[i]?=some op∧op.act.touch?=some x:=by
 obtain ⟨z,hz,hzx⟩:=touch_of hx;rcases getElem?_append_cases hz with ⟨hlt,hz'⟩|⟨_,hzu⟩
 ·exact .inl ⟨hlt,by rw [touchAt_of hz'];exact hzx⟩
 ·exact .inr ⟨z,hzu,hz,hzx⟩
theorem Says.old {i:Nat} (h:Says γ (t++u) i) (hlt:i<t.size):Says γ t i:=
 h.imp (counts_old hlt).1 λ⟨x,hx,hs⟩=>⟨x,by rw [<-touchAt_old (u:=u) hlt];exact hx,hs⟩
theorem TI.Pd (h:TI γ t) (hl:γ.live g) {b:Touch} (hb:γ.who b.loc= .sy) (hk:b.kind≠ .plain) (hs:b.kind= .said->g=0) {said:Bool}:∀i a,touchAt t i=some a->a.conflicts said b->Knows t g i:=by
 intro i a ha hc;obtain ⟨op,hop,az6⟩:=touch_of ha;rcases h.sy i a op (by rw [hc.1];exact hb) ha hop with ⟨h1,h2⟩|h1
 ·obtain ⟨_,_,_,hcase⟩:=hc;rcases hcase with x|x|⟨_,x,y⟩
  ·exact absurd x h1
  ·exact absurd x hk
  ·have :=knows_own hop
   rwa [h2 x, <-hs y] at this
 ·exact h1 g hl
theorem TI.app {B':Nat} (h:TI γ t) (hB:γ.B<=B') (hl:γ.live g) (hg:∀op∈u,op.g=g) (hu:∀op∈u,∀x,op.act.touch?=some x->OkT γ.who g x∧(fQ x.loc->lb x.loc<B'))
 (hc:g=0∨γ.act g) (hr:∀op∈u,∀a,op.act≠ .mark (.release a)):TI { γ with B:=B' } (t++u):=by
 have kn:∀i op,op∈u->(t++u)[i]?=some op->γ.act op.g∨Knows (t++u) 0 i∨LM γ.wg (t++u) i:=by
  intro i op hop hi;rcases hc with h0|h0
  ·have :=knows_own hi;rw [hg op hop,h0] at this;exact .inr (.inl this)
  ·exact .inl (by rw [hg op hop];exact h0)
 refine ⟨λl k hk=>(h.gP l k hk).app λop hop b hb e=>?_, λl k hk hlv=>(h.ro l k hk hlv).app λop hop b hb e hw=>?_, λi x op hs hx hop=>?_,
  λl i x hlk hx e=>?_, λi x hx hmem=>?_, λi op hop hg0 hcnt=>?_, λsaid=>?_, λa i hi=>?_⟩
 ·have hk:γ.who l= .gP k:=hk;rcases (hu op hop b hb).1 with h1|⟨h1,_⟩|⟨h1,_⟩|⟨h1,_⟩
  ·rw [e,hk] at h1;rw [hg op hop];exact (Who.gP.inj h1).symm
  all_goals (rw [e,hk] at h1;cases h1)
 ·have hk:γ.who l= .ro:=hk;rcases (hu op hop b hb).1 with h1|⟨_,h1⟩|⟨h1,_⟩|⟨h1,_⟩
  ·rw [e,hk] at h1;cases h1
  ·rw [h1] at hw;cases hw
  ·rw [e,hk] at h1;cases h1
  ·rw [e,hk] at h1;cases h1
 ·have hs:γ.who x.loc= .sy:=hs;rcases ze hx with ⟨hlt,hx'⟩|⟨z,hz,hzi,hzx⟩
  ·rw [getElem?_append_old hlt] at hop;exact (h.sy i x op hs hx' hop).imp id λh1 g' hg'=>(h1 g' hg').app u
  ·rw [hzi] at hop;cases hop;rcases (hu op hz x hzx).1 with h1|⟨h1,_⟩|⟨_,h1,h2⟩|⟨h1,_⟩
   ·rw [hs] at h1;cases h1
   ·rw [hs] at h1;cases h1
   ·exact .inl ⟨h1, λe=>by rw [hg op hz];exact h2 e⟩
   ·rw [hs] at h1;cases h1
 ·have hlk:γ.who l= .lk:=hlk;rcases ze hx with ⟨hlt,hx'⟩|⟨z,hz,hzi,hzx⟩
  ·rcases h.lk l i x hlk hx' e with h1|h1
   ·exact .inl λg' hg'=>(h1 g' hg').app u
   ·exact .inr h1.app
  ·exfalso;rcases (hu z hz x hzx).1 with h1|⟨h1,_⟩|⟨h1,_⟩|⟨h1,_⟩<;>(rw [e,hlk] at h1;cases h1)
 ·rcases ze hx with ⟨hlt,hx'⟩|⟨z,hz,hzi,hzx⟩
  ·exact aK (h.new i x hx' hmem) hB
  ·exact (hu z hz x hzx).2 hmem
 ·rcases getElem?_append_cases hop with ⟨hlt,hop'⟩|⟨_,hou⟩
  ·rcases h.ho i op hop' hg0 (hcnt.old hlt) with h1|h1|h1
   ·exact .inl h1
   ·exact .inr (.inl (h1.app u))
   ·exact .inr (.inr h1.app)
  ·exact kn i op hou hop
 ·refine noRace_append (h.nr said) hg (λi x hx op hop b hb hc=>?_);rcases (hu op hop b hb).1 with h1|⟨h1,hw⟩|⟨h1,hk,hs⟩|⟨_,h1⟩
  ·exact h.gP b.loc g h1 i x hx hc.1
  ·exact h.ro b.loc g h1 hl i x hx hc.1 (hc.2.2.1.resolve_right (by simp [hw]))
  ·exact h.Pd hl h1 hk hs i x hx hc
  ·refine absurd ?_ h1
   rw [<-hc.1];exact Ue hc.2.1
 ·obtain ⟨op,ho,hoa⟩:=Option.map_eq_some_iff.1 hi;rcases getElem?_append_cases ho with ⟨hlt,ho'⟩|⟨_,hou⟩
  ·exact h.nl a i (by rw [act?_of ho',hoa])
  ·exact hr op hou a hoa
theorem TI.Pe (h:TI γ t) (hl:γ.live g) (hg:∀op∈u,op.g=g) (hu:∀op∈u,∀x,op.act.touch?=some x->γ.who x.loc= .sy∧x.kind= .atomic∧(fQ x.loc->lb x.loc<γ.B))
 (hd:∀i op,t.size<=i->op∈u->(t++u)[i]?=some op->¬(t++u).counts i) (hr:∀op∈u,∀a,op.act≠ .mark (.release a)):TI γ (t++u):=by
 have no:∀op∈u,∀x,op.act.touch?=some x->∀l,x.loc=l->γ.who l= .sy:= λop hop x hx l e=>e ▸ (hu op hop x hx).1
 refine ⟨λl k hk=>(h.gP l k hk).app λop hop b hb e=>?_, λl k hk hlv=>(h.ro l k hk hlv).app λop hop b hb e hw=>?_, λi x op hs hx hop=>?_,
  λl i x hlk hx e=>?_, λi x hx hmem=>?_, λi op hop hg0 hcnt=>?_, λsaid=>?_, λa i hi=>?_⟩
 ·have :=no op hop b hb l e;rw [hk] at this;cases this
 ·have :=no op hop b hb l e;rw [hk] at this;cases this
 ·rcases ze hx with ⟨hlt,hx'⟩|⟨z,hz,hzi,hzx⟩
  ·rw [getElem?_append_old hlt] at hop;exact (h.sy i x op hs hx' hop).imp id λh1 g' hg'=>(h1 g' hg').app u
  ·obtain ⟨_,h1,_⟩:=hu z hz x hzx;exact .inl ⟨by rw [h1];simp, λe=>by rw [h1] at e;cases e⟩
 ·rcases ze hx with ⟨hlt,hx'⟩|⟨z,hz,hzi,hzx⟩
  ·rcases h.lk l i x hlk hx' e with h1|h1
   ·exact .inl λg' hg'=>(h1 g' hg').app u
   ·exact .inr h1.app
  ·have :=no z hz x hzx l e;rw [hlk] at this;cases this
 ·rcases ze hx with ⟨hlt,hx'⟩|⟨z,hz,hzi,hzx⟩
  ·exact h.new i x hx' hmem
  ·exact (hu z hz x hzx).2.2 hmem
 ·rcases getElem?_append_cases hop with ⟨hlt,hop'⟩|⟨hge,hou⟩
  ·rcases h.ho i op hop' hg0 (hcnt.old hlt) with h1|h1|h1
   ·exact .inl h1
   ·exact .inr (.inl (h1.app u))
   ·exact .inr (.inr h1.app)
  ·rcases hcnt with hcnt|⟨x,hx,hs⟩
   ·exact absurd hcnt (hd i op hge hou hop)
   ·rw [touchAt_of hop] at hx;exact absurd (hu op hou x hx).1 hs
 ·refine noRace_append (h.nr said) hg (λi x hx op hop b hb hc=>?_);obtain ⟨h1,h2,_⟩:=hu op hop b hb;exact h.Pd hl h1 (by rw [h2];simp) (λe=>by rw [h2] at e;cases e) i x hx hc
 ·obtain ⟨op,ho,hoa⟩:=Option.map_eq_some_iff.1 hi;rcases getElem?_append_cases ho with ⟨hlt,ho'⟩|⟨_,hou⟩
  ·exact h.nl a i (by rw [act?_of ho',hoa])
  ·exact hr op hou a hoa
theorem oF {z:MemOp} (hn:z.act.touch?=none) {i:Nat} {b:Touch} (hb:touchAt (t++ #[z]) i=some b):touchAt t i=some b:=by
 rcases ze hb with ⟨_,h⟩|⟨y,hy,_,hyb⟩
 ·exact h
 ·simp at hy;subst hy;rw [hn] at hyb;cases hyb
theorem TI.still (h:TI γ t) {z:MemOp} (hn:z.act.touch?=none) (hr:∀a,z.act≠ .mark (.release a)):TI γ (t++ #[z]):=by
 have lt:∀{i:Nat} {x:Touch},touchAt (t++ #[z]) i=some x->i<t.size:= λhx=>by
  obtain ⟨op,hop,_⟩:=touch_of (oF hn hx);exact lt_size_of_getElem? hop
 refine ⟨λl g hl i x hx e=>(h.gP l g hl i x (oF hn hx) e).app _, λl g hl hlv i x hx e hw=>(h.ro l g hl hlv i x (oF hn hx) e hw).app _, λi x op hs hx hop=>?_, λl i x hl hx e=>?_, λi x hx=>h.new i x (oF hn hx), λi op hi hg hs=>?_, λsaid=>?_, λa i hi=>?_⟩
 ·rw [getElem?_append_old (lt hx)] at hop;exact (h.sy i x op hs (oF hn hx) hop).imp id λh1 g' hg'=>(h1 g' hg').app _
 ·rcases h.lk l i x hl (oF hn hx) e with h1|h1
  ·exact .inl λg' hg'=>(h1 g' hg').app _
  ·exact .inr h1.app
 ·rcases getElem?_append_cases hi with ⟨hlt,hi'⟩|⟨_,hiu⟩
  ·rcases h.ho i op hi' hg (hs.old hlt) with h1|h1|h1
   ·exact .inl h1
   ·exact .inr (.inl (h1.app _))
   ·exact .inr (.inr h1.app)
  ·exfalso
   have hz:touchAt (t++ #[z]) i=none:=by
    rw [touchAt_of hi];simp at hiu;rw [hiu,hn]
   rcases hs with ⟨x,hx,_⟩|⟨x,hx,_⟩
   ·have hx':touchAt (t++ #[z]) i=some x:=hx;rw [hz] at hx';cases hx'
   ·rw [hz] at hx;cases hx
 ·refine noRace_append (g:=z.g) (h.nr said) (λop hop=>by simp at hop;rw [hop]) (λi a _ op hop b hb _=>?_);simp at hop;rw [hop,hn] at hb;cases hb
 ·obtain ⟨op,ho,hoa⟩:=Option.map_eq_some_iff.1 hi;rcases getElem?_append_cases ho with ⟨hlt,ho'⟩|⟨_,hou⟩
  ·exact h.nl a i (by rw [act?_of ho',hoa])
  ·simp at hou;exact hr a (by rw [<-hou];exact hoa)
theorem TI.NQ (h:TI γ t) {u:Trace} (hn:∀op∈u,op.act.touch?=none) (hr:∀op∈u,∀a,op.act≠ .mark (.release a)):TI γ (t++u):=by
 obtain ⟨l⟩:=u
 induction l generalizing t with
 |nil=>simpa using h
 |cons z l ih=>
  have e:t++(⟨z::l⟩:Trace)=(t++ #[z])++(⟨l⟩:Trace):=by apply Array.ext';simp
  rw [e];exact ih (h.still (hn z (by simp)) (hr z (by simp))) (λop hop=>hn op (by simp at hop ⊢;exact .inr hop)) (λop hop=>hr op (by simp at hop ⊢;exact .inr hop))
theorem TI.drop (h:TI γ t) {live':Nat->Prop} (hl:∀g,live' g->γ.live g):TI { γ with live:=live' } t:=
 ⟨h.gP, λl g hr hg=>h.ro l g hr (hl g hg), λi x op hs hx hop=>(h.sy i x op hs hx hop).imp id λh1 g hg=>h1 g (hl g hg), λl i x hk hx e=>(h.lk l i x hk hx e).imp (λh1 g hg=>h1 g (hl g hg)) id,h.new,h.ho,h.nr,h.nl⟩
theorem TI.Pf (h:TI γ t) {eu:Loc->Who} (hw:∀l,(fQ l->lb l<γ.B)->eu l=γ.who l):TI { γ with who:=eu } t:=by
 have key:∀{i:Nat} {x:Touch},touchAt t i=some x->eu x.loc=γ.who x.loc:= λhx=>hw _ (h.new _ _ hx)
 refine ⟨λl g hl i x hx e=>?_, λl g hl hlv i x hx e hwr=>?_, λi x op hs hx hop=>?_, λl i x hl hx e=>?_,h.new, λi op hi hg hs=>?_,h.nr,h.nl⟩
 ·have hl:eu l= .gP g:=hl;rw [<-e,key hx] at hl;exact h.gP x.loc g hl i x hx rfl
 ·have hl:eu l= .ro:=hl;rw [<-e,key hx] at hl;exact h.ro x.loc g hl hlv i x hx rfl hwr
 ·have hs:eu x.loc= .sy:=hs;rw [key hx] at hs;exact h.sy i x op hs hx hop
 ·have hl:eu l= .lk:=hl;rw [<-e,key hx] at hl;exact h.lk x.loc i x hl hx rfl
 ·refine h.ho i op hi hg (hs.imp id λ⟨x,hx,hn⟩=>⟨x,hx,?_⟩);have hn:eu x.loc≠ .sy:=hn
  rwa [key hx] at hn
theorem Cn {γ':Gh} (hsy:∀l,γ'.who l= .sy↔γ.who l= .sy) {i:Nat} (h:Says γ' t i):Says γ t i:=
 h.imp id λ⟨x,hx,hn⟩=>⟨x,hx, λe=>hn ((hsy _).2 e)⟩
theorem TI.al9 (h:TI γ t) (h0:∀g,γ.live g->g=0) {eu:Loc->Who} (hw:∀l,eu l=γ.who l∨(γ.who l= .gP 0∧(eu l= .ro∨eu l= .lk∨eu l= .sy∨eu l= .pt))) (ha:∀g,g≠0->¬γ.act g) (hwg:γ.wg=none) (hlk:γ.lock=none) (wg' lock':Option Addr):TI { γ with who:=eu,wg:=wg',lock:=lock' } t:=by
 refine ⟨λl g hl=>?_, λl g hl hlv=>?_, λi x op hs hx hop=>?_, λl i x hl hx e=>?_,h.new, λi op hi hg hs=>?_,h.nr,h.nl⟩
 ·have hl:eu l= .gP g:=hl;rcases hw l with e|⟨_,e'|e'|e'|e'⟩
  ·rw [e] at hl;exact h.gP l g hl
  all_goals (rw [e'] at hl;cases hl)
 ·have hl:eu l= .ro:=hl;have :=h0 g hlv;subst this;rcases hw l with e|⟨e,_⟩
  ·rw [e] at hl;exact h.ro l _ hl hlv
  ·exact PermW.of (h.gP l 0 e)
 ·have hs:eu x.loc= .sy:=hs;rcases hw x.loc with e'|⟨e',_⟩
  ·rw [e'] at hs;exact h.sy i x op hs hx hop
  ·refine .inr λg hg=>?_
   have hg:γ.live g:=hg;rw [h0 g hg];exact h.gP x.loc 0 e' i x hx rfl
 ·have hl:eu l= .lk:=hl;rcases hw l with e'|⟨e',_⟩
  ·rw [e'] at hl;rcases h.lk l i x hl hx e with h1|⟨a0,h1,_⟩
   ·exact .inl h1
   ·rw [hlk] at h1;cases h1
  ·refine .inl λg hg=>?_
   have hg:γ.live g:=hg;rw [h0 g hg];exact h.gP l 0 e' i x hx e
 ·have hs':Says γ t i∨Knows t 0 i:=by
   rcases hs with hc|⟨x,hx,hn⟩
   ·exact .inl (.inl hc)
   ·have hn:eu x.loc≠ .sy:=hn;rcases hw x.loc with e'|⟨e',_⟩
    ·exact .inl (.inr ⟨x,hx,by rw [<-e'];exact hn⟩)
    ·exact .inr (h.gP x.loc 0 e' i x hx rfl)
  rcases hs' with hs'|hs'
  ·rcases h.ho i op hi hg hs' with h1|h1|⟨a0,h1,_⟩
   ·exact absurd h1 (ha _ hg)
   ·exact .inr (.inl h1)
   ·rw [hwg] at h1;cases h1
  ·exact .inr (.inl hs')
theorem TI.fork (h:TI γ t) {k:Nat} {x y:MemOp} (hx:x.g=0∧x.act= .go k) (hy:y.g=k∧y.act= .start) (h0:Deaf t 0=0) (hk:Deaf t k=0) (hl:γ.live 0)
 {eu:Loc->Who} (hw:∀l,eu l=γ.who l∨(γ.who l= .gP 0∧eu l= .gP k)):
 TI { γ with who:=eu,live:= λg=>γ.live g∨g=k,act:= λg=>γ.act g∨g=k } (t++ #[x,y]):=by
 have hb:TI γ (t++ #[x,y]):=by
  have e:t++ #[x,y]=(t++ #[x])++ #[y]:=by apply Array.ext';simp
  rw [e];exact (h.still (by rw [hx.2];rfl) (by rw [hx.2];simp)).still (by rw [hy.2];rfl) (by rw [hy.2];simp)
 have old:∀{i:Nat} {b:Touch},touchAt (t++ #[x,y]) i=some b->touchAt t i=some b:=by
  intro i b hb;rcases ze hb with ⟨_,h⟩|⟨z,hz,_,hzb⟩
  ·exact h
  ·exfalso;have :z=x∨z=y:=by simpa using hz
   rcases this with rfl|rfl
   ·rw [hx.2] at hzb;cases hzb
   ·rw [hy.2] at hzb;cases hzb
 have hsy:∀l,eu l= .sy↔γ.who l= .sy:=by
  intro l;rcases hw l with e|⟨e,e'⟩
  ·rw [e]
  ·rw [e,e'];simp
 refine ⟨λl g hl' i b hb' e=>?_, λl g hl' hlv i b hb' e hwr=>?_, λi b op hs hb' hi=>?_, λl i b hl' hb' e=>?_,hb.new, λi op hi hg hs=>?_,hb.nr,hb.nl⟩
 ·have hl':eu l= .gP g:=hl';rcases hw l with e'|⟨e',e''⟩
  ·rw [e'] at hl';exact hb.gP l g hl' i b hb' e
  ·rw [e''] at hl';cases hl';exact fork_knows hx hy h0 hk (h.gP l 0 e' i b (old hb') e)
 ·have hl':eu l= .ro:=hl'
  have hr:γ.who l= .ro:=by
   rcases hw l with e'|⟨_,e''⟩
   ·rw [<-e'];exact hl'
   ·rw [e''] at hl';cases hl'
  rcases hlv with hlv|rfl
  ·exact hb.ro l g hr hlv i b hb' e hwr
  ·exact fork_knows hx hy h0 hk (h.ro l 0 hr hl i b (old hb') e hwr)
 ·have hlt:i<t.size:=by
   obtain ⟨z,hz,_⟩:=touch_of (old hb');exact lt_size_of_getElem? hz
  rw [getElem?_append_old hlt] at hi;rcases h.sy i b op ((hsy _).1 hs) (old hb') hi with h1|h1
  ·exact .inl h1
  ·refine .inr λg hg=>?_
   rcases hg with hg|rfl
   ·exact (h1 g hg).app _
   ·exact fork_knows hx hy h0 hk (h1 0 hl)
 ·have hl':eu l= .lk:=hl'
  have hr:γ.who l= .lk:=by
   rcases hw l with e'|⟨_,e''⟩
   ·rw [<-e'];exact hl'
   ·rw [e''] at hl';cases hl'
  rcases h.lk l i b hr (old hb') e with h1|h1
  ·refine .inl λg hg=>?_
   rcases hg with hg|rfl
   ·exact (h1 g hg).app _
   ·exact fork_knows hx hy h0 hk (h1 0 hl)
  ·exact .inr h1.app
 ·rcases hb.ho i op hi hg (Cn (γ:=γ) (γ':={ γ with who:=eu,live:= λg=>γ.live g∨g=k,act:= λg=>γ.act g∨g=k }) hsy hs) with h1|h1
  ·exact .inl (.inl h1)
  ·exact .inr h1
theorem I1 {a:Addr} {z:MemOp} (hz:z.act= .mark (.acquire a)) (hd:Deaf t z.g=0) (hn:NoRelease a t) {i:Nat} (h:LM (some a) t i):Knows (t++ #[z]) z.g i:=by
 obtain ⟨a0,h0,p,h1,h2,h3⟩:=h;cases h0;have hq:(t++ #[z])[t.size]?=some z:=by simp
 have hp:=lt_of_act? h1
 have edge:HappensBefore (t++ #[z]) p t.size:=.single (.inr ⟨.marked hp (.inr (by rw [act?_old hp];exact h1)) (by rw [act?_of hq,hz]) (λk _ hk=>by rw [act?_old hk];exact hn k),(heard_old hp).2 h2,
  ⟨z.g,by simp [Trace.g?],by rw [deaf_old (aJ _)];exact hd⟩⟩)
 exact ⟨t.size,z,hq,rfl,.inr ((h3.app #[z]).hb edge)⟩
theorem TI.acquire (h:TI γ t) {z:MemOp} {a:Addr} (hla:γ.lock=some a) (hz:z.act= .mark (.acquire a)) (hd:Deaf t z.g=0) (hl:γ.live z.g) {eu:Loc->Who} (hw:∀l,eu l=γ.who l∨(γ.who l= .lk∧eu l= .gP z.g)):
 TI { γ with who:=eu } (t++ #[z]):=by
 have hn:z.act.touch?=none:=by rw [hz];rfl
 have hb:TI γ (t++ #[z]):=h.still hn (by rw [hz];simp)
 have hsy:∀l,eu l= .sy↔γ.who l= .sy:=by
  intro l;rcases hw l with e|⟨e,e'⟩
  ·rw [e]
  ·rw [e,e'];simp
 refine ⟨λl g hl' i b hb' e=>?_, λl g hl' hlv=>?_, λi b op hs hb' hi=>hb.sy i b op ((hsy _).1 hs) hb' hi, λl i b hl' hb' e=>?_,hb.new, λi op hi hg hs=>hb.ho i op hi hg (Cn (γ:=γ) (γ':={ γ with who:=eu }) hsy hs),hb.nr,hb.nl⟩
 ·have hl':eu l= .gP g:=hl';rcases hw l with e'|⟨e',e''⟩
  ·rw [e'] at hl';exact hb.gP l g hl' i b hb' e
  ·rw [e''] at hl';cases hl';rcases h.lk l i b e' (oF hn hb') e with h1|h1
   ·exact (h1 z.g hl).app _
   ·rw [hla] at h1;exact I1 hz hd (h.nl a) h1
 ·have hl':eu l= .ro:=hl';rcases hw l with e'|⟨_,e''⟩
  ·rw [e'] at hl';exact hb.ro l g hl' hlv
  ·rw [e''] at hl';cases hl'
 ·have hl':eu l= .lk:=hl';rcases hw l with e'|⟨_,e''⟩
  ·rw [e'] at hl';exact hb.lk l i b hl' hb' e
  ·rw [e''] at hl';cases hl'
theorem TI.release (h:TI γ t) {y:MemOp} {a:Addr} (hla:γ.lock=some a) (hy:y.act= .mark (.releaseMerge a)) (hd:Deaf t y.g=0) {eu:Loc->Who} (hw:∀l,eu l=γ.who l∨(γ.who l= .gP y.g∧eu l= .lk)):
 TI { γ with who:=eu } (t++ #[y]):=by
 have hn:y.act.touch?=none:=by rw [hy];rfl
 have hb:TI γ (t++ #[y]):=h.still hn (by rw [hy];simp);have hq:(t++ #[y])[t.size]?=some y:=by simp
 have hsy:∀l,eu l= .sy↔γ.who l= .sy:=by
  intro l;rcases hw l with e|⟨e,e'⟩
  ·rw [e]
  ·rw [e,e'];simp
 refine ⟨λl g hl' i b hb' e=>?_, λl g hl' hlv=>?_, λi b op hs hb' hi=>hb.sy i b op ((hsy _).1 hs) hb' hi, λl i b hl' hb' e=>?_,hb.new, λi op hi hg hs=>hb.ho i op hi hg (Cn (γ:=γ) (γ':={ γ with who:=eu }) hsy hs),hb.nr,hb.nl⟩
 ·have hl':eu l= .gP g:=hl';rcases hw l with e'|⟨_,e''⟩
  ·rw [e'] at hl';exact hb.gP l g hl' i b hb' e
  ·rw [e''] at hl';cases hl'
 ·have hl':eu l= .ro:=hl';rcases hw l with e'|⟨_,e''⟩
  ·rw [e'] at hl';exact hb.ro l g hl' hlv
  ·rw [e''] at hl';cases hl'
 ·have hl':eu l= .lk:=hl';rcases hw l with e'|⟨e',e''⟩
  ·rw [e'] at hl';exact hb.lk l i b hl' hb' e
  ·refine .inr ⟨a,hla,t.size,by rw [act?_of hq,hy],⟨y.g,by simp [Trace.g?],by rw [deaf_old (aJ _)];exact hd⟩,.inr ?_⟩;exact (h.gP l y.g e' i b (oF hn hb') e).hb_new (aJ _) hq rfl
theorem TI.done (h:TI γ t) {y:MemOp} {a:Addr} (hla:γ.wg=some a) (hy:y.act= .mark (.releaseMerge a)) (hd:Deaf t y.g=0) {eu:Loc->Who} (hw:∀l,eu l≠ .gP y.g∧(eu l=γ.who l∨(γ.who l= .gP y.g∧eu l= .dn))):
 TI { γ with who:=eu,act:= λg=>γ.act g∧g≠y.g } (t++ #[y]):=by
 have hn:y.act.touch?=none:=by rw [hy];rfl
 have hb:TI γ (t++ #[y]):=h.still hn (by rw [hy];simp);have hq:(t++ #[y])[t.size]?=some y:=by simp
 have hrel:∀i,Before (t++ #[y]) i t.size->LM γ.wg (t++ #[y]) i:= λi hi=>⟨a,hla,t.size,by rw [act?_of hq,hy],⟨y.g,by simp [Trace.g?],by rw [deaf_old (aJ _)];exact hd⟩,hi⟩
 have hsy:∀l,eu l= .sy↔γ.who l= .sy:=by
  intro l;rcases (hw l).2 with e|⟨e,e'⟩
  ·rw [e]
  ·rw [e,e'];simp
 refine ⟨λl g hl' i b hb' e=>?_, λl g hl' hlv=>?_, λi b op hs hb' hi=>hb.sy i b op ((hsy _).1 hs) hb' hi, λl i b hl' hb' e=>?_,hb.new, λi op hi hg hs=>?_,hb.nr,hb.nl⟩
 ·have hl':eu l= .gP g:=hl';rcases (hw l).2 with e'|⟨_,e''⟩
  ·rw [e'] at hl';exact hb.gP l g hl' i b hb' e
  ·rw [e''] at hl';cases hl'
 ·have hl':eu l= .ro:=hl';rcases (hw l).2 with e'|⟨_,e''⟩
  ·rw [e'] at hl';exact hb.ro l g hl' hlv
  ·rw [e''] at hl';cases hl'
 ·have hl':eu l= .lk:=hl';rcases (hw l).2 with e'|⟨e',e''⟩
  ·rw [e'] at hl';exact hb.lk l i b hl' hb' e
  ·rw [e''] at hl';cases hl'
 ·rcases hb.ho i op hi hg (Cn (γ:=γ) (γ':={ γ with who:=eu,act:= λg=>γ.act g∧g≠y.g }) hsy hs) with h1|h1
  ·by_cases he:op.g=y.g
   ·refine .inr (.inr (hrel i ?_))
    have hle:i<=t.size:=by
     have :=lt_size_of_getElem? hi;simp at this;omega
    rcases bu i t.size with hlt|hge
    ·exact .inr (hb_po hlt hi hq he)
    ·exact .inl (by omega)
   ·exact .inl ⟨h1,he⟩
  ·exact .inr h1
theorem TI.join (h:TI γ t) {z:MemOp} {a:Addr} (hla:γ.wg=some a) (hz:z.act= .mark (.acquire a)) (hg:z.g=0) (hd:Deaf t 0=0) (hno:∀g,g≠0->¬γ.act g) {eu:Loc->Who} (hw:∀l,(eu l=γ.who l∧(γ.who l= .sy∨γ.who l= .fr))∨(γ.who l≠ .sy∧eu l= .gP 0)):
 TI { γ with who:=eu,wg:=none,lock:=none } (t++ #[z])∧∀i op,(t++ #[z])[i]?=some op->op.g≠0->Says γ (t++ #[z]) i->Knows (t++ #[z]) 0 i:=by
 have hn:z.act.touch?=none:=by rw [hz];rfl
 have hb:TI γ (t++ #[z]):=h.still hn (by rw [hz];simp)
 have hsy:∀l,eu l= .sy↔γ.who l= .sy:=by
  intro l;rcases hw l with ⟨e,_⟩|⟨e,e'⟩
  ·rw [e]
  ·rw [e'];simp [e]
 have hkn:∀i op,(t++ #[z])[i]?=some op->op.g≠0->Says γ (t++ #[z]) i->Knows (t++ #[z]) 0 i:=by
  intro i op hi hg0 hs;rcases getElem?_append_cases hi with ⟨hlt,hi'⟩|⟨_,hiu⟩
  ·rcases h.ho i op hi' hg0 (hs.old hlt) with h1|h1|h1
   ·exact absurd h1 (hno _ hg0)
   ·exact h1.app _
   ·rw [hla] at h1;have :=I1 hz (by rw [hg];exact hd) (h.nl a) h1
    rwa [hg] at this
  ·simp at hiu;subst hiu;exact absurd hg hg0
 have all:∀l,γ.who l≠ .sy->Perm (t++ #[z]) 0 l:=by
  intro l hl i x hx e;obtain ⟨op,hop,az7⟩:=touch_of hx
  by_cases hg0:op.g=0
  ·have :=knows_own hop
   rwa [hg0] at this
  ·exact hkn i op hop hg0 (.inr ⟨x,hx,by rw [e];exact hl⟩)
 refine ⟨⟨λl g hl'=>?_, λl g hl'=>?_, λi b op hs hb' hi=>hb.sy i b op ((hsy _).1 hs) hb' hi, λl i b hl'=>?_,hb.new, λi op hi hg' hs=>.inr (.inl (hkn i op hi hg' (Cn (γ:=γ) (γ':={ γ with who:=eu,wg:=none,lock:=none }) hsy hs))),hb.nr,hb.nl⟩,hkn⟩
 ·have hl':eu l= .gP g:=hl';rcases hw l with ⟨e',e|e⟩|⟨e,e'⟩
  ·rw [e',e] at hl';cases hl'
  ·rw [e',e] at hl';cases hl'
  ·rw [e'] at hl';cases hl';exact all l e
 ·have hl':eu l= .ro:=hl';rcases hw l with ⟨e',e|e⟩|⟨_,e'⟩
  ·rw [e',e] at hl';cases hl'
  ·rw [e',e] at hl';cases hl'
  ·rw [e'] at hl';cases hl'
 ·have hl':eu l= .lk:=hl';rcases hw l with ⟨e',e|e⟩|⟨_,e'⟩
  ·rw [e',e] at hl';cases hl'
  ·rw [e',e] at hl';cases hl'
  ·rw [e'] at hl';cases hl'
theorem handed (h:∀i op,t[i]?=some op->op.g≠0->t.counts i->Knows t 0 i):t.HandedOver:=by
 intro i g hgi hne hc;obtain ⟨op,hop,hg⟩:=Option.map_eq_some_iff.1 hgi;obtain ⟨q,z,h1,h2,h3⟩:=h i op hop (by rw [hg];exact hne) hc;refine ⟨q,by simp [Trace.g?,h1,h2],?_⟩;rcases h3 with rfl|h3
 ·rw [hop] at h1;cases h1;exact absurd (hg.symm.trans h2) hne
 ·exact h3
end
end
end Par
namespace Par
open Go Go.Conc Go.ConcM
section
inductive pF {α:Type} (r:α->α->Prop):List α->List α->Prop
 |head {a b:α} {l:List α} (h:r a b):pF r (a::l) (b::l)
 |tail {a:α} {l k:List α} (h:pF r l k):pF r (a::l) (a::k)
theorem pF.Uf {α:Type} {r:α->α->Prop} {a:α} (ha:Acc r a):∀{l:List α},Acc (pF r) l->Acc (pF r) (a::l):=by
 induction ha with
 |intro a _ iha=>
  intro l hl
  induction hl with
  |intro _ hl ihl=>
   refine .intro _ λy hy=>?_
   cases hy with
   |head h=>exact iha _ h (.intro _ hl)
   |tail h=>exact ihl _ h
theorem pF.acc {α:Type} {r:α->α->Prop}:∀{l:List α},(∀a∈l,Acc r a)->Acc (pF r) l
 | [],_=>.intro _ λy hy=>by cases hy
 |a::l,h=>pF.Uf (h a (aQ ..)) (pF.acc λb hb=>h b (aR _ hb))
theorem pF.wf {α:Type} {r:α->α->Prop} (h:WellFounded r):WellFounded (pF r):=⟨λl=>pF.acc λa _=>h.apply a⟩
theorem pF.Ug {α:Type} {r:α->α->Prop}:∀{l:List α} {i:Nat} {a b:α},l[i]?=some b->r a b->pF r (l.set i a) l
 |_::_,0,a,b,h,hr=>by
  simp at h;subst h;exact .head hr
 |x::l,i+1,a,b,h,hr=>by
  simp at h;exact .tail (pF.Ug h hr)
 | [],i,a,b,h,_=>by simp at h
inductive Tr where
 |leaf
 |node (f:World->Tr)
def Tr.Sub (x y:Tr):Prop:=∃(f:World->Tr) (W:World),y= .node f∧x=f W
theorem Tr.wf:WellFounded Tr.Sub:=by
 refine ⟨λt=>?_⟩
 induction t with
 |leaf=>exact .intro _ λy ⟨f,W,h,_⟩=>by cases h
 |node f ih=>
  refine .intro _ λy ⟨f',W,h,hy⟩=>?_
  cases h;rw [hy];exact ih W
def Gr (P:Program) (main:Bool) (Z:gB) (Stop:(Nat->Prop)->Goroutine->World->Prop):Tr->(Nat->Prop)->Goroutine->World->Prop
 | .leaf,own,g,W=>∀W1,dZ Z own W W1->Stop own g W1
 | .node f,own,g,W=>g.status= .running∧∀W1,dZ Z own W W1->∃g' W' es,stepG P main g W1= .go g' W' es∧vX Z own W1 W'∧(∀e∈es,QB Z (grow own W1 W') e)∧Gr P main Z Stop (f W1) (grow own W1 W') g' W'
section
variable {P:Program} {main:Bool} {Z:gB} {Stop:(Nat->Prop)->Goroutine->World->Prop} {own:Nat->Prop} {g:Goroutine} {W:World}
theorem Gw.rank (h:Gw P main Z Stop own g W):∃tr,Gr P main Z Stop tr own g W:=by
 classical
 induction h with
 |stop h=>exact ⟨.leaf,h⟩
 | @step own g W hs g' W' es h1 h2 h3 _ ih=>
   refine ⟨.node λW1=>if hr:dZ Z own W W1 then (ih W1 hr).choose else .leaf,hs, λW1 hr=>⟨g' W1,W' W1,es W1,h1 W1 hr,h2 W1 hr,h3 W1 hr,?_⟩⟩;dsimp only;rw [dif_pos hr];exact (ih W1 hr).choose_spec
theorem Gr.rely {tr:Tr} {W1:World} (h:Gr P main Z Stop tr own g W) (hr:dZ Z own W W1):Gr P main Z Stop tr own g W1:=by
 cases tr with
 |leaf=>exact λW2 h2=>h W2 (hr.trans h2)
 |node f=>exact ⟨h.1, λW2 h2=>h.2 W2 (hr.trans h2)⟩
end
theorem vX.rely {Z Z':gB} {own dL:Nat->Prop} {W W1:World} (h:vX Z own W W1) (hlt:∀b,dL b->b<W.heap.size) (ho:∀b,dL b->¬own b∧¬Z.sy b) (au3:∀b,Z'.ro b->b<W.heap.size) (hr:∀b,Z'.ro b->¬own b∧¬Z.sy b)
 (hs:∀b,Z'.sy b->Z.sy b∨(b<W.heap.size∧¬own b)) (hc:∀b i,Z'.cl b i->(Z.sy b∧¬Z.cl b i)∨(b<W.heap.size∧¬own b∧¬Z.sy b)):dZ Z' dL W W1:=by
 refine ⟨h.tape,h.out,by rw [h.os];exact OsLater.refl _,h.size, λb hb=>h.rest b (hlt b hb) (ho b hb).1 (ho b hb).2, λb hb=>h.rest b (au3 b hb) (hr b hb).1 (hr b hb).2, λb hb=>?_, λb i hb=>?_⟩
 ·by_cases hz:Z.sy b
  ·exact (h.sy b hz).1
  ·rcases hs b hb with x|⟨x,y⟩
   ·exact absurd x hz
   ·rw [h.rest b x y hz];exact yE.refl _
 ·rcases hc b i hb with ⟨x,y⟩|⟨x,y,z⟩
  ·exact (h.sy b x).2 i y
  ·unfold World.cell?;simp only [h.rest b x y z]
end
end Par
namespace Par
open Go Go.Conc Go.ConcM Go.ConcN
section
inductive Kind where
 |atomic|disable|enable|clock|said|sem|uO|uP|done|join
structure Sys (T Sh:Type) where
 Ey:Sh->World->Prop
 syn:Nat->Prop
 gq:Sh->Option Addr
 nW:Sh->Option Addr
 mv:Nat->T->Sh->T->Sh->Prop
 sp:T->Sh->T->T->Sh->Prop
 blk:T->Sh->Prop
 wakes:T->Bool
 kind:T->Kind
 fork:T->Bool
 ret:T->Bool
 quit:T->Bool
 deaf:T->Nat
 past:T->Bool
 Z:Nat->T->gB
 J:Sh->(Nat->Prop)->World->Prop
 Dp:Sh->(Nat->Prop)->(Nat->Nat->Prop)->World->Prop
 fits:Nat->T->Sh->Prop
 Anch:T->(Nat->Prop)->Goroutine->World->Prop
section
variable {T Sh:Type} (P:Program) (S:Sys T Sh)
structure eH (W W':World):Prop where
 tape:W'.tape=W.tape
 out:W'.output=W.output
 os:OsLater W.os W'.os
 size:W'.heap.size=W.heap.size
 rest:∀b,¬S.syn b->W'.heap[b]?=W.heap[b]?
 yE:∀b,S.syn b->yE W.heap[b]? W'.heap[b]?
def RZ (s:Sh):Kind->Array Event->Prop
 | .atomic,es=>∀e∈es,∃a,e.loc= .cell a∧e.sync=true∧S.syn a.block
 | .disable,es=>es= #[⟨.mark .disable,false,true⟩]
 | .enable,es=>es= #[⟨.mark .enable,false,true⟩]
 | .clock,es=>∀e∈es,e.loc= .output
 | .said,es=>∃a,S.syn a.block∧(es= #[⟨.mark (.read a),false,true⟩]∨es= #[⟨.mark (.write a),false,true⟩])
 | .sem,es=>∃a,S.syn a.block∧es= #[⟨.mark .disable,false,true⟩,⟨.cell a,false,true⟩,⟨.cell a,true,true⟩,⟨.mark .enable,false,true⟩]
 | .uO,es=>∃a,S.gq s=some a∧es= #[⟨.mark (.acquire a),false,true⟩]
 | .uP,es=>∃a,S.gq s=some a∧es= #[⟨.mark (.releaseMerge a),false,true⟩]
 | .done,es=>∃a,S.nW s=some a∧es= #[⟨.mark (.releaseMerge a),false,true⟩]
 | .join,es=>∃a,S.nW s=some a∧es= #[⟨.mark (.acquire a),false,true⟩]
abbrev lW (T:Type):=Nat->T->(Nat->Prop)->Goroutine->World->Prop
def On (X:lW T) (i:Nat) (Tt:T) (own:Nat->Prop) (g:Goroutine) (W:World):Prop:=
 if S.quit Tt then ∃q,QuitsD P q (S.deaf Tt) g else Gw P (i==0) (S.Z i Tt) (X i Tt) own g W
def tL (X:lW T) (i:Nat) (Tt:T) (own:Nat->Prop) (g:Goroutine) (W:World):Prop:=
 g.status= .running∧((∃s,S.blk Tt s)->g.offers=none)∧∀s,S.Ey s W->S.fits i Tt s->
  if S.ret Tt then S.Anch Tt own g W
  else if S.fork Tt then
   ∃T' Tc s' g' child sw dL,S.sp Tt s T' Tc s'∧stepG P (i==0) g W= .spawn g' child W #[]∧S.Ey s' W∧(∀b,own b↔dL b∨sw b)∧(∀b,dL b->¬sw b)∧
    On P S X i T' dL g' W∧∀k,k≠0->On P S X k Tc sw child W
  else
   (S.blk Tt s∧stepG P (i==0) g W= .go { g with status:=.blocked } W #[])∨
   (¬S.blk Tt s∧∃T' s' g' W' es,S.mv i Tt s T' s'∧stepG P (i==0) g W= .go g' W' es∧(S.wakes Tt=true->mayWake P g=true)∧S.Ey s' W'∧eH S W W'∧RZ S s (S.kind Tt) es∧
     match S.kind Tt with
     | .uO=>∀G,(∀b,G b->¬own b)->S.J s G W'->On P S X i T' (λb=>own b∨G b) g' W'
     | .uP=>∃G,(∀b,G b->own b)∧S.J s' G W'∧On P S X i T' (λb=>own b∧¬G b) g' W'
     | .done=>(∀D Dc,S.Dp s D Dc W'->S.Dp s' (λb=>D b∨own b) (λb k=>Dc b k∨(S.Z i Tt).cl b k) W')∧On P S X i T' (λ_=>False) g' W'
     | .join=>∀G D Dc dL,S.J s G W'->S.Dp s D Dc W'->(∀b,dL b->b<W'.heap.size∧¬S.syn b)->(∀b,own b->dL b)->(∀b,G b->dL b)->(∀b,D b->dL b)->On P S X i T' dL g' W'
     |_=>On P S X i T' own g' W')
def At (i:Nat) (Tt:T) (own:Nat->Prop) (g:Goroutine) (W:World):Prop:=
 ∃X:lW T,(∀i Tt own g W,X i Tt own g W->tL P S X i Tt own g W)∧X i Tt own g W
end
section
variable {T Sh:Type} {P:Program} {S:Sys T Sh}
theorem Gw.mono {main:Bool} {Z:gB} {X Y:(Nat->Prop)->Goroutine->World->Prop} (h:∀own g W,X own g W->Y own g W) {own:Nat->Prop} {g:Goroutine} {W:World} (hg:Gw P main Z X own g W):Gw P main Z Y own g W:=
 hg.bind λ_ _ _ hs=>.stop λW1 hr=>h _ _ _ (hs W1 hr)
theorem On.mono {X Y:lW T} (h:∀i Tt own g W,X i Tt own g W->Y i Tt own g W) {i:Nat} {Tt:T} {own:Nat->Prop} {g:Goroutine} {W:World} (ho:On P S X i Tt own g W):On P S Y i Tt own g W:=by
 unfold On at ho ⊢;split
 ·rename_i hq;rw [aj hq] at ho;exact ho
 ·rename_i hq;rw [aa hq] at ho;exact Gw.mono (h i Tt) ho
theorem tL.mono {X Y:lW T} (h:∀i Tt own g W,X i Tt own g W->Y i Tt own g W) {i:Nat} {Tt:T} {own:Nat->Prop} {g:Goroutine} {W:World} (hl:tL P S X i Tt own g W):tL P S Y i Tt own g W:=by
 obtain ⟨h1,h2,h3⟩:=hl;refine ⟨h1,h2, λs hs hf=>?_⟩;have h4:=h3 s hs hf;have on:∀{i Tt own g W},On P S X i Tt own g W->On P S Y i Tt own g W:= λx=>On.mono h x
 by_cases hr:S.ret Tt=true
 ·rw [aj hr] at h4 ⊢;exact h4
 ·rw [aa hr] at h4 ⊢
  by_cases hk:S.fork Tt=true
  ·rw [aj hk] at h4 ⊢;obtain ⟨T',Tc,s',g',child,sw,dL,a1,a2,a3,a4,a5,a6,a7⟩:=h4;exact ⟨T',Tc,s',g',child,sw,dL,a1,a2,a3,a4,a5,on a6, λk hk=>on (a7 k hk)⟩
  ·rw [aa hk] at h4 ⊢;rcases h4 with h4|⟨hb,T',s',g',W',es,a1,a2,a3,a4,a5,a6,a7⟩
   ·exact .inl h4
   ·refine .inr ⟨hb,T',s',g',W',es,a1,a2,a3,a4,a5,a6,?_⟩;cases hkd:S.kind Tt<;>rw [hkd] at a7<;>dsimp only at a7 ⊢
    case uO=>exact λG hG hJ=>on (a7 G hG hJ)
    case uP=>obtain ⟨G,b1,b2,b3⟩:=a7;exact ⟨G,b1,b2,on b3⟩
    case done=>exact ⟨a7.1,on a7.2⟩
    case join=>exact λG D Dc dL b1 b2 b3 b4 b5 b6=>on (a7 G D Dc dL b1 b2 b3 b4 b5 b6)
    all_goals exact on a7
theorem At.law {i:Nat} {Tt:T} {own:Nat->Prop} {g:Goroutine} {W:World} (h:At P S i Tt own g W):tL P S (At P S) i Tt own g W:=by
 obtain ⟨X,hX,hx⟩:=h;exact tL.mono (λi Tt own g W hx=>⟨X,hX,hx⟩) (hX _ _ _ _ _ hx)
theorem At.intro {X:lW T} (hX:∀i Tt own g W,X i Tt own g W->tL P S (λi Tt own g W=>X i Tt own g W∨At P S i Tt own g W) i Tt own g W) {i:Nat} {Tt:T} {own:Nat->Prop} {g:Goroutine} {W:World} (h:X i Tt own g W):At P S i Tt own g W:=by
 refine ⟨λi Tt own g W=>X i Tt own g W∨At P S i Tt own g W, λi Tt own g W hx=>?_,.inl h⟩;rcases hx with hx|hx
 ·exact hX _ _ _ _ _ hx
 ·exact tL.mono (λ_ _ _ _ _ x=>.inr x) hx.law
end
end
section
structure gJ (γ:Gh) (n:Nat) (i:Nat) (Z:gB) (own:Nat->Prop):Prop where
 own:∀b,own b->b<n∧∀l,fQ l->lb l=b->γ.who l= .gP i
 cl:∀b k,Z.cl b k->Z.sy b∧γ.who (.obj b)= .pt∧∀a:Addr,a.block=b->a.off=k->γ.who (.cell a)= .gP i
 ro:∀b,Z.ro b->b<n∧∀l,fQ l->lb l=b->γ.who l= .ro
 sy:∀b,Z.sy b->b<n∧(γ.who (.obj b)= .sy∨γ.who (.obj b)= .pt)
section
variable {γ:Gh} {n:Nat} {i j:Nat} {Z Z':gB} {own dL:Nat->Prop} {W W1:World}
theorem gJ.nX (h:gJ γ n i Z own) {b:Nat} (hb:own b):γ.who (.obj b)= .gP i:=(h.own b hb).2 _ trivial rfl
theorem gJ.Uh (h:gJ γ n i Z own) {b:Nat} (hb:Z.ro b):γ.who (.obj b)= .ro:=(h.ro b hb).2 _ trivial rfl
theorem gJ.rely (h:gJ γ W.heap.size i Z own) (k:gJ γ W.heap.size j Z' dL) (hij:i≠j) (hg:vX Z own W W1):dZ Z' dL W W1:=by
 refine hg.rely (λb hb=>(k.own b hb).1) (λb hb=>⟨λhb'=>?_, λhb'=>?_⟩) (λb hb=>(k.ro b hb).1) (λb hb=>⟨λhb'=>?_, λhb'=>?_⟩) (λb hb=>?_) λb c hb=>?_
 ·have :=(h.nX hb').symm.trans (k.nX hb);exact hij (Who.gP.inj this)
 ·rcases (h.sy b hb').2 with e|e<;>(have :=e.symm.trans (k.nX hb);cases this)
 ·have :=(h.nX hb').symm.trans (k.Uh hb);cases this
 ·rcases (h.sy b hb').2 with e|e<;>(have :=e.symm.trans (k.Uh hb);cases this)
 ·refine .inr ⟨(k.sy b hb).1, λhb'=>?_⟩;rcases (k.sy b hb).2 with e|e<;>(have :=(h.nX hb').symm.trans e;cases this)
 ·obtain ⟨h1,_,h2⟩:=k.cl b c hb
  by_cases hz:Z.sy b
  ·refine .inl ⟨hz, λhb'=>?_⟩;have :=((h.cl b c hb').2.2 ⟨b,c,none⟩ rfl rfl).symm.trans (h2 ⟨b,c,none⟩ rfl rfl);exact hij (Who.gP.inj this)
  ·refine .inr ⟨(k.sy b h1).1, λhb'=>?_,hz⟩;rcases (k.sy b h1).2 with e|e<;>(have :=(h.nX hb').symm.trans e;cases this)
open Classical in
noncomputable def grown (γ:Gh) (i:Nat) (n':Nat):Gh:={ γ with B:=n',who:= λl=>if fQ l∧γ.B<=lb l then .gP i else γ.who l }
theorem jw {i n':Nat} {l:Loc} (h:fQ l->lb l<γ.B):(grown γ i n').who l=γ.who l:=by
 unfold grown;dsimp only;rw [aa];rintro ⟨h1,h2⟩;have :=h h1;omega
theorem Dw {i n':Nat} {l:Loc} (h1:fQ l) (h2:γ.B<=lb l):(grown γ i n').who l= .gP i:=by
 unfold grown;dsimp only;rw [aj ⟨h1,h2⟩]
theorem gJ.keep (h:gJ γ γ.B j Z' dL) {i n':Nat} (hn:γ.B<=n'):gJ (grown γ i n') n' j Z' dL:=by
 refine ⟨λb hb=>⟨aK (h.own b hb).1 hn, λl hl e=>?_⟩, λb c hb=>⟨(h.cl b c hb).1,?_, λa e1 e2=>?_⟩, λb hb=>⟨aK (h.ro b hb).1 hn, λl hl e=>?_⟩, λb hb=>⟨aK (h.sy b hb).1 hn,?_⟩⟩
 ·rw [jw λ_=>by rw [e];exact (h.own b hb).1];exact (h.own b hb).2 l hl e
 ·rw [jw (l:=.obj b) λ_=>(h.sy b (h.cl b c hb).1).1];exact (h.cl b c hb).2.1
 ·have hs:=(h.sy b (h.cl b c hb).1).1;rw [jw λ_=>by show a.block<γ.B;rw [e1];exact hs];exact (h.cl b c hb).2.2 a e1 e2
 ·rw [jw λ_=>by rw [e];exact (h.ro b hb).1];exact (h.ro b hb).2 l hl e
 ·rw [jw (l:=.obj b) λ_=>(h.sy b hb).1];exact (h.sy b hb).2
theorem gJ.grow (h:gJ γ W.heap.size i Z own) (hB:γ.B=W.heap.size) (hn:W.heap.size<=W1.heap.size):gJ (grown γ i W1.heap.size) W1.heap.size i Z (grow own W W1):=by
 have hk:=gJ.keep (i:=i) (n':=W1.heap.size) (by rw [hB];exact h) (by omega);refine ⟨λb hb=>?_,hk.cl,hk.ro,hk.sy⟩;rcases hb with hb|⟨h1,h2⟩
 ·exact hk.own b hb
 ·exact ⟨h2, λl hl e=>Dw hl (by omega)⟩
theorem TI.private {t:Trace} (h:TI γ t) (hr:gJ γ W.heap.size i Z own) (hB:γ.B=W.heap.size) (hn:W.heap.size<=W1.heap.size) (hl:γ.live i) (ha:(i=0∨γ.act i)∨Z.mute) {es:Array Event} (he:∀e∈es,QB Z (Par.grow own W W1) e) (fn:FuncId) (pos:String):TI (grown γ i W1.heap.size) (t++MemOp.ofEvents i fn pos es):=by
 by_cases hmt:Z.mute
 ·have hes:es= #[]:=by
   apply Array.eq_empty_of_size_eq_zero;apply bq;intro hne;have hp:0<es.size:=by omega
   exact (he es[0] (Array.getElem_mem hp)).1 hmt
  subst hes;have e:MemOp.ofEvents i fn pos #[]= #[]:=rfl;rw [e,Array.append_empty];have h1:TI { γ with who:=(grown γ i W1.heap.size).who } t:=h.Pf λl hl=>jw hl
  refine ⟨h1.gP,h1.ro,h1.sy,h1.lk, λj x hx hm=>?_,h1.ho,h1.nr,h1.nl⟩;have :=h1.new j x hx hm;show _<W1.heap.size;have hlt:lb x.loc<γ.B:=this;omega
 replace ha:=ha.resolve_right hmt;have hR:=hr.grow hB hn;have h1:TI { γ with who:=(grown γ i W1.heap.size).who } t:=h.Pf λl hl=>jw hl
 refine TI.app (γ:={ γ with who:=(grown γ i W1.heap.size).who }) (B':=W1.heap.size) h1 (by show γ.B<=_;omega) hl (λop hop=>?_) (λop hop x hx=>?_) ha (λop hop a e=>?_)
 ·obtain ⟨e,_,rfl⟩:=mem_ofEvents hop;rfl
 ·obtain ⟨e,hem,rfl⟩:=mem_ofEvents hop;have hev:=(he e hem).2;obtain ⟨loc,wr,sy⟩:=e;cases loc with
  |cell a=>
   obtain ⟨hs,hor⟩:=hev;have hs:sy=false:=hs;subst hs
   have hx':x=⟨.cell a,wr,.plain⟩:=by
    have :(MemAct.ofEvent ⟨.cell a,wr,false⟩).touch?=some ⟨.cell a,wr,.plain⟩:=by cases wr<;>rfl
    rw [this] at hx;exact (aU hx).symm
   subst hx';rcases hor with hor|⟨hor,hw⟩|hor
   ·exact ⟨.inl ((hR.own _ hor).2 _ trivial rfl), λ_=>(hR.own _ hor).1⟩
   ·exact ⟨.inr (.inl ⟨(hR.ro _ hor).2 _ trivial rfl,hw⟩), λ_=>(hR.ro _ hor).1⟩
   ·exact ⟨.inl ((hR.cl _ _ hor).2.2 a rfl rfl), λ_=>(hR.sy _ (hR.cl _ _ hor).1).1⟩
  |obj r=>
   obtain ⟨hs,hor⟩:=hev;have hs:sy=false:=hs;subst hs
   have hx':x=⟨.obj r,wr,.plain⟩:=by
    have :(MemAct.ofEvent ⟨.obj r,wr,false⟩).touch?=some ⟨.obj r,wr,.plain⟩:=by cases wr<;>rfl
    rw [this] at hx;exact (aU hx).symm
   subst hx';exact ⟨.inl (hR.nX hor), λ_=>(hR.own _ hor).1⟩
  |mark m=>
   have hm:m= .noRoom:=hev;subst hm;exfalso;have :(MemAct.ofEvent ⟨.mark .noRoom,wr,sy⟩).touch?=none:=by cases wr<;>cases sy<;>rfl
   rw [this] at hx;cases hx
  |output=>exact hev.elim
  |goroutines=>exact hev.elim
 ·obtain ⟨e',hem,rfl⟩:=mem_ofEvents hop;have hev:=(he e' hem).2;obtain ⟨loc,wr,sy⟩:=e';cases loc with
  |mark m=>
   have hm:m= .noRoom:=hev;subst hm;have :MemAct.ofEvent ⟨.mark .noRoom,wr,sy⟩= .mark .noRoom:=by cases wr<;>cases sy<;>rfl
   have e:MemAct.ofEvent ⟨.mark .noRoom,wr,sy⟩= .mark (.release a):=e;rw [this] at e;cases e
  |cell _=>
   have e:MemAct.ofEvent ⟨.cell _,wr,sy⟩= .mark (.release a):=e;cases wr<;>cases sy<;>cases e
  |obj _=>
   have e:MemAct.ofEvent ⟨.obj _,wr,sy⟩= .mark (.release a):=e;cases wr<;>cases sy<;>cases e
  |output=>exact hev.elim
  |goroutines=>exact hev.elim
end
end
section
structure Ui (T:Type) where
 Tt:T
 own:Nat->Prop
 g:Goroutine
 W:World
 tr:Tr
inductive TS (T:Type) where
 |gP (x:Ui T)
 |lv (k d:Nat)
def TS.stop? {T:Type}:TS T->Option T
 | .gP x=>some x.Tt
 | .lv _ _=>none
def stops {T:Type} (θ:Nat->TS T):Nat->Option T:= λi=>(θ i).stop?
def upd {α:Type} (f:Nat->α) (i:Nat) (a:α):Nat->α:= λj=>if j=i then a else f j
@[simp] theorem upd_same {α:Type} (f:Nat->α) (i:Nat) (a:α):upd f i a i=a:=aj rfl
theorem upd_ne {α:Type} {f:Nat->α} {i j:Nat} {a:α} (h:j≠i):upd f i a j=f j:=aa h
def Kind.plain:Kind->Bool
 | .atomic| .disable| .enable| .clock| .said| .sem=>true
 |_=>false
def Kind.jG (d:Nat):Kind->Nat
 | .disable=>d+1
 | .enable=>d - 1
 |_=>d
structure Same {T Sh:Type} (S:Sys T Sh) (free:Sh->Prop) (s s':Sh):Prop where
 gq:S.gq s'=S.gq s
 nW:S.nW s'=S.nW s
 free:free s'↔free s
 J:∀G w,S.J s G w->S.J s' G w
 Dp:∀D Dc w,S.Dp s D Dc w->S.Dp s' D Dc w
structure uQ {T Sh ρ:Type} (S:Sys T Sh) (AI:Nat->(Nat->Option T)->Sh->Prop) (free:Sh->Prop) (rk:Nat->(Nat->Option T)->Sh->ρ) (lt:ρ->ρ->Prop):Prop where
 wf:WellFounded lt
 fits:∀{n φ s i Tt},AI n φ s->i<n->φ i=some Tt->S.fits i Tt s∧S.quit Tt=false∧(S.fork Tt=true->i=0)∧(S.ret Tt=true->i=0)
 move:∀{n φ s i Tt T' s'},AI n φ s->i<n->φ i=some Tt->S.fork Tt=false->S.ret Tt=false->¬S.blk Tt s->S.mv i Tt s T' s'->
  AI n (upd φ i (if S.quit T' then none else some T')) s'∧lt (rk n (upd φ i (if S.quit T' then none else some T')) s') (rk n φ s)
 spawn:∀{n φ s Tt T' Tc s'},AI n φ s->φ 0=some Tt->S.fork Tt=true->S.sp Tt s T' Tc s'->
  AI (n+1) (upd (upd φ 0 (some T')) n (some Tc)) s'∧lt (rk (n+1) (upd (upd φ 0 (some T')) n (some Tc)) s') (rk n φ s)
 NS:∀{n φ s Tt T' Tc s'},AI n φ s->φ 0=some Tt->S.fork Tt=true->S.sp Tt s T' Tc s'->
  Same S free s s'∧S.nW s≠none∧S.deaf Tt=0∧S.deaf T'=0∧S.deaf Tc=0∧S.past Tc=false∧S.quit T'=false∧S.quit Tc=false∧
  (∀b,(S.Z 0 T').ro b->(S.Z 0 Tt).ro b)∧(∀b,(S.Z 0 T').sy b->(S.Z 0 Tt).sy b)∧(∀b,(S.Z n Tc).ro b->(S.Z 0 Tt).ro b)∧(∀b,(S.Z n Tc).sy b->(S.Z 0 Tt).sy b)∧
  (∀b k,(S.Z 0 T').cl b k->(S.Z 0 T').sy b∧(S.Z 0 Tt).cl b k)∧(∀b k,(S.Z n Tc).cl b k->(S.Z n Tc).sy b∧(S.Z 0 Tt).cl b k∧¬(S.Z 0 T').cl b k)
 stay:∀{n φ s i Tt T' s'},AI n φ s->i<n->φ i=some Tt->¬S.blk Tt s->S.wakes Tt=false->(S.mv i Tt s T' s'∨∃Tc,S.sp Tt s T' Tc s')->∀j Tj,j<n->j≠i->φ j=some Tj->S.blk Tj s->S.blk Tj s'
 Co:∀Tt,S.fork Tt=true->S.wakes Tt=false∧∀s,¬S.blk Tt s
 jG:∀{n φ s i Tt T' s'},AI n φ s->i<n->φ i=some Tt->S.mv i Tt s T' s'->S.deaf T'=Kind.jG (S.deaf Tt) (S.kind Tt)
 plain:∀{n φ s i Tt T' s'},AI n φ s->i<n->φ i=some Tt->S.mv i Tt s T' s'->(S.kind Tt).plain=true->Same S free s s'∧S.Z i T'=S.Z i Tt∧S.past T'=S.past Tt
 uO:∀{n φ s i Tt T' s'},AI n φ s->i<n->φ i=some Tt->S.mv i Tt s T' s'->S.kind Tt= .uO->
  free s∧¬free s'∧S.gq s'=S.gq s∧S.nW s'=S.nW s∧S.nW s≠none∧S.deaf Tt=0∧(∀D Dc w,S.Dp s D Dc w->S.Dp s' D Dc w)∧S.Z i T'=S.Z i Tt∧S.past T'=S.past Tt∧S.quit T'=false
 uP:∀{n φ s i Tt T' s'},AI n φ s->i<n->φ i=some Tt->S.mv i Tt s T' s'->S.kind Tt= .uP->
  ¬free s∧S.gq s'=S.gq s∧S.nW s'=S.nW s∧S.nW s≠none∧S.deaf Tt=0∧(∀D Dc w,S.Dp s D Dc w->S.Dp s' D Dc w)∧S.Z i T'=S.Z i Tt∧S.past T'=S.past Tt∧S.quit T'=false
 done:∀{n φ s i Tt T' s'},AI n φ s->i<n->φ i=some Tt->S.mv i Tt s T' s'->S.kind Tt= .done->
  i≠0∧S.past Tt=false∧S.past T'=true∧S.deaf Tt=0∧S.gq s'=S.gq s∧S.nW s'=S.nW s∧S.nW s≠none∧(free s'↔free s)∧(∀G w,S.J s G w->S.J s' G w)∧
  (∀b,(S.Z i T').ro b->(S.Z i Tt).ro b)∧(∀b,(S.Z i T').sy b->(S.Z i Tt).sy b)∧(∀b k,¬(S.Z i T').cl b k)∧S.quit T'=false
 join:∀{n φ s i Tt T' s'},AI n φ s->i<n->φ i=some Tt->S.mv i Tt s T' s'->S.kind Tt= .join->
  i=0∧free s∧S.deaf Tt=0∧(∀j,j<n->j≠0->φ j=none)∧S.gq s'=none∧S.nW s'=none∧¬free s'∧(∀w,S.Dp s' (λ_=>False) (λ_ _=>False) w)∧
  (∀b,¬(S.Z 0 T').ro b)∧(∀b,¬(S.Z 0 T').sy b)∧(∀b k,¬(S.Z 0 T').cl b k)∧S.quit T'=false
 joined:∀{n φ s},AI n φ s->S.nW s=none->∀j,j<n->j≠0->φ j=none
 quits:∀{n φ s i Tt T' s'},AI n φ s->i<n->φ i=some Tt->S.mv i Tt s T' s'->S.quit T'=true->S.past T'=true∧i≠0
 J3:∀{n φ s i Tt},AI n φ s->i<n->φ i=some Tt->(S.past Tt=true->i≠0∧(S.Z i Tt).mute∧S.kind Tt≠ .clock∧(S.kind Tt= .atomic->0<S.deaf Tt))∧(S.kind Tt= .said->i=0)
 alive:∀{n φ s},AI n φ s->∃i Tt,i<n∧φ i=some Tt∧¬S.blk Tt s
 NT:∀Tt s,S.ret Tt=true->¬S.blk Tt s
 I4:∀s w d,S.Ey s w->S.Ey s (w.at d)
 zH:∀s w w',S.Ey s w->(∀b,S.syn b->yE w.heap[b]? w'.heap[b]?∧∀k,w'.cell? ⟨b,k,none⟩=w.cell? ⟨b,k,none⟩)->S.Ey s w'
 zf:∀s G w w',S.J s G w->(∀b,G b->w'.heap[b]?=w.heap[b]?)->S.J s G w'
 Cq:∀s D Dc w w',S.Dp s D Dc w->(∀b,D b->w'.heap[b]?=w.heap[b]?)->(∀b i,Dc b i->w'.cell? ⟨b,i,none⟩=w.cell? ⟨b,i,none⟩)->S.Dp s D Dc w'
section
variable {T Sh:Type} (P:Program) (S:Sys T Sh) (AI:Nat->(Nat->Option T)->Sh->Prop) (free:Sh->Prop)
def One (w:World) (t:Trace) (s:Sh) (γ:Gh) (i:Nat) (g:Goroutine):TS T->Prop
 | .gP x=>(g=x.g∨(x.tr= .leaf∧S.blk x.Tt s∧g= { x.g with status:=.blocked }))∧Gr P (i==0) (S.Z i x.Tt) (At P S i x.Tt) x.tr x.own x.g x.W∧dZ (S.Z i x.Tt) x.own x.W w∧
     Deaf t i=S.deaf x.Tt∧γ.live i∧(i≠0->(γ.act i↔S.past x.Tt=false))∧gJ γ w.heap.size i (S.Z i x.Tt) x.own
 | .lv k d=>QuitsD P k d g∧Deaf t i=d∧i≠0∧¬γ.act i
structure MI (O:Nat->Prop) (gs:Array Goroutine) (w:World) (t:Trace) (θ:Nat->TS T) (s:Sh) (γ:Gh) (G D:Nat->Prop) (Dc:Nat->Nat->Prop):Prop where
 one:∀i g,gs[i]?=some g->One P S w t s γ i g (θ i)
 main:∃x,θ 0= .gP x
 pos:0<gs.size
 ai:AI gs.size (stops θ) s
 rep:S.Ey s w
 ti:TI γ t
 B:γ.B=w.heap.size
 nums:∀op∈t,op.g<gs.size
 syn:∀b,S.syn b∨O b->b<w.heap.size∧∀l,fQ l->lb l=b->γ.who l= .sy
 yH:∀l,¬fQ l->γ.who l= .fr
 memo:∀l,fQ l->γ.who l≠ .fr∧(γ.who l= .sy->S.syn (lb l)∨O (lb l))
 Cr:∀i,γ.act i->i<gs.size
 jn:S.nW s=none->∀l,fQ l->¬(S.syn (lb l)∨O (lb l))->γ.who l= .gP 0
 gq:γ.lock=S.gq s
 nW:γ.wg=S.nW s
 lk:free s->S.J s G w∧∀b,G b->b<w.heap.size∧∀l,fQ l->lb l=b->γ.who l= .lk
 dn:S.Dp s D Dc w∧(∀b,D b->b<w.heap.size∧∀l,fQ l->lb l=b->γ.who l= .dn)∧∀b k,Dc b k->b<w.heap.size∧γ.who (.obj b)= .pt∧∀a:Addr,a.block=b->a.off=k->γ.who (.cell a)= .dn
end
end
end Par
