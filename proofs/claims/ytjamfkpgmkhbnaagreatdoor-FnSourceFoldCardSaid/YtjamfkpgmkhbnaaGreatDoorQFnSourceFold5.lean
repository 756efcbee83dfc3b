/- Part 6. -/
import Derived.Test.YtjamfkpgmkhbnaaGreatDoorQFnSourceFold4
import Derived.Lib.Join
import Derived.Lib.ItoaNum
import Derived.Lib.Bytealg
import Derived.KernelRfl
import Derived.Test.YtjamfkpgmkhbnaaGreatDoorRows
import Derived.ProofKit
import Derived.LaidMore
import Derived.Stop.Joined
import Derived.Stop.LaidErr
import Derived.MakeChecks
import Derived.Lib.LaidTab
import Derived.ChangeOld
import Derived.ChangeVars
set_option maxHeartbeats 8000000
set_option maxRecDepth 100000
namespace Go.Proofs.YtjamfkpgmkhbnaaGreatDoor.PA
open Go.RowKit Go.Proofs.YtjamfkpgmkhbnaaGreatDoorW.PrintWords Go.Proofs.YtjamfkpgmkhbnaaGreatDoorW.PrintMore Go.Proofs.YtjamfkpgmkhbnaaGreatDoor.Core
theorem nR (a b c d e:Int) (l:List S56) (m n:List S58) (u:Bool):fI.f a b c d e l m n u=some (KO u b):=by
 unfold fI.f KO;rw [xJ];cases u <;> rfl
theorem nQ (a b c d e:Int) (l:List S56) (m n:List S58) (u:Bool):gD.f a b c d e l m n u=some (yL 3 u c):=by
 unfold gD.f yL;rw [xJ];cases u <;> rfl
theorem wX (op n:Int) (l:List S56):mY.f op n l=some (oO op n l):=by
 unfold mY.f oO;have hlen:((l.length:Int) == 0)=(l.length == 0):=by
  rw [Bool.eq_iff_iff,beq_iff_eq,beq_iff_eq];omega
 by_cases h:op=0
 ·rw [if_pos h,h];by_cases h2:n=0
  ·rw [if_pos h2,h2,hlen];rfl
  ·rw [if_neg h2,bE h2];rfl
 ·rw [if_neg h,bE h];rfl
theorem wL (kd va bx op n:Int) (la:List S56) (m1 m2:List S58) (h2:kd≠2) (h3:kd≠3):
    EvP (fun k=>dP.f k kd va bx op n la m1 m2) (·=xO 3 kd va bx op n la m1.length m2.length):=by
  unfold dP.f;have yes:∀ b:Bool,((m1.length == 0 && m2.length == 0)=!b)→EvP (fun k=>dP.j0 k b kd va bx op n la m1 m2) (·=xO 3 kd va bx op n la m1.length m2.length):=by
    intro b hb;refine EvP.step (fun k=>dP.j0.eq_2 (k:=k) ..) ?_;refine EvP.ite (fun h=>EvP.ret ?_) (fun h=>?_)
    · symm
      rw [Bool.eq_false_iff];intro e;obtain ⟨z1,z2⟩:=GJ e h2 h3;rw [z1,z2,h] at hb;cases hb
    · have hb':(m1.length == 0 && m2.length == 0)=true:=by
        rw [hb,Bool.eq_false_iff.mpr h];rfl
      unfold xO;have hT:∀ a b c:Bool,(a && (b && (c && ((false || m1.length == 0) && (false || m2.length == 0)))))=(a && (b && c)):=by
        intro a b c;rw [Bool.false_or,Bool.false_or,hb',Bool.and_true]
      refine EvP.ite (fun h1=>?_) (fun h1=>?_)
      · rw [if_pos h1]
        unfold mJ;rw [hT];refine EvP.fQ (nR ..) (EvP.ite (fun hv=>EvP.fQ (nQ ..) (EvP.ite (fun hx=>EvP.dO (oP ..) (EvP.ret ?_)) (fun hx=>EvP.ret ?_))) (fun hv=>EvP.ret ?_)) <;> simp [*]
      · rw [if_neg h1,if_neg h2,if_neg h3]
        refine EvP.ite (fun h1=>?_) (fun h1=>?_)
        · rw [if_pos h1]
          unfold mJ;rw [hT];refine EvP.fQ (nR ..) (EvP.ite (fun hv=>EvP.fQ (nQ ..) (EvP.ite (fun hx=>EvP.dO (oP ..) (EvP.ret ?_)) (fun hx=>EvP.ret ?_))) (fun hv=>EvP.ret ?_)) <;> simp [*]
        · rw [if_neg h1]
          refine EvP.ite (fun h1=>?_) (fun h1=>?_)
          · rw [if_pos h1]
            unfold mJ;rw [hT];refine EvP.fQ (nR ..) (EvP.ite (fun hv=>EvP.fQ (nQ ..) (EvP.ite (fun hx=>EvP.fQ (wX ..) (EvP.ret ?_)) (fun hx=>EvP.ret ?_))) (fun hv=>EvP.ret ?_)) <;> simp [*]
          · rw [if_neg h1]
            refine EvP.ite (fun h6=>?_) (fun h6=>?_)
            · rw [if_neg (by omega),if_pos h6]
              unfold mJ;rw [hT];refine EvP.fQ (nR ..) (EvP.ite (fun hv=>EvP.fQ (nQ ..) (EvP.ite (fun hx=>EvP.fQ (wX ..) (EvP.ret ?_)) (fun hx=>EvP.ret ?_))) (fun hv=>EvP.ret ?_)) <;> simp [*]
            · refine EvP.ite (fun h7=>?_) (fun h7=>?_)
              · rw [if_pos h7]
                unfold mJ;rw [hT];refine EvP.fQ (nR ..) (EvP.ite (fun hv=>EvP.fQ (nQ ..) (EvP.ite (fun hx=>EvP.dO (oP ..) (EvP.ret ?_)) (fun hx=>EvP.ret ?_))) (fun hv=>EvP.ret ?_)) <;> simp [*]
              · rw [if_neg h7,if_neg h6]
                exact EvP.ret rfl
  refine EvP.ite (fun h=>yes true ?_) (fun h=>yes _ ?_)
  · rw [bE (show m1.length≠0 by omega)]
    rfl
  · rw [beq_iff_eq.mpr (show m1.length=0 by omega),Bool.true_and,← decide_not,Bool.eq_iff_iff,beq_iff_eq,decide_eq_true_eq]
    omega
theorem FE (l:List S58) (hl:l.length≤1000000000) (x1:Int) (d:Nat) (sub:∀ x ∈ l,EvP (fun k=>bZ.f k x.f0 x.f1 x.f2 x.f3.f0 x.f3.f1 x.f3.f2 x.f4 x.f5 x1) (·=kC 3 d x)):
    ∀ (r j:Nat),j + r=l.length→EvP (fun k=>bV.l0 k l x1 (j:Int)) (·=okL 3 d (l.drop j)):=by
  intro r;induction r with
  |zero=>
    intro j hj;refine EvP.step (fun k=>bV.l0.eq_2 (k:=k) ..) (EvP.no (by omega) (EvP.ret ?_));rw [List.drop_eq_nil_of_le (by omega)];rfl
  |succ r ih=>
    intro j hj;have hlt:j < l.length:=by omega
    refine EvP.step (fun k=>bV.l0.eq_2 (k:=k) ..) (EvP.yes (by omega) (EvP.yes (by omega) ?_));rw [EX l j hlt,w64 (n:=(j:Int) + 1) (by omega) (by omega)];have hall:okL 3 d (l.drop j)=(kC 3 d l[j] && okL 3 d (l.drop (j + 1))):=by
      rw [List.drop_eq_getElem_cons hlt];rfl
    rw [hall];refine EvP.dO (sub _ (List.getElem_mem hlt)) (EvP.ite (fun h=>?_) (fun h=>EvP.ret ?_))
    · rw [h,Bool.true_and]
      exact ih (j + 1) (by omega)
    · rw [Bool.eq_false_iff.mpr h]
      rfl
theorem wK (l:List S58) (hl:l.length≤1000000000) (x1:Int) (d:Nat) (sub:∀ x ∈ l,EvP (fun k=>bZ.f k x.f0 x.f1 x.f2 x.f3.f0 x.f3.f1 x.f3.f2 x.f4 x.f5 x1) (·=kC 3 d x)):
    EvP (fun k=>bV.f k l x1) (·=okL 3 d l):=
  EvP.step (fun k=>bV.f.eq_2 (k:=k) ..) (FE l hl x1 d sub l.length 0 (by omega))
theorem OQ:∀ (d:Nat) (x1:Int) (x:S58),d≤3→x1=d→cS x≤1000000000→EvP (fun k=>bZ.f k x.f0 x.f1 x.f2 x.f3.f0 x.f3.f1 x.f3.f2 x.f4 x.f5 x1) (·=kC 3 d x):=by
  intro d;induction d with
  |zero=>
    intro x1 x hd h1 hc;have j1:EvP (fun k=>bZ.j1 k x1 true x.f0 x.f1 x.f2 x.f3.f0 x.f3.f1 x.f3.f2 x.f4 x.f5) (·=false):=
      EvP.step (fun k=>bZ.j1.eq_2 (k:=k) ..) (EvP.yes rfl (EvP.ret rfl))
    refine EvP.step (fun k=>bZ.f.eq_2 (k:=k) ..) (EvP.ite (fun h2=>?_) (fun h2=>?_))
    · have:kC 3 0 x=false:=by simp [kC,pG,h2]
      rw [this];refine EvP.step (fun k=>bZ.j0.eq_2 (k:=k) ..) (EvP.no Bool.false_ne_true (EvP.yes (by omega) j1))
    · refine EvP.step (fun k=>bZ.j0.eq_2 (k:=k) ..) (EvP.ite (fun h3=>?_) (fun h3=>EvP.yes (by omega) ?_))
      · have h3:x.f0≠3:=bne_iff_ne.mp h3
        refine EvP.dO (wL _ _ _ _ _ _ _ _ h2 h3) (EvP.ret ?_);simp [kC,pG,h2,h3,stS]
      · have h3:x.f0=3:=by simpa using h3
        have:kC 3 0 x=false:=by simp [kC,pG,h3]
        rw [this];exact j1
  |succ d ih=>
    intro x1 x hd h1 hc;have hcs:=RV x;have e1:wrap64 (x1 - 1)=(d:Int):=by
      rw [w64 (by omega) (by omega)];omega
    have len4:=gK x.f4;have len5:=gK x.f5;have sub:∀ m:List S58,cSs m≤1000000000→EvP (fun k=>bV.f k m (wrap64 (x1 - 1))) (·=okL 3 d m):=by
      intro m hm;have:=gK m;refine wK m (by omega) _ d (fun y hy=>ih _ y (by omega) e1 ?_);have:=AP m y hy;omega
    have j1:∀ b:Bool,pG x=true→(b=(x.f0 == 3 && decide ((x.f5.length:Int) > 0)))→EvP (fun k=>bZ.j1 k x1 b x.f0 x.f1 x.f2 x.f3.f0 x.f3.f1 x.f3.f2 x.f4 x.f5) (·=kC 3 (d + 1) x):=by
      intro b hb hbb;have ho:kC 3 (d + 1) x=(stS 3 x && (okL 3 d x.f4 && okL 3 d x.f5)):=by
        simp only [kC,hb,okL];rfl
      rw [ho];refine EvP.step (fun k=>bZ.j1.eq_2 (k:=k) ..) (EvP.ite (fun h=>EvP.ret ?_) (fun h=>?_))
      · rw [h] at hbb
        have h4:=hbb.symm;simp only [Bool.and_eq_true,beq_iff_eq,decide_eq_true_eq] at h4;have:stS 3 x=false:=by
          have hne:(x.f5.length == 0)=false:=bE (by omega);simp [stS,xO,h4.1,mJ,hne]
        rw [this];rfl
      · have hst:stS 3 x=(KO false x.f1 && (yL 3 false x.f2 && vx 5 x.f3.f0 x.f3.f1 x.f3.f2)):=by
          rcases (pR x).mp hb with h2|h2;· simp [stS,xO,h2,mJ]
          · have h5:x.f5.length=0:=by
              rw [Bool.eq_false_iff.mpr h,h2] at hbb;have:=hbb.symm;simp only [beq_self_eq_true,Bool.true_and,decide_eq_false_iff_not] at this;omega
            simp [stS,xO,h2,mJ,h5]
        rw [hst];refine EvP.fQ (nR ..) (EvP.ite (fun hv=>EvP.fQ (nQ ..) (EvP.ite (fun hx=>EvP.dO (oP ..) (EvP.ite (fun he=>?_) (fun he=>EvP.ret ?_))) (fun hx=>EvP.ret ?_))) (fun hv=>EvP.ret ?_));· refine EvP.dO (sub x.f4 (by omega)) (EvP.ite (fun h4=>EvP.dO (sub x.f5 (by omega)) (EvP.ret ?_)) (fun h4=>EvP.ret ?_)) <;> simp [*]
        all_goals simp [*]
    refine EvP.step (fun k=>bZ.f.eq_2 (k:=k) ..) (EvP.ite (fun h2=>?_) (fun h2=>?_))
    · refine EvP.step (fun k=>bZ.j0.eq_2 (k:=k) ..) (EvP.no Bool.false_ne_true (EvP.no (by omega) (EvP.no (by omega) (j1 false ?_ ?_))))
      · simp [pG,h2]
      · simp [h2]
    · refine EvP.step (fun k=>bZ.j0.eq_2 (k:=k) ..) (EvP.ite (fun h3=>?_) (fun h3=>EvP.no (by omega) ?_))
      · have h3:x.f0≠3:=bne_iff_ne.mp h3
        refine EvP.dO (wL _ _ _ _ _ _ _ _ h2 h3) (EvP.ret ?_);simp [kC,pG,h2,h3,stS]
      · have h3:x.f0=3:=by simpa using h3
        refine EvP.yes h3 (j1 _ ?_ ?_);· simp [pG,h3]
        · simp [h3]
theorem FD (l:List S58) (hl:cSs l≤1000000000):EvP (fun k=>bV.f k l 3) (·=okL 3 3 l):=by
  have:=gK l;refine wK l (by omega) _ 3 (fun y hy=>OQ 3 3 y (by omega) (by omega) ?_);have:=AP l y hy;omega
theorem tT:∀ (c:Nat) (l:List S58),cSs l≤c→c≤1000000000→EvP (fun k=>bS.f k l) (·=(cSs l:Int)):=by
  intro c;induction c with
  |zero=>
    intro l hl hc;have:=gK l;refine EvP.step (fun k=>bS.f.eq_2 (k:=k) ..) (EvP.step (fun k=>bS.l0.eq_2 (k:=k) ..) (EvP.no (by omega) (EvP.ret ?_)));omega
  |succ c ih=>
    intro l hl hc;have hlen:=gK l;have loop:∀ (r j:Nat) (a:Int),j + r=l.length→0≤a→a + cSs (l.drop j)≤1000000000→EvP (fun k=>bS.l0 k l a (j:Int)) (·=a + cSs (l.drop j)):=by
      intro r;induction r with
      |zero=>
        intro j a hj h0 h1;refine EvP.step (fun k=>bS.l0.eq_2 (k:=k) ..) (EvP.no (by omega) (EvP.ret ?_));rw [List.drop_eq_nil_of_le (by omega),tV];omega
      |succ r ih2=>
        intro j a hj h0 h1;have hlt:j < l.length:=by omega
        have hd:=TN l j hlt;have hm:=AP l _ (List.getElem_mem hlt);have hcs:=RV l[j];refine EvP.step (fun k=>bS.l0.eq_2 (k:=k) ..) (EvP.yes (by omega) (EvP.yes (by omega) ?_));rw [EX l j hlt,w64 (n:=(j:Int) + 1) (by omega) (by omega)];refine EvP.dO (ih _ (by omega) (by omega)) (EvP.dO (ih _ (by omega) (by omega)) ?_);rw [w64 (n:=a + 1) (by omega) (by omega),w64 (n:=a + 1 + (cSs l[j].f4:Int)) (by omega) (by omega),w64 (by omega) (by omega)];refine (ih2 (j + 1) _ (by omega) (by omega) (by omega)).mono fun b hb=>?_
        omega
    refine EvP.step (fun k=>bS.f.eq_2 (k:=k) ..) ((loop l.length 0 0 (by omega) (by omega) (by rw [List.drop_zero];omega)).mono fun b hb=>?_);rw [List.drop_zero] at hb;omega
theorem DR (l:List S58) (hl:cSs l≤1000000000):EvP (fun k=>gG.f k l) (·=okT 3 l):=by
  unfold gG.f okT;refine EvP.dO (FD l hl) (EvP.ite (fun h=>EvP.dO (tT _ l hl (by omega)) (EvP.ret ?_)) (fun h=>EvP.ret ?_))
  · rw [h,Bool.true_and]
    exact decide_eq_decide.mpr (by omega)
  · rw [Bool.eq_false_iff.mpr h]
    rfl
theorem aBr (boxes:Int) (d:Nat) (l m:List S58):okL boxes d (l ++ m)=(okL boxes d l && okL boxes d m):=List.all_append
theorem xK {boxes:Int} {l:List S58}:okT boxes l=true ↔ okL boxes 3 l=true∧cSs l≤16:=by
 unfold okT;rw [Bool.and_eq_true,decide_eq_true_eq]
theorem DJ (boxes:Int):∀ (d:Nat) (s:S58),kC boxes d s=true→kC boxes (d + 1) s=true
 |0,s,h=>by
  simp only [kC,Bool.and_eq_true] at h ⊢;exact ⟨h.1,by rw [h.2];rfl⟩
 |d + 1,s,h=>by
  simp only [kC,Bool.and_eq_true,Bool.or_eq_true] at h ⊢;refine ⟨h.1,?_⟩;rcases h.2 with h2|⟨h2,h3⟩;·exact .inl h2
  ·right
   constructor
   ·rw [List.all_eq_true] at h2 ⊢;intro x hx;have:=DJ boxes d x (h2 x hx);simp only [kC,Bool.and_eq_true,Bool.or_eq_true] at this;exact Bool.and_eq_true_iff.mpr ⟨this.1,Bool.or_eq_true_iff.mpr (this.2.imp id fun h=>Bool.and_eq_true_iff.mpr h)⟩
   ·rw [List.all_eq_true] at h3 ⊢;intro x hx;have:=DJ boxes d x (h3 x hx);simp only [kC,Bool.and_eq_true,Bool.or_eq_true] at this;exact Bool.and_eq_true_iff.mpr ⟨this.1,Bool.or_eq_true_iff.mpr (this.2.imp id fun h=>Bool.and_eq_true_iff.mpr h)⟩
theorem WZ {boxes:Int} {d:Nat} {l:List S58} (h:okL boxes d l=true):okL boxes (d + 1) l=true:=by
 unfold okL at h ⊢;rw [List.all_eq_true] at h ⊢;exact fun x hx=>DJ boxes d x (h x hx)
theorem aLn (a:S58):(⟨a.f0,a.f1,a.f2,a.f3,a.f4,a.f5⟩:S58)=a:=by
 cases a;rfl
inductive ST where
 |mk (kd va bx:Int) (x:X) (b e:List ST)
namespace ST
def kd:ST→Int|⟨a,_,_,_,_,_⟩=>a
def va:ST→Int|⟨_,a,_,_,_,_⟩=>a
def bx:ST→Int|⟨_,_,a,_,_,_⟩=>a
def x:ST→X|⟨_,_,_,a,_,_⟩=>a
def b:ST→List ST|⟨_,_,_,_,a,_⟩=>a
def e:ST→List ST|⟨_,_,_,_,_,a⟩=>a
end ST
mutual
def mG:ST→S58
 |⟨kd,va,bx,x,b,e⟩=>⟨kd,va,bx,emb x,dQ b,dQ e⟩
def dQ:List ST→List S58
 |[]=>[]
 |s :: ss=>mG s :: dQ ss
end
def EW (kd va bx:Int) (x:X) (b e:List ST):List ST:=
 if kd=2 then (match x with
  | .num n=>if n=0 then e else b
  | y=>[⟨kd,va,bx,y,b,e⟩])
 else if kd=3 then (match x with
  | .num n=>if n=0 then [] else [⟨kd,va,bx,.num n,b,e⟩]
  | y=>[⟨kd,va,bx,y,b,e⟩])
 else [⟨kd,va,bx,x,b,e⟩]
mutual
def sN:ST→List ST
 |⟨kd,va,bx,x,b,e⟩=>EW kd va bx x.fold (fO b) (fO e)
def fO:List ST→List ST
 |[]=>[]
 |s :: ss=>sN s ++ fO ss
end
theorem oK (t:ST):mG t=⟨t.kd,t.va,t.bx,emb t.x,dQ t.b,dQ t.e⟩:=by
 cases t;rw [mG];rfl
theorem AY (t:ST):sN t=EW t.kd t.va t.bx t.x.fold (fO t.b) (fO t.e):=by
 cases t;rw [sN];rfl
theorem gQ:∀ l:List ST,(dQ l).length=l.length
 |[]=>by rw [dQ];rfl
 |x :: xs=>by rw [dQ,List.length_cons,List.length_cons,gQ xs]
theorem uY:∀ l m:List ST,dQ (l ++ m)=dQ l ++ dQ m
 |[],m=>by rw [dQ];rfl
 |x :: xs,m=>by rw [List.cons_append,dQ,dQ,uY xs m];rfl
theorem PN:∀ (l:List ST) (i:Nat) (h:i < l.length),(dQ l)[i]'(by rw [gQ];exact h)=mG l[i]
 |x :: xs,0,_=>by simp [dQ]
 |x :: xs,i + 1,h=>by
  have h2:=PN xs i (by simpa using h);simp only [dQ,List.getElem_cons_succ];exact h2
theorem MN {P:ST→Prop} (h:∀ t:ST,(∀ y ∈ t.b,P y)→(∀ y ∈ t.e,P y)→P t) (t:ST):P t:=
 @ST.rec (motive_1:=P) (motive_2:=fun l=>∀ y ∈ l,P y) (fun a b c d m n i1 i2=>h ⟨a,b,c,d,m,n⟩ i1 i2) (fun y hy=>by simp at hy) (fun y ys h1 h2 z hz=>by
  rcases List.mem_cons.1 hz with rfl|hz;·exact h1
  ·exact h2 z hz) t
inductive AX:ST→Prop
 |mk (t:ST) (h1:t.x.ok) (h2:t.x.depth≤5) (hb:∀ y ∈ t.b,AX y) (he:∀ y ∈ t.e,AX y):AX t
theorem aGg (boxes:Int):∀ (d:Nat) (s:S58),kC boxes d s=true→∃ t,mG t=s∧AX t:=by
 have ex:∀ s:S58,stS boxes s=true→∃ x:X,emb x=s.f3∧x.ok∧x.depth≤5:=by
  intro s h;have hv:vx 5 s.f3.f0 s.f3.f1 s.f3.f2=true∨oO s.f3.f0 s.f3.f1 s.f3.f2=true:=by
   unfold stS xO mJ at h
   repeat' split at h
   all_goals first
    |(cases h;done)
    |(simp only [Bool.and_eq_true] at h;first|exact .inl h.2.2.1|exact .inr h.2.2.1)
    |skip
   all_goals simp_all
  rcases hv with hv|hv
  ·obtain ⟨x,h1,h2,h3⟩:=SV 5 _ _ _ hv;exact ⟨x,h3.trans (aBb _),h1,h2⟩
  ·unfold oO at hv;simp only [Bool.and_eq_true,beq_iff_eq] at hv;refine ⟨.num 0,?_,⟨by omega,by omega⟩,by simp [X.depth]⟩;rw [emb,← aBb s.f3,hv.1,hv.2.1,List.eq_nil_of_length_eq_zero hv.2.2]
 have mk:∀ (s:S58),stS boxes s=true→(∃ l,dQ l=s.f4∧∀ y ∈ l,AX y)→(∃ l,dQ l=s.f5∧∀ y ∈ l,AX y)→∃ t,mG t=s∧AX t:=by
  rintro s h ⟨l,h4,a4⟩ ⟨m,h5,a5⟩;obtain ⟨x,hx,hok,hd⟩:=ex s h;refine ⟨⟨s.f0,s.f1,s.f2,x,l,m⟩,?_,.mk _ hok hd a4 a5⟩;rw [mG,hx,h4,h5];exact aLn s
 have nils:∀ s:S58,stS boxes s=true→pG s=false→(∃ l,dQ l=s.f4∧∀ y ∈ l,AX y)∧(∃ l,dQ l=s.f5∧∀ y ∈ l,AX y):=by
  intro s h hb;have hf:=LC h (fun e=>by rw [(pR s).mpr e] at hb;cases hb);rw [RV] at hf;have l4:=gK s.f4;have l5:=gK s.f5;rw [List.eq_nil_of_length_eq_zero (show s.f4.length=0 by omega),List.eq_nil_of_length_eq_zero (show s.f5.length=0 by omega)];exact ⟨⟨[],by rw [dQ],by simp⟩,⟨[],by rw [dQ],by simp⟩⟩
 intro d;induction d with
 |zero=>
  intro s h;simp only [kC,Bool.and_eq_true] at h;obtain ⟨n4,n5⟩:=nils s h.1 (by simpa using h.2);exact mk s h.1 n4 n5
 |succ d ih=>
  intro s h;have lists:∀ l:List S58,l.all (kC boxes d)=true→∃ m,dQ m=l∧∀ y ∈ m,AX y:=by
   intro l;induction l with
   |nil=>exact fun _=>⟨[],by rw [dQ],by simp⟩
   |cons y ys ihl=>
    intro h;rw [List.all_cons,Bool.and_eq_true] at h;obtain ⟨t,ht,at_⟩:=ih y h.1;obtain ⟨m,hm,am⟩:=ihl h.2;refine ⟨t :: m,by rw [dQ,ht,hm],fun z hz=>?_⟩;rcases List.mem_cons.1 hz with rfl|hz;·exact at_
    ·exact am z hz
  simp only [kC,Bool.and_eq_true,Bool.or_eq_true] at h;cases hb:pG s with
  |false=>
   obtain ⟨n4,n5⟩:=nils s h.1 hb;exact mk s h.1 n4 n5
  |true=>
   rw [hb] at h;rcases h.2 with h2|h2;·cases h2
   ·exact mk s h.1 (lists _ h2.1) (lists _ h2.2)
theorem aGf (boxes:Int) (d:Nat):∀ l:List S58,okL boxes d l=true→∃ m,dQ m=l∧∀ y ∈ m,AX y
 |[],_=>⟨[],by rw [dQ],by simp⟩
 |y :: ys,h=>by
  have h':(kC boxes d y && okL boxes d ys)=true:=h;rw [Bool.and_eq_true] at h';obtain ⟨t,ht,at_⟩:=aGg boxes d y h'.1;obtain ⟨m,hm,am⟩:=aGf boxes d ys h'.2;refine ⟨t :: m,by rw [dQ,ht,hm],fun z hz=>?_⟩;rcases List.mem_cons.1 hz with rfl|hz;·exact at_
  ·exact am z hz
theorem uK (kd va bx:Int) (x:X) (b e:List ST):(EW kd va bx x b e=b∧kd=2)∨(EW kd va bx x b e=e∧kd=2)∨EW kd va bx x b e=[]∨(EW kd va bx x b e=[⟨kd,va,bx,x,b,e⟩]∧¬ (kd=2∧x.isNum=true)∧¬ (kd=3∧x= .num 0)):=by
 unfold EW;by_cases h2:kd=2
 ·rw [if_pos h2];cases x with
  |num n=>
   dsimp only;by_cases h:n=0
   ·rw [if_pos h];exact .inr (.inl ⟨rfl,h2⟩)
   ·rw [if_neg h];exact .inl ⟨rfl,h2⟩
  |var v=>exact .inr (.inr (.inr ⟨rfl,by simp [X.isNum],by simp⟩))
  |bin o p q=>exact .inr (.inr (.inr ⟨rfl,by simp [X.isNum],by simp⟩))
 ·rw [if_neg h2];by_cases h3:kd=3
  ·rw [if_pos h3];cases x with
   |num n=>
    dsimp only;by_cases h:n=0
    ·rw [if_pos h];exact .inr (.inr (.inl rfl))
    ·rw [if_neg h];exact .inr (.inr (.inr ⟨rfl,by simp [h2],by simp [h]⟩))
   |var v=>exact .inr (.inr (.inr ⟨rfl,by simp [h2],by simp⟩))
   |bin o p q=>exact .inr (.inr (.inr ⟨rfl,by simp [h2],by simp⟩))
  ·rw [if_neg h3];exact .inr (.inr (.inr ⟨rfl,by simp [h2],by simp [h3]⟩))
def cT (l:List ST):Nat:=cSs (dQ l)
theorem wU (l m:List ST):cT (l ++ m)=cT l + cT m:=by
 unfold cT;rw [uY,tH]
theorem rO (t:ST):cT [t]=cT t.b + cT t.e + 1:=by
 unfold cT;rw [dQ,dQ,aHt,oK,RV]
theorem xE (t:ST) (l:List ST):cT (t :: l)=cT t.b + cT t.e + 1 + cT l:=by
 rw [show t :: l=[t] ++ l from rfl,wU,rO]
theorem aJt:cT []=0:=by
 unfold cT;rw [dQ,cSs]
theorem xG (l:List ST) (h:∀ y ∈ l,cT (sN y)≤cT [y]):cT (fO l)≤cT l:=by
 induction l with
 |nil=>rw [fO];exact Nat.le_refl _
 |cons y ys ih=>
  have h1:=h y List.mem_cons_self;have h2:=ih (fun z hz=>h z (List.mem_cons_of_mem _ hz));rw [fO,wU,xE];rw [rO] at h1;omega
theorem TP (t:ST):cT (sN t)≤cT [t]:=by
 refine MN (P:=fun t=>cT (sN t)≤cT [t]) (fun t i1 i2=>?_) t;have h1:=xG t.b i1;have h2:=xG t.e i2;rw [AY,rO];rcases uK t.kd t.va t.bx t.x.fold (fO t.b) (fO t.e) with ⟨h,_⟩|⟨h,_⟩|h|⟨h,_⟩;·rw [h];omega
 ·rw [h];omega
 ·rw [h,aJt];omega
 ·rw [h,rO];show cT (fO t.b) + cT (fO t.e) + 1≤_
  omega
theorem wV (l:List ST):cT (fO l)≤cT l:=xG l (fun y _=>TP y)
theorem xD (l:List ST) (h:∀ y ∈ l,∀ z ∈ sN y,AX z):∀ z ∈ fO l,AX z:=by
 induction l with
 |nil=>rw [fO];simp
 |cons y ys ih=>
  intro z hz;rw [fO,List.mem_append] at hz;rcases hz with hz|hz;·exact h y List.mem_cons_self z hz
  ·exact ih (fun w hw=>h w (List.mem_cons_of_mem _ hw)) z hz
theorem aFi (t:ST):AX t→∀ z ∈ sN t,AX z:=by
 refine MN (P:=fun t=>AX t→∀ z ∈ sN t,AX z) (fun t i1 i2 ha=>?_) t;cases ha with
 |mk _ h1 h2 hb he=>
  have g1:=xD t.b (fun y hy=>i1 y hy (hb y hy));have g2:=xD t.e (fun y hy=>i2 y hy (he y hy));rw [AY];rcases uK t.kd t.va t.bx t.x.fold (fO t.b) (fO t.e) with ⟨h,_⟩|⟨h,_⟩|h|⟨h,_⟩;·rw [h];exact g1
  ·rw [h];exact g2
  ·rw [h];simp
  ·rw [h];intro z hz;rw [List.mem_singleton] at hz;subst hz;exact .mk _ (X.uZ _ h1) (Nat.le_trans (X.xH _) h2) g1 g2
theorem aDr (l:List ST) (h:∀ y ∈ l,AX y):∀ z ∈ fO l,AX z:=xD l (fun y hy=>aFi y (h y hy))
def ba (l:List UInt8):ByteArray:=⟨l.toArray⟩
theorem mI (l:List UInt8):(ba l).size=l.length:=by simp [ba,ByteArray.size]
theorem aCt (l:List UInt8):(ba l).data.toList=l:=by simp [ba]
theorem aFj (s:ByteArray):ba s.data.toList=s:=by
 cases s;simp [ba]
theorem aIq {s t:ByteArray} (h:s.data.toList=t.data.toList):s=t:=by rw [← aFj s,h,aFj]
theorem AO (l m:List UInt8):ba l ++ ba m=ba (l ++ m):=aIq (by simp [ba])
theorem aAx (l:List UInt8) (i j:Nat):(ba l).extract i j=ba ((l.take j).drop i):=aIq (by
 simp only [ba,ByteArray.data_extract,Array.toList_extract,List.extract_eq_take_drop];rw [List.drop_take])
theorem aCs (l:List UInt8) (i:Nat) (h:i < l.length):bt (ba l) (i:Int)=(l[i].toNat:Int):=by
 unfold bt;rw [dif_pos (by rw [Int.toNat_natCast,mI];exact h)];simp [ba,ByteArray.getElem_eq_getElem_data]
theorem KN (s:ByteArray):∀ (d i:Nat) (r:List UInt8),i + d=s.size→ByteArray.toList.loop s i r=r.reverse ++ s.data.toList.drop i
 |0,i,r,h=>by
  rw [ByteArray.toList.loop,if_neg (by omega),List.drop_eq_nil_of_le (by show s.size≤i;omega),List.append_nil]
 |d + 1,i,r,h=>by
  have hi:i < s.data.toList.length:=by show i < s.size;omega
  rw [ByteArray.toList.loop,if_pos (by omega),KN s d (i + 1) _ (by omega),List.drop_eq_getElem_cons hi,List.reverse_cons,List.append_assoc];congr 1
  simp only [List.singleton_append,List.cons.injEq,and_true];show s.data[i]! =_
  exact getElem!_pos s.data i hi
theorem toList_data (s:ByteArray):s.toList=s.data.toList:=by
 unfold ByteArray.toList;rw [KN s s.size 0 [] (by omega)];rfl
theorem tF (l:List UInt8):(ba l).toList=l:=by rw [toList_data,aCt]
def isD (c:UInt8):Bool:=decide (48≤c.toNat) && decide (c.toNat≤57)
def isL (c:UInt8):Bool:=decide (97≤c.toNat) && decide (c.toNat≤122)
def syms:List (List UInt8):=[[61,61],[60,60],[62,62],[124],[94],[38],[60],[43],[45],[42],[47],[37],[40],[41],[123],[125],[61],[59]]
inductive Tok:List UInt8→Prop
 |dig (c:UInt8) (t:List UInt8) (h:∀ x ∈ c :: t,isD x=true):Tok (c :: t)
 |let_ (c:UInt8) (t:List UInt8) (h:∀ x ∈ c :: t,isL x=true):Tok (c :: t)
 |sym (t:List UInt8) (h:t ∈ syms):Tok t
def Rest (r:List UInt8):Prop:=r=[]∨∃ q,r=32 :: q
theorem Tok.pos {t:List UInt8} (h:Tok t):0 < t.length:=by
 cases h with
 |dig=>simp
 |let_=>simp
 |sym t h=>
  simp only [syms,List.mem_cons,List.not_mem_nil,or_false] at h;rcases h with h|h|h|h|h|h|h|h|h|h|h|h|h|h|h|h|h|h <;> subst h <;> decide
def kK:List (List UInt8)→List UInt8
 |[]=>[]
 |[x]=>x
 |x :: y :: r=>x ++ 32 :: kK (y :: r)
theorem PV:∀ l:List (List UInt8),Lib.join l [32]=kK l
 |[]=>rfl
 |[x]=>Lib.join_one x _
 |x :: y :: r=>by
  rw [Lib.join_cons,kK,← PV (y :: r),Lib.join_cons];simp [Lib.joinTail]
theorem pI (x:List UInt8) {l:List (List UInt8)} (h:l≠[]):kK (x :: l)=x ++ 32 :: kK l:=by
 cases l with
 |nil=>exact absurd rfl h
 |cons y r=>rfl
theorem SA {l m:List (List UInt8)} (hl:l≠[]) (hm:m≠[]):kK (l ++ m)=kK l ++ 32 :: kK m:=by
 induction l with
 |nil=>exact absurd rfl hl
 |cons x r ih=>
  cases r with
  |nil=>rw [List.singleton_append,pI x hm];rfl
  |cons y q=>
   rw [List.cons_append,pI x (by simp),ih (by simp),pI x (by simp)];simp
theorem OC (u:Nat):∀ c ∈ Lib.decDigits u,isD c=true:=by
 induction u using Nat.strongRecOn with
 | _ u ih=>
  intro c hc;rw [Lib.decDigits] at hc;split at hc
  ·rw [List.mem_singleton] at hc;subst hc;have:u=0∨u=1∨u=2∨u=3∨u=4∨u=5∨u=6∨u=7∨u=8∨u=9:=by omega
   rcases this with h|h|h|h|h|h|h|h|h|h <;> subst h <;> decide
  ·rcases List.mem_append.1 hc with h|h;·exact ih _ (by omega) c h
   ·rw [List.mem_singleton] at h;subst h;have:u % 10=0∨u % 10=1∨u % 10=2∨u % 10=3∨u % 10=4∨u % 10=5∨u % 10=6∨u % 10=7∨u % 10=8∨u % 10=9:=by omega
    rcases this with h|h|h|h|h|h|h|h|h|h <;> rw [h] <;> decide
theorem OD (u:Nat):0 < (Lib.decDigits u).length:=by
 rw [Lib.decDigits];split
 ·exact Nat.one_pos
 ·simp
theorem BS (d:Nat):∀ u:Nat,u < 10 ^ (d + 1)→(Lib.decDigits u).length≤d + 1:=by
 induction d with
 |zero=>
  intro u hu;rw [Lib.decDigits,dif_pos (by omega)];exact Nat.le_refl _
 |succ d ih=>
  intro u hu;rw [Lib.decDigits];split
  ·simp
  ·have:=ih (u / 10) (by rw [Nat.pow_succ] at hu;omega);simp only [List.length_append,List.length_singleton];omega
def dec (n:Int):List UInt8:=Lib.decDigits n.toNat
theorem LB (n:Int):Tok (dec n):=by
 have h:=OC n.toNat
 have h0:=OD n.toNat
 unfold dec;cases hd:Lib.decDigits n.toNat with
 |nil=>rw [hd] at h0;simp at h0
 |cons c t=>rw [hd] at h;exact .dig c t h
theorem EH {n:Int} (h0:0≤n) (h:n≤99999):(dec n).length≤5:=BS 4 n.toNat (by omega)
theorem aFp {n:Int} (h:0≤n):Lib.itoa n=dec n:=by
 unfold Lib.itoa dec;rw [if_neg (by omega)]
def lev (op:Int):Int:=if op≤6 then op else if op=7 then 6 else if op≤9 then 7 else 8
def opB (op:Int):List UInt8:=[[124],[94],[38],[61,61],[60],[60,60],[62,62],[43],[45],[42],[47],[37]].getD (op - 1).toNat []
theorem aCz {op:Int} (h:1≤op∧op≤12):Tok (opB op):=by
 have:op=1∨op=2∨op=3∨op=4∨op=5∨op=6∨op=7∨op=8∨op=9∨op=10∨op=11∨op=12:=by omega
 apply Tok.sym;rcases this with h|h|h|h|h|h|h|h|h|h|h|h <;> subst h <;> decide
def GU (v:Int):List UInt8:=[(97 + v).toNat.toUInt8]
theorem NQ {v:Int} (h:0≤v∧v < 4):Tok (GU v):=by
 have:v=0∨v=1∨v=2∨v=3:=by omega
 rcases this with h|h|h|h <;> subst h <;> exact .let_ _ _ (by decide)
def vY (l:List (List UInt8)) (b:Bool):List (List UInt8):=if b=true then [40] :: (l ++ [[41]]) else l
namespace X
def lev:X→Int
 |num _=>9
 |var _=>9
 |bin op _ _=>PA.lev op
def toks:X→List (List UInt8)
 |num n=>[dec n]
 |var v=>[GU v]
 |bin op a b=>vY a.toks (decide (a.lev < PA.lev op)) ++ opB op :: vY b.toks (decide (b.lev≤PA.lev op))
end X
theorem RJ {l:List (List UInt8)} {b:Bool} (h:∀ t ∈ l,Tok t):∀ t ∈ vY l b,Tok t:=by
 unfold vY;split
 ·intro t ht;rcases List.mem_cons.1 ht with h1|h1
  ·subst h1;exact .sym _ (by decide)
  ·rcases List.mem_append.1 h1 with h2|h2;·exact h t h2
   ·rw [List.mem_singleton] at h2;subst h2;exact .sym _ (by decide)
 ·exact h
theorem aDg:∀ x:X,x.toks≠[]
 | .num _=>by simp [X.toks]
 | .var _=>by simp [X.toks]
 | .bin op a b=>by simp [X.toks]
theorem AA:∀ x:X,x.ok→∀ t ∈ x.toks,Tok t
 | .num n,h=>by
  intro t ht;rw [X.toks,List.mem_singleton] at ht;subst ht;exact LB n
 | .var v,h=>by
  intro t ht;rw [X.toks,List.mem_singleton] at ht;subst ht;exact NQ h
 | .bin op a b,h=>by
  intro t ht;rw [X.toks] at ht;rcases List.mem_append.1 ht with h1|h1;·exact RJ (AA a h.2.1) t h1
  ·rcases List.mem_cons.1 h1 with h2|h2
   ·subst h2;exact aCz h.1
   ·exact RJ (AA b h.2.2) t h2
theorem wZ (l:List (List UInt8)) (b:Bool):(vY l b).length≤l.length + 2:=by
 unfold vY;split
 ·simp
 ·omega
theorem vX:∀ x:X,x.toks.length + 4≤5 * x.size
 | .num _=>by simp [X.toks,X.size]
 | .var _=>by simp [X.toks,X.size]
 | .bin op a b=>by
  have h1:=wZ a.toks (decide (a.lev < lev op));have h2:=wZ b.toks (decide (b.lev≤lev op));have h3:=vX a;have h4:=vX b;rw [X.toks,List.length_append,List.length_cons,X.size];omega
theorem KQ (c:UInt8):lZ.f (c.toNat:Int)=some (isD c):=by
 unfold lZ.f isD;by_cases h:((c.toNat:Int))≥48
 ·rw [if_pos h,dT (show 48≤c.toNat by omega),Bool.true_and];congr 1
  exact decide_eq_decide.mpr (by omega)
 ·rw [if_neg h,dF (show ¬ 48≤c.toNat by omega),Bool.false_and]
theorem FU (c:UInt8):lD.f (c.toNat:Int)=some (isL c):=by
 unfold lD.f isL;by_cases h:((c.toNat:Int))≥97
 ·rw [if_pos h,dT (show 97≤c.toNat by omega),Bool.true_and];congr 1
  exact decide_eq_decide.mpr (by omega)
 ·rw [if_neg h,dF (show ¬ 97≤c.toNat by omega),Bool.false_and]
def isM (m:Bool) (c:UInt8):Bool:=if m=true then isD c else isL c
theorem aJw (m:Bool) (c:UInt8):(if m=true then lZ.f (c.toNat:Int) else lD.f (c.toNat:Int))=some (isM m c):=by
 cases m
 ·rw [if_neg Bool.false_ne_true,FU];rfl
 ·rw [if_pos rfl,KQ];rfl
theorem aIu (l:List UInt8) (hl:l.length≤1000000000) (m:Bool):∀ (d j:Nat),j + d=l.length→EvP (fun k=>bA.l1 k (ba l) m (j:Int)) (·=((j + ((l.drop j).takeWhile (isM m)).length:Nat):Int))
  |0,j,h=>by
    refine EvP.step (fun k=>bA.l1.eq_2 (k:=k) ..) (EvP.no (by rw [mI];omega) (EvP.ret ?_));rw [List.drop_eq_nil_of_le (by omega)];simp
  |d + 1,j,h=>by
    have hj:j < l.length:=by omega
    refine EvP.step (fun k=>bA.l1.eq_2 (k:=k) ..) (EvP.yes (by rw [mI];omega) (EvP.yes (by omega) ?_));rw [aCs l j hj];refine EvP.fQ (aJw m l[j]) ?_;rw [List.drop_eq_getElem_cons hj];cases hm:isM m l[j] with
    |true=>
      refine EvP.yes rfl ?_;rw [w64 (by omega) (by omega),show (j:Int) + 1=((j + 1:Nat):Int) by omega];refine (aIu l hl m d (j + 1) (by omega)).mono (fun a ha=>?_);rw [ha,List.takeWhile_cons,if_pos hm,List.length_cons];congr 1
      omega
    |false=>
      refine EvP.no Bool.false_ne_true (EvP.ret ?_);rw [List.takeWhile_cons,if_neg (by rw [hm];exact Bool.false_ne_true)];simp
theorem aFz (l:List UInt8) (hl:l.length≤1000000000) (m:Bool):EvP (fun k=>bA.l1 k (ba l) m 0) (·=((l.takeWhile (isM m)).length:Int)):=
  (aIu l hl m l.length 0 (by omega)).mono (fun a ha=>by rw [ha];simp)
theorem CB {p:UInt8→Bool} {t r:List UInt8} (ht:∀ x ∈ t,p x=true) (hr:Rest r) (j3:p 32=false):(t ++ r).takeWhile p=t:=by
 rw [List.takeWhile_append_of_pos ht];rcases hr with rfl|⟨q,rfl⟩;·simp
 ·rw [List.takeWhile_cons,if_neg (by rw [j3];exact Bool.false_ne_true),List.append_nil]
theorem FJ {p:UInt8→Bool} {c:UInt8} {t:List UInt8} (h:p c=false):(c :: t).takeWhile p=[]:=by
 rw [List.takeWhile_cons,if_neg (by rw [h];exact Bool.false_ne_true)]
theorem aHy {c:UInt8} (h:isL c=true):isD c=false:=by
 unfold isL at h;unfold isD;simp only [Bool.and_eq_true,decide_eq_true_eq] at h;rw [dF (p:=c.toNat≤57) (by omega),Bool.and_false]
def aEd (c:UInt8):List UInt8→Bool
 |a :: b :: _=>a == c && b == c
 | _=>false
theorem aBh (l:List UInt8) (c:UInt8) (hl:l.length≤1000000000):strings_HasPrefix.f (ba l) ⟨#[c,c]⟩=some (aEd c l):=by
 unfold strings_HasPrefix.f stringslite_HasPrefix.f;have hs:(⟨#[c,c]⟩:ByteArray).size=2:=rfl;rw [hs,mI];by_cases h:(l.length:Int)≥((2:Nat):Int)
 ·rw [if_pos h,if_pos (by omega),if_pos h];simp only [Option.bind_some];congr 1
  match l,h with
  |a :: b :: r,_=>
   have e:(ba (a :: b :: r)).extract 0 (((2:Nat):Int):Int).toNat=ba [a,b]:=by
    rw [aAx];rfl
   rw [e,tF,show (⟨#[c,c]⟩:ByteArray)=ba [c,c] from rfl,tF];simp [aEd]
  |[a],h=>simp at h
  |[],h=>simp at h
 ·rw [if_neg h];simp only [Option.bind_some];congr 1
  match l,h with
  |a :: b :: r,h=>simp at h;omega
  |[a],_=>rfl
  |[],_=>rfl
theorem aKs (c:UInt8) (q:List UInt8):¬ (ba (c :: q)).toList=([]:List UInt8):=by
 rw [tF];simp
theorem aAw (c:UInt8) (q:List UInt8):bt (ba (c :: q)) 0=(c.toNat:Int):=aCs (c :: q) 0 (by simp)
theorem aIk (t r:List UInt8) (hl:(t ++ r).length≤1000000000) (ht:t ∈ syms) (hr:Rest r):bA.st2 (ba (t ++ r)) 0=some (t.length:Int):=by
 simp only [bA.st2,bA.fin,aBh _ _ hl,Option.bind_some];clear hl;simp only [syms,List.mem_cons,List.not_mem_nil,or_false] at ht;rcases hr with rfl|⟨q,rfl⟩;all_goals
  rcases ht with h|h|h|h|h|h|h|h|h|h|h|h|h|h|h|h|h|h <;> subst h
 all_goals
  simp only [List.cons_append,List.nil_append,List.append_nil]
 all_goals
  first
  |(simp [aEd];done)
  |(rw [if_neg (by simp [aEd]),if_neg (by simp [aEd]),if_neg (by simp [aEd]),if_neg (aKs _ _),aAw];rfl)
theorem aDf {t r:List UInt8} (ht:t ∈ syms) (m:Bool):(t ++ r).takeWhile (isM m)=[]:=by
 simp only [syms,List.mem_cons,List.not_mem_nil,or_false] at ht;rcases ht with h|h|h|h|h|h|h|h|h|h|h|h|h|h|h|h|h|h <;> subst h <;> exact FJ (by cases m <;> decide)
theorem NM (t r:List UInt8) (hl:(t ++ r).length≤1000000000) (ht:Tok t) (hr:Rest r):EvP (fun k=>bA.f k (ba (t ++ r))) (·=(t.length:Int)):=by
  have h0:=ht.pos;show EvP (fun k=>(bA.l1 k (ba (t ++ r)) true 0).bind fun d=>if 0 < d then some d else (bA.l1 k (ba (t ++ r)) false 0).bind fun c=>if 0 < c then some c else bA.st2 (ba (t ++ r)) 0) _
  refine EvP.dO (aFz _ hl true) ?_;cases ht with
  |dig c t h=>
    rw [CB (p:=isM true) h hr (by decide)];exact EvP.yes (by omega) (EvP.ret rfl)
  |let_ c t h=>
    rw [List.cons_append,FJ (p:=isM true) (aHy (h c (by simp))),← List.cons_append];refine EvP.no (by simp) (EvP.dO (aFz _ hl false) ?_);rw [CB (p:=isM false) h hr (by decide)];exact EvP.yes (by omega) (EvP.ret rfl)
  |sym t h=>
    rw [aDf h];refine EvP.no (by simp) (EvP.dO (aFz _ hl false) ?_);rw [aDf h];exact EvP.no (by simp) (EvP.of (aIk t r hl h hr) rfl)
theorem NY (t:List UInt8) (hl:t.length≤1000000000) (ht:Tok t):EvP (fun k=>gW.f k (ba t)) (·=true):=by
  unfold gW.f;have h:=NM t [] (by simpa using hl) ht (.inl rfl);rw [List.append_nil] at h;have h0:=ht.pos;refine EvP.no (by rw [tF];intro e;rw [e] at h0;simp at h0) (EvP.dO h (EvP.ret ?_));rw [mI];simp
theorem rdB (L:List (List UInt8)) (j:Nat) (h:j < L.length):pJ ByteArray.empty (L.map ba) (j:Int)=ba L[j]:=by
 unfold pJ;rw [Int.toNat_natCast,List.getD_eq_getElem?_getD,List.getElem?_map,List.getElem?_eq_getElem h];rfl
theorem BP (L:List (List UInt8)) (hn:L.length≤1000000) (hs:∀ t ∈ L,t.length≤1000000) (ht:∀ t ∈ L,Tok t) (hj:(kK L).length≤1000000000):∀ (d j:Nat),j + d=L.length→EvP (fun k=>dN.l0 k (L.map ba) (L.map ba) ((L.map ba).length:Int) (j:Int)) (·=ba (kK L))
  |0,j,h=>by
    refine EvP.step (fun k=>dN.l0.eq_2 (k:=k) ..) (EvP.no (by rw [List.length_map];omega) ?_);have e:strings_Join.f (L.map ba) (⟨#[32]⟩:ByteArray)=some (ba (kK L)):=by
      unfold strings_Join.f;have e2:TY (L.map ba) (⟨#[32]⟩:ByteArray)=kK L:=by
        unfold TY;rw [List.map_map,show ((fun x:ByteArray=>x.data.toList) ∘ ba)=id from funext aCt,List.map_id];exact PV L
      rw [e2,if_pos (by rw [List.length_map];omega),if_pos (by omega)];rfl
    exact EvP.fQ e (EvP.ret rfl)
  |d + 1,j,h=>by
    have hj':j < L.length:=by omega
    refine EvP.step (fun k=>dN.l0.eq_2 (k:=k) ..) (EvP.yes (by rw [List.length_map];omega) (EvP.yes (by omega) (EvP.yes (by rw [List.length_map];omega) ?_)));rw [rdB L j hj'];refine EvP.dO (NY _ (by have:=hs L[j] (by simp);omega) (ht L[j] (by simp))) (EvP.yes rfl ?_);rw [w64 (by omega) (by omega),show (j:Int) + 1=((j + 1:Nat):Int) by omega];exact BP L hn hs ht hj d (j + 1) (by omega)
theorem CW (L:List (List UInt8)) (hn:L.length≤1000000) (hs:∀ t ∈ L,t.length≤1000000) (ht:∀ t ∈ L,Tok t) (hj:(kK L).length≤1000000000):EvP (fun k=>dN.f k (L.map ba)) (·=ba (kK L)):=
  BP L hn hs ht hj L.length 0 (by omega)
theorem aIs {c:UInt8} (h:isD c=true):EvP (fun k=>bK.f k (c.toNat:Int)) (·=1):=by
  unfold isD at h;simp only [Bool.and_eq_true,decide_eq_true_eq] at h;unfold bK.f;refine EvP.yes (by omega) (EvP.step (fun k=>bK.j0.eq_2 (k:=k) ..) (EvP.yes (by rw [decide_eq_true_eq];omega) (EvP.ret rfl)))
theorem aIt {c:UInt8} (h:isL c=true):EvP (fun k=>bK.f k (c.toNat:Int)) (·=2):=by
  unfold isL at h;simp only [Bool.and_eq_true,decide_eq_true_eq] at h;unfold bK.f;refine EvP.yes (by omega) (EvP.step (fun k=>bK.j0.eq_2 (k:=k) ..) (EvP.no (by rw [decide_eq_true_eq];omega) (EvP.yes (by omega) ?_)));exact EvP.step (fun k=>bK.j1.eq_2 (k:=k) ..) (EvP.yes (by rw [decide_eq_true_eq];omega) (EvP.ret rfl))
theorem MR (t:List UInt8) (hl:t.length≤1000000000) (h0:0 < t.length) (n:Int) (hk:∀ x ∈ t,EvP (fun k=>bK.f k (x.toNat:Int)) (·=n)):∀ (d j:Nat),j + d=t.length→EvP (fun k=>fV.l0 k (ba t) 0 (j:Int)) (·=(t.length:Int))
  |0,j,h=>EvP.step (fun k=>fV.l0.eq_2 (k:=k) ..) (EvP.no (by rw [mI];omega) (EvP.ret (by omega)))
  |d + 1,j,h=>by
    have hj:j < t.length:=by omega
    refine EvP.step (fun k=>fV.l0.eq_2 (k:=k) ..) (EvP.yes (by rw [mI];omega) (EvP.yes (by omega) ?_));rw [aCs t j hj,show bt (ba t) 0=(t[0].toNat:Int) from aCs t 0 h0];refine EvP.dO (hk _ (by simp)) (EvP.yes (by omega) (EvP.yes (by rw [mI];omega) (EvP.dO (hk _ (by simp)) (EvP.yes rfl ?_))));rw [w64 (by omega) (by omega),show (j:Int) + 1=((j + 1:Nat):Int) by omega];exact MR t hl h0 n hk d (j + 1) (by omega)
theorem aDz (t:List UInt8) (h:t ∈ syms):EvP (fun k=>eT.f k (ba t) 0) (·=(t.length:Int)):=by
  refine Ev.evp (Ev.of (eT.mono _ _) (k:=60) ?_);simp only [syms,List.mem_cons,List.not_mem_nil,or_false] at h;rcases h with h|h|h|h|h|h|h|h|h|h|h|h|h|h|h|h|h|h <;> subst h <;> kernel_rfl
theorem aGa (t:List UInt8) (hl:t.length≤1000000000) (ht:Tok t):EvP (fun k=>eT.f k (ba t) 0) (·=(t.length:Int)):=by
  have h0:=ht.pos;cases ht with
  |dig c t h=>
    unfold eT.f;refine EvP.yes (by omega) (EvP.yes (by rw [mI];omega) ?_);rw [aAw];refine EvP.dO (aIs (h c (by simp))) (EvP.yes rfl (EvP.step (fun k=>eT.j0.eq_2 (k:=k) ..) (EvP.yes rfl (EvP.dO ?_ (EvP.ret rfl)))));exact MR (c :: t) hl h0 1 (fun x hx=>aIs (h x hx)) (c :: t).length 0 (by omega)
  |let_ c t h=>
    unfold eT.f;refine EvP.yes (by omega) (EvP.yes (by rw [mI];omega) ?_);rw [aAw];refine EvP.dO (aIt (h c (by simp))) (EvP.no (by omega) (EvP.step (fun k=>eT.j0.eq_2 (k:=k) ..) (EvP.yes rfl (EvP.dO ?_ (EvP.ret rfl)))));exact MR (c :: t) hl h0 2 (fun x hx=>aIt (h x hx)) (c :: t).length 0 (by omega)
  |sym t h=>exact aDz t h
theorem DT (t:List UInt8) (hl:t.length≤1000000000) (ht:Tok t):EvP (fun k=>gM.f k (ba t)) (·=true):=by
  unfold gM.f;have h0:=ht.pos;refine EvP.no (by rw [tF];intro e;rw [e] at h0;simp at h0) (EvP.dO (aGa t hl ht) (EvP.ret ?_));rw [mI];simp
theorem aBj {l:List (List UInt8)} (h:l≠[]) (x:List UInt8):kK (l ++ [x])=kK l ++ 32 :: x:=SA h (by simp)
theorem MO (L:List (List UInt8)):∀ j:Nat,(kK (L.take j)).length≤(kK L).length:=by
 induction L with
 |nil=>intro j;simp
 |cons x r ih=>
  intro j;cases j with
  |zero=>simp [kK]
  |succ j=>
   rw [List.take_succ_cons];cases r with
   |nil=>simp [kK]
   |cons y q=>
    cases j with
    |zero=>simp [kK]
    |succ j=>
     have:=ih (j + 1);rw [pI x (by simp),pI x (by simp)];simp only [List.length_append,List.length_cons] at this ⊢;omega
theorem KI (L:List (List UInt8)) (hn:L.length≤1000000) (hs:∀ t ∈ L,t.length≤1000000) (ht:∀ t ∈ L,Tok t) (hj:(kK L).length≤1000000000):∀ (d j:Nat),j + d=L.length→EvP (fun k=>dI.l0 k (L.map ba) (ba (kK (L.take j))) (j:Int)) (·=ba (kK L))
  |0,j,h=>EvP.step (fun k=>dI.l0.eq_2 (k:=k) ..) (EvP.no (by rw [List.length_map];omega) (EvP.ret (by rw [List.take_of_length_le (by omega)])))
  |d + 1,j,h=>by
    have hj':j < L.length:=by omega
    have h1:=MO L j;have h2:=hs L[j] (by simp);refine EvP.step (fun k=>dI.l0.eq_2 (k:=k) ..) (EvP.yes (by rw [List.length_map];omega) (EvP.yes (by omega) ?_));rw [rdB L j hj'];refine EvP.dO (DT _ (by omega) (ht L[j] (by simp))) (EvP.yes rfl ?_);have e1:L.take (j + 1)=L.take j ++ [L[j]]:=by rw [List.take_succ_eq_append_getElem hj']
    have ih:=KI L hn hs ht hj d (j + 1) (by omega);rw [show ((j + 1:Nat):Int)=wrap64 ((j:Int) + 1) by rw [w64 (by omega) (by omega)];omega] at ih;refine EvP.ite (fun hp=>?_) (fun hp=>?_)
    · refine EvP.yes (by rw [mI];omega) ?_
      rw [show (⟨#[32]⟩:ByteArray)=ba [32] from rfl,AO];refine EvP.yes (by rw [mI,mI,List.length_append];show _ + 1 + _≤_;omega) ?_;rw [AO];have e2:kK (L.take j) ++ [32] ++ L[j]=kK (L.take (j + 1)):=by
        rw [e1,aBj (by intro e;have:=congrArg List.length e;rw [List.length_take,List.length_nil] at this;omega)];simp
      rw [e2];exact ih
    · have hj0:j=0:=by omega
      subst hj0;refine EvP.yes (by rw [mI,mI];omega) ?_;rw [AO];have e2:kK (L.take 0) ++ L[0]=kK (L.take (0 + 1)):=by
        rw [e1];rfl
      rw [e2];exact ih
theorem DU (L:List (List UInt8)) (hn:L.length≤1000000) (hs:∀ t ∈ L,t.length≤1000000) (ht:∀ t ∈ L,Tok t) (hj:(kK L).length≤1000000000):EvP (fun k=>dI.f k (L.map ba)) (·=ba (kK L)):=
  KI L hn hs ht hj L.length 0 (by omega)
def tri (e:S56):Int × Int × List S56:=(e.f0,e.f1,e.f2)
theorem sO (a:Int):lV.f a=some (wrap32 a):=by
 unfold lV.f;rw [aIn]
theorem BU (b:Bool):pF.f b=some (if b=true then 1 else 0):=by
 unfold pF.f;cases b <;> rfl
theorem OE (op a b:Int):lW.f op a b=some (ap op a b):=by
 unfold lW.f ap;have hs:=aKr b;by_cases h1:op=1;·rw [if_pos h1,if_pos h1]
 rw [if_neg h1,if_neg h1];by_cases h2:op=2;·rw [if_pos h2,if_pos h2]
 rw [if_neg h2,if_neg h2];by_cases h3:op=3;·rw [if_pos h3,if_pos h3]
 rw [if_neg h3,if_neg h3];by_cases h4:op=4
 ·rw [if_pos h4,if_pos h4,BU];simp
 rw [if_neg h4,if_neg h4];by_cases h5:op=5
 ·rw [if_pos h5,if_pos h5,BU];simp
 rw [if_neg h5,if_neg h5];by_cases h6:op=6;·rw [if_pos h6,if_pos h6,if_pos hs.1,sO,Option.bind_some]
 rw [if_neg h6,if_neg h6];by_cases h7:op=7;·rw [if_pos h7,if_pos h7,if_pos hs.1]
 rw [if_neg h7,if_neg h7];by_cases h8:op=8;·rw [if_pos h8,if_pos h8,sO,Option.bind_some,LJ]
 rw [if_neg h8,if_neg h8];by_cases h9:op=9;·rw [if_pos h9,if_pos h9,sO,Option.bind_some,LJ]
 rw [if_neg h9,if_neg h9];by_cases j3:op=10;·rw [if_pos j3,if_pos j3,sO,Option.bind_some,LJ]
 rw [if_neg j3,if_neg j3];by_cases j4:op=11
 ·rw [if_pos j4,if_pos j4];by_cases hb:b=0;·rw [if_pos hb,if_pos hb]
  ·rw [if_neg hb,if_neg hb,sO,Option.bind_some,LJ]
 rw [if_neg j4,if_neg j4];by_cases hb:b=0;·rw [if_pos hb,if_pos hb]
 ·rw [if_neg hb,if_neg hb]
theorem aIj (x:X) (hd:x.depth≤5):x.size≤31:=by
 have h1:=X.DN x;have h2:2 ^ x.depth≤2 ^ 5:=Nat.pow_le_pow_right (by omega) hd;omega
theorem aFr {x:X} (h:x.ok):(emb x).f0=0 ↔ ∃ n,x= .num n:=by
 cases x with
 |num n=>exact ⟨fun _=>⟨n,rfl⟩,fun _=>rfl⟩
 |var v=>
  refine ⟨fun e=>?_,fun ⟨n,e⟩=>by cases e⟩;simp [emb] at e
 |bin op a b=>
  refine ⟨fun e=>?_,fun ⟨n,e⟩=>by cases e⟩;have e:op=0:=e;have ho:=h.1;omega
theorem tL:∀ x:X,x.ok→EvP (fun k=>cK.f k (emb x).f0 (emb x).f1 (emb x).f2) (·=tri (emb x.fold))
  | .num n,h=>EvP.step (fun k=>cK.f.eq_2 (k:=k) ..) (EvP.yes rfl (EvP.ret rfl))
  | .var v,h=>EvP.step (fun k=>cK.f.eq_2 (k:=k) ..) (EvP.yes rfl (EvP.ret rfl))
  | .bin op a b,h=>by
    have ha:=X.uZ a h.2.1;have hb:=X.uZ b h.2.2;have he:(X.bin op a b).fold=X.wW op a.fold b.fold:=rfl;rw [he];refine EvP.step (fun k=>cK.f.eq_2 (k:=k) ..) (EvP.no (by simp [emb]) (EvP.yes (by simp [emb]) ?_));refine EvP.dO (tL a h.2.1) (EvP.yes (by simp [emb]) (EvP.dO (tL b h.2.2) ?_));generalize a.fold=x at ha ⊢;generalize b.fold=y at hb ⊢;simp only [tri];have stay:(¬ ∃ m n,x= .num m∧y= .num n)→X.wW op x y= .bin op x y:=fun hn=>X.aFt fun m n e1 e2=>absurd ⟨m,n,e1,e2⟩ hn
    refine EvP.ite (fun hx=>?_) (fun hx=>?_)
    · obtain ⟨m,rfl⟩:=(aFr ha).1 hx
      refine EvP.step (fun k=>cK.j0.eq_2 (k:=k) ..) (EvP.ite (fun hy=>?_) (fun hy=>EvP.ret ?_))
      · obtain ⟨n,rfl⟩:=(aFr hb).1 (by simpa using hy)
        refine EvP.fQ (OE _ _ _) ?_;simp only [emb,X.wW];refine EvP.ite (fun h1=>EvP.ite (fun h2=>EvP.ret ?_) (fun h2=>EvP.ret ?_)) (fun h1=>EvP.ret ?_)
        · rw [if_pos ⟨h1,h2⟩]
          rfl
        · rw [if_neg (fun e=>h2 e.2)]
          rfl
        · rw [if_neg (fun e=>h1 e.1)]
          rfl
      · rw [stay (fun ⟨m',n,_,e⟩=>hy (by rw [e];rfl))]
        simp only [emb,aBb]
    · refine EvP.step (fun k=>cK.j0.eq_2 (k:=k) ..) (EvP.no (by simp) (EvP.ret ?_))
      rw [stay (fun ⟨m',n,e,_⟩=>hx (by rw [e];rfl))];simp only [emb,aBb]
theorem aCa (x y:Int) (hx:0≤x) (j3:x < 4611686018427387904) (hy:0≤y) (j4:y < 4611686018427387904):0≤Go.bits .xor .i64 x y:=by
 obtain ⟨a,rfl⟩:=Int.eq_ofNat_of_zero_le hx;obtain ⟨b,rfl⟩:=Int.eq_ofNat_of_zero_le hy;have ha:a < 2 ^ 62:=by omega
 have hb:b < 2 ^ 62:=by omega
 have hx:=Nat.xor_lt_two_pow ha hb;simp only [Go.bits,BitVec.ofInt_natCast,BitVec.toNat_xor,BitVec.toNat_ofNat];rw [show IntKind.i64.bits=64 from rfl,Nat.mod_eq_of_lt (a:=a) (by omega),Nat.mod_eq_of_lt (a:=b) (by omega),IntKind.wrap_i64];omega
def Bytes (b:List Int):Prop:=b.length≤2000∧∀ x ∈ b,0≤x∧x≤255
theorem Bytes.rd {b:List Int} (h:Bytes b) (i:Int) (h0:0≤i) (h1:i < b.length):0≤Go.Proofs.YtjamfkpgmkhbnaaGreatDoorW.PrintWords.rd b i∧Go.Proofs.YtjamfkpgmkhbnaaGreatDoorW.PrintWords.rd b i≤255:=h.2 _ (aGp b i h0 h1)
theorem aBt (l:List Int) (hl:l.length≤140737488351232) (hw:∀ x ∈ l,(Lit.int .u8 x).wf=true):∃ b,nX.f l=some (b,0)∧Bytes b:=by
 have hb:∀ x ∈ l,0≤x∧x≤255:=by
  intro x hx;have h:=hw x hx;simp only [Lit.wf,Bool.and_eq_true,decide_eq_true_eq] at h;have e1:IntKind.u8.min=0:=by decide
  have e2:IntKind.u8.max=255:=by decide
  omega
 unfold nX.f;by_cases h:(l.length:Int) > 2000
 ·rw [if_pos h,if_pos (by omega)];exact ⟨_,rfl,by rw [List.length_take];omega,fun x hx=>hb x (List.mem_of_mem_take hx)⟩
 ·rw [if_neg h];exact ⟨_,rfl,by omega,hb⟩
def aJg (p n:Int) (r:Int × Int):Prop:=r.2=p + 1∧0≤r.1∧(1≤n→r.1 < n)∧(n < 1→r.1=0)
theorem aIh (b:List Int) (hb:Bytes b) (p n:Int) (h0:0≤p) (h1:p≤1000000000000):EvP (fun k=>aH.f k b p n) (aJg p n):=by
 unfold aH.f;rw [w64 (n:=p + 1) (by omega) (by omega)];have hz:EvP (fun k=>aH.j0 k n true b (p + 1)) (fun r=>r.2=p + 1∧r.1=0):=
  EvP.step (fun k=>aH.j0.eq_2 (k:=k) ..) (EvP.yes rfl (EvP.ret ⟨rfl,rfl⟩))
 refine EvP.ite (fun h=>?_) (fun h=>?_);·exact hz.mono fun r hr=>⟨hr.1,by omega,fun _=>by omega,fun _=>hr.2⟩
 ·cases hl:((b.length:Int) == 0) with
  |true=>exact hz.mono fun r hr=>⟨hr.1,by omega,fun _=>by omega,fun _=>hr.2⟩
  |false=>
   have hl':(b.length:Int)≠0:=by simpa using hl
   have hbl:=hb.1;refine EvP.step (fun k=>aH.j0.eq_2 (k:=k) ..) (EvP.no (by decide) ?_);rw [w64 (n:=p + 1 - 1) (by omega) (by omega),show p + 1 - 1=p by omega];refine EvP.ite (fun h2=>?_) (fun h2=>?_)
   ·refine EvP.yes h0 (EvP.no (by omega) (EvP.ret ?_));have hr:=hb.rd p h0 h2;rw [w64 (by omega) (by omega)];have ht:=FL hr.1 (show 0 < n by omega);exact ⟨rfl,ht.1,fun _=>ht.2,fun _=>by omega⟩
   ·have t1:=FL h0 (show (0:Int) < b.length by omega);have t2:=FL (show 0≤p * 7 + 3 by omega) (show (0:Int) < b.length by omega);rw [w64 (n:=p * 7) (by omega) (by omega),w64 (n:=p * 7 + 3) (by omega) (by omega)];refine EvP.no hl' (EvP.yes t1.1 (EvP.yes t1.2 (EvP.yes t2.1 (EvP.yes t2.2 (EvP.no (by omega) (EvP.ret ?_))))));have r1:=hb.rd _ t1.1 t1.2;have r2:=hb.rd _ t2.1 t2.2;have hd0:0≤Int.tdiv p b.length:=Int.tdiv_nonneg h0 (by omega);have hd1:Int.tdiv p b.length≤p:=by
     rw [Int.tdiv_eq_ediv_of_nonneg h0];exact Int.ediv_le_self _ h0
    generalize Go.Proofs.YtjamfkpgmkhbnaaGreatDoorW.PrintWords.rd b (Int.tmod p b.length)=x1 at *;generalize Go.Proofs.YtjamfkpgmkhbnaaGreatDoorW.PrintWords.rd b (Int.tmod (p * 7 + 3) b.length)=x2 at *;generalize Int.tdiv p b.length=q at *;simp only [w64 (n:=x1) (by omega) (by omega),w64 (n:=x2) (by omega) (by omega),w64 (n:=q) (by omega) (by omega)];simp only [w64 (n:=x1 * 131) (by omega) (by omega),w64 (n:=x2 * 1117) (by omega) (by omega),w64 (n:=p * 29) (by omega) (by omega),w64 (n:=q * 53) (by omega) (by omega)];simp only [w64 (n:=x1 * 131 + x2 * 1117) (by omega) (by omega)];simp only [w64 (n:=x1 * 131 + x2 * 1117 + p * 29) (by omega) (by omega)];simp only [w64 (n:=x1 * 131 + x2 * 1117 + p * 29 + q * 53) (by omega) (by omega)];have j3:0≤x1 * 131 + x2 * 1117 + p * 29 + q * 53:=by omega
    have j4:x1 * 131 + x2 * 1117 + p * 29 + q * 53 < 1000000000000000:=by omega
    generalize x1 * 131 + x2 * 1117 + p * 29 + q * 53=s at *;have hv0:0≤Int.tdiv s 64:=Int.tdiv_nonneg j3 (by omega);have hv1:Int.tdiv s 64≤s:=by
     rw [Int.tdiv_eq_ediv_of_nonneg j3];exact Int.ediv_le_self _ j3
    rw [w64 (n:=Int.tdiv s 64) (by omega) (by omega)];have hx:=aCa s (Int.tdiv s 64) j3 (by omega) hv0 (by omega);have ht:=FL hx (show 0 < n by omega);exact ⟨rfl,ht.1,fun _=>ht.2,fun _=>by omega⟩
theorem gJ {β:Type} {b:List Int} (hb:Bytes b) {p n:Int} (h0:0≤p) (h1:p≤1000000000000) {f:Nat→Int × Int→Option β} {R:β→Prop}
  (k:∀ v,0≤v→(1≤n→v < n)→(n < 1→v=0)→EvP (fun m=>f m (v,p + 1)) R):EvP (fun m=>(aH.f m b p n).bind (f m)) R:=
 EvP.bind (aIh b hb p n h0 h1) (fun r hr=>by
  obtain ⟨v,q⟩:=r;obtain ⟨e,k0,k1,k2⟩:=hr;obtain rfl:q=p + 1:=e;exact k v k0 k1 k2)
theorem aGb (b:List Int) (hb:Bytes b) (p:Int) (h0:0≤p) (h1:p≤900000000000):EvP (fun k=>mK.f k b p) (fun r=>r.2=p + 1∧1≤r.1∧r.1≤12):=by
 unfold mK.f;refine gJ hb h0 (by omega) fun v v0 v1 _=>?_
 have:=v1 (by omega);dsimp only;rw [w64 (by omega) (by omega)];exact EvP.ret (by dsimp only;omega)
theorem MS (b:List Int) (hb:Bytes b) (p:Int) (h0:0≤p) (h1:p≤900000000000):EvP (fun k=>iM.f k b p) (fun r=>p≤r.2.2.2∧r.2.2.2≤p + 2∧r.2.2.1.length=0):=by
 unfold iM.f;refine gJ hb h0 (by omega) fun v v0 v1 _=>?_
 dsimp only;refine EvP.ite (fun h=>?_) (fun h=>?_)
 ·refine gJ hb (by omega) (by omega) fun v2 w0 w1 _=>?_
  exact EvP.fQ rfl (EvP.ret (by simp;omega))
 ·refine EvP.ite (fun h=>?_) (fun h=>?_)
  ·refine EvP.fQ rfl (gJ hb (by omega) (by omega) fun v2 w0 w1 _=>?_);have:=w1 (by omega);exact EvP.yes w0 (EvP.yes (by simp;omega) (EvP.fQ rfl (EvP.ret (by simp;omega))))
  ·refine gJ hb (by omega) (by omega) fun v2 w0 w1 _=>?_
   exact EvP.fQ rfl (EvP.ret (by simp;omega))
theorem aBk (b:List Int) (hb:Bytes b):∀ (d:Nat) (p:Int),d≤10→0≤p→p + 4 ^ (d + 1)≤800000000000→EvP (fun k=>bJ.f k b p (d:Int)) (fun r=>p≤r.2.2.2∧r.2.2.2≤p + 4 ^ (d + 1)∧r.2.2.1.length≤2):=by
 intro d;have leaf:∀ (d':Int) (q:Int) (p:Int) (m:Nat),0≤q→q≤800000000000→p≤q→q + 2≤p + 4 ^ (m + 1)→EvP (fun k=>bJ.j0 k d' true b q) (fun r=>p≤r.2.2.2∧r.2.2.2≤p + 4 ^ (m + 1)∧r.2.2.1.length≤2):=by
  intro d' q p m h0 h1 h2 h3;refine EvP.step (fun k=>bJ.j0.eq_2 (k:=k) ..) (EvP.yes rfl ?_);refine EvP.bind (MS b hb q h0 (by omega)) fun r hr=>?_
  exact EvP.ret (by dsimp only;omega)
 induction d with
 |zero=>
  intro p hd h0 h1;refine EvP.step (fun k=>bJ.f.eq_2 (k:=k) ..) (EvP.yes (by omega) ?_);exact leaf _ p p 0 h0 (by omega) (by omega) (by omega)
 |succ d ih=>
  intro p hd h0 h1;have h4:(4:Int) ^ (d + 1 + 1)=4 * 4 ^ (d + 1):=by rw [Int.pow_succ,Int.mul_comm]
  have h5:(4:Int)≤4 ^ (d + 1):=by
   have:0 < (4:Int) ^ d:=Int.pow_pos (by omega);rw [Int.pow_succ];omega
  refine EvP.step (fun k=>bJ.f.eq_2 (k:=k) ..) (EvP.ite (fun h=>?_) (fun h=>?_));·exact leaf _ p p (d + 1) h0 (by omega) (by omega) (by omega)
  ·refine gJ hb h0 (by omega) fun v v0 v1 _=>?_
   dsimp only;cases hv:(v == 0) with
   |true=>exact leaf _ (p + 1) p (d + 1) (by omega) (by omega) (by omega) (by omega)
   |false=>
    refine EvP.step (fun k=>bJ.j0.eq_2 (k:=k) ..) (EvP.no (by simp) ?_);rw [w64 (by omega) (by omega),show ((d + 1:Nat):Int) - 1=(d:Int) by omega];refine EvP.bind (aGb b hb (p + 1) (by omega) (by omega)) fun r hr=>?_
    refine EvP.bind (ih r.2 (by omega) (by omega) (by omega)) fun s hs=>?_
    refine EvP.bind (ih s.2.2.2 (by omega) (by omega) (by omega)) fun u hu=>?_
    exact EvP.fQ rfl (EvP.ret (by simp;omega))
theorem rV (b:List Int) (hb:Bytes b) (d:Int) (p:Int) (hd0:0≤d) (hd:d≤5) (h0:0≤p) (h1:p≤700000000000):EvP (fun k=>bJ.f k b p d) (fun r=>p≤r.2.2.2∧r.2.2.2≤p + 4096∧r.2.2.1.length≤2):=by
 have hp:(4:Int) ^ (d.toNat + 1)≤4096:=by
  have:d.toNat≤5:=by omega
  have h2:4 ^ (d.toNat + 1)≤4 ^ 6:=Nat.pow_le_pow_right (by omega) (by omega);have h3:((4 ^ (d.toNat + 1):Nat):Int)≤4096:=by omega
  rw [Int.natCast_pow] at h3;exact h3
 have h:=aBk b hb d.toNat p (by omega) h0 (by omega);rw [Int.toNat_of_nonneg hd0] at h;exact h.mono fun r hr=>by omega
theorem KV {n:Int} (h0:0≤n) (h:n≤99999):iC.f n=some (ba (dec n)):=by
 unfold iC.f;rw [if_pos h0,if_pos (by omega),aFp h0];rfl
theorem uP {v:Int} (h:0≤v∧v < 4):lH.f v=some (ba (GU v)):=by
 unfold lH.f;rw [if_pos (by omega)];rfl
theorem PZ {op:Int} (h:1≤op∧op≤12):op=1∨op=2∨op=3∨op=4∨op=5∨op=6∨op=7∨op=8∨op=9∨op=10∨op=11∨op=12:=by omega
theorem yA {op:Int} (h:1≤op∧op≤12):EvP (fun k=>dK.f k op) (·=lev op):=by
  refine Ev.evp (Ev.of (dK.mono _) (k:=10) ?_);rcases PZ h with h|h|h|h|h|h|h|h|h|h|h|h <;> subst h <;> first|rfl|kernel_rfl
theorem yB {op:Int} (h:1≤op∧op≤12):mD.f op=some (lev op):=by
 rcases PZ h with h|h|h|h|h|h|h|h|h|h|h|h <;> subst h <;> first|rfl|kernel_rfl
theorem ML {op:Int} (h:1≤op∧op≤12):rU.f op=some (ba (opB op)):=by
 rcases PZ h with h|h|h|h|h|h|h|h|h|h|h|h <;> subst h <;> first|rfl|kernel_rfl
theorem NK {op:Int} (h:1≤op∧op≤12):rY.f op=some (ba (opB op)):=by
 rcases PZ h with h|h|h|h|h|h|h|h|h|h|h|h <;> subst h <;> first|rfl|kernel_rfl
theorem FY {op:Int} (h:1≤op∧op≤12):1≤lev op∧lev op≤8:=by
 rcases PZ h with h|h|h|h|h|h|h|h|h|h|h|h <;> subst h <;> decide
theorem aBx {n:Int} (h0:0≤n) (h:n < 10):strOfNums (([(wrap64 (48 + n)) % 256]:List Int))=ba [UInt8.ofNat (48 + n.toNat)]:=by
 rw [w64 (by omega) (by omega),Int.emod_eq_of_lt (by omega) (by omega)];show ba [UInt8.ofNat (48 + n).toNat]=_
 rw [show (48 + n).toNat=48 + n.toNat by omega]
theorem uF:∀ (m:Nat) (n:Int),n.toNat≤m→0≤n→n≤1000000→EvP (fun k=>eB.f k n) (·=ba (dec n)):=by
  intro m;induction m with
  |zero=>
    intro n hm h0 h1;have:n=0:=by omega
    subst this;refine EvP.step (fun k=>eB.f.eq_2 (k:=k) ..) (EvP.no (by omega) (EvP.no (by omega) (EvP.yes (by omega) (EvP.ret ?_))));rw [aBx (by omega) (by omega)];unfold dec;rw [Lib.decDigits,dif_pos (by decide)]
  |succ m ih=>
    intro n hm h0 h1;refine EvP.step (fun k=>eB.f.eq_2 (k:=k) ..) (EvP.no (by omega) (EvP.no (by omega) (EvP.ite (fun h=>EvP.ret ?_) (fun h=>?_))))
    · rw [aBx (by omega) (by omega)]
      unfold dec;rw [Lib.decDigits,dif_pos (by omega)]
    · have hd:Int.tdiv n 10=n / 10:=Int.tdiv_eq_ediv_of_nonneg h0
      have hr:Int.tmod n 10=n % 10:=Int.tmod_eq_emod_of_nonneg h0;rw [hd,hr,w64 (n:=n / 10) (by omega) (by omega)];refine EvP.dO (ih (n / 10) (by omega) (by omega) (by omega)) (EvP.fQ rfl ?_);rw [aBx (n:=n % 10) (by omega) (by omega)];have hl:(dec (n / 10)).length≤7:=BS 6 _ (by omega);refine EvP.yes (by rw [mI,mI];show _ + 1≤_;omega) (EvP.ret ?_);rw [AO];unfold dec;rw [Lib.decDigits.eq_1 n.toNat,dif_neg (by omega),show (n / 10).toNat=n.toNat / 10 by omega,show (n % 10).toNat=n.toNat % 10 by omega]
theorem vU {v:Int} (h:0≤v∧v < 4):mZ.f v=some (ba (GU v)):=by
 unfold mZ.f;rw [w64 (by omega) (by omega),Int.emod_eq_of_lt (by omega) (by omega)];rfl
theorem yZ (L:List (List UInt8)) (b:Bool) (hl:L.length≤1000000):nA.f (L.map ba) b=some ((vY L b).map ba):=by
 unfold nA.f vY;cases b with
 |false=>rw [if_neg Bool.false_ne_true,if_neg Bool.false_ne_true]
 |true=>
  rw [if_pos rfl,if_pos rfl];simp only [Option.bind_some];rw [if_pos (by rw [List.length_map];show 1 + _ < _;omega)];rw [if_pos (by rw [List.length_append,List.length_map];show 1 + _ < _;omega)];rw [List.map_cons,List.map_append];rfl
theorem yC {x:X} (h:x.ok):mW.f (emb x).f0 (emb x).f1 (emb x).f2=some x.lev:=by
 unfold mW.f;cases x with
 |num n=>rfl
 |var v=>rfl
 |bin op a b=>
  rw [if_neg (by simp [emb])];show ((mD.f op).bind fun t=>some t)=_
  rw [yB h.1];rfl
theorem sW {x:X} (h:x.ok) (hx:∀ out:List ByteArray,out.length + 5 * x.size≤1000000→EvP (fun k=>bH.f k (emb x).f0 (emb x).f1 (emb x).f2 out) (·=out ++ x.toks.map ba))
    (least:Int) (hl:least≤9) (out:List ByteArray) (ho:out.length + 5 * x.size + 2≤1000000):EvP (fun k=>bD.f k (emb x).f0 (emb x).f1 (emb x).f2 least out) (·=out ++ (vY x.toks (decide (x.lev < least))).map ba):=by
  refine EvP.step (fun k=>bD.f.eq_2 (k:=k) ..) ?_;have no:decide (x.lev < least)=false→EvP (fun k=>bD.j0 k out true (emb x).f0 (emb x).f1 (emb x).f2) (·=out ++ (vY x.toks (decide (x.lev < least))).map ba):=by
    intro hd;rw [hd];exact EvP.step (fun k=>bD.j0.eq_2 (k:=k) ..) (EvP.yes rfl (EvP.dO (hx out (by omega)) (EvP.ret rfl)))
  cases x with
  |num n=>exact EvP.fQ (oH 0) (EvP.no (by decide) (no (dF (by show ¬ (9:Int) < least;omega))))
  |var v=>exact EvP.fQ (oH 13) (EvP.no (by decide) (no (dF (by show ¬ (9:Int) < least;omega))))
  |bin op a b=>
    have h1:=h.1;refine EvP.fQ (oH op) (EvP.yes (by simp [h1.1,h1.2]) (EvP.dO (yA h1) ?_));show EvP (fun n=>bD.j0 n out (decide (lev op≥least)) (emb (X.bin op a b)).f0 (emb (X.bin op a b)).f1 (emb (X.bin op a b)).f2) _
    by_cases hc:lev op < least
    · rw [dF (show ¬ lev op≥least by omega)]
      rw [show decide ((X.bin op a b).lev < least)=true from dT hc];refine EvP.step (fun k=>bD.j0.eq_2 (k:=k) ..) (EvP.no Bool.false_ne_true (EvP.yes (by omega) (EvP.dO (hx (out ++ [(⟨#[40]⟩:ByteArray)]) (by rw [List.length_append];show _ + 1 + _≤_;omega)) (EvP.yes ?_ (EvP.ret ?_)))))
      · have:=vX (X.bin op a b)
        rw [List.length_append,List.length_append,List.length_map];show _ + 1 + _ < _
        omega
      · unfold vY
        rw [if_pos rfl,List.map_cons,List.map_append];simp;exact ⟨rfl,rfl⟩
    · rw [dT (show lev op≥least by omega)]
      exact no (dF hc)
theorem kX:∀ x:X,x.ok→∀ out:List ByteArray,out.length + 5 * x.size≤1000000→EvP (fun k=>bH.f k (emb x).f0 (emb x).f1 (emb x).f2 out) (·=out ++ x.toks.map ba)
  | .num n,h,out,ho=>by
    have h:0≤n∧n≤99999:=h;exact EvP.step (fun k=>bH.f.eq_2 (k:=k) ..) (EvP.yes rfl (EvP.fQ (KV h.1 h.2) (EvP.yes (by omega) (EvP.ret rfl))))
  | .var v,h,out,ho=>by
    have h:0≤v∧v < 4:=h;exact EvP.step (fun k=>bH.f.eq_2 (k:=k) ..) (EvP.no (by show ¬ (13:Int)=0;decide) (EvP.yes rfl (EvP.fQ (uP h) (EvP.yes (by omega) (EvP.ret rfl)))))
  | .bin op a b,h,out,ho=>by
    have h1:=h.1;have hr:=FY h1;have hs:(X.bin op a b).size=a.size + b.size + 1:=rfl;have ta:=vX a;have wa:=wZ a.toks (decide (a.lev < lev op));show EvP (fun k=>bH.f k op 0 [emb a,emb b] out) _
    refine EvP.step (fun k=>bH.f.eq_2 (k:=k) ..) (EvP.no (by show ¬ op=0;omega) (EvP.no (by show ¬ op=13;omega) (EvP.dO (yA h1) (EvP.yes (by show (0:Int) < 2;omega) ?_))));show EvP (fun k=>(bD.f k (emb a).f0 (emb a).f1 (emb a).f2 (lev op) out).bind _) _
    refine EvP.dO (sW h.2.1 (kX a h.2.1) (lev op) (by omega) out (by omega)) (EvP.fQ (ML h1) (EvP.yes (by rw [List.length_append,List.length_map];omega) (EvP.yes (by show (1:Int) < 2;omega) ?_)));show EvP (fun k=>(bD.f k (emb b).f0 (emb b).f1 (emb b).f2 (wrap64 (lev op + 1)) _).bind _) _
    rw [w64 (by omega) (by omega)];refine EvP.dO (sW h.2.2 (kX b h.2.2) (lev op + 1) (by omega) _ (by rw [List.length_append,List.length_append,List.length_map];show _ + _ + 1 + _ + 2≤_;omega)) (EvP.ret ?_);rw [X.toks,List.map_append,List.map_cons,show decide (b.lev < lev op + 1)=decide (b.lev≤lev op) from decide_eq_decide.mpr (by omega)];simp
theorem nS:∀ x:X,x.ok→x.size≤1000→EvP (fun k=>bM.f k (emb x).f0 (emb x).f1 (emb x).f2) (·=x.toks.map ba)
  | .num n,h,_=>by
    have h:0≤n∧n≤99999:=h;exact EvP.step (fun k=>bM.f.eq_2 (k:=k) ..) (EvP.yes rfl (EvP.dO (uF n.toNat n (by omega) h.1 (by omega)) (EvP.ret rfl)))
  | .var v,h,_=>by
    have h:0≤v∧v < 4:=h;exact EvP.step (fun k=>bM.f.eq_2 (k:=k) ..) (EvP.no (by show ¬ (13:Int)=0;decide) (EvP.yes rfl (EvP.fQ (vU h) (EvP.ret rfl))))
  | .bin op a b,h,hz=>by
    have h1:=h.1;have hr:=FY h1;have hs:(X.bin op a b).size=a.size + b.size + 1:=rfl;have ta:=vX a;have tb:=vX b;have wa:=wZ a.toks (decide (a.lev < lev op));have wb:=wZ b.toks (decide (b.lev≤lev op));show EvP (fun k=>bM.f k op 0 [emb a,emb b]) _
    refine EvP.step (fun k=>bM.f.eq_2 (k:=k) ..) (EvP.no (by show ¬ op=0;omega) (EvP.no (by show ¬ op=13;omega) (EvP.fQ (yB h1) (EvP.yes (by show (0:Int) < 2;omega) ?_))));show EvP (fun k=>(bM.f k (emb a).f0 (emb a).f1 (emb a).f2).bind _) _
    refine EvP.dO (nS a h.2.1 (by omega)) (EvP.fQ (yC h.2.1) (EvP.fQ (yZ _ _ (by omega)) (EvP.fQ (NK h1) (EvP.yes (by rw [List.length_map];omega) (EvP.fQ rfl (EvP.yes (by show (1:Int) < 2;omega) ?_))))));show EvP (fun k=>(bM.f k (emb b).f0 (emb b).f1 (emb b).f2).bind _) _
    refine EvP.dO (nS b h.2.2 (by omega)) (EvP.fQ (yC h.2.2) (EvP.fQ (yZ _ _ (by omega)) ?_));refine EvP.yes (by rw [List.length_append,List.length_map,List.length_map];show _ + 1 + _ < _;omega) ?_;first
    |exact EvP.ret (by rw [X.toks,List.map_append,List.map_cons];simp)
    |exact EvP.fQ rfl (EvP.ret (by rw [X.toks,List.map_append,List.map_cons];simp))
theorem aId {op:Int} (h:1≤op∧op≤12):(opB op).length≤2:=by
 rcases PZ h with h|h|h|h|h|h|h|h|h|h|h|h <;> subst h <;> decide
theorem KP {l:List (List UInt8)} {b:Bool} {m:Nat} (hm:1≤m) (h:∀ t ∈ l,t.length≤m):∀ t ∈ vY l b,t.length≤m:=by
 unfold vY;split
 ·intro t ht;rcases List.mem_cons.1 ht with h1|h1
  ·subst h1;exact hm
  ·rcases List.mem_append.1 h1 with h2|h2;·exact h t h2
   ·rw [List.mem_singleton] at h2;subst h2;exact hm
 ·exact h
theorem xP:∀ x:X,x.ok→∀ t ∈ x.toks,t.length≤5
 | .num n,h=>by
  have h:0≤n∧n≤99999:=h;intro t ht;rw [X.toks,List.mem_singleton] at ht;subst ht;exact EH h.1 h.2
 | .var v,h=>by
  intro t ht;rw [X.toks,List.mem_singleton] at ht;subst ht;exact (by decide:(1:Nat)≤5)
 | .bin op a b,h=>by
  intro t ht;rw [X.toks] at ht;rcases List.mem_append.1 ht with h1|h1;·exact KP (by decide) (xP a h.2.1) t h1
  ·rcases List.mem_cons.1 h1 with h2|h2
   ·subst h2;have:=aId h.1;omega
   ·exact KP (by decide) (xP b h.2.2) t h2
theorem FW (m:Nat):∀ L:List (List UInt8),(∀ t ∈ L,t.length≤m)→(kK L).length≤(m + 1) * L.length
 |[],_=>by simp [kK]
 |[x],h=>by
  have:=h x (by simp);simp only [kK,List.length_singleton];omega
 |x :: y :: r,h=>by
  have h1:=h x (by simp);have h2:=FW m (y :: r) (fun t ht=>h t (by simp [ht]));rw [pI x (by simp),List.length_append,List.length_cons,List.length_cons (a:=x),Nat.mul_add];omega
theorem xQ (x:X) (hx:x.ok) (hd:x.depth≤5):x.size≤31∧x.toks.length≤151∧(kK x.toks).length≤906:=by
 have h1:=aIj x hd;have h2:=vX x;have h3:=FW 5 x.toks (xP x hx);omega
theorem WC {L:List (List UInt8)} (hne:L≠[]) (h:∀ t ∈ L,Tok t):kK L≠[]:=by
 cases L with
 |nil=>exact absurd rfl hne
 |cons x r=>
  have hx:=(h x (by simp)).pos;intro e;have e2:=congrArg List.length e;cases r with
  |nil=>
   have e2:x.length=0:=e2;omega
  |cons y q=>
   rw [pI x (by simp),List.length_append] at e2;simp at e2
inductive VS (boxes:Int):ST→Prop
 |mk (t:ST) (h:stS boxes (mG t)=true) (hx:t.x.ok) (hd:t.x.depth≤5) (hb:∀ y ∈ t.b,VS boxes y) (he:∀ y ∈ t.e,VS boxes y):VS boxes t
theorem VS.st {boxes:Int} {t:ST} (h:VS boxes t):stS boxes (mG t)=true:=by cases h;assumption
theorem VS.ok {boxes:Int} {t:ST} (h:VS boxes t):t.x.ok:=by cases h;assumption
theorem VS.dp {boxes:Int} {t:ST} (h:VS boxes t):t.x.depth≤5:=by cases h;assumption
theorem VS.b {boxes:Int} {t:ST} (h:VS boxes t):∀ y ∈ t.b,VS boxes y:=by cases h;assumption
theorem VS.e {boxes:Int} {t:ST} (h:VS boxes t):∀ y ∈ t.e,VS boxes y:=by cases h;assumption
theorem AV {l:List ST} {y:ST} (h:y ∈ l):mG y ∈ dQ l:=by
 induction l with
 |nil=>cases h
 |cons x r ih=>
  rw [dQ];rcases List.mem_cons.1 h with rfl|h;·exact List.mem_cons_self
  ·exact List.mem_cons_of_mem _ (ih h)
theorem EI {l:List ST} (h:(dQ l).length=0):l=[]:=by
 rw [gQ] at h;exact List.eq_nil_of_length_eq_zero h
theorem aDi {boxes:Int} {t:ST} (h:stS boxes (mG t)=true) (hk:pG (mG t)=false):t.b=[]∧t.e=[]:=by
 have hk':¬ ((mG t).f0=2∨(mG t).f0=3):=by rw [← pR,hk];exact Bool.false_ne_true
 rw [oK] at h hk';have:=GJ h (fun e=>hk' (.inl e)) (fun e=>hk' (.inr e));exact ⟨EI this.1,EI this.2⟩
theorem aDk (boxes:Int):∀ (d:Nat) (t:ST),kC boxes d (mG t)=true→AX t→VS boxes t
 |0,t,h,ha=>by
  rw [kC,Bool.and_eq_true,Bool.not_eq_true'] at h;obtain ⟨e1,e2⟩:=aDi h.1 h.2;cases ha with
  |mk _ h1 h2 hb he=>exact .mk t h.1 h1 h2 (by rw [e1];intro y hy;cases hy) (by rw [e2];intro y hy;cases hy)
 |d + 1,t,h,ha=>by
  rw [kC,Bool.and_eq_true] at h;cases ha with
  |mk _ h1 h2 hb he=>
   cases hk:pG (mG t) with
   |false=>
    obtain ⟨e1,e2⟩:=aDi h.1 hk;exact .mk t h.1 h1 h2 (by rw [e1];intro y hy;cases hy) (by rw [e2];intro y hy;cases hy)
   |true=>
    have h3:=h.2;rw [hk] at h3;simp only [Bool.not_true,Bool.false_or,Bool.and_eq_true,List.all_eq_true] at h3;rw [show (mG t).f4=dQ t.b by rw [oK],show (mG t).f5=dQ t.e by rw [oK]] at h3;exact .mk t h.1 h1 h2 (fun y hy=>aDk boxes d y (h3.1 _ (AV hy)) (hb y hy)) (fun y hy=>aDk boxes d y (h3.2 _ (AV hy)) (he y hy))
theorem aDj {boxes:Int} {t:ST} (h:VS boxes t):t.kd=1∨t.kd=2∨t.kd=3∨t.kd=4∨t.kd=5∨t.kd=6∨t.kd=7:=by
 have h1:=h.st;rw [oK] at h1;unfold stS xO at h1;dsimp only at h1;by_cases c1:t.kd=1;·omega
 rw [if_neg c1] at h1;by_cases c2:t.kd=2;·omega
 rw [if_neg c2] at h1;by_cases c3:t.kd=3;·omega
 rw [if_neg c3] at h1;by_cases c4:t.kd=4;·omega
 rw [if_neg c4] at h1;by_cases c5:t.kd=5;·omega
 rw [if_neg c5] at h1;by_cases c7:t.kd=7;·omega
 rw [if_neg c7] at h1;by_cases c6:t.kd=6;·omega
 rw [if_neg c6] at h1;cases h1
theorem GX {boxes:Int} {t:ST} (h:VS boxes t) (hk:t.kd=1∨t.kd=5):0≤t.va∧t.va < 4:=by
 have h1:=h.st;rw [oK] at h1;unfold stS xO at h1;dsimp only at h1;rcases hk with hk|hk <;> rw [hk] at h1 <;> simp [mJ,KO] at h1 <;> omega
theorem GV {boxes:Int} (hbx:boxes≤3) {t:ST} (h:VS boxes t) (hk:t.kd=4∨t.kd=5):0≤t.bx∧t.bx≤2:=by
 have h1:=h.st;rw [oK] at h1;unfold stS xO at h1;dsimp only at h1;rcases hk with hk|hk <;> rw [hk] at h1 <;> simp [mJ,yL] at h1 <;> omega
def wIf:List UInt8:=[105,102]
def aDl:List UInt8:=[101,108,115,101]
def SY:List UInt8:=[119,104,105,108,101]
def aAm:List UInt8:=[115,101,110,100]
def aDm:List UInt8:=[114,101,99,118]
def TA:List UInt8:=[121,105,101,108,100]
def NR:List UInt8:=[112,114,105,110,116]
def aLr:List UInt8:=[98,111,120]
def aDn:List UInt8:=[116,97,115,107]
mutual
def sT:ST→List (List UInt8)
 |⟨kd,va,bx,x,b,e⟩=>
  if kd=1 then [GU va,[61]] ++ x.toks ++ [[59]]
  else if kd=2 then wIf :: (x.toks ++ ([123] :: (sTs b ++ [[125]]))) ++ (if e.length=0 then [] else aDl :: ([123] :: (sTs e ++ [[125]])))
  else if kd=3 then SY :: (x.toks ++ ([123] :: (sTs b ++ [[125]])))
  else if kd=4 then [aAm,dec bx] ++ x.toks ++ [[59]]
  else if kd=5 then [aDm,dec bx,GU va,[59]]
  else if kd=6 then [TA,[59]]
  else NR :: x.toks ++ [[59]]
def sTs:List ST→List (List UInt8)
 |[]=>[]
 |s :: ss=>sT s ++ sTs ss
end
def oG (l:List ST):List (List UInt8):=[123] :: (sTs l ++ [[125]])
theorem EZ (t:ST):sT t=
  if t.kd=1 then [GU t.va,[61]] ++ t.x.toks ++ [[59]]
  else if t.kd=2 then wIf :: (t.x.toks ++ oG t.b) ++ (if t.e.length=0 then [] else aDl :: oG t.e)
  else if t.kd=3 then SY :: (t.x.toks ++ oG t.b)
  else if t.kd=4 then [aAm,dec t.bx] ++ t.x.toks ++ [[59]]
  else if t.kd=5 then [aDm,dec t.bx,GU t.va,[59]]
  else if t.kd=6 then [TA,[59]]
  else NR :: t.x.toks ++ [[59]]:=by
 cases t;rw [sT];rfl
theorem aKx {t:ST} (h:t.kd=1):sT t=[GU t.va,[61]] ++ t.x.toks ++ [[59]]:=by rw [EZ,if_pos h]
theorem aJa {t:ST} (h:t.kd=2) (h0:t.e.length=0):sT t=wIf :: (t.x.toks ++ oG t.b):=by rw [EZ,if_neg (by omega),if_pos h,if_pos h0,List.append_nil]
theorem aJb {t:ST} (h:t.kd=2) (h0:¬ t.e.length=0):sT t=wIf :: (t.x.toks ++ oG t.b) ++ aDl :: oG t.e:=by rw [EZ,if_neg (by omega),if_pos h,if_neg h0]
theorem aKy {t:ST} (h:t.kd=3):sT t=SY :: (t.x.toks ++ oG t.b):=by rw [EZ,if_neg (by omega),if_neg (by omega),if_pos h]
theorem aKz {t:ST} (h:t.kd=4):sT t=[aAm,dec t.bx] ++ t.x.toks ++ [[59]]:=by rw [EZ,if_neg (by omega),if_neg (by omega),if_neg (by omega),if_pos h]
theorem aLa {t:ST} (h:t.kd=5):sT t=[aDm,dec t.bx,GU t.va,[59]]:=by rw [EZ,if_neg (by omega),if_neg (by omega),if_neg (by omega),if_neg (by omega),if_pos h]
theorem aLb {t:ST} (h:t.kd=6):sT t=[TA,[59]]:=by rw [EZ,if_neg (by omega),if_neg (by omega),if_neg (by omega),if_neg (by omega),if_neg (by omega),if_pos h]
theorem aLc {t:ST} (h:t.kd=7):sT t=NR :: t.x.toks ++ [[59]]:=by rw [EZ,if_neg (by omega),if_neg (by omega),if_neg (by omega),if_neg (by omega),if_neg (by omega),if_neg (by omega)]
theorem NH:∀ l m:List ST,sTs (l ++ m)=sTs l ++ sTs m
 |[],m=>by rw [sTs];rfl
 |s :: l,m=>by rw [List.cons_append,sTs,sTs,NH l m,List.append_assoc]
theorem aIi (t:ST):sTs [t]=sT t:=by rw [sTs,sTs,List.append_nil]
theorem aAe (l:List ST) (j:Nat) (h:j < l.length):sTs (l.drop j)=sT l[j] ++ sTs (l.drop (j + 1)):=by rw [List.drop_eq_getElem_cons h,sTs]
def Good (L:List (List UInt8)):Prop:=∀ t ∈ L,Tok t∧t.length≤5
theorem Good.nil:Good []:=fun _ h=>by cases h
theorem Good.cons {t:List UInt8} {L:List (List UInt8)} (h:Tok t) (hl:t.length≤5) (k:Good L):Good (t :: L):=fun x hx=>by
 rcases List.mem_cons.1 hx with rfl|hx;·exact ⟨h,hl⟩
 ·exact k x hx
theorem Good.app {L M:List (List UInt8)} (h:Good L) (k:Good M):Good (L ++ M):=fun x hx=>by
 rcases List.mem_append.1 hx with hx|hx;·exact h x hx
 ·exact k x hx
theorem aDx {x:X} (h:x.ok):Good x.toks:=fun t ht=>⟨AA x h t ht,xP x h t ht⟩
theorem sV {c:UInt8} {t:List UInt8} (h:(c :: t).all isL=true):Tok (c :: t):=.let_ c t (List.all_eq_true.1 h)
theorem MK {l:List ST} (h:Good (sTs l)):Good (oG l):=Good.cons (.sym _ (by decide)) (by decide) (h.app (Good.cons (.sym _ (by decide)) (by decide) .nil))
theorem vF:Good [[59]]:=Good.cons (.sym _ (by decide)) (by decide) .nil
theorem yM (l:List ST) (h:∀ y ∈ l,Good (sT y)):Good (sTs l):=by
 induction l with
 |nil=>rw [sTs];exact .nil
 |cons x r ih=>
  rw [sTs];exact (h x (by simp)).app (ih (fun y hy=>h y (by simp [hy])))
theorem aHv {boxes:Int} (hbx:boxes≤3) (t:ST):VS boxes t→Good (sT t):=
 MN (P:=fun t=>VS boxes t→Good (sT t)) (fun t hb he hv=>by
  have gb:=MK (yM t.b (fun y hy=>hb y hy (hv.b y hy)));have ge:=MK (yM t.e (fun y hy=>he y hy (hv.e y hy)));have gx:=aDx hv.ok;rw [EZ];rcases aDj hv with hk|hk|hk|hk|hk|hk|hk
  ·rw [if_pos hk];have h1:=GX hv (.inl hk);exact ((Good.cons (NQ h1) (by show (1:Nat)≤5;omega) (Good.cons (.sym _ (by decide)) (by decide) .nil)).app gx).app vF
  ·rw [if_neg (by omega),if_pos hk];refine (Good.cons (sV (by decide)) (by decide) (gx.app gb)).app ?_;split
   ·exact .nil
   ·exact Good.cons (sV (by decide)) (by decide) ge
  ·rw [if_neg (by omega),if_neg (by omega),if_pos hk];exact Good.cons (sV (by decide)) (by decide) (gx.app gb)
  ·rw [if_neg (by omega),if_neg (by omega),if_neg (by omega),if_pos hk];have h1:=GV hbx hv (.inl hk);exact ((Good.cons (sV (by decide)) (by decide) (Good.cons (LB _) (EH h1.1 (by omega)) .nil)).app gx).app vF
  ·rw [if_neg (by omega),if_neg (by omega),if_neg (by omega),if_neg (by omega),if_pos hk];have h1:=GV hbx hv (.inr hk);have h2:=GX hv (.inr hk);exact Good.cons (sV (by decide)) (by decide) (Good.cons (LB _) (EH h1.1 (by omega)) (Good.cons (NQ h2) (by show (1:Nat)≤5;omega) vF))
  ·rw [if_neg (by omega),if_neg (by omega),if_neg (by omega),if_neg (by omega),if_neg (by omega),if_pos hk];exact Good.cons (sV (by decide)) (by decide) vF
  ·rw [if_neg (by omega),if_neg (by omega),if_neg (by omega),if_neg (by omega),if_neg (by omega),if_neg (by omega)];exact (Good.cons (sV (by decide)) (by decide) gx).app vF) t
theorem aFv {boxes:Int} (hbx:boxes≤3) (l:List ST) (h:∀ t ∈ l,VS boxes t):Good (sTs l):=yM l (fun y hy=>aHv hbx y (h y hy))
theorem DI (l:List ST) (h:∀ y ∈ l,(sT y).length≤170 * cT [y]):(sTs l).length≤170 * cT l:=by
 induction l with
 |nil=>rw [sTs];simp
 |cons x r ih=>
  have h1:=h x (by simp);have h2:=ih (fun y hy=>h y (by simp [hy]));rw [rO] at h1;rw [sTs,List.length_append,xE];omega
theorem aBp {boxes:Int} (t:ST):VS boxes t→(sT t).length≤170 * cT [t]:=
 MN (P:=fun t=>VS boxes t→(sT t).length≤170 * cT [t]) (fun t hb he hv=>by
  have gb:=DI t.b (fun y hy=>hb y hy (hv.b y hy));have ge:=DI t.e (fun y hy=>he y hy (hv.e y hy));obtain ⟨_,gx,_⟩:=xQ t.x hv.ok hv.dp;have eb:(oG t.b).length=(sTs t.b).length + 2:=by simp [oG]
  have ee:(oG t.e).length=(sTs t.e).length + 2:=by simp [oG]
  rw [EZ,rO];rcases aDj hv with hk|hk|hk|hk|hk|hk|hk
  ·rw [if_pos hk];simp only [List.length_append,List.length_cons,List.length_nil];omega
  ·rw [if_neg (by omega),if_pos hk,List.length_append,List.length_cons,List.length_append,eb];split
   ·simp only [List.length_nil];omega
   ·rw [List.length_cons,ee];omega
  ·rw [if_neg (by omega),if_neg (by omega),if_pos hk,List.length_cons,List.length_append,eb];omega
  ·rw [if_neg (by omega),if_neg (by omega),if_neg (by omega),if_pos hk];simp only [List.length_append,List.length_cons,List.length_nil];omega
  ·rw [if_neg (by omega),if_neg (by omega),if_neg (by omega),if_neg (by omega),if_pos hk];simp only [List.length_cons,List.length_nil];omega
  ·rw [if_neg (by omega),if_neg (by omega),if_neg (by omega),if_neg (by omega),if_neg (by omega),if_pos hk];simp only [List.length_cons,List.length_nil];omega
  ·rw [if_neg (by omega),if_neg (by omega),if_neg (by omega),if_neg (by omega),if_neg (by omega),if_neg (by omega)];simp only [List.length_append,List.length_cons,List.length_nil];omega) t
theorem LD {boxes:Int} (l:List ST) (h:∀ t ∈ l,VS boxes t):(sTs l).length≤170 * cT l:=DI l (fun y hy=>aBp y (h y hy))
theorem KG {boxes:Int} {nv nb ne nd no:Bool} {va bx op n op' n':Int} {la la':List S56} {lb le lb' le':Nat} (h:mJ boxes nv nb ne nd no va bx op n la lb le=true)
  (h1:vx 5 op n la=true→vx 5 op' n' la'=true) (h2:oO op n la=true→oO op' n' la'=true) (h3:lb=0→lb'=0) (h4:le=0→le'=0):mJ boxes nv nb ne nd no va bx op' n' la' lb' le'=true:=by
 unfold mJ at h ⊢;simp only [Bool.and_eq_true,Bool.or_eq_true,beq_iff_eq] at h ⊢;refine ⟨h.1,h.2.1,?_,h.2.2.2.1.imp id h3,h.2.2.2.2.imp id h4⟩;have h5:=h.2.2.1;cases ne;·exact h2 h5
 ·exact h1 h5
theorem aEh {boxes kd va bx op n op' n':Int} {la la':List S56} {lb le lb' le':Nat} (h:xO boxes kd va bx op n la lb le=true)
  (h1:vx 5 op n la=true→vx 5 op' n' la'=true) (h2:oO op n la=true→oO op' n' la'=true) (h3:lb=0→lb'=0) (h4:le=0→le'=0):xO boxes kd va bx op' n' la' lb' le'=true:=by
 unfold xO at h ⊢
 repeat' split at h
 all_goals first
  |(cases h;done)
  |(rename_i h0;rw [if_pos h0];exact KG h h1 h2 h3 h4)
  |skip
 all_goals (simp_all;try exact KG h h1 h2 h3 h4)
theorem wP (boxes:Int) (d:Nat) (l:List ST) (hl:okL boxes d (dQ l)=true) (h:∀ t ∈ l,kC boxes d (mG t)=true→okL boxes d (dQ (sN t))=true):okL boxes d (dQ (fO l))=true:=by
 induction l with
 |nil=>rw [fO];exact hl
 |cons y ys ih=>
  rw [dQ] at hl;have hl':(kC boxes d (mG y) && okL boxes d (dQ ys))=true:=hl;rw [Bool.and_eq_true] at hl';rw [fO,uY,aBr,Bool.and_eq_true];exact ⟨h y List.mem_cons_self hl'.1,ih hl'.2 (fun z hz=>h z (List.mem_cons_of_mem _ hz))⟩
theorem NC {l:List ST} (h:(dQ l).length=0):(dQ (fO l)).length=0:=by
 rw [gQ] at h;rw [List.eq_nil_of_length_eq_zero h,fO,dQ];rfl
theorem aBs (boxes:Int):∀ (d:Nat) (t:ST),AX t→kC boxes d (mG t)=true→okL boxes d (dQ (sN t))=true:=by
 have st:∀ t:ST,AX t→stS boxes (mG t)=true→stS boxes (mG ⟨t.kd,t.va,t.bx,t.x.fold,fO t.b,fO t.e⟩)=true:=by
  intro t ha h;cases ha with
  |mk _ h1 h2 hb he=>
   rw [oK] at h ⊢;unfold stS at h ⊢;refine aEh h (fun _=>?_) (fun hp=>?_) NC NC;·exact (aBz t.x.fold 5 (X.uZ _ h1)).trans (dT (Nat.le_trans (X.xH _) h2))
   ·replace hp:oO (emb t.x).f0 (emb t.x).f1 (emb t.x).f2=true:=hp;show oO (emb t.x.fold).f0 (emb t.x.fold).f1 (emb t.x.fold).f2=true
    revert hp h1
    generalize t.x=x;intro h1 hp;cases x with
    |num n=>exact hp
    |var v=>
     simp [oO,emb] at hp
    |bin o p q=>
     simp [oO,emb] at hp
 intro d;induction d with
 |zero=>
  intro t ha h;have h':(stS boxes (mG t) && !pG (mG t))=true:=h;rw [Bool.and_eq_true] at h';have hb:¬ ((mG t).f0=2∨(mG t).f0=3):=fun e=>by
   have:=(pR _).mpr e;rw [this] at h';cases h'.2
  rw [oK] at hb;have s2:=st t ha h'.1;rw [AY];rcases uK t.kd t.va t.bx t.x.fold (fO t.b) (fO t.e) with ⟨_,e⟩|⟨_,e⟩|e|⟨e,_⟩;·exact absurd (.inl e) hb
  ·exact absurd (.inl e) hb
  ·rw [e,dQ];rfl
  ·rw [e,dQ,dQ];unfold okL;simp only [List.all_cons,List.all_nil,Bool.and_true,kC,Bool.and_eq_true];refine ⟨s2,?_⟩;rw [oK];show (!(t.kd == 2 || t.kd == 3))=true
   simpa using hb
 |succ d ih=>
  intro t ha h;have h':(stS boxes (mG t) && (!pG (mG t) || (okL boxes d (mG t).f4 && okL boxes d (mG t).f5)))=true:=h;rw [Bool.and_eq_true] at h';have s2:=st t ha h'.1;have hblk:pG (mG t)=true→okL boxes d (dQ (fO t.b))=true∧okL boxes d (dQ (fO t.e))=true:=by
   intro hb;have h2:=h'.2;rw [hb,oK] at h2;simp only [Bool.not_true,Bool.false_or,Bool.and_eq_true] at h2;cases ha with
   |mk _ _ _ hb he=>exact ⟨wP boxes d _ h2.1 (fun y hy=>ih y (hb y hy)),wP boxes d _ h2.2 (fun y hy=>ih y (he y hy))⟩
  have hk:t.kd=2→pG (mG t)=true:=fun e=>(pR _).mpr (.inl (by rw [oK];exact e))
  rw [AY];rcases uK t.kd t.va t.bx t.x.fold (fO t.b) (fO t.e) with ⟨e,e2⟩|⟨e,e2⟩|e|⟨e,_⟩;·rw [e];exact WZ (hblk (hk e2)).1
  ·rw [e];exact WZ (hblk (hk e2)).2
  ·rw [e,dQ];rfl
  ·rw [e,dQ,dQ];unfold okL;simp only [List.all_cons,List.all_nil,Bool.and_true,kC,Bool.and_eq_true,Bool.or_eq_true];refine ⟨s2,?_⟩;cases hb:pG (mG t) with
   |false=>
    left
    rw [oK] at hb;rw [oK];replace hb:(t.kd == 2 || t.kd == 3)=false:=hb;show (!(t.kd == 2 || t.kd == 3))=true
    rw [hb];rfl
   |true=>
    right
    have:=hblk hb;rw [oK];exact this
theorem aGh (boxes:Int) (d:Nat) (l:List ST) (ha:∀ t ∈ l,AX t) (h:okL boxes d (dQ l)=true):okL boxes d (dQ (fO l))=true:=
 wP boxes d l h (fun t ht=>aBs boxes d t (ha t ht))
theorem aGj (boxes:Int) (l:List ST) (ha:∀ t ∈ l,AX t) (h:okT boxes (dQ l)=true):okT boxes (dQ (fO l))=true:=by
 rw [xK] at h ⊢;have:=wV l;unfold cT at this;exact ⟨aGh boxes 3 l ha h.1,by omega⟩
def cB:Nat→Nat
 |0=>1
 |d + 1=>4 * cB d + 3
def pB:Nat→Nat
 |0=>5000
 |d + 1=>4 * pB d + 5000
theorem aFm {d:Nat} (h:d≤3):1≤cB d∧cB d≤127:=by
 match d,h with
 |0,_=>decide
 |1,_=>decide
 |2,_=>decide
 |3,_=>decide
theorem aGn {d:Nat} (h:d≤3):5000≤pB d∧pB d≤425000:=by
 match d,h with
 |0,_=>decide
 |1,_=>decide
 |2,_=>decide
 |3,_=>decide
def DS (p:Int) (P C:Nat) (r:Int × Int × Int × Int × Int × (List (S56)) × (List (S58)) × (List (S58)) × Int):Prop:=
 p≤r.2.2.2.2.2.2.2.2∧r.2.2.2.2.2.2.2.2≤p + P∧cSs r.2.2.2.2.2.2.1 + cSs r.2.2.2.2.2.2.2.1≤C
def DL (p:Int) (P C:Nat) (r:List (S58) × Int):Prop:=p≤r.2∧r.2≤p + P∧cSs r.1≤C
theorem FX (b:List Int) (hb:Bytes b) (p:Int) (h0:0≤p) (h1:p≤600000000000):EvP (fun k=>gN.f k b p) (DS p 4100 0):=by
 unfold gN.f;refine gJ hb h0 (by omega) fun v v0 v1 _=>?_
 refine gJ hb (by dsimp only;omega) (by dsimp only;omega) fun u u0 u1 _=>?_
 have:=u1 (by omega);dsimp only;rw [w64 (by omega) (by omega)];refine EvP.bind (rV b hb _ _ (by omega) (by omega) (by omega) (by omega)) fun r hr=>EvP.ret ?_
 unfold DS;simp only [tV];omega
theorem aBn (b:List Int) (hb:Bytes b) (p a1:Int) (h0:0≤p) (h1:p≤500000000000):EvP (fun k=>gT.f k b p a1) (DS p 4200 0):=by
 unfold gT.f;refine EvP.ite (fun h=>?_) (fun h=>?_)
 ·refine EvP.bind (FX b hb p h0 (by omega)) fun r hr=>EvP.ret ?_
  unfold DS at hr ⊢;dsimp only;omega
 ·refine gJ hb h0 (by omega) fun v v0 v1 _=>?_
  refine gJ hb (by dsimp only;omega) (by dsimp only;omega) fun u u0 u1 _=>?_
  dsimp only;refine EvP.ite (fun h=>?_) (fun h=>?_)
  ·refine gJ hb (by omega) (by omega) fun w w0 w1 _=>?_
   have:=w1 (by omega);dsimp only;rw [w64 (by omega) (by omega)];refine EvP.bind (rV b hb _ _ (by omega) (by omega) (by omega) (by omega)) fun r hr=>EvP.ret ?_
   unfold DS;simp only [tV];omega
  ·refine gJ hb (by omega) (by omega) fun w w0 w1 _=>EvP.ret ?_
   unfold DS;simp only [tV];omega
theorem WH (b:List Int) (x1 x2:Int) (x4:Bool) (P C:Nat) (M:Int)
  (stmt:∀ p,0≤p→p≤M→EvP (fun k=>bG.f k b p x1 x2 x4) (DL p P C)) (n:Int):
  ∀ (r j:Nat) (l:List (S58)) (p:Int),(j:Int) + r=n→j + r≤100→cSs l + r * C≤1000000→0≤p→p + ((r * P:Nat):Int)≤M→
   EvP (fun k=>bT.l0 k x1 x2 n x4 l (j:Int) b p) (DL p (r * P) (cSs l + r * C)):=by
 intro r;induction r with
 |zero=>
  intro j l p hj hr hl h0 h1;refine EvP.step (fun k=>bT.l0.eq_2 (k:=k) ..) (EvP.no (by omega) (EvP.ret ?_));unfold DL;dsimp only;omega
 |succ r ih=>
  intro j l p hj hr hl h0 h1;have e1:(r + 1) * P=r * P + P:=Nat.succ_mul r P;have e2:(r + 1) * C=r * C + C:=Nat.succ_mul r C;rw [e1] at h1 ⊢;rw [e2] at hl ⊢;refine EvP.step (fun k=>bT.l0.eq_2 (k:=k) ..) (EvP.yes (by omega) ?_);refine EvP.bind (stmt p h0 (by omega)) fun s hs=>?_
  obtain ⟨s0,s1,s2⟩:=hs;have l1:=gK l;have l2:=gK s.1;have ha:=tH l s.1;refine EvP.yes (by omega) ?_;rw [w64 (by omega) (by omega)];refine (ih (j + 1) (l ++ s.1) s.2 (by omega) (by omega) (by omega) (by omega) (by omega)).mono fun a ha=>?_
  unfold DL at ha ⊢;omega
theorem wH (b:List Int) (x1 x2:Int) (x4:Bool) (P C:Nat) (M:Int)
  (stmt:∀ p,0≤p→p≤M→EvP (fun k=>bG.f k b p x1 x2 x4) (DL p P C)) (n:Int) (m:Nat) (j3:0≤n) (hn:n≤m) (hm:m≤100) (hC:m * C≤1000000) (p:Int) (h0:0≤p) (h1:p + ((m * P:Nat):Int)≤M):
  EvP (fun k=>bT.f k b p x1 x2 n x4) (DL p (m * P) (m * C)):=by
 have hnm:n.toNat≤m:=by omega
 have e1:n.toNat * P≤m * P:=Nat.mul_le_mul_right P hnm;have e2:n.toNat * C≤m * C:=Nat.mul_le_mul_right C hnm;refine EvP.step (fun k=>bT.f.eq_2 (k:=k) ..) ?_;refine (WH b x1 x2 x4 P C M stmt n n.toNat 0 [] p (by omega) (by omega) (by rw [tV];omega) h0 (by omega)).mono fun a ha=>?_
 unfold DL at ha ⊢;rw [tV] at ha;omega
theorem aGc (b:List Int) (hb:Bytes b) (x1 a2:Int) (x4:Bool) (P C:Nat) (hP:P≤1000000) (hC:C≤1000) (M:Int) (hM:M≤300000000000)
  (stmt:∀ p,0≤p→p≤M→EvP (fun k=>bG.f k b p x1 (wrap64 (a2 - 1)) x4) (DL p P C)) (p:Int) (h0:0≤p) (h1:p + 10000000≤M):
  EvP (fun k=>dX.f k b p x1 a2 x4) (DS p (4 * P + 4200) (4 * C)):=by
 refine EvP.step (fun k=>dX.f.eq_2 (k:=k) ..) ?_;refine gJ hb h0 (by omega) fun v v0 v1 _=>?_
 have:=v1 (by omega);dsimp only;rw [w64 (n:=1 + v) (by omega) (by omega)];refine EvP.bind (rV b hb _ _ (by omega) (by omega) (by omega) (by omega)) fun r hr=>?_
 refine gJ hb (by omega) (by omega) fun u u0 u1 _=>?_
 have:=u1 (by omega);refine EvP.bind (wH b x1 _ x4 P C M stmt u 2 u0 (by omega) (by omega) (by omega) _ (by dsimp only;omega) (by dsimp only;omega)) fun s hs=>?_
 obtain ⟨s0,s1,s2⟩:=hs;dsimp only at s0 s1;refine gJ hb (by omega) (by omega) fun w w0 w1 _=>?_
 have:=w1 (by omega);refine EvP.bind (wH b x1 _ x4 P C M stmt w 2 w0 (by omega) (by omega) (by omega) _ (by dsimp only;omega) (by dsimp only;omega)) fun t ht=>EvP.ret ?_
 obtain ⟨t0,t1,t2⟩:=ht;dsimp only at t0 t1;unfold DS;dsimp only;omega
theorem aBl (b:List Int) (hb:Bytes b) (x1 a2:Int) (P C:Nat) (hP:P≤1000000) (hC:C≤1000) (M:Int) (hM:M≤300000000000)
  (stmt:∀ p,0≤p→p≤M→EvP (fun k=>bG.f k b p x1 (wrap64 (a2 - 1)) false) (DL p P C)) (p:Int) (h0:0≤p) (h1:p + 10000000≤M):
  EvP (fun k=>fD.f k b p x1 a2) (DL p (2 * P + 10) (2 * C + 3)):=by
 refine EvP.step (fun k=>fD.f.eq_2 (k:=k) ..) ?_;refine gJ hb h0 (by omega) fun v v0 v1 _=>?_
 have:=v1 (by omega);refine EvP.bind (wH b x1 _ false P C M stmt v 2 v0 (by omega) (by omega) (by omega) _ (by dsimp only;omega) (by dsimp only;omega)) fun s hs=>?_
 obtain ⟨s0,s1,s2⟩:=hs;dsimp only at s0 s1;refine EvP.fQ rfl (EvP.fQ rfl (EvP.fQ rfl (EvP.fQ rfl ?_)));refine gJ hb (by omega) (by omega) fun u u0 u1 _=>?_
 refine EvP.fQ rfl (EvP.fQ rfl (EvP.fQ rfl ?_));have l1:=gK s.1;refine EvP.yes (by simp;omega) (EvP.fQ rfl (EvP.ret ?_));unfold DL;simp only [cSs,cS,tH];omega
theorem MU (b:List Int) (hb:Bytes b) (x1 j3:Int) (x:Bool) (p:Int) (h0:0≤p) (h1:p≤300000000000):
  EvP (fun k=>bG.j2 k x1 j3 x b p) (DL p 4300 1):=by
 refine EvP.step (fun k=>bG.j2.eq_2 (k:=k) ..) (EvP.ite (fun h=>?_) (fun h=>EvP.ite (fun h=>EvP.ret ?_) (fun h=>?_)))
 ·refine EvP.bind (aBn b hb p x1 h0 (by omega)) fun r hr=>EvP.ret ?_
  unfold DS at hr;unfold DL;simp only [cSs,cS];omega
 ·unfold DL;simp only [cSs,cS];omega
 ·refine gJ hb h0 (by omega) fun u u0 u1 _=>?_
  have:=u1 (by omega);dsimp only;rw [w64 (by omega) (by omega)];refine EvP.bind (rV b hb _ _ (by omega) (by omega) (by omega) (by omega)) fun r hr=>EvP.ret ?_
  unfold DL;simp only [cSs,cS];omega
theorem aBm (b:List Int) (hb:Bytes b):∀ (d:Nat) (a2:Int) (x1:Int) (x3:Bool) (p:Int),d≤3→a2=d→0≤p→p + (d:Int) * 20000000≤200000000000→EvP (fun k=>bG.f k b p x1 a2 x3) (DL p (pB d) (cB d)):=by
 intro d;induction d with
 |zero=>
  intro a2 x1 x3 p hd ha h0 h1;have j2:∀ (q j5:Int) (x:Bool),p≤q→q≤p + 1→EvP (fun k=>bG.j2 k x1 j5 x b q) (DL p (pB 0) (cB 0)):=fun q j5 x hq hq2=>(MU b hb x1 j5 x q (by omega) (by omega)).mono fun r hr=>by
   unfold DL at hr ⊢;simp only [pB,cB];omega
  have pr:∀ q:Int,p≤q→q≤p + 1→EvP (fun k=>(aH.f k b q 3).bind fun j4=>((bJ.f k b j4.2 (wrap64 (1 + j4.1))).bind fun j3=>(some ((([(⟨7,0,0,(⟨j3.1,j3.2.1,j3.2.2.1⟩:S56),([]:List (S58)),([]:List (S58))⟩:S58)]:List (S58))),j3.2.2.2)))) (DL p (pB 0) (cB 0)):=by
   intro q hq hq2;refine gJ hb (by omega) (by omega) fun u u0 u1 _=>?_
   have:=u1 (by omega);dsimp only;rw [w64 (by omega) (by omega)];refine EvP.bind (rV b hb _ _ (by omega) (by omega) (by omega) (by omega)) fun r hr=>EvP.ret ?_
   unfold DL;simp only [cSs,cS,pB,cB];omega
  have j1:∀ q:Int,p≤q→q≤p + 1→EvP (fun k=>bG.j1 k x1 a2 false b q) (DL p (pB 0) (cB 0)):=fun q hq hq2=>
   EvP.step (fun k=>bG.j1.eq_2 (k:=k) ..) (EvP.no Bool.false_ne_true (pr q hq hq2))
  have j0:∀ (q j5:Int) (x:Bool),p≤q→q≤p + 1→EvP (fun k=>bG.j0 k x1 a2 x3 j5 x b q) (DL p (pB 0) (cB 0)):=by
   intro q j5 x hq hq2;refine EvP.step (fun k=>bG.j0.eq_2 (k:=k) ..) (EvP.ite (fun h=>?_) (fun h=>EvP.ite (fun h=>EvP.no (by omega) (pr q hq hq2)) (fun h=>EvP.ite (fun h=>EvP.no (by omega) (j1 q hq hq2)) (fun h=>EvP.ite (fun h=>j2 q _ _ hq hq2) (fun h=>EvP.ite (fun h=>j2 q _ _ hq hq2) (fun h=>j2 q _ _ hq hq2))))));refine EvP.bind (FX b hb q (by omega) (by omega)) fun r hr=>EvP.ret ?_
   unfold DS at hr;unfold DL;simp only [cSs,cS,pB,cB];omega
  refine EvP.step (fun k=>bG.f.eq_2 (k:=k) ..) (gJ hb h0 (by omega) fun u u0 u1 _=>?_);dsimp only;exact EvP.ite (fun h=>j0 _ _ _ (by omega) (by omega)) (fun h=>j0 _ _ _ (by omega) (by omega))
 |succ d ih=>
  intro a2 x1 x3 p hd ha h0 h1;have hc:=aFm (show d≤3 by omega);have hp:=aGn (show d≤3 by omega);have ec:cB (d + 1)=4 * cB d + 3:=rfl;have ep:pB (d + 1)=4 * pB d + 5000:=rfl;have ew:wrap64 (a2 - 1)=(d:Int):=by
   rw [w64 (by omega) (by omega)];omega
  have stmt:∀ (x4:Bool) (p:Int),0≤p→p≤200000000000 - (d:Int) * 20000000→EvP (fun k=>bG.f k b p x1 (wrap64 (a2 - 1)) x4) (DL p (pB d) (cB d)):=fun x4 p h0 h1=>ih _ x1 x4 p (by omega) ew h0 (by omega)
  have j2:∀ (q j5:Int) (x:Bool),p≤q→q≤p + 1→EvP (fun k=>bG.j2 k x1 j5 x b q) (DL p (pB (d + 1)) (cB (d + 1))):=fun q j5 x hq hq2=>(MU b hb x1 j5 x q (by omega) (by omega)).mono fun r hr=>by
   unfold DL at hr ⊢;omega
  have pr:∀ q:Int,p≤q→q≤p + 1→EvP (fun k=>(aH.f k b q 3).bind fun j4=>((bJ.f k b j4.2 (wrap64 (1 + j4.1))).bind fun j3=>(some ((([(⟨7,0,0,(⟨j3.1,j3.2.1,j3.2.2.1⟩:S56),([]:List (S58)),([]:List (S58))⟩:S58)]:List (S58))),j3.2.2.2)))) (DL p (pB (d + 1)) (cB (d + 1))):=by
   intro q hq hq2;refine gJ hb (by omega) (by omega) fun u u0 u1 _=>?_
   have:=u1 (by omega);dsimp only;rw [w64 (by omega) (by omega)];refine EvP.bind (rV b hb _ _ (by omega) (by omega) (by omega) (by omega)) fun r hr=>EvP.ret ?_
   unfold DL;simp only [cSs,cS];omega
  have j1:∀ (q:Int) (x:Bool),p≤q→q≤p + 1→EvP (fun k=>bG.j1 k x1 a2 x b q) (DL p (pB (d + 1)) (cB (d + 1))):=by
   intro q x hq hq2;refine EvP.step (fun k=>bG.j1.eq_2 (k:=k) ..) (EvP.ite (fun h=>?_) (fun h=>pr q hq hq2));refine EvP.bind (aBl b hb x1 a2 (pB d) (cB d) (by omega) (by omega) (200000000000 - (d:Int) * 20000000) (by omega) (stmt false) q (by omega) (by omega)) fun r hr=>EvP.ret ?_
   unfold DL at hr ⊢;dsimp only;omega
  have j0:∀ (q j5:Int) (x:Bool),p≤q→q≤p + 1→EvP (fun k=>bG.j0 k x1 a2 x3 j5 x b q) (DL p (pB (d + 1)) (cB (d + 1))):=by
   intro q j5 x hq hq2;refine EvP.step (fun k=>bG.j0.eq_2 (k:=k) ..) (EvP.ite (fun h=>?_) (fun h=>EvP.ite (fun h=>EvP.ite (fun h=>?_) (fun h=>pr q hq hq2)) (fun h=>EvP.ite (fun h=>EvP.ite (fun h=>j1 q _ hq hq2) (fun h=>j1 q _ hq hq2)) (fun h=>EvP.ite (fun h=>j2 q _ _ hq hq2) (fun h=>EvP.ite (fun h=>j2 q _ _ hq hq2) (fun h=>j2 q _ _ hq hq2))))))
   ·refine EvP.bind (FX b hb q (by omega) (by omega)) fun r hr=>EvP.ret ?_
    unfold DS at hr;unfold DL;simp only [cSs,cS];omega
   ·refine EvP.bind (aGc b hb x1 a2 x3 (pB d) (cB d) (by omega) (by omega) (200000000000 - (d:Int) * 20000000) (by omega) (stmt x3) q (by omega) (by omega)) fun r hr=>EvP.ret ?_
    unfold DS at hr;unfold DL;simp only [cSs,cS];omega
  refine EvP.step (fun k=>bG.f.eq_2 (k:=k) ..) (gJ hb h0 (by omega) fun u u0 u1 _=>?_);dsimp only;exact EvP.ite (fun h=>j0 _ _ _ (by omega) (by omega)) (fun h=>j0 _ _ _ (by omega) (by omega))
theorem IV (b:List Int) (hb:Bytes b) (d:Nat) (hd:d≤3) (a2 x1:Int) (ha:a2=d) (x4:Bool) (n:Int) (m:Nat) (j3:0≤n) (hn:n≤m) (hm:m≤6) (p:Int) (h0:0≤p) (h1:p≤190000000000):
  EvP (fun k=>bT.f k b p x1 a2 n x4) (DL p (m * pB d) (m * cB d)):=by
 have hc:=aFm hd;have hp:=aGn hd;have e1:m * pB d≤6 * pB d:=Nat.mul_le_mul_right _ hm;have e2:m * cB d≤6 * cB d:=Nat.mul_le_mul_right _ hm;exact wH b x1 a2 x4 (pB d) (cB d) (200000000000 - (d:Int) * 20000000) (fun p h0 h1=>aBm b hb d a2 x1 x4 p hd ha h0 (by omega)) n m j3 hn (by omega) (by omega) p h0 (by omega)
theorem WL (b:List Int) (p:Int):∀ (m:Nat) (l:List (S58)),l.length=m→cSs l≤1000000→EvP (fun k=>eD.l0 k l b p) (fun r=>r.2=p∧cSs r.1≤16):=by
 intro m;induction m with
 |zero=>
  intro l hm hl;obtain rfl:=List.eq_nil_of_length_eq_zero hm;refine EvP.step (fun k=>eD.l0.eq_2 (k:=k) ..) (EvP.dO (tT _ _ hl (by omega)) (EvP.no ?_ (EvP.ret ⟨rfl,?_⟩)))
  ·rw [tV];omega
  ·rw [tV];omega
 |succ m ih=>
  intro l hm hl;refine EvP.step (fun k=>eD.l0.eq_2 (k:=k) ..) (EvP.dO (tT _ _ hl (by omega)) (EvP.ite (fun h=>?_) (fun h=>EvP.ret ⟨rfl,by dsimp only;omega⟩)));have hlen:=gK l;rw [w64 (by omega) (by omega),show (((l.length:Int) - 1)).toNat=m by omega];have ht:=OA l m;exact EvP.yes (by omega) (EvP.yes (by omega) (ih _ (by rw [List.length_take];omega) (by omega)))
theorem WK (b:List Int) (hb:Bytes b) (p a1:Int) (h0:0≤p) (h1:p≤180000000000):EvP (fun k=>eD.f k b p a1) (DL p 3000000 16):=by
 unfold eD.f;refine gJ hb h0 (by omega) fun v v0 v1 _=>?_
 have:=v1 (by omega);dsimp only;rw [w64 (by omega) (by omega)];have hc:=aFm (show 3≤3 by omega);have hp:=aGn (show 3≤3 by omega);refine EvP.bind (IV b hb 3 (by omega) 3 a1 rfl true (1 + v) 6 (by omega) (by omega) (by omega) _ (by omega) (by omega)) fun r hr=>?_
 obtain ⟨r0,r1,r2⟩:=hr;refine (WL b r.2 _ r.1 rfl (by omega)).mono fun s hs=>?_
 unfold DL;omega
theorem OI (b:List Int) (hb:Bytes b) (p:Int) (h0:0≤p) (h1:p≤180000000000):EvP (fun k=>iB.f k b p) (DS p 100000 20):=by
 unfold iB.f;refine EvP.fQ rfl (gJ hb h0 (by omega) fun v v0 v1 _=>?_);have:=v1 (by omega);dsimp only;refine EvP.bind (IV b hb 1 (by omega) 1 0 rfl false v 2 (by omega) (by omega) (by omega) _ (by omega) (by omega)) fun r hr=>EvP.ret ?_
 obtain ⟨r0,r1,r2⟩:=hr;have e1:cB 1=7:=rfl;have e2:pB 1=25000:=rfl;rw [e2] at r1;rw [e1] at r2;unfold DS;simp only [tV];omega
set_option linter.unusedSimpArgs false
theorem pO (l:List ST):l.length≤cT l:=by
 have h:=gK (dQ l);rw [gQ] at h;exact h
theorem TQ (l:List ST) (j:Nat):cT (l.take j) + cT (l.drop j)=cT l:=by
 rw [← wU,List.take_append_drop]
theorem SI (l:List ST) (j:Nat) (h:j < l.length):aM (dQ l) (j:Int)=mG l[j]:=by
 rw [EX _ j (by rw [gQ];exact h),PN l j h]
theorem aIg (kd va bx:Int) (y:X) (hy:y.ok) (b e:List ST):
  EW kd va bx y b e=if kd=2∧(emb y).f0=0∧(emb y).f1≠0 then b else if kd=2∧(emb y).f0=0 then e else if kd=3∧(emb y).f0=0∧(emb y).f1=0 then [] else [⟨kd,va,bx,y,b,e⟩]:=by
 unfold EW;cases y with
 |num n=>
  by_cases h2:kd=2
  ·subst h2;by_cases hn:n=0 <;> simp [emb,hn]
  ·by_cases h3:kd=3
   ·subst h3;by_cases hn:n=0 <;> simp [emb,hn]
   ·simp [emb,h2,h3]
 |var v=>by_cases h2:kd=2 <;> by_cases h3:kd=3 <;> simp [emb,h2,h3]
 |bin o p q=>
  have ho:o≠0:=by have:=hy.1;omega
  by_cases h2:kd=2 <;> by_cases h3:kd=3 <;> simp [emb,h2,h3,ho]
theorem EP:∀ (c:Nat) (l:List ST),(∀ t ∈ l,AX t)→cT l≤c→c≤1000000000→EvP (fun k=>aQ.f k (dQ l)) (·=dQ (fO l)):=by
  intro c;induction c with
  |zero=>
    intro l _ hl hc;have:=pO l;obtain rfl:=List.eq_nil_of_length_eq_zero (show l.length=0 by omega);refine EvP.step (fun k=>aQ.f.eq_2 (k:=k) ..) (EvP.step (fun k=>aQ.l0.eq_2 (k:=k) ..) (EvP.no (by rw [dQ];simp) (EvP.ret ?_)));rw [fO,dQ]
  |succ c ih=>
    intro l ha hl hc;have hlen:=gQ l;have loop:∀ (r j:Nat) (acc:List ST),j + r=l.length→acc.length + cT (l.drop j)≤2000000000→EvP (fun k=>aQ.l0 k (dQ acc) (dQ l) ((dQ l).length:Int) (j:Int)) (·=dQ (acc ++ fO (l.drop j))):=by
      intro r;induction r with
      |zero=>
        intro j acc hj h1;refine EvP.step (fun k=>aQ.l0.eq_2 (k:=k) ..) (EvP.no (by omega) (EvP.ret ?_));rw [List.drop_eq_nil_of_le (by omega),fO,List.append_nil]
      |succ r ih2=>
        intro j acc hj h1;have hlt:j < l.length:=by omega
        have hl2:=pO l;have hsp:=TQ l j;have hd:=List.drop_eq_getElem_cons hlt;have hcd:cT (l.drop j)=cT l[j].b + cT l[j].e + 1 + cT (l.drop (j + 1)):=by rw [hd,xE]
        have hrd:=SI l j hlt;have hat:=ha _ (List.getElem_mem hlt);have hft:=TP l[j];rw [rO] at hft;have hfl:=pO (sN l[j]);have hb1:=pO (fO l[j].b);have hb2:=wV l[j].b;have he1:=pO (fO l[j].e);have he2:=wV l[j].e;generalize l[j]=t at *;obtain ⟨hok,_,hab,hae⟩:t.x.ok∧t.x.depth≤5∧(∀ y ∈ t.b,AX y)∧(∀ y ∈ t.e,AX y):=by
          cases hat with
          |mk _ a b c d=>exact ⟨a,b,c,d⟩
        refine EvP.step (fun k=>aQ.l0.eq_2 (k:=k) ..) (EvP.yes (by omega) (EvP.yes (by omega) (EvP.yes (by omega) ?_)));rw [hrd,oK t];dsimp only;refine EvP.dO (ih _ hab (by omega) (by omega)) (EvP.dO (ih _ hae (by omega) (by omega)) (EvP.dO (tL _ hok) ?_));have hyo:=X.uZ _ hok;have hf:sN t=_:=(AY t).trans (aIg _ _ _ _ hyo _ _);have next:∀ p:List ST,sN t=p→EvP (fun k=>aQ.l0 k (dQ acc ++ dQ p) (dQ l) ((dQ l).length:Int) ((j:Int) + 1)) (·=dQ (acc ++ fO (l.drop j))):=by
          rintro p rfl;rw [← uY];refine (ih2 (j + 1) (acc ++ sN t) (by omega) (by rw [List.length_append];omega)).mono fun b hb=>?_
          rw [hb,hd,fO,List.append_assoc]
        have la:=gQ acc;have lb:=gQ (fO t.b);have le:=gQ (fO t.e);dsimp only [tri];have one:sN t=[⟨t.kd,t.va,t.bx,t.x.fold,fO t.b,fO t.e⟩]→EvP (fun k=>aQ.l0 k (dQ acc ++ [(⟨t.kd,t.va,t.bx,⟨(emb t.x.fold).f0,(emb t.x.fold).f1,(emb t.x.fold).f2⟩,dQ (fO t.b),dQ (fO t.e)⟩:S58)]) (dQ l) ((dQ l).length:Int) ((j:Int) + 1)) (·=dQ (acc ++ fO (l.drop j))):=by
          intro h;have h2:=next _ h;rw [dQ,dQ,mG] at h2;rw [aBb];exact h2
        clear ih ih2;by_cases h2:t.kd=2
        · refine EvP.yes h2 ?_
          by_cases ho:(emb t.x.fold).f0=0
          · refine EvP.yes ho (EvP.step (fun k=>aQ.j1.eq_2 (k:=k) ..) ?_)
            by_cases hn:(emb t.x.fold).f1=0
            · refine EvP.no (by simp [hn]) (EvP.yes h2 (EvP.step (fun k=>aQ.j2.eq_2 (k:=k) ..) (EvP.yes (by simp [ho]) (EvP.yes (by omega) ?_))))
              rw [w64 (n:=(j:Int) + 1) (by omega) (by omega)];exact next _ (by rw [hf,if_neg (fun e=>e.2.2 hn),if_pos ⟨h2,ho⟩])
            · refine EvP.yes (by simp [hn]) (EvP.yes (by omega) ?_)
              rw [w64 (n:=(j:Int) + 1) (by omega) (by omega)];exact next _ (by rw [hf,if_pos ⟨h2,ho,hn⟩])
          · refine EvP.no ho (EvP.step (fun k=>aQ.j1.eq_2 (k:=k) ..) (EvP.no (by simp) (EvP.yes h2 (EvP.step (fun k=>aQ.j2.eq_2 (k:=k) ..) (EvP.no (by simp [ho]) (EvP.no (by omega) (EvP.yes (by omega) ?_)))))))
            rw [w64 (n:=(j:Int) + 1) (by omega) (by omega)];exact one (by rw [hf,if_neg (fun e=>ho e.2.1),if_neg (fun e=>ho e.2),if_neg (fun e=>ho e.2.1)])
        · refine EvP.no h2 (EvP.step (fun k=>aQ.j1.eq_2 (k:=k) ..) (EvP.no (by simp) (EvP.no h2 (EvP.step (fun k=>aQ.j2.eq_2 (k:=k) ..) (EvP.no (by simp) ?_)))))
          rw [w64 (n:=(j:Int) + 1) (by omega) (by omega)];by_cases h3:t.kd=3
          · refine EvP.yes h3 ?_
            by_cases ho:(emb t.x.fold).f0=0
            · refine EvP.yes (by simp [ho]) ?_
              by_cases hn:(emb t.x.fold).f1=0
              · refine EvP.yes hn ?_
                have h4:=next [] (by rw [hf,if_neg (fun e=>h2 e.1),if_neg (fun e=>h2 e.1),if_pos ⟨h3,ho,hn⟩]);rw [dQ,List.append_nil] at h4;exact h4
              · exact EvP.no hn (EvP.yes (by omega) (one (by rw [hf,if_neg (fun e=>h2 e.1),if_neg (fun e=>h2 e.1),if_neg (fun e=>hn e.2.2)])))
            · exact EvP.no (by simp [ho]) (EvP.yes (by omega) (one (by rw [hf,if_neg (fun e=>h2 e.1),if_neg (fun e=>h2 e.1),if_neg (fun e=>ho e.2.1)])))
          · exact EvP.no h3 (EvP.yes (by omega) (one (by rw [hf,if_neg (fun e=>h2 e.1),if_neg (fun e=>h2 e.1),if_neg (fun e=>h3 e.1)])))
    refine EvP.step (fun k=>aQ.f.eq_2 (k:=k) ..) ?_;have h:=loop l.length 0 [] (by omega) (by rw [List.drop_zero];simp;omega);rw [List.drop_zero,List.nil_append,dQ] at h;exact h
def aAp (l:List ST):Prop:=∀ out:List ByteArray,out.length + 170 * cT l + 10≤1000000→EvP (fun k=>bB.f k (dQ l) out) (·=out ++ (oG l).map ba)
theorem CY {boxes:Int} (hbx:boxes≤3) (t:ST) (hv:VS boxes t) (hb:aAp t.b) (he:aAp t.e) (out:List ByteArray) (ho:out.length + 170 * cT [t]≤1000000):
    EvP (fun k=>aT.f k (mG t).f0 (mG t).f1 (mG t).f2 (mG t).f3.f0 (mG t).f3.f1 (mG t).f3.f2 (mG t).f4 (mG t).f5 out) (·=out ++ (sT t).map ba):=by
  obtain ⟨zx,tx,_⟩:=xQ t.x hv.ok hv.dp;have hs:=hv.ok;rw [rO] at ho;rw [oK];show EvP (fun k=>aT.f k t.kd t.va t.bx (emb t.x).f0 (emb t.x).f1 (emb t.x).f2 (dQ t.b) (dQ t.e) out) _
  refine EvP.step (fun k=>aT.f.eq_2 (k:=k) ..) ?_;rcases aDj hv with hk|hk|hk|hk|hk|hk|hk
  · have h1:=GX hv (.inl hk)
    rw [aKx hk];refine EvP.yes hk (EvP.fQ (uP h1) (EvP.fQ rfl (EvP.yes (by show _ + 2 < _;omega) (EvP.dO (kX t.x hs _ (by rw [List.length_append];show _ + 2 + _≤_;omega)) (EvP.yes ?_ (EvP.ret ?_))))))
    · rw [List.length_append,List.length_append,List.length_map]
      show _ + 2 + _ < _
      omega
    · simp
      first|done|rfl|exact ⟨rfl,rfl⟩|exact ⟨rfl,rfl,rfl⟩
  ·
    refine EvP.no (by omega) (EvP.yes hk (EvP.yes (by omega) (EvP.dO (kX t.x hs _ (by rw [List.length_append];show _ + 1 + _≤_;omega)) (EvP.dO (hb _ ?_) ?_))))
    · rw [List.length_append,List.length_append,List.length_map]
      show _ + 1 + _ + _ + _≤_
      omega
    · refine EvP.ite (fun h0=>?_) (fun h0=>?_)
      · rw [gQ] at h0
        rw [aJb hk (by omega)];have hlb:=LD t.b hv.b;have eb:(oG t.b).length=(sTs t.b).length + 2:=by simp [oG]
        refine EvP.yes ?_ (EvP.dO (he _ ?_) (EvP.ret ?_))
        · rw [List.length_append,List.length_append,List.length_append,List.length_map,List.length_map,eb]
          show _ + 1 + _ + _ < _
          omega
        · rw [List.length_append,List.length_append,List.length_append,List.length_append,List.length_map,List.length_map,eb]
          show _ + 1 + _ + _ + 1 + _ + _≤_
          omega
        · simp
          first|done|rfl|exact ⟨rfl,rfl⟩|exact ⟨rfl,rfl,rfl⟩
      · rw [gQ] at h0
        rw [aJa hk (by omega)];refine EvP.ret ?_;simp;first|done|rfl|exact ⟨rfl,rfl⟩|exact ⟨rfl,rfl,rfl⟩
  · rw [aKy hk]
    refine EvP.no (by omega) (EvP.no (by omega) (EvP.yes hk (EvP.yes (by omega) (EvP.dO (kX t.x hs _ (by rw [List.length_append];show _ + 1 + _≤_;omega)) (EvP.dO (hb _ ?_) (EvP.ret ?_))))))
    · rw [List.length_append,List.length_append,List.length_map]
      show _ + 1 + _ + _ + _≤_
      omega
    · simp
      first|done|rfl|exact ⟨rfl,rfl⟩|exact ⟨rfl,rfl,rfl⟩
  · have h1:=GV hbx hv (.inl hk)
    rw [aKz hk];refine EvP.no (by omega) (EvP.no (by omega) (EvP.no (by omega) (EvP.yes hk (EvP.fQ (KV h1.1 (by omega)) (EvP.fQ rfl (EvP.yes (by show _ + 2 < _;omega) (EvP.dO (kX t.x hs _ (by rw [List.length_append];show _ + 2 + _≤_;omega)) (EvP.yes ?_ (EvP.ret ?_)))))))))
    · rw [List.length_append,List.length_append,List.length_map]
      show _ + 2 + _ < _
      omega
    · simp
      first|done|rfl|exact ⟨rfl,rfl⟩|exact ⟨rfl,rfl,rfl⟩
  · have h1:=GV hbx hv (.inr hk)
    have h2:=GX hv (.inr hk);rw [aLa hk];refine EvP.no (by omega) (EvP.no (by omega) (EvP.no (by omega) (EvP.no (by omega) (EvP.yes hk (EvP.fQ (KV h1.1 (by omega)) (EvP.fQ (uP h2) (EvP.fQ rfl (EvP.yes (by show _ + 3 < _;omega) (EvP.fQ rfl (EvP.yes ?_ (EvP.ret ?_)))))))))))
    · rw [List.length_append]
      show _ + 3 < _
      omega
    · simp
      first|done|rfl|exact ⟨rfl,rfl⟩|exact ⟨rfl,rfl,rfl⟩
  · rw [aLb hk]
    refine EvP.no (by omega) (EvP.no (by omega) (EvP.no (by omega) (EvP.no (by omega) (EvP.no (by omega) (EvP.yes hk (EvP.yes (by omega) (EvP.fQ rfl (EvP.yes ?_ (EvP.ret ?_)))))))))
    · rw [List.length_append]
      show _ + 1 < _
      omega
    · simp
      first|done|rfl|exact ⟨rfl,rfl⟩|exact ⟨rfl,rfl,rfl⟩
  · rw [aLc hk]
    refine EvP.no (by omega) (EvP.no (by omega) (EvP.no (by omega) (EvP.no (by omega) (EvP.no (by omega) (EvP.no (by omega) (EvP.yes hk (EvP.yes (by omega) (EvP.dO (kX t.x hs _ (by rw [List.length_append];show _ + 1 + _≤_;omega)) (EvP.yes ?_ (EvP.ret ?_))))))))))
    · rw [List.length_append,List.length_append,List.length_map]
      show _ + 1 + _ < _
      omega
    · simp
      first|done|rfl|exact ⟨rfl,rfl⟩|exact ⟨rfl,rfl,rfl⟩
theorem vL {boxes:Int} (hbx:boxes≤3) (l:List ST) (hc:cT l≤5000) (hv:∀ t ∈ l,VS boxes t) (hs:∀ t ∈ l,aAp t.b∧aAp t.e):∀ (d j:Nat) (out:List ByteArray),j + d=l.length→out.length + 170 * cT (l.drop j) + 5≤1000000→
    EvP (fun k=>bB.l0 k out (dQ l) ((dQ l).length:Int) (j:Int)) (·=out ++ (sTs (l.drop j) ++ [[125]]).map ba)
  |0,j,out,h,ho=>by
    refine EvP.step (fun k=>bB.l0.eq_2 (k:=k) ..) (EvP.no (by rw [gQ];omega) (EvP.yes (by omega) (EvP.ret ?_)));rw [List.drop_eq_nil_of_le (by omega),sTs];rfl
  |d + 1,j,out,h,ho=>by
    have hj:j < l.length:=by omega
    have hcl:=pO l;have hcd:cT (l.drop j)=cT [l[j]] + cT (l.drop (j + 1)):=by rw [List.drop_eq_getElem_cons hj,xE,rO]
    have hm:l[j] ∈ l:=by simp
    have hlen:=aBp l[j] (hv _ hm);refine EvP.step (fun k=>bB.l0.eq_2 (k:=k) ..) (EvP.yes (by rw [gQ];omega) (EvP.yes (by omega) (EvP.yes (by rw [gQ];omega) ?_)));rw [SI l j hj];refine EvP.dO (CY hbx l[j] (hv _ hm) (hs _ hm).1 (hs _ hm).2 out (by omega)) ?_;rw [w64 (by omega) (by omega),show (j:Int) + 1=((j + 1:Nat):Int) by omega];refine (vL hbx l hc hv hs d (j + 1) _ (by omega) (by rw [List.length_append,List.length_map];omega)).mono (fun a ha=>?_);rw [ha,aAe l j hj];simp
theorem BJ {boxes:Int} (hbx:boxes≤3):∀ (c:Nat) (l:List ST),cT l≤c→c≤5000→(∀ t ∈ l,VS boxes t)→aAp l:=by
 intro c;induction c with
 |zero=>
  intro l hc h5 hv out ho;have hl:l=[]:=by
   have:=pO l;exact List.eq_nil_of_length_eq_zero (by omega)
  subst hl;refine EvP.step (fun k=>bB.f.eq_2 (k:=k) ..) (EvP.yes (by omega) ?_);refine (vL hbx [] (by omega) hv (fun t h=>by cases h) 0 0 _ rfl (by rw [List.length_append];show _ + 1 + _ + _≤_;simp only [List.drop_nil];omega)).mono (fun a ha=>?_);rw [ha];unfold oG;simp;first|done|rfl|exact ⟨rfl,rfl⟩|exact ⟨rfl,rfl,rfl⟩
 |succ c ih=>
  intro l hc h5 hv out ho;have hs:∀ t ∈ l,aAp t.b∧aAp t.e:=by
   intro t ht;have h1:cT [t]≤cT l:=by
    obtain ⟨s,r,rfl⟩:=List.append_of_mem ht;rw [wU,xE t r,rO];omega
   rw [rO] at h1;exact ⟨ih t.b (by omega) (by omega) (hv t ht).b,ih t.e (by omega) (by omega) (hv t ht).e⟩
  refine EvP.step (fun k=>bB.f.eq_2 (k:=k) ..) (EvP.yes (by omega) ?_);refine (vL hbx l (by omega) hv hs l.length 0 _ (by omega) (by rw [List.length_append];show _ + 1 + _ + _≤_;rw [List.drop_zero];omega)).mono (fun a ha=>?_);rw [ha,List.drop_zero];unfold oG;simp;first|done|rfl|exact ⟨rfl,rfl⟩|exact ⟨rfl,rfl,rfl⟩
theorem DC (L:List (List UInt8)) (hL:L.length≤10) (x:X) (hx:x.ok) (hd:x.depth≤5):EvP (fun k=>gH.f k (L.map ba) (emb x).f0 (emb x).f1 (emb x).f2) (·=(L ++ x.toks ++ [[59]]).map ba):=by
  obtain ⟨zx,tx,_⟩:=xQ x hx hd;unfold gH.f;refine EvP.dO (nS x hx (by omega)) (EvP.yes (by rw [List.length_map,List.length_map];omega) ?_);first
  | (refine EvP.fQ rfl (EvP.yes ?_ (EvP.ret ?_))
     · rw [List.length_append,List.length_map,List.length_map]
       omega
     · simp
       rfl)
  | (refine EvP.yes ?_ (EvP.ret ?_)
     · rw [List.length_append,List.length_map,List.length_map]
       omega
     · simp
       rfl)
def aAq (l:List ST):Prop:=EvP (fun k=>bL.f k (dQ l)) (·=(oG l).map ba)
theorem KT {boxes:Int} (hbx:boxes≤3) (t:ST) (hv:VS boxes t) (hc:cT [t]≤5000) (hb:aAq t.b) (he:aAq t.e):
    EvP (fun k=>bR.f k (mG t).f0 (mG t).f1 (mG t).f2 (mG t).f3.f0 (mG t).f3.f1 (mG t).f3.f2 (mG t).f4 (mG t).f5) (·=(sT t).map ba):=by
  obtain ⟨zx,tx,_⟩:=xQ t.x hv.ok hv.dp;have hs:=hv.ok;have hd:=hv.dp;have lb:=LD t.b hv.b;have le:=LD t.e hv.e;have eb:(oG t.b).length=(sTs t.b).length + 2:=by simp [oG]
  have ee:(oG t.e).length=(sTs t.e).length + 2:=by simp [oG]
  rw [rO] at hc;rw [oK];show EvP (fun k=>bR.f k t.kd t.va t.bx (emb t.x).f0 (emb t.x).f1 (emb t.x).f2 (dQ t.b) (dQ t.e)) _
  refine EvP.step (fun k=>bR.f.eq_2 (k:=k) ..) ?_;rcases aDj hv with hk|hk|hk|hk|hk|hk|hk
  · have h1:=GX hv (.inl hk)
    rw [aKx hk];exact EvP.yes hk (EvP.fQ (vU h1) (EvP.dO (DC [GU t.va,[61]] (by simp) t.x hs hd) (EvP.ret rfl)))
  · refine EvP.no (by omega) (EvP.no (by omega) (EvP.no (by omega) (EvP.no (by omega) (EvP.no (by omega) (EvP.no (by omega) (EvP.fQ rfl (EvP.dO (nS t.x hs (by omega)) (EvP.yes (by rw [List.length_map];show 1 + _ < _;omega) (EvP.fQ rfl (EvP.dO hb (EvP.yes ?_ (EvP.fQ rfl ?_))))))))))))
    · rw [List.length_append,List.length_map,List.length_map,eb]
      show 1 + _ + _ < _
      omega
    · refine EvP.ite (fun h0=>?_) (fun h0=>?_)
      · rw [gQ] at h0
        rw [aJa hk (by omega)];refine EvP.ret ?_;simp;first|done|rfl|exact ⟨rfl,rfl⟩
      · rw [gQ] at h0
        rw [aJb hk (by omega)];refine EvP.yes ?_ (EvP.fQ rfl (EvP.dO he (EvP.yes ?_ (EvP.ret ?_))))
        · rw [List.length_append,List.length_append,List.length_map,List.length_map,eb]
          show 1 + _ + _ < _
          omega
        · rw [List.length_append,List.length_append,List.length_append,List.length_map,List.length_map,List.length_map,eb,ee]
          show 1 + _ + _ + 1 + _ < _
          omega
        · simp
          first|done|rfl|exact ⟨rfl,rfl⟩
  · rw [aKy hk]
    refine EvP.no (by omega) (EvP.no (by omega) (EvP.no (by omega) (EvP.no (by omega) (EvP.no (by omega) (EvP.yes hk (EvP.fQ rfl (EvP.dO (nS t.x hs (by omega)) (EvP.yes (by rw [List.length_map];show 1 + _ < _;omega) (EvP.fQ rfl (EvP.dO hb (EvP.yes ?_ (EvP.ret ?_))))))))))))
    · rw [List.length_append,List.length_map,List.length_map,eb]
      show 1 + _ + _ < _
      omega
    · simp
      first|done|rfl|exact ⟨rfl,rfl⟩
  · have h1:=GV hbx hv (.inl hk)
    rw [aKz hk];exact EvP.no (by omega) (EvP.yes hk (EvP.dO (uF t.bx.toNat t.bx (by omega) h1.1 (by omega)) (EvP.dO (DC [aAm,dec t.bx] (by simp) t.x hs hd) (EvP.ret rfl))))
  · have h1:=GV hbx hv (.inr hk)
    have h2:=GX hv (.inr hk);rw [aLa hk];exact EvP.no (by omega) (EvP.no (by omega) (EvP.no (by omega) (EvP.yes hk (EvP.dO (uF t.bx.toNat t.bx (by omega) h1.1 (by omega)) (EvP.fQ (vU h2) (EvP.ret rfl))))))
  · rw [aLb hk]
    exact EvP.no (by omega) (EvP.no (by omega) (EvP.no (by omega) (EvP.no (by omega) (EvP.yes hk (EvP.ret rfl)))))
  · rw [aLc hk]
    exact EvP.no (by omega) (EvP.no (by omega) (EvP.yes hk (EvP.dO (DC [NR] (by simp) t.x hs hd) (EvP.ret rfl))))
theorem yS {boxes:Int} (hbx:boxes≤3) (l:List ST) (hc:cT l≤5000) (hv:∀ t ∈ l,VS boxes t) (hs:∀ t ∈ l,aAq t.b∧aAq t.e):∀ (d j:Nat) (out:List ByteArray),j + d=l.length→out.length + 170 * cT (l.drop j) + 5≤1000000→
    EvP (fun k=>bL.l0 k (dQ l) out (j:Int)) (·=out ++ (sTs (l.drop j) ++ [[125]]).map ba)
  |0,j,out,h,ho=>by
    refine EvP.step (fun k=>bL.l0.eq_2 (k:=k) ..) (EvP.no (by rw [gQ];omega) (EvP.yes (by omega) (EvP.ret ?_)));rw [List.drop_eq_nil_of_le (by omega),sTs];rfl
  |d + 1,j,out,h,ho=>by
    have hj:j < l.length:=by omega
    have hcl:=pO l;have hcd:cT (l.drop j)=cT [l[j]] + cT (l.drop (j + 1)):=by rw [List.drop_eq_getElem_cons hj,xE,rO]
    have hsp:=TQ l j;have hm:l[j] ∈ l:=by simp
    have hlen:=aBp l[j] (hv _ hm);refine EvP.step (fun k=>bL.l0.eq_2 (k:=k) ..) (EvP.yes (by rw [gQ];omega) (EvP.yes (by omega) ?_));rw [SI l j hj];refine EvP.dO (KT hbx l[j] (hv _ hm) (by omega) (hs _ hm).1 (hs _ hm).2) (EvP.yes (by rw [List.length_map];omega) ?_);rw [w64 (by omega) (by omega),show (j:Int) + 1=((j + 1:Nat):Int) by omega];refine (yS hbx l hc hv hs d (j + 1) _ (by omega) (by rw [List.length_append,List.length_map];omega)).mono (fun a ha=>?_);rw [ha,aAe l j hj];simp
theorem GI {boxes:Int} (hbx:boxes≤3):∀ (c:Nat) (l:List ST),cT l≤c→c≤5000→(∀ t ∈ l,VS boxes t)→aAq l:=by
 intro c;induction c with
 |zero=>
  intro l hc h5 hv;have hl:l=[]:=by
   have:=pO l;exact List.eq_nil_of_length_eq_zero (by omega)
  subst hl;refine EvP.step (fun k=>bL.f.eq_2 (k:=k) ..) ?_;refine (yS hbx [] (by omega) hv (fun t h=>by cases h) 0 0 _ rfl (by show 1 + _ + _≤_;simp only [List.drop_nil];omega)).mono (fun a ha=>?_);rw [ha];unfold oG;simp;first|done|rfl
 |succ c ih=>
  intro l hc h5 hv;have hs:∀ t ∈ l,aAq t.b∧aAq t.e:=by
   intro t ht;have h1:cT [t]≤cT l:=by
    obtain ⟨s,r,rfl⟩:=List.append_of_mem ht;rw [wU,xE t r,rO];omega
   rw [rO] at h1;exact ⟨ih t.b (by omega) (by omega) (hv t ht).b,ih t.e (by omega) (by omega) (hv t ht).e⟩
  refine EvP.step (fun k=>bL.f.eq_2 (k:=k) ..) ?_;refine (yS hbx l (by omega) hv hs l.length 0 _ (by omega) (by show 1 + _ + _≤_;rw [List.drop_zero];omega)).mono (fun a ha=>?_);rw [ha,List.drop_zero];unfold oG;simp;first|done|rfl
theorem yV (l:List (List S58)) (i:Nat) (h:i < l.length):gB l (i:Int)=l[i]:=by
 unfold gB;rw [Int.toNat_natCast,List.getD_eq_getElem?_getD,List.getElem?_eq_getElem h];rfl
def tN (r:Int):Bool:=decide (1≤r) && decide (r≤4)
def rC (rs:List Int):Bool:=rs.all tN && decide ((rs.length:Int)≤3)
theorem OH (rs:List Int) (hl:rs.length≤1000000000):∀ (d j:Nat),j + d=rs.length→EvP (fun k=>dH.l0 k rs rs (rs.length:Int) (j:Int)) (·=((rs.drop j).all tN && decide ((rs.length:Int)≤3))):=by
  intro d;induction d with
  |zero=>
    intro j hj;refine EvP.step (fun k=>dH.l0.eq_2 (k:=k) ..) (EvP.no (by omega) (EvP.ret ?_));rw [List.drop_eq_nil_of_le (by omega)];rfl
  |succ d ih=>
    intro j hj;have hlt:j < rs.length:=by omega
    refine EvP.step (fun k=>dH.l0.eq_2 (k:=k) ..) (EvP.yes (by omega) (EvP.yes (by omega) (EvP.yes (by omega) ?_)));rw [SK rs j hlt,w64 (by omega) (by omega),List.drop_eq_getElem_cons hlt,List.all_cons];refine EvP.ite (fun h=>EvP.ret ?_) (fun h=>EvP.ite (fun h2=>EvP.ret ?_) (fun h2=>?_))
    · have:tN rs[j]=false:=by
        unfold tN;rw [dF (by omega)];rfl
      rw [this];rfl
    · have:tN rs[j]=false:=by
        unfold tN;rw [dF (p:=rs[j]≤4) (by omega),Bool.and_false]
      rw [this];rfl
    · have:tN rs[j]=true:=by
        unfold tN;rw [dT (by omega),dT (by omega)];rfl
      rw [this,Bool.true_and];exact ih (j + 1) (by omega)
theorem OG (rs:List Int) (hl:rs.length≤1000000000):EvP (fun k=>dH.f k rs) (·=rC rs):=by
  unfold dH.f;exact OH rs hl rs.length 0 (by omega)
theorem OU (rs:List Int) (hl:rs.length≤1000000000):∀ (d j:Nat),j + d=rs.length→EvP (fun k=>dZ.l0 k rs (j:Int)) (·=((rs.drop j).all tN && decide ((rs.length:Int)≤3))):=by
  intro d;induction d with
  |zero=>
    intro j hj;refine EvP.step (fun k=>dZ.l0.eq_2 (k:=k) ..) (EvP.no (by omega) (EvP.ret ?_));rw [List.drop_eq_nil_of_le (by omega)];rfl
  |succ d ih=>
    intro j hj;have hlt:j < rs.length:=by omega
    refine EvP.step (fun k=>dZ.l0.eq_2 (k:=k) ..) (EvP.yes (by omega) (EvP.yes (by omega) ?_));rw [SK rs j hlt,w64 (by omega) (by omega),List.drop_eq_getElem_cons hlt,List.all_cons,xJ];refine EvP.fQ rfl (EvP.ite (fun h=>?_) (fun h=>EvP.ret ?_))
    · rw [show tN rs[j]=true from h,Bool.true_and]
      exact ih (j + 1) (by omega)
    · rw [show tN rs[j]=false from Bool.eq_false_iff.mpr h]
      rfl
theorem OT (rs:List Int) (hl:rs.length≤1000000000):EvP (fun k=>dZ.f k rs) (·=rC rs):=by
  unfold dZ.f;exact OU rs hl rs.length 0 (by omega)
def xI (m:Int) (s:S58):Bool:=!((s.f0 == 4 || s.f0 == 5) && decide (s.f2≥m))
mutual
def bxS (m:Int):S58→Bool
 |⟨a,b,c,e,l1,l2⟩=>xI m ⟨a,b,c,e,l1,l2⟩ && (uX m l1 && uX m l2)
def uX (m:Int):List S58→Bool
 |[]=>true
 |x :: xs=>bxS m x && uX m xs
end
theorem aFl (m:Int) (s:S58):bxS m s=(xI m s && (uX m s.f4 && uX m s.f5)):=by
 cases s;rw [bxS]
theorem MH (m:Int):∀ l:List S58,uX m l=l.all (bxS m)
 |[]=>by rw [uX];rfl
 |x :: xs=>by rw [uX,MH m xs];rfl
theorem GH (m:Int):∀ (c:Nat) (l:List S58),cSs l≤c→c≤1000000000→EvP (fun k=>bO.f k l m) (·=uX m l):=by
  intro c;induction c with
  |zero=>
    intro l hl hc;have:=gK l;obtain rfl:=List.eq_nil_of_length_eq_zero (show l.length=0 by omega);exact EvP.step (fun k=>bO.f.eq_2 (k:=k) ..) (EvP.step (fun k=>bO.l0.eq_2 (k:=k) ..) (EvP.no (by simp) (EvP.ret (by rw [uX]))))
  |succ c ih=>
    intro l hl hc;have hlen:=gK l;have loop:∀ (r j:Nat),j + r=l.length→EvP (fun k=>bO.l0 k l m (j:Int)) (·=uX m (l.drop j)):=by
      intro r;induction r with
      |zero=>
        intro j hj;refine EvP.step (fun k=>bO.l0.eq_2 (k:=k) ..) (EvP.no (by omega) (EvP.ret ?_));rw [List.drop_eq_nil_of_le (by omega),uX]
      |succ r ih2=>
        intro j hj;have hlt:j < l.length:=by omega
        have hm:=AP l _ (List.getElem_mem hlt);have hcs:=RV l[j];have hd:uX m (l.drop j)=(bxS m l[j] && uX m (l.drop (j + 1))):=by
          rw [List.drop_eq_getElem_cons hlt,uX]
        rw [hd,aFl];have j1:∀ b:Bool,(xI m l[j]=!b)→EvP (fun k=>bO.j1 k l m (j:Int) b l[j].f0 l[j].f1 l[j].f2 l[j].f3.f0 l[j].f3.f1 l[j].f3.f2 l[j].f4 l[j].f5) (·=(xI m l[j] && (uX m l[j].f4 && uX m l[j].f5) && uX m (l.drop (j + 1)))):=by
          intro b hb;refine EvP.step (fun k=>bO.j1.eq_2 (k:=k) ..) (EvP.ite (fun h=>EvP.ret ?_) (fun h=>?_))
          · rw [hb,h]
            rfl
          · rw [hb,Bool.eq_false_iff.mpr h,w64 (n:=(j:Int) + 1) (by omega) (by omega)]
            refine EvP.dO (ih _ (by omega) (by omega)) (EvP.ite (fun h4=>EvP.dO (ih _ (by omega) (by omega)) (EvP.ite (fun h5=>?_) (fun h5=>EvP.ret ?_))) (fun h4=>EvP.ret ?_))
            · rw [h4,h5]
              exact ih2 (j + 1) (by omega)
            · rw [Bool.eq_false_iff.mpr h5]
              simp
            · rw [Bool.eq_false_iff.mpr h4]
              simp
        refine EvP.step (fun k=>bO.l0.eq_2 (k:=k) ..) (EvP.yes (by omega) (EvP.yes (by omega) ?_));rw [EX l j hlt];refine EvP.ite (fun h4=>j1 _ ?_) (fun h4=>EvP.ite (fun h5=>j1 _ ?_) (fun h5=>j1 _ ?_));· simp [xI,h4]
        · simp [xI,h5]
        · simp [xI,h4,h5]
    refine EvP.step (fun k=>bO.f.eq_2 (k:=k) ..) ?_;exact loop l.length 0 (by omega)
theorem RD (m:Int) (h0:0≤m) (h3:m≤3) (s:S58):stS m s=(stS 3 s && xI m s):=by
 rw [Bool.eq_iff_iff,Bool.and_eq_true];unfold stS xO mJ xI yL;by_cases c4:s.f0=4
 ·simp only [c4];simp;constructor
  ·rintro ⟨a,⟨b,c⟩,d⟩;exact ⟨⟨a,⟨b,by omega⟩,d⟩,by omega⟩
  ·rintro ⟨⟨a,⟨b,c⟩,d⟩,e⟩;exact ⟨a,⟨b,by omega⟩,d⟩
 ·by_cases c5:s.f0=5
  ·simp only [c5];simp;constructor
   ·rintro ⟨a,⟨b,c⟩,d⟩;exact ⟨⟨a,⟨b,by omega⟩,d⟩,by omega⟩
   ·rintro ⟨⟨a,⟨b,c⟩,d⟩,e⟩;exact ⟨a,⟨b,by omega⟩,d⟩
  ·simp [c4,c5]
theorem rW (m:Int) (h0:0≤m) (h3:m≤3):∀ (d:Nat) (s:S58),kC m d s=true ↔ (kC 3 d s=true∧bxS m s=true)
 |0,s=>by
  simp only [kC,Bool.and_eq_true,RD m h0 h3 s,aFl];constructor
  ·rintro ⟨⟨a,b⟩,c⟩;have hf:=LC a (fun e=>by rw [(pR s).mpr e] at c;cases c);rw [RV] at hf;have l4:=gK s.f4;have l5:=gK s.f5;rw [List.eq_nil_of_length_eq_zero (show s.f4.length=0 by omega),List.eq_nil_of_length_eq_zero (show s.f5.length=0 by omega)];exact ⟨⟨a,c⟩,b,by rw [uX],by rw [uX]⟩
  ·rintro ⟨⟨a,c⟩,b,_⟩;exact ⟨⟨a,b⟩,c⟩
 |d + 1,s=>by
  have ih:∀ l:List S58,l.all (kC m d)=true ↔ (l.all (kC 3 d)=true∧uX m l=true):=by
   intro l;rw [MH,List.all_eq_true,List.all_eq_true,List.all_eq_true];constructor;·exact fun h=>⟨fun x hx=>((rW m h0 h3 d x).mp (h x hx)).1,fun x hx=>((rW m h0 h3 d x).mp (h x hx)).2⟩
   ·exact fun h x hx=>(rW m h0 h3 d x).mpr ⟨h.1 x hx,h.2 x hx⟩
  simp only [kC,Bool.and_eq_true,Bool.or_eq_true,RD m h0 h3 s,aFl,ih];cases hb:pG s with
  |true=>
   simp only [Bool.not_true,Bool.false_eq_true,false_or];constructor
   ·rintro ⟨⟨a,b⟩,⟨c1,c2⟩,d1,d2⟩;exact ⟨⟨a,c1,d1⟩,b,c2,d2⟩
   ·rintro ⟨⟨a,c1,d1⟩,b,c2,d2⟩;exact ⟨⟨a,b⟩,⟨c1,c2⟩,d1,d2⟩
  |false=>
   simp only [Bool.not_false,true_or,and_true];constructor
   ·rintro ⟨a,b⟩;have hf:=LC a (fun e=>by rw [(pR s).mpr e] at hb;cases hb);rw [RV] at hf;have l4:=gK s.f4;have l5:=gK s.f5;rw [List.eq_nil_of_length_eq_zero (show s.f4.length=0 by omega),List.eq_nil_of_length_eq_zero (show s.f5.length=0 by omega)];exact ⟨a,b,by rw [uX],by rw [uX]⟩
   ·rintro ⟨a,b,_⟩;exact ⟨a,b⟩
theorem aEb (m:Int) (h0:0≤m) (h3:m≤3) (l:List S58):okT m l=(okT 3 l && uX m l):=by
 rw [Bool.eq_iff_iff,Bool.and_eq_true,xK,xK,MH];unfold okL;rw [List.all_eq_true,List.all_eq_true,List.all_eq_true];constructor;·exact fun h=>⟨⟨fun x hx=>((rW m h0 h3 3 x).mp (h.1 x hx)).1,h.2⟩,fun x hx=>((rW m h0 h3 3 x).mp (h.1 x hx)).2⟩
 ·exact fun h=>⟨fun x hx=>(rW m h0 h3 3 x).mpr ⟨h.1.1 x hx,h.2 x hx⟩,h.1.2⟩
def mF (rs:List Int) (ts:List (List S58)):Bool:=rC rs && (decide (1≤ts.length) && decide (ts.length≤3) && ts.all (okT (rs.length:Int)))
theorem GD {rs:List Int} (h:rC rs=true):(0:Int)≤rs.length∧(rs.length:Int)≤3:=by
 unfold rC at h;rw [Bool.and_eq_true,decide_eq_true_eq] at h;exact ⟨by omega,h.2⟩
def xC (ts:List (List S58)):Prop:=ts.length≤1000000000∧∀ t ∈ ts,cSs t≤1000000000
theorem pE (rs:List Int) (ts:List (List S58)) (hr:rs.length≤1000000000) (ht:xC ts):EvP (fun k=>bE.f k rs ts) (·=mF rs ts):=by
  obtain ⟨hl,ht⟩:=ht;have loop:rC rs=true→∀ (d j:Nat),j + d=ts.length→EvP (fun k=>bE.l0 k ts (ts.length:Int) (j:Int) rs ts) (·=(ts.drop j).all (okT (rs.length:Int))):=by
    intro hro d;induction d with
    |zero=>
      intro j hj;refine EvP.step (fun k=>bE.l0.eq_2 (k:=k) ..) (EvP.no (by omega) (EvP.ret ?_));rw [List.drop_eq_nil_of_le (by omega)];rfl
    |succ d ih=>
      intro j hj;have hlt:j < ts.length:=by omega
      refine EvP.step (fun k=>bE.l0.eq_2 (k:=k) ..) (EvP.yes (by omega) (EvP.yes (by omega) (EvP.yes (by omega) ?_)));rw [yV ts j hlt,w64 (by omega) (by omega),List.drop_eq_getElem_cons hlt,List.all_cons];refine EvP.dO (CZ _ _ (ht _ (List.getElem_mem hlt))) (EvP.ite (fun h=>?_) (fun h=>EvP.ret ?_))
      · rw [h,Bool.true_and]
        exact ih (j + 1) (by omega)
      · rw [Bool.eq_false_iff.mpr h]
        rfl
  have j0:∀ b:Bool,(b=false→rC rs=true∧1≤ts.length∧ts.length≤3)→(b=true→mF rs ts=false)→EvP (fun k=>bE.j0 k b rs ts) (·=mF rs ts):=by
    intro b h1 h2;refine EvP.step (fun k=>bE.j0.eq_2 (k:=k) ..) (EvP.ite (fun h=>EvP.ret (h2 h).symm) (fun h=>?_));obtain ⟨g1,g2,g3⟩:=h1 (Bool.eq_false_iff.mpr h);unfold mF;rw [g1,dT g2,dT g3];exact loop g1 ts.length 0 (by omega)
  unfold bE.f;refine EvP.dO (OG rs hr) (EvP.ite (fun h=>EvP.ite (fun h1=>j0 true (fun e=>by cases e) (fun _=>?_)) (fun h1=>j0 _ (fun e=>?_) (fun e=>?_))) (fun h=>j0 true (fun e=>by cases e) (fun _=>?_)))
  · unfold mF
    rw [dF (by omega)];simp
  · have:=of_decide_eq_false e
    exact ⟨h,by omega,by omega⟩
  · have:=of_decide_eq_true e
    unfold mF;rw [dF (p:=ts.length≤3) (by omega)];simp
  · unfold mF
    rw [Bool.eq_false_iff.mpr h];rfl
theorem uN (rs:List Int) (ts:List (List S58)) (hr:rs.length≤1000000000) (ht:xC ts):EvP (fun k=>aY.f k rs ts) (·=mF rs ts):=by
  obtain ⟨hl,ht⟩:=ht;have loop:rC rs=true→∀ (d j:Nat),j + d=ts.length→EvP (fun k=>aY.l0 k (j:Int) rs ts) (·=(ts.drop j).all (okT (rs.length:Int))):=by
    intro hro d;obtain ⟨r0,r3⟩:=GD hro;induction d with
    |zero=>
      intro j hj;refine EvP.step (fun k=>aY.l0.eq_2 (k:=k) ..) (EvP.no (by omega) (EvP.ret ?_));rw [List.drop_eq_nil_of_le (by omega)];rfl
    |succ d ih=>
      intro j hj;have hlt:j < ts.length:=by omega
      refine EvP.step (fun k=>aY.l0.eq_2 (k:=k) ..) (EvP.yes (by omega) (EvP.yes (by omega) ?_));rw [yV ts j hlt,w64 (by omega) (by omega),List.drop_eq_getElem_cons hlt,List.all_cons,aEb _ r0 r3];refine EvP.dO (DR _ (ht _ (List.getElem_mem hlt))) (EvP.ite (fun h=>EvP.dO (GH _ _ _ (ht _ (List.getElem_mem hlt)) (by omega)) (EvP.ite (fun h2=>?_) (fun h2=>EvP.ret ?_))) (fun h=>EvP.ret ?_))
      · rw [h,h2,Bool.true_and,Bool.true_and]
        exact ih (j + 1) (by omega)
      · rw [h,Bool.eq_false_iff.mpr h2]
        rfl
      · rw [Bool.eq_false_iff.mpr h]
        rfl
  have j0:∀ b:Bool,(b=false→rC rs=true∧1≤ts.length∧ts.length≤3)→(b=true→mF rs ts=false)→EvP (fun k=>aY.j0 k b rs ts) (·=mF rs ts):=by
    intro b h1 h2;refine EvP.step (fun k=>aY.j0.eq_2 (k:=k) ..) (EvP.ite (fun h=>EvP.ret (h2 h).symm) (fun h=>?_));obtain ⟨g1,g2,g3⟩:=h1 (Bool.eq_false_iff.mpr h);unfold mF;rw [g1,dT g2,dT g3];exact loop g1 ts.length 0 (by omega)
  unfold aY.f;refine EvP.dO (OT rs hr) (EvP.ite (fun h=>?_) (fun h=>j0 true (fun e=>by cases e) (fun _=>?_)))
  · rw [xJ]
    refine EvP.fQ rfl (j0 _ (fun e=>?_) (fun e=>?_))
    · rw [Bool.not_eq_false',Bool.and_eq_true,decide_eq_true_eq,decide_eq_true_eq] at e
      exact ⟨h,by omega,by omega⟩
    · unfold mF
      have e2:(decide (1≤ts.length) && decide (ts.length≤3))=false:=by
        rw [Bool.eq_false_iff];intro q;rw [Bool.and_eq_true,decide_eq_true_eq,decide_eq_true_eq] at q;rw [dT (by omega),dT (by omega)] at e;cases e
      rw [e2];simp
  · unfold mF
    rw [Bool.eq_false_iff.mpr h];rfl
theorem vQ {rs:List Int} {ts:List (List S58)}:mF rs ts=true ↔ rC rs=true∧1≤ts.length∧ts.length≤3∧∀ t ∈ ts,okT (rs.length:Int) t=true:=by
 unfold mF;simp only [Bool.and_eq_true,decide_eq_true_eq,List.all_eq_true,and_assoc]
set_option linter.unusedSimpArgs false
def PO (ms:List (List ST)):List (List S58):=ms.map (fun m=>dQ (fO m))
theorem BH (rs:List Int) (ms:List (List ST)) (hl:ms.length≤1000) (ha:∀ m ∈ ms,(∀ t ∈ m,AX t)∧cT m≤16):∀ (r j:Nat) (acc:List (List S58)),j + r=ms.length→acc.length + r≤2000→
    EvP (fun k=>bQ.l0 k (ms.map dQ) ((ms.map dQ).length:Int) (j:Int) rs acc) (·=(rs,acc ++ PO (ms.drop j),true)):=by
  have hlen:(ms.map dQ).length=ms.length:=List.length_map _;intro r;induction r with
  |zero=>
    intro j acc hj h1;refine EvP.step (fun k=>bQ.l0.eq_2 (k:=k) ..) (EvP.no (by omega) (EvP.ret ?_));rw [List.drop_eq_nil_of_le (by omega)];simp [PO]
  |succ r ih=>
    intro j acc hj h1;have hlt:j < ms.length:=by omega
    obtain ⟨hax,hc⟩:=ha _ (List.getElem_mem hlt);refine EvP.step (fun k=>bQ.l0.eq_2 (k:=k) ..) (EvP.yes (by omega) (EvP.yes (by omega) (EvP.yes (by omega) ?_)));rw [yV _ j (by omega),List.getElem_map];refine EvP.dO (EP 16 _ hax hc (by omega)) (EvP.yes (by omega) ?_);rw [w64 (by omega) (by omega)];refine (ih (j + 1) _ (by omega) (by rw [List.length_append];simp;omega)).mono fun b hb=>?_
    rw [hb,List.drop_eq_getElem_cons hlt];unfold PO;rw [List.map_cons,List.append_assoc];rfl
theorem yP {rs:List Int} {ms:List (List ST)} (hr:rs.length≤1000) (ht:xC (ms.map dQ)) (hl:ms.length≤1000) (ha:∀ m ∈ ms,(∀ t ∈ m,AX t)∧cT m≤16) (h:mF rs (ms.map dQ)=true):
    EvP (fun k=>bQ.f k rs (ms.map dQ)) (·=(rs,PO ms,true)):=by
  unfold bQ.f;refine EvP.dO (pE rs _ (by omega) ht) (EvP.yes h (EvP.fQ (aFo rs (by omega)) ?_));have:=BH rs ms hl ha ms.length 0 [] (by omega) (by simp;omega);rw [List.drop_zero,List.nil_append] at this;exact this
theorem aJv {rs:List Int} {ts:List (List S58)} (h:mF rs ts=true):∃ ms:List (List ST),ms.map dQ=ts∧ms.length≤3∧(∀ m ∈ ms,(∀ t ∈ m,AX t)∧cT m≤16)∧∀ m ∈ ms,okT (rs.length:Int) (dQ m)=true:=by
 obtain ⟨_,_,h3,h4⟩:=vQ.1 h;suffices ∀ ts:List (List S58),(∀ t ∈ ts,okT (rs.length:Int) t=true)→∃ ms:List (List ST),ms.map dQ=ts∧(∀ m ∈ ms,(∀ t ∈ m,AX t)∧cT m≤16)∧∀ m ∈ ms,okT (rs.length:Int) (dQ m)=true by
  obtain ⟨ms,e,ha,ho⟩:=this ts h4;exact ⟨ms,e,by rw [← List.length_map (f:=dQ),e];exact h3,ha,ho⟩
 intro ts;induction ts with
 |nil=>exact fun _=>⟨[],rfl,by simp,by simp⟩
 |cons t ts ih=>
  intro h;obtain ⟨ms,e,ha,ho⟩:=ih (fun x hx=>h x (List.mem_cons_of_mem _ hx));have ht:=h t List.mem_cons_self;obtain ⟨m,hm,hx⟩:=aGf _ 3 t (xK.1 ht).1;subst hm;refine ⟨m :: ms,by rw [List.map_cons,e],fun y hy=>?_,fun y hy=>?_⟩
  ·rcases List.mem_cons.1 hy with rfl|hy;·exact ⟨hx,(xK.1 ht).2⟩
   ·exact ha y hy
  ·rcases List.mem_cons.1 hy with rfl|hy;·exact ht
   ·exact ho y hy
def aDc (r:Int):List (List UInt8):=[aLr,dec r,[59]]
def tQ:List Int→List (List UInt8)
 |[]=>[]
 |r :: rs=>aDc r ++ tQ rs
def nM:List (List ST)→List (List UInt8)
 |[]=>[]
 |m :: ms=>aDn :: oG m ++ nM ms
def pT (rs:List Int) (ms:List (List ST)):List (List UInt8):=tQ rs ++ nM ms
structure VP (rs:List Int) (ms:List (List ST)):Prop where
 rooms:∀ r ∈ rs,1≤r∧r≤4
 nr:rs.length≤3
 n1:1≤ms.length
 nm:ms.length≤3
 vs:∀ m ∈ ms,(∀ t ∈ m,VS (rs.length:Int) t)∧cT m≤16
theorem aLk {rs:List Int} {ts:List (List S58)} (h:mF rs ts=true):∃ ms:List (List ST),ms.map dQ=ts∧VP rs ms∧(∀ m ∈ ms,(∀ t ∈ m,AX t)∧cT m≤16):=by
 obtain ⟨ms,e,hl,ha,hk⟩:=aJv h;obtain ⟨h1,h2,h3,h4⟩:=vQ.1 h;refine ⟨ms,e,⟨?_,?_,?_,hl,?_⟩,ha⟩
 ·intro r hr;unfold rC at h1;rw [Bool.and_eq_true,List.all_eq_true] at h1;have:=h1.1 r hr;unfold tN at this;rw [Bool.and_eq_true,decide_eq_true_eq,decide_eq_true_eq] at this;exact this
 ·have:=GD h1;omega
 ·rw [← e,List.length_map] at h2;exact h2
 ·intro m hm;refine ⟨fun t ht=>?_,(ha m hm).2⟩;have h5:=(xK.1 (hk m hm)).1;unfold okL at h5;rw [List.all_eq_true] at h5;exact aDk _ 3 t (h5 _ (AV ht)) ((ha m hm).1 t ht)
theorem KH (rs:List Int) (j:Nat) (h:j < rs.length):tQ (rs.drop j)=aDc rs[j] ++ tQ (rs.drop (j + 1)):=by rw [List.drop_eq_getElem_cons h,tQ]
theorem KM (ms:List (List ST)) (j:Nat) (h:j < ms.length):nM (ms.drop j)=aDn :: oG ms[j] ++ nM (ms.drop (j + 1)):=by rw [List.drop_eq_getElem_cons h,nM]
theorem IK:∀ rs:List Int,(∀ r ∈ rs,1≤r∧r≤4)→Good (tQ rs)
 |[],_=>.nil
 |r :: rs,h=>by
  have h1:=h r (by simp);rw [tQ];exact (Good.cons (sV (by decide)) (by decide) (Good.cons (LB _) (EH (by omega) (by omega)) vF)).app (IK rs (fun x hx=>h x (by simp [hx])))
theorem IL {boxes:Int} (hbx:boxes≤3):∀ ms:List (List ST),(∀ m ∈ ms,∀ t ∈ m,VS boxes t)→Good (nM ms)
 |[],_=>.nil
 |m :: ms,h=>by
  rw [nM];exact (Good.cons (sV (by decide)) (by decide) (MK (aFv hbx m (h m (by simp))))).app (IL hbx ms (fun x hx=>h x (by simp [hx])))
theorem EM {rs:List Int} {ms:List (List ST)} (h:VP rs ms):Good (pT rs ms):=
 (IK rs h.rooms).app (IL (boxes:=(rs.length:Int)) (by have:=h.nr;omega) ms (fun m hm=>(h.vs m hm).1))
theorem MZ:∀ rs:List Int,(tQ rs).length=3 * rs.length
 |[]=>rfl
 |r :: rs=>by rw [tQ,List.length_append,MZ rs,List.length_cons];show 3 + _=_;omega
theorem SF {boxes:Int} (m:List ST) (h:∀ t ∈ m,VS boxes t) (hc:cT m≤16):(oG m).length≤2722:=by
 have:=LD m h;have e:(oG m).length=(sTs m).length + 2:=by simp [oG]
 omega
theorem NA {boxes:Int}:∀ ms:List (List ST),(∀ m ∈ ms,(∀ t ∈ m,VS boxes t)∧cT m≤16)→(nM ms).length≤2723 * ms.length
 |[],_=>by simp [nM]
 |m :: ms,h=>by
  have h1:=SF m (h m (by simp)).1 (h m (by simp)).2;have h2:=NA ms (fun x hx=>h x (by simp [hx]));rw [nM,List.length_append,List.length_cons,List.length_cons];omega
theorem DF {rs:List Int} {ms:List (List ST)} (h:VP rs ms):(pT rs ms).length≤8200:=by
 have h1:=MZ rs;have h2:=NA ms h.vs;have:=h.nr;have:=h.nm;unfold pT;rw [List.length_append];omega
theorem aAk {rs:List Int} {ms:List (List ST)} (h:VP rs ms):(kK (pT rs ms)).length≤1000000:=by
 have h1:=FW 5 (pT rs ms) (fun t ht=>(EM h t ht).2);have h2:=DF h;omega
theorem aDa {rs:List Int} {ms:List (List ST)} (h:VP rs ms):pT rs ms≠[]:=by
 have:=h.n1;unfold pT;cases ms with
 |nil=>simp at this
 |cons m r=>simp [nM]
theorem aIy (ms:List (List ST)) (j:Nat) (h:j < ms.length):gB (ms.map dQ) (j:Int)=dQ ms[j]:=by
 rw [yV _ j (by rw [List.length_map];exact h),List.getElem_map]
theorem IU {rs:List Int} {ms:List (List ST)} (h:VP rs ms):∀ (d j:Nat) (out:List (List UInt8)),j + d=ms.length→out ++ nM (ms.drop j)=pT rs ms→
    EvP (fun k=>bC.l1 k (out.map ba) (ms.map dQ) ((ms.map dQ).length:Int) (j:Int)) (·=ba (kK (pT rs ms)))
  |0,j,out,hj,ho=>by
    have e:out=pT rs ms:=by rw [← ho,List.drop_eq_nil_of_le (by omega),nM,List.append_nil]
    have hl:=DF h;have hg:=EM h;refine EvP.step (fun k=>bC.l1.eq_2 (k:=k) ..) (EvP.no (by rw [List.length_map];omega) ?_);rw [e];exact EvP.dO (CW _ (by omega) (fun t ht=>by have:=(hg t ht).2;omega) (fun t ht=>(hg t ht).1) (by have:=aAk h;omega)) (EvP.ret rfl)
  |d + 1,j,out,hj,ho=>by
    have hj':j < ms.length:=by omega
    have hm:=h.vs ms[j] (by simp);have hl:=DF h;have hb:=SF ms[j] hm.1 hm.2;have hle:out.length≤8200:=by
      have:=congrArg List.length ho;rw [List.length_append] at this;omega
    have hn:=h.nm;refine EvP.step (fun k=>bC.l1.eq_2 (k:=k) ..) (EvP.yes (by rw [List.length_map];omega) (EvP.yes (by omega) (EvP.yes (by rw [List.length_map];omega) (EvP.yes (by rw [List.length_map];omega) ?_))));rw [aIy ms j hj'];refine EvP.dO (BJ (boxes:=(rs.length:Int)) (by have:=h.nr;omega) 16 ms[j] hm.2 (by omega) hm.1 _ (by rw [List.length_append,List.length_map];show _ + 1 + _ + _≤_;omega)) ?_;rw [w64 (by omega) (by omega),show (j:Int) + 1=((j + 1:Nat):Int) by omega];have e2:out.map ba ++ [(⟨#[116,97,115,107]⟩:ByteArray)] ++ (oG ms[j]).map ba=(out ++ aDn :: oG ms[j]).map ba:=by
      simp;rfl
    rw [e2];exact IU h d (j + 1) _ (by omega) (by rw [← ho,KM ms j hj'];simp)
theorem IQ {rs:List Int} {ms:List (List ST)} (h:VP rs ms):∀ (d j:Nat) (out:List (List UInt8)),j + d=rs.length→out ++ tQ (rs.drop j) ++ nM ms=pT rs ms→
    EvP (fun k=>bC.l0 k (out.map ba) rs (rs.length:Int) (j:Int) rs (ms.map dQ)) (·=ba (kK (pT rs ms)))
  |0,j,out,hj,ho=>by
    refine EvP.step (fun k=>bC.l0.eq_2 (k:=k) ..) (EvP.no (by omega) ?_);exact IU h ms.length 0 out (by omega) (by rw [← ho,show rs.drop j=[] from List.drop_eq_nil_of_le (by omega)];simp [tQ])
  |d + 1,j,out,hj,ho=>by
    have hj':j < rs.length:=by omega
    have hr:=h.rooms rs[j] (by simp);have hl:=DF h;have hn:=h.nr;have hle:out.length≤8200:=by
      have:=congrArg List.length ho;rw [List.length_append,List.length_append] at this;omega
    refine EvP.step (fun k=>bC.l0.eq_2 (k:=k) ..) (EvP.yes (by omega) (EvP.yes (by omega) (EvP.yes (by omega) ?_)));rw [SK rs j hj'];refine EvP.fQ (KV (by omega) (by omega)) (EvP.fQ rfl (EvP.yes (by rw [List.length_map];show _ + 3 < _;omega) ?_));rw [w64 (by omega) (by omega),show (j:Int) + 1=((j + 1:Nat):Int) by omega];have e2:out.map ba ++ [(⟨#[98,111,120]⟩:ByteArray),ba (dec rs[j]),(⟨#[59]⟩:ByteArray)]=(out ++ aDc rs[j]).map ba:=by
      rw [List.map_append];rfl
    rw [e2];exact IQ h d (j + 1) _ (by omega) (by rw [← ho,KH rs j hj'];simp)
theorem KJ {rs:List Int} {ms:List (List ST)} (h:VP rs ms):∀ (d j:Nat) (out:List (List UInt8)),j + d=ms.length→out ++ nM (ms.drop j)=pT rs ms→
    EvP (fun k=>bF.l1 k (out.map ba) (j:Int) rs (ms.map dQ)) (·=ba (kK (pT rs ms)))
  |0,j,out,hj,ho=>by
    have e:out=pT rs ms:=by rw [← ho,List.drop_eq_nil_of_le (by omega),nM,List.append_nil]
    have hl:=DF h;have hg:=EM h;refine EvP.step (fun k=>bF.l1.eq_2 (k:=k) ..) (EvP.no (by rw [List.length_map];omega) ?_);rw [e];exact EvP.dO (DU _ (by omega) (fun t ht=>by have:=(hg t ht).2;omega) (fun t ht=>(hg t ht).1) (by have:=aAk h;omega)) (EvP.ret rfl)
  |d + 1,j,out,hj,ho=>by
    have hj':j < ms.length:=by omega
    have hm:=h.vs ms[j] (by simp);have hl:=DF h;have hb:=SF ms[j] hm.1 hm.2;have hle:out.length≤8200:=by
      have:=congrArg List.length ho;rw [List.length_append] at this;omega
    have hn:=h.nm;refine EvP.step (fun k=>bF.l1.eq_2 (k:=k) ..) (EvP.yes (by rw [List.length_map];omega) (EvP.yes (by rw [List.length_map];omega) (EvP.fQ rfl (EvP.yes (by omega) ?_))));rw [aIy ms j hj'];refine EvP.dO (GI (boxes:=(rs.length:Int)) (by have:=h.nr;omega) 16 ms[j] hm.2 (by omega) hm.1) (EvP.yes (by rw [List.length_append,List.length_map,List.length_map];show _ + 1 + _ < _;omega) ?_);rw [w64 (by omega) (by omega),show (j:Int) + 1=((j + 1:Nat):Int) by omega];have e2:out.map ba ++ [(⟨#[116,97,115,107]⟩:ByteArray)] ++ (oG ms[j]).map ba=(out ++ aDn :: oG ms[j]).map ba:=by
      simp;rfl
    rw [e2];exact KJ h d (j + 1) _ (by omega) (by rw [← ho,KM ms j hj'];simp)
theorem KL {rs:List Int} {ms:List (List ST)} (h:VP rs ms):∀ (d j:Nat) (out:List (List UInt8)),j + d=rs.length→out ++ tQ (rs.drop j) ++ nM ms=pT rs ms→
    EvP (fun k=>bF.l0 k (out.map ba) (j:Int) rs (ms.map dQ)) (·=ba (kK (pT rs ms)))
  |0,j,out,hj,ho=>by
    refine EvP.step (fun k=>bF.l0.eq_2 (k:=k) ..) (EvP.no (by omega) ?_);exact KJ h ms.length 0 out (by omega) (by rw [← ho,show rs.drop j=[] from List.drop_eq_nil_of_le (by omega)];simp [tQ])
  |d + 1,j,out,hj,ho=>by
    have hj':j < rs.length:=by omega
    have hr:=h.rooms rs[j] (by simp);have hl:=DF h;have hn:=h.nr;have hle:out.length≤8200:=by
      have:=congrArg List.length ho;rw [List.length_append,List.length_append] at this;omega
    refine EvP.step (fun k=>bF.l0.eq_2 (k:=k) ..) (EvP.yes (by omega) (EvP.yes (by omega) ?_));rw [SK rs j hj'];refine EvP.dO (uF rs[j].toNat rs[j] (by omega) (by omega) (by omega)) (EvP.fQ rfl (EvP.yes (by rw [List.length_map];show _ + 3 < _;omega) ?_));rw [w64 (by omega) (by omega),show (j:Int) + 1=((j + 1:Nat):Int) by omega];have e2:out.map ba ++ [(⟨#[98,111,120]⟩:ByteArray),ba (dec rs[j]),(⟨#[59]⟩:ByteArray)]=(out ++ aDc rs[j]).map ba:=by
      rw [List.map_append];rfl
    rw [e2];exact KL h d (j + 1) _ (by omega) (by rw [← ho,KH rs j hj'];simp)
theorem uJ {rs:List Int} {ms:List (List ST)} (hr:rs.length≤1000000000) (ht:xC (ms.map dQ)) (h:VP rs ms) (hp:mF rs (ms.map dQ)=true):EvP (fun k=>bC.f k rs (ms.map dQ)) (·=ba (kK (pT rs ms))):=by
  unfold bC.f;exact EvP.dO (pE rs _ hr ht) (EvP.yes hp (IQ h rs.length 0 [] (by omega) rfl))
theorem yY {rs:List Int} {ms:List (List ST)} (hr:rs.length≤1000000000) (ht:xC (ms.map dQ)) (h:VP rs ms) (hp:mF rs (ms.map dQ)=true):EvP (fun k=>bF.f k rs (ms.map dQ)) (·=ba (kK (pT rs ms))):=by
  unfold bF.f;exact EvP.dO (uN rs _ hr ht) (EvP.yes hp (KL h rs.length 0 [] (by omega) rfl))
theorem BI {rs:List Int} {ts:List (List S58)} (hr:rs.length≤1000000000) (ht:xC ts) (hp:mF rs ts=false):EvP (fun k=>bC.f k rs ts) (·=(⟨#[]⟩:ByteArray)):=by
  unfold bC.f;exact EvP.dO (pE rs _ hr ht) (EvP.no (by rw [hp];exact Bool.false_ne_true) (EvP.ret rfl))
theorem BM {rs:List Int} {ts:List (List S58)} (hr:rs.length≤1000000000) (ht:xC ts) (hp:mF rs ts=false):EvP (fun k=>bF.f k rs ts) (·=(⟨#[]⟩:ByteArray)):=by
  unfold bF.f;exact EvP.dO (uN rs _ hr ht) (EvP.no (by rw [hp];exact Bool.false_ne_true) (EvP.ret rfl))
open Go.Proofs.YtjamfkpgmkhbnaaGreatDoorW.PrintLast
theorem WJ (b:List Int) (hb:Bytes b):∀ (d:Nat) (l:List Int) (n:Int) (p:Int),(l.length:Int) + d=n→n≤3→0≤p→p + d≤800000000000→
  EvP (fun k=>dR.l0 k l n (l.length:Int) b p) (fun r=>r.2=p + d∧r.1.length=l.length + d):=by
 intro d;induction d with
 |zero=>
  intro l n p hn h3 h0 h1;exact EvP.step (fun k=>dR.l0.eq_2 (k:=k) ..) (EvP.no (by omega) (EvP.ret ⟨by simp,rfl⟩))
 |succ d ih=>
  intro l n p hn h3 h0 h1;refine EvP.step (fun k=>dR.l0.eq_2 (k:=k) ..) (EvP.yes (by omega) (EvP.fQ rfl (gJ hb h0 (by omega) fun v v0 v1 _=>?_)));have:=v1 (by omega);dsimp only;refine EvP.yes (by omega) (EvP.yes (by simp;omega) (EvP.yes (by omega) ?_));have e:wrap64 ((l.length:Int) + 1)=((l ++ [rd [1,1,2,3,4] v]).length:Int):=by
   rw [w64 (by omega) (by omega),List.length_append];simp
  rw [e];refine (ih _ n _ (by rw [List.length_append,List.length_singleton];omega) h3 (by omega) (by omega)).mono fun r hr=>?_
  rw [List.length_append,List.length_singleton] at hr;omega
theorem WI (b:List Int) (hb:Bytes b) (p:Int) (h0:0≤p) (h1:p≤700000000000):EvP (fun k=>dR.f k b p) (fun r=>p≤r.2∧r.2≤p + 4∧r.1.length≤3):=by
 unfold dR.f;refine EvP.fQ rfl (gJ hb h0 (by omega) fun v v0 v1 _=>?_);have:=v1 (by omega);dsimp only;refine EvP.yes (by omega) (EvP.yes (by simp;omega) ?_);have hm:rd [0,1,1,2,2,3] v ∈ [0,1,1,2,2,3]:=aGp _ _ (by omega) (by simp;omega);have hr:0≤rd [0,1,1,2,2,3] v∧rd [0,1,1,2,2,3] v≤3:=by
  generalize rd [0,1,1,2,2,3] v=x at hm;simp at hm;omega
 refine (WJ b hb (rd [0,1,1,2,2,3] v).toNat [] (rd [0,1,1,2,2,3] v) (p + 1) (by simp;omega) (by omega) (by omega) (by omega)).mono fun r hr=>?_
 simp only [List.length_nil] at hr;omega
def DP (p:Int) (P R T C:Nat) (r:List Int × List (List (S58)) × Int):Prop:=p≤r.2.2∧r.2.2≤p + P∧r.1.length≤R∧r.2.1.length≤T∧∀ t ∈ r.2.1,cSs t≤C
theorem OL (b:List Int) (hb:Bytes b) (rs:List Int):∀ (d:Nat) (ts:List (List (S58))) (n p:Int),(ts.length:Int) + d=n→1≤n→n≤3→0≤p→p + d * 3000000≤100000000000→(∀ t ∈ ts,cSs t≤36)→
  EvP (fun k=>bU.l0 k n (ts.length:Int) b p rs ts) (fun r=>p≤r.2.2∧r.2.2≤p + d * 3000000 + 200000∧r.1=rs∧1≤r.2.1.length∧r.2.1.length≤3∧∀ t ∈ r.2.1,cSs t≤36):=by
 intro d;induction d with
 |zero=>
  intro ts n p hn h1 h3 h0 hp ht;refine EvP.step (fun k=>bU.l0.eq_2 (k:=k) ..) (EvP.no (by omega) (gJ hb h0 (by omega) fun v v0 v1 _=>?_));dsimp only;refine EvP.ite (fun _=>EvP.bind (OI b hb _ (by omega) (by omega)) fun s hs=>EvP.yes (by omega) (EvP.ret ?_)) (fun _=>EvP.ret ?_)
  ·unfold DS at hs;refine ⟨by dsimp only;omega,by dsimp only;omega,rfl,by dsimp only;rw [List.length_set];omega,by dsimp only;rw [List.length_set];omega,fun t hm=>?_⟩;rcases List.mem_or_eq_of_mem_set hm with hm|rfl;·exact ht t hm
   ·simp only [cSs,cS];omega
  ·exact ⟨by dsimp only;omega,by dsimp only;omega,rfl,by dsimp only;omega,by dsimp only;omega,ht⟩
 |succ d ih=>
  intro ts n p hn h1 h3 h0 hp ht;refine EvP.step (fun k=>bU.l0.eq_2 (k:=k) ..) (EvP.yes (by omega) (EvP.bind (WK b hb p _ h0 (by omega)) fun s hs=>EvP.yes (by omega) ?_));obtain ⟨s0,s1,s2⟩:=hs;have e:wrap64 ((ts.length:Int) + 1)=((ts ++ [s.1]).length:Int):=by
   rw [w64 (by omega) (by omega),List.length_append];simp
  rw [e];refine (ih _ n s.2 (by rw [List.length_append,List.length_singleton];omega) h1 h3 (by omega) (by omega) (fun t hm=>?_)).mono fun r hr=>?_
  ·rcases List.mem_append.1 hm with hm|hm;·exact ht t hm
   ·rw [List.mem_singleton.1 hm];omega
  ·obtain ⟨r0,r1,r2⟩:=hr;exact ⟨by omega,by omega,r2⟩
theorem OJ (b:List Int) (hb:Bytes b) (p:Int) (h0:0≤p) (h1:p≤50000000000):EvP (fun k=>bU.f k b p) (fun r=>DP p 9500000 3 3 36 r∧1≤r.2.1.length):=by
 unfold bU.f;refine EvP.bind (WI b hb p h0 (by omega)) fun r hr=>gJ hb (by omega) (by omega) fun v v0 v1 _=>?_
 have:=v1 (by omega);dsimp only;rw [w64 (by omega) (by omega)];refine (OL b hb r.1 (1 + v).toNat [] (1 + v) (r.2 + 1) (by simp;omega) (by omega) (by omega) (by omega) (by omega) (fun t ht=>by cases ht)).mono fun s hs=>?_
 obtain ⟨s0,s1,s2,s3,s4,s5⟩:=hs;exact ⟨⟨by omega,by omega,by rw [s2];omega,by omega,s5⟩,s3⟩
theorem aAc (l:List (List (S58))) (h:0 < l.length):gB l 0 ∈ l:=by
 rw [show (0:Int)=((0:Nat):Int) from rfl,yV l 0 h];exact List.getElem_mem h
theorem WM (b:List Int) (hb:Bytes b) (p:Int) (h0:0≤p) (h1:p≤50000000000):EvP (fun k=>dG.f k b p) (DP p 9600000 4 6 40):=by
 unfold dG.f;refine EvP.bind (OJ b hb p h0 h1) fun r hr=>?_
 obtain ⟨⟨r0,r1,r2,r3,r4⟩,r5⟩:=hr;refine gJ hb (by omega) (by omega) fun v v0 v1 _=>?_
 dsimp only;have hl:∀ t ∈ r.2.1,cSs t≤40:=fun t ht=>Nat.le_trans (r4 t ht) (by omega)
 refine EvP.ite (fun h=>?_) (fun h=>EvP.ite (fun h=>?_) (fun h=>EvP.ite (fun h=>?_) (fun h=>EvP.ite (fun h=>?_) (fun h=>EvP.ite (fun h=>?_) (fun h=>EvP.ret ?_)))))
 ·refine EvP.fQ rfl (gJ hb (by omega) (by omega) fun u u0 u1 _=>?_);have:=u1 (by omega);refine EvP.yes u0 (EvP.yes (by simp;omega) (EvP.yes (by omega) (EvP.ret ⟨by dsimp only;omega,by dsimp only;omega,by dsimp only;rw [List.length_append,List.length_singleton];omega,by dsimp only;omega,hl⟩)))
 ·refine EvP.bind (MS b hb _ (by omega) (by omega)) fun s hs=>EvP.yes (by omega) (EvP.ret ⟨by dsimp only;omega,by dsimp only;omega,by dsimp only;omega,by dsimp only;rw [List.length_append,List.length_singleton];omega,fun t ht=>?_⟩)
  rcases List.mem_append.1 ht with ht|ht;·exact hl t ht
  ·rw [List.mem_singleton.1 ht];simp only [cSs,cS];omega
 ·exact EvP.ret ⟨by dsimp only;omega,by dsimp only;omega,by dsimp only;omega,by simp,fun t ht=>by cases ht⟩
 ·have hm:=aAc r.2.1 (by omega);refine EvP.yes (by omega) (EvP.fQ rfl (EvP.yes (by simp;omega) (EvP.ret ⟨by dsimp only;omega,by dsimp only;omega,by dsimp only;omega,by dsimp only;rw [List.length_append];simp;omega,fun t ht=>?_⟩)));rcases List.mem_append.1 ht with ht|ht;·exact hl t ht
  ·simp only [List.mem_cons,List.not_mem_nil,or_false,or_self] at ht;rw [ht];exact hl _ hm
 ·have hm:=aAc r.2.1 (by omega);have hc:=r4 _ hm;have hlen:=gK (gB r.2.1 0);refine EvP.yes (by omega) (EvP.yes (by omega) (EvP.ret ⟨by dsimp only;omega,by dsimp only;omega,by dsimp only;omega,by dsimp only;rw [List.length_set];omega,fun t ht=>?_⟩));rcases List.mem_or_eq_of_mem_set ht with ht|rfl;·exact hl t ht
  ·rw [tH];simp only [cSs,cS];omega
 ·exact ⟨by dsimp only;omega,by dsimp only;omega,by dsimp only;omega,by dsimp only;omega,hl⟩
set_option linter.unusedSimpArgs false
theorem aDw (ms:List (List ST)):PO ms=(ms.map fO).map dQ:=by
 unfold PO;rw [List.map_map];rfl
theorem aAb {rs:List Int} {ms:List (List ST)} (ha:∀ m ∈ ms,(∀ t ∈ m,AX t)∧cT m≤16) (h:mF rs (ms.map dQ)=true):mF rs ((ms.map fO).map dQ)=true:=by
 obtain ⟨h1,h2,h3,h4⟩:=vQ.1 h;refine vQ.2 ⟨h1,by simpa using h2,by simpa using h3,fun t ht=>?_⟩;obtain ⟨m,hm,rfl⟩:=List.mem_map.1 ht;obtain ⟨m',hm',rfl⟩:=List.mem_map.1 hm;exact aGj _ m' (ha m' hm').1 (h4 _ (List.mem_map.2 ⟨m',hm',rfl⟩))
theorem aAf {ms:List (List ST)} (hl:ms.length≤1000) (ha:∀ m ∈ ms,(∀ t ∈ m,AX t)∧cT m≤16):xC ((ms.map fO).map dQ):=by
 refine ⟨by simp;omega,fun t ht=>?_⟩;obtain ⟨m,hm,rfl⟩:=List.mem_map.1 ht;obtain ⟨m',hm',rfl⟩:=List.mem_map.1 hm;have h1:=wV m';have h2:=(ha m' hm').2;unfold cT at h1 h2;omega
theorem aHs {ms:List (List ST)} (ha:∀ m ∈ ms,(∀ t ∈ m,AX t)∧cT m≤16):∀ m ∈ ms.map fO,(∀ t ∈ m,AX t)∧cT m≤16:=by
 intro m hm;obtain ⟨m',hm',rfl⟩:=List.mem_map.1 hm;exact ⟨aDr m' (ha m' hm').1,Nat.le_trans (wV m') (ha m' hm').2⟩
def wd:List (List UInt8)→Nat
 |[]=>0
 |t :: L=>t.length + 1 + wd L
theorem nT:∀ L M:List (List UInt8),wd (L ++ M)=wd L + wd M
 |[],M=>by simp [wd]
 |t :: L,M=>by rw [List.cons_append,wd,wd,nT L M];omega
theorem NS:∀ L:List (List UInt8),L≠[]→(kK L).length + 1=wd L
 |[],h=>absurd rfl h
 |[x],_=>by simp [kK,wd]
 |x :: y :: r,_=>by
  have:=NS (y :: r) (by simp);rw [pI x (by simp),List.length_append,List.length_cons,wd];omega
theorem aDo (L:List (List UInt8)) (b:Bool):wd (vY L b)=wd L + (if b=true then 4 else 0):=by
 cases b with
 |false=>rfl
 |true=>
  unfold vY;rw [if_pos rfl,if_pos rfl,wd,nT];show 1 + 1 + (wd L + (1 + 1 + 0))=_
  omega
theorem aGz {L:List (List UInt8)} (hne:L≠[]) (h:∀ t ∈ L,Tok t):2≤wd L:=by
 cases L with
 |nil=>exact absurd rfl hne
 |cons t r=>
  have:=(h t (by simp)).pos;rw [wd];omega
theorem aIe {op:Int} (h:1≤op∧op≤12):1≤(opB op).length:=by
 have:=(aCz h).pos;omega
theorem aKb:∀ x:X,x.ok→x.lev≤9
 | .num _,_=>Int.le_refl _
 | .var _,_=>Int.le_refl _
 | .bin op _ _,h=>by
  have:=FY h.1;show lev op≤9
  omega
theorem WY:∀ x:X,x.ok→x.lev≤x.fold.lev
 | .num _,_=>Int.le_refl _
 | .var _,_=>Int.le_refl _
 | .bin op a b,h=>by
  rcases X.MI op a.fold b.fold with e|⟨m,e⟩
  ·rw [X.fold,e];exact Int.le_refl _
  ·rw [X.fold,e];exact aKb (.bin op a b) h
theorem aGx (op:Int) (a b:X):wd (X.bin op a b).toks=wd a.toks + (if decide (a.lev < lev op)=true then 4 else 0) + ((opB op).length + 1) + (wd b.toks + (if decide (b.lev≤lev op)=true then 4 else 0)):=by
 rw [X.toks,nT,wd,aDo,aDo];omega
theorem TB:∀ x:X,x.ok→wd x.fold.toks≤wd x.toks
 | .num _,_=>Nat.le_refl _
 | .var _,_=>Nat.le_refl _
 | .bin op a b,h=>by
  have ha:=TB a h.2.1;have hb:=TB b h.2.2;have la:=WY a h.2.1;have lb:=WY b h.2.2;have oa:=aIe h.1;have hok:=X.TT h.1 (X.uZ a h.2.1) (X.uZ b h.2.2);rw [aGx];rcases X.MI op a.fold b.fold with e|⟨m,e⟩
  ·rw [X.fold,e,aGx];have c1:(if decide (a.fold.lev < lev op)=true then 4 else 0)≤(if decide (a.lev < lev op)=true then 4 else 0):=by
    by_cases c:a.fold.lev < lev op
    ·rw [if_pos (dT c),if_pos (dT (show a.lev < lev op by omega))];exact Nat.le_refl _
    ·rw [if_neg (by rw [dF c];exact Bool.false_ne_true)];exact Nat.zero_le _
   have c2:(if decide (b.fold.lev≤lev op)=true then 4 else 0)≤(if decide (b.lev≤lev op)=true then 4 else 0):=by
    by_cases c:b.fold.lev≤lev op
    ·rw [if_pos (dT c),if_pos (dT (show b.lev≤lev op by omega))];exact Nat.le_refl _
    ·rw [if_neg (by rw [dF c];exact Bool.false_ne_true)];exact Nat.zero_le _
   omega
  ·have p1:=aGz (aDg a) (AA a h.2.1);have p2:=aGz (aDg b) (AA b h.2.2);rw [e] at hok;have hm:0≤m∧m≤99999:=hok;have:=EH hm.1 hm.2;rw [X.fold,e];show (dec m).length + 1 + 0≤_
   omega
theorem wR (l:List ST):wd (oG l)=wd (sTs l) + 4:=by
 unfold oG;rw [wd,nT];show 1 + 1 + (_ + (1 + 1 + 0))=_
 omega
theorem aAn (t:ST) (l:List ST):wd (sTs (t :: l))=wd (sT t) + wd (sTs l):=by rw [sTs,nT]
theorem GY (l:List ST) (h:∀ y ∈ l,wd (sTs (sN y))≤wd (sT y)):wd (sTs (fO l))≤wd (sTs l):=by
 induction l with
 |nil=>rw [fO];exact Nat.le_refl _
 |cons y r ih=>
  have h1:=h y (by simp);have h2:=ih (fun z hz=>h z (by simp [hz]));rw [fO,NH,nT,aAn];omega
theorem aIo {t:ST} {y:X} {b' e':List ST} (hx:wd y.toks≤wd t.x.toks) (hb:wd (sTs b')≤wd (sTs t.b)) (he:wd (sTs e')≤wd (sTs t.e)) (h0:t.e.length=0→e'.length=0):wd (sTs [⟨t.kd,t.va,t.bx,y,b',e'⟩])≤wd (sT t):=by
 rw [aIi,EZ,EZ];show wd (if t.kd=1 then [GU t.va,[61]] ++ y.toks ++ [[59]]
  else if t.kd=2 then wIf :: (y.toks ++ oG b') ++ (if e'.length=0 then [] else aDl :: oG e')
  else if t.kd=3 then SY :: (y.toks ++ oG b')
  else if t.kd=4 then [aAm,dec t.bx] ++ y.toks ++ [[59]]
  else if t.kd=5 then [aDm,dec t.bx,GU t.va,[59]]
  else if t.kd=6 then [TA,[59]]
  else NR :: y.toks ++ [[59]])≤_
 split
 ·simp only [nT,wd];omega
 split
 ·have e1:=wR b';have e2:=wR t.b;have e3:=wR e';have e4:=wR t.e;rw [nT,nT,wd,wd,nT,nT];by_cases c:t.e.length=0
  ·rw [if_pos c,if_pos (h0 c)];omega
  ·rw [if_neg c];split
   ·simp only [wd];omega
   ·rw [wd,wd];omega
 split
 ·have e1:=wR b';have e2:=wR t.b;simp only [nT,wd];omega
 split
 ·simp only [nT,wd];omega
 split
 ·exact Nat.le_refl _
 split
 ·exact Nat.le_refl _
 ·simp only [nT,wd];omega
theorem EJ {l:List ST} (h:l.length=0):(fO l).length=0:=by
 rw [List.eq_nil_of_length_eq_zero h,fO];rfl
theorem aGy (t:ST):AX t→wd (sTs (sN t))≤wd (sT t):=
 MN (P:=fun t=>AX t→wd (sTs (sN t))≤wd (sT t)) (fun t hb he ha=>by
  cases ha with
  |mk _ h1 h2 ab ae=>
   have gb:=GY t.b (fun y hy=>hb y hy (ab y hy));have ge:=GY t.e (fun y hy=>he y hy (ae y hy));have gx:=TB t.x h1;have same:=aIo gx gb ge EJ;rw [AY];rcases uK t.kd t.va t.bx t.x.fold (fO t.b) (fO t.e) with ⟨e,hk⟩|⟨e,hk⟩|e|⟨e,_⟩
   ·rw [e,EZ,if_neg (by omega),if_pos hk,nT,wd,nT,wR];omega
   ·rw [e,EZ,if_neg (by omega),if_pos hk,nT];by_cases c:t.e.length=0
    ·rw [List.eq_nil_of_length_eq_zero (EJ c),sTs];exact Nat.zero_le _
    ·rw [if_neg c,wd,wd,wR];omega
   ·rw [e,sTs];exact Nat.zero_le _
   ·rw [e];exact same) t
theorem aEj (l:List ST) (h:∀ y ∈ l,AX y):wd (sTs (fO l))≤wd (sTs l):=GY l (fun y hy=>aGy y (h y hy))
theorem aAo:∀ ms:List (List ST),(∀ m ∈ ms,∀ t ∈ m,AX t)→wd (nM (ms.map fO))≤wd (nM ms)
 |[],_=>Nat.le_refl _
 |m :: ms,h=>by
  have h1:=aEj m (h m (by simp));have h2:=aAo ms (fun x hx=>h x (by simp [hx]));rw [List.map_cons,nM,nM,nT,nT,wd,wd,wR,wR];omega
theorem aLj {rs:List Int} {ms:List (List ST)} (h:mF rs (ms.map dQ)=true) (ha:∀ m ∈ ms,(∀ t ∈ m,AX t)∧cT m≤16):VP rs ms:=by
 obtain ⟨h1,h2,h3,h4⟩:=vQ.1 h;rw [List.length_map] at h2 h3;refine ⟨?_,?_,h2,h3,?_⟩
 ·intro r hr;unfold rC at h1;rw [Bool.and_eq_true,List.all_eq_true] at h1;have:=h1.1 r hr;unfold tN at this;rw [Bool.and_eq_true,decide_eq_true_eq,decide_eq_true_eq] at this;exact this
 ·have:=GD h1;omega
 ·intro m hm;refine ⟨fun t ht=>?_,(ha m hm).2⟩;have h5:=(xK.1 (h4 (dQ m) (List.mem_map_of_mem hm))).1;unfold okL at h5;rw [List.all_eq_true] at h5;exact aDk _ 3 t (h5 _ (AV ht)) ((ha m hm).1 t ht)
theorem CG (l:List Int) (hl:l.length≤140737488351232) (hw:∀ x ∈ l,(Lit.int .u8 x).wf=true):EvP (fun k=>fM.f k l) (fun r=>r.1.length≤4∧r.2.length≤6∧∀ t ∈ r.2,cSs t≤40):=by
 obtain ⟨b,hb0,hb⟩:=aBt l hl hw;unfold fM.f;exact EvP.fQ hb0 (EvP.bind (WM b hb _ (by dsimp only;omega) (by dsimp only;omega)) fun r hr=>EvP.ret hr.2.2)
end Go.Proofs.YtjamfkpgmkhbnaaGreatDoor.PA

namespace Go.Proofs.YtjamfkpgmkhbnaaGreatDoor.Pure
open Go.RowKit Go.Proofs.YtjamfkpgmkhbnaaGreatDoor.PA Go.Proofs.YtjamfkpgmkhbnaaGreatDoorW.PrintWords Go.Proofs.YtjamfkpgmkhbnaaGreatDoorW.PrintLast Go.Proofs.YtjamfkpgmkhbnaaGreatDoorW.PrintMore Go.Proofs.YtjamfkpgmkhbnaaGreatDoor.Core
theorem FnSourceFold:dB.Pure:=by
 intro l _ hl hw;refine EvP.ends (r:=true) ?_;unfold dB.f;refine EvP.ite (fun _=>EvP.ret rfl) (fun _=>?_);refine EvP.bind (CG l (by omega) hw) fun r hr=>?_
 obtain ⟨rs,ts⟩:=r;obtain ⟨h1,h2,h3⟩:=hr;dsimp only at h1 h2 h3 ⊢;have hs:xC ts:=⟨by omega,fun t ht=>Nat.le_trans (h3 t ht) (by omega)⟩;cases hp:mF rs ts with
 |false=>
  refine EvP.dO (BI (by omega) hs hp) (EvP.dO (BM (by omega) hs hp) (EvP.yes rfl ?_));exact EvP.step (fun k=>dB.j0.eq_2 (k:=k) ..) (EvP.yes (by rw [toList_data];rfl) (EvP.ret (by simp)))
 |true=>
  obtain ⟨ms,e,hv,ha⟩:=aLk hp;subst e;have hml:=hv.nm;refine EvP.dO (uJ (by omega) hs hv hp) (EvP.dO (yY (by omega) hs hv hp) (EvP.yes rfl ?_));have hne:kK (pT rs ms)≠[]:=WC (aDa hv) (fun t ht=>(EM hv t ht).1);refine EvP.step (fun k=>dB.j0.eq_2 (k:=k) ..) (EvP.no (by rw [tF];simpa using hne) ?_);refine EvP.dO (yP (by omega) hs (by omega) ha hp) ?_;have hp2:=aAb ha hp;have ha2:=aHs ha;have hv2:=aLj hp2 ha2;have j3:=aAf (by omega) ha;have hne2:kK (pT rs (ms.map fO))≠[]:=WC (aDa hv2) (fun t ht=>(EM hv2 t ht).1);dsimp only;rw [aDw];refine EvP.dO (uJ (by omega) j3 hv2 hp2) (EvP.yes rfl (EvP.no (by rw [tF];exact hne2) (EvP.ret ?_)));rw [mI,mI,decide_eq_true_eq];have w1:=NS _ (aDa hv);have w2:=NS _ (aDa hv2);have w3:=aAo ms (fun m hm=>(ha m hm).1);unfold pT at w1 w2 ⊢;rw [nT] at w1 w2;omega
end Go.Proofs.YtjamfkpgmkhbnaaGreatDoor.Pure

namespace Go.Proofs.YtjamfkpgmkhbnaaGreatDoor.LaidT
open Go.ChangeShapes Go.WideShapes Go.ChangeAt Go.RowKit Go.Proofs.YtjamfkpgmkhbnaaGreatDoor
set_option linter.unusedVariables false
abbrev PW:List (String × DataW Unit):=[("math/bits.deBruijn32tab",Rows.laid_math_bits_deBruijn32tab),("math/bits.deBruijn64tab",Rows.laid_math_bits_deBruijn64tab),("internal/strconv.uint64pow10",Rows.laid_internal_strconv_uint64pow10),("loop.example/cothreads/impl.opTexts",Rows.laid_loop_example_cothreads_impl_opTexts)]
theorem OB {H:Type} {enc:TypeId × Value→H} {P:Program} {w:World} {base:Nat} {sp:Nat→Bool} {held:Bool} {fuel:Nat} {t e:TypeId} {n:Nat} {cs:List Value} {bs:List (List UInt8)} {p:List MemPlace}
    (ht:P.underlying t=some (.array n e)) (he:P.underlying e=some .string) (hce:P.cellsOf e=1) (hct:P.cellsOf t=n)
    (h:DataW.trod enc P w base sp held fuel t cs=some (.agg (bs.map fun b=>.lit (.string b)),p)):cs=bs.map fun b=>Value.string ⟨b.toArray⟩:=by
  cases fuel with
  |zero=>simp [DataW.trod] at h
  |succ fuel=>
    simp only [DataW.trod,ht,hce,hct,Nat.mul_one] at h;split at h
    · rename_i hl
      obtain ⟨xs,hm,hx⟩:=Option.map_eq_some_iff.1 h;have hxs:xs.map (·.1)=bs.map fun b=>(DataW.lit (.string b):DataW H):=by
        have:=congrArg Prod.fst hx
        simpa using this
      have hxl:xs.length=n:=by simpa using Lib.mapM_length hm
      have hzl:bs.length=n:=by
        have:=congrArg List.length hxs;simp at this;omega
      apply List.ext_getElem?;intro i;by_cases hi:i < n
      · obtain ⟨b,hb,hf⟩:=Lib.mapM_at hm i i (by simp [hi])
        obtain ⟨s,hc,rfl,_⟩:=DataW.trod_string he hf;have h1:cs[i]?=some (.string s):=by
          have:=congrArg (·[0]?) hc
          simpa [List.getElem?_take,List.getElem?_drop] using this
        have h2:(xs.map (·.1))[i]?=some (DataW.lit (.string s.data.toList):DataW H):=by simp [hb]
        rw [hxs] at h2;simp only [List.getElem?_map,Option.map_eq_some_iff,DataW.lit.injEq,Lit.string.injEq] at h2;obtain ⟨z',hz',e'⟩:=h2;rw [h1,List.getElem?_map,hz',e'];rfl
      · rw [List.getElem?_eq_none (by omega),List.getElem?_eq_none (by simp;omega)]
    · cases h
theorem SQ {P:Program} {W:World} {name:String} {bs:List (List UInt8)} {rest:List (String × DataW Unit)} {g:Nat} {t e:TypeId} {n:Nat}
    (hg:P.globalNamed name=some g) (hty:(P.globals[g]?).map (·.type)=some t) (ht:P.underlying t=some (.array n e)) (he:P.underlying e=some .string) (hce:P.cellsOf e=1) (hct:P.cellsOf t=n)
    (h:laidMet P ((name,.agg (bs.map fun b=>.lit (.string b))) :: rest) W):W.var? P name=some (bs.map fun b=>Value.string ⟨b.toArray⟩).toArray:=by
  obtain ⟨ps,⟨g',t',cs,fuel,p,q,hg',ht',hvar,hd,_,_⟩,_⟩:=h;obtain rfl:=Option.some.inj (hg.symm.trans hg');obtain rfl:=Option.some.inj (hty.symm.trans ht');rw [hvar,← OB ht he hce hct hd]
theorem aFq (os:Os) (args:Array Value):laidMetH Tryz.prog PW ((World.doorLaid Tryz.prog 29 os).forCall (fun _ _=>0) ⟨#[],args,[]⟩).memory:=
 laidMetH_of_parts3 (fuel:=8) (laidMet_of_run' 8 (by kernel_rfl) (by kernel_rfl)) (by kernel_rfl) (by kernel_rfl)
theorem aLi {W:World} (h0:laidMetH Tryz.prog PW W):PA.Tab W:=by
 have h:laidMet Tryz.prog PW W:=by rwa [MakeChecks.laidMetH_plain _ _ _ (by kernel_rfl)] at h0
 exact ⟨Lib.tabIs_of_head (g:=0) (t:=140) (e:=121) (n:=20) (by kernel_rfl) (by kernel_rfl) (by kernel_rfl) (by kernel_rfl) (by kernel_rfl) (by kernel_rfl) (laidMet.tail (laidMet.tail h)),
  (SQ (g:=1) (t:=146) (e:=9) (n:=12) (bs:=[[124],[94],[38],[61,61],[60],[60,60],[62,62],[43],[45],[42],[47],[37]]) (by kernel_rfl) (by kernel_rfl) (by kernel_rfl) (by kernel_rfl) (by kernel_rfl) (by kernel_rfl) (laidMet.tail (laidMet.tail (laidMet.tail h)))).trans (by kernel_rfl)⟩
theorem wY {P:Program} {w w':World} {nm:String} {a:Array Value} (h:w.var? P nm=some a) (hb:Below w.heap.size w w'):w'.var? P nm=some a:=PA.wY h hb
theorem laidOut:laidOutB Tryz.prog=true:=by kernel_rfl
theorem var_stays {H:Type} {enc:TypeId × Value→H} {W W':World} {cs:Array Value} {d:DataW H} {p:List MemPlace} (hv:W.var? Tryz.prog "loop.example/cothreads/impl.opTexts" =some cs)
  (hd:∃ fuel,DataW.trod enc Tryz.prog W 0 (fun _=>true) true fuel 146 cs.toList=some (d,p)) (hb:Below W.heap.size W W'):
  ∃ p',DataW.TrodVars enc Tryz.prog W' (fun b=>decide (b < W.heap.size)) ["loop.example/cothreads/impl.opTexts"] [d] p':=by
 obtain ⟨fuel,hd⟩:=hd;have hT:DataW.Trod enc Tryz.prog W 0 (fun _=>true) true 146 (.agg cs) d p:=⟨fuel,hd⟩;obtain ⟨fuel',h2⟩:=Below.trod laidOut (by kernel_rfl) (of_decide_eq_true (by kernel_rfl)) hT hb (DataW.trod_lt fuel _ _ _ hd);exact ⟨_,trodVars_mk1 (g:=1) (t:=146) (by kernel_rfl) (by kernel_rfl) (PA.wY hv hb) h2⟩
end Go.Proofs.YtjamfkpgmkhbnaaGreatDoor.LaidT

