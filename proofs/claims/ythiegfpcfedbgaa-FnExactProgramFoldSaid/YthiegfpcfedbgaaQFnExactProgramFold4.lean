/- Part 5. -/
import Derived.Test.YthiegfpcfedbgaaQFnExactProgramFold3
set_option maxHeartbeats 8000000
set_option maxRecDepth 100000
namespace Go.Proofs.Ythiegfpcfedbgaa.PA
open Go.RowKit Go.Proofs.YthiegfpcfedbgaaW.PrintWords Go.Proofs.YthiegfpcfedbgaaW.PrintMore Go.Proofs.Ythiegfpcfedbgaa.Core
def emb:X→S28
 | .num n=>⟨0,n,[]⟩
 | .var v=>⟨13,v,[]⟩
 | .bin op a b=>⟨op,0,[emb a,emb b]⟩
theorem GQ (l:List S28) (i:Nat) (h:i < l.length):bH l (i:Int)=l[i]:=by
 unfold bH
 rw [Int.toNat_natCast,List.getD_eq_getElem?_getD,List.getElem?_eq_getElem h]
 rfl
theorem aAw (a b:S28):bH [a,b] 0=a:=rfl
theorem aAx (a b:S28):bH [a,b] 1=b:=rfl
theorem vM (a:S28):(⟨a.f0,a.f1,a.f2⟩:S28)=a:=by
 cases a
 rfl
def vx:Nat→Int→Int→List S28→Bool
 |0,_,_,_=>false
 |d + 1,op,n,l=>
  if op=0 then decide (0≤n) && (decide (n≤99999) && decide (l.length=0))
  else if op=13 then decide (0≤n) && (decide (n < 4) && decide (l.length=0))
  else decide (1≤op) && (decide (op≤12) && (decide (n=0) && (match l with
   |[a,b]=>vx d a.f0 a.f1 a.f2 && vx d b.f0 b.f1 b.f2
   | _=>false)))
theorem NA {α:Type} {l:List α} (h:l.length=2):∃ a b,l=[a,b]:=by
 match l,h with
 |[a,b],_=>exact ⟨a,b,rfl⟩
theorem GX:∀ (d:Nat) (op n:Int) (l:List S28),vx d op n l=true→∃ x:X,x.ok∧x.depth≤d∧emb x=⟨op,n,l⟩
 |0,_,_,_,h=>by cases h
 |d + 1,op,n,l,h=>by
  unfold vx at h
  by_cases h0:op=0
  ·rw [if_pos h0] at h
   simp only [Bool.and_eq_true,decide_eq_true_eq] at h
   subst h0
   exact ⟨.num n,⟨h.1,h.2.1⟩,by simp [X.depth],by rw [emb,List.eq_nil_of_length_eq_zero h.2.2]⟩
  ·rw [if_neg h0] at h
   by_cases j3:op=13
   ·rw [if_pos j3] at h
    simp only [Bool.and_eq_true,decide_eq_true_eq] at h
    subst j3
    exact ⟨.var n,⟨h.1,h.2.1⟩,by simp [X.depth],by rw [emb,List.eq_nil_of_length_eq_zero h.2.2]⟩
   ·rw [if_neg j3] at h
    simp only [Bool.and_eq_true,decide_eq_true_eq] at h
    obtain ⟨h1,h2,h3,h4⟩:=h
    split at h4
    ·rename_i a b
     simp only [Bool.and_eq_true] at h4
     obtain ⟨x,x1,x2,x3⟩:=GX d a.f0 a.f1 a.f2 h4.1
     obtain ⟨y,y1,y2,y3⟩:=GX d b.f0 b.f1 b.f2 h4.2
     exact ⟨.bin op x y,⟨⟨h1,h2⟩,x1,y1⟩,by simp only [X.depth];omega,by rw [emb,x3,y3,h3,vM,vM]⟩
    ·cases h4
theorem sN (a:Int):iF.f a=some (decide (1≤a) && decide (a≤12)):=by
 unfold iF.f
 by_cases h:a≥1
 ·rw [if_pos h,decide_eq_true h,Bool.true_and]
 ·rw [if_neg h,decide_eq_false h,Bool.false_and]
theorem sO (a:Int):gJ.f a=some (decide (1≤a) && decide (a≤12)):=by
 unfold gJ.f
 rw [oJ]
 rfl
theorem mM:∀ (d:Nat) (op n:Int) (l:List S28),d≤1000→EvP (fun k=>dP.f k op n l (d:Int)) (·=vx d op n l)
  |0,op,n,l,hd=>by
    refine EvP.step (fun k=>dP.f.eq_2 (k:=k) ..) ?_
    refine EvP.ite (fun h=>?_) (fun h=>?_)
    · refine EvP.ite (fun _=>EvP.ite (fun _=>EvP.ite (fun _=>EvP.ret ?_) (fun _=>EvP.ret ?_)) (fun _=>EvP.ret ?_)) (fun _=>EvP.ret ?_) <;> simp [vx]
    · refine EvP.ite (fun h=>?_) (fun h=>?_)
      · refine EvP.ite (fun _=>EvP.ite (fun _=>EvP.ite (fun _=>EvP.ret ?_) (fun _=>EvP.ret ?_)) (fun _=>EvP.ret ?_)) (fun _=>EvP.ret ?_) <;> simp [vx]
      · refine EvP.gN (sN op) (EvP.ite (fun _=>EvP.ite (fun _=>EvP.ite (fun _=>EvP.no (by omega) (EvP.ret ?_)) (fun _=>EvP.ret ?_)) (fun _=>EvP.ret ?_)) (fun _=>EvP.ret ?_)) <;> simp [vx]
  |d + 1,op,n,l,hd=>by
    refine EvP.step (fun k=>dP.f.eq_2 (k:=k) ..) ?_
    unfold vx
    refine EvP.ite (fun h=>?_) (fun h=>?_)
    · rw [if_pos h]
      refine EvP.ite (fun h1=>EvP.ite (fun h2=>EvP.ite (fun h3=>EvP.ret ?_) (fun h3=>EvP.ret ?_)) (fun h2=>EvP.ret ?_)) (fun h1=>EvP.ret ?_)
      · rw [decide_eq_true (show 0≤n from h1),decide_eq_true h2,decide_eq_true (show l.length=0 by omega)]
        simp
      · rw [decide_eq_false (p:=l.length=0) (by omega)]
        simp
      · rw [decide_eq_false h2]
        simp
      · rw [decide_eq_false (p:=0≤n) h1]
        simp
    · rw [if_neg h]
      refine EvP.ite (fun h=>?_) (fun j3=>?_)
      · rw [if_pos h]
        refine EvP.ite (fun h1=>EvP.ite (fun h2=>EvP.ite (fun h3=>EvP.ret ?_) (fun h3=>EvP.ret ?_)) (fun h2=>EvP.ret ?_)) (fun h1=>EvP.ret ?_)
        · rw [decide_eq_true (show 0≤n from h1),decide_eq_true h2,decide_eq_true (show l.length=0 by omega)]
          simp
        · rw [decide_eq_false (p:=l.length=0) (by omega)]
          simp
        · rw [decide_eq_false h2]
          simp
        · rw [decide_eq_false (p:=0≤n) h1]
          simp
      · rw [if_neg j3]
        refine EvP.gN (sN op) (EvP.ite (fun h1=>?_) (fun h1=>EvP.ret ?_))
        · simp only [Bool.and_eq_true,decide_eq_true_eq] at h1
          rw [decide_eq_true h1.1,decide_eq_true h1.2]
          refine EvP.ite (fun h2=>?_) (fun h2=>EvP.ret (by rw [decide_eq_false h2];rfl))
          rw [decide_eq_true h2]
          refine EvP.ite (fun h3=>?_) (fun h3=>EvP.ret ?_)
          · obtain ⟨a,b,rfl⟩:=NA (show l.length=2 by omega)
            refine EvP.ite (fun h4=>?_) (fun h4=>EvP.ret ?_)
            · rw [w64 (by omega) (by omega),show ((d + 1:Nat):Int) - 1=(d:Int) by omega,aAw,aAx]
              refine EvP.yes (by simp) (EvP.bV (mM d _ _ _ (by omega)) (EvP.ite (fun h5=>?_) (fun h5=>EvP.ret ?_)))
              · refine EvP.yes (by simp) (EvP.bV (mM d _ _ _ (by omega)) (EvP.ret ?_))
                simp [h5]
              · simp [h5]
            · have hd0:d=0:=by omega
              subst hd0
              rfl
          · split
            · simp at h3
            · rfl
        · symm
          rw [Bool.eq_false_iff]
          intro e
          simp only [Bool.and_eq_true,decide_eq_true_eq] at e h1
          exact h1 ⟨e.1,e.2.1⟩
theorem sG:∀ (d:Nat) (op n:Int) (l:List S28),d≤1000→EvP (fun k=>gB.f k op n l (d:Int)) (·=vx d op n l)
  |0,op,n,l,hd=>EvP.step (fun k=>gB.f.eq_2 (k:=k) ..) (EvP.yes (by omega) (EvP.ret rfl))
  |d + 1,op,n,l,hd=>by
    have hlen:((l.length:Int) == 0)=decide (l.length=0):=by
      rw [Bool.eq_iff_iff,beq_iff_eq,decide_eq_true_eq]
      omega
    refine EvP.step (fun k=>gB.f.eq_2 (k:=k) ..) (EvP.no (by omega) ?_)
    unfold vx
    refine EvP.ite (fun h=>?_) (fun h=>?_)
    · rw [if_pos h,oJ]
      refine EvP.gN rfl (EvP.ite (fun h1=>EvP.ret ?_) (fun h1=>EvP.ret ?_))
      · rw [hlen]
        simp only [Bool.and_eq_true,decide_eq_true_eq] at h1
        rw [decide_eq_true h1.1,decide_eq_true h1.2]
        rfl
      · rw [← Bool.and_assoc,Bool.eq_false_iff.mpr h1]
        rfl
    · rw [if_neg h]
      refine EvP.ite (fun h=>?_) (fun j3=>?_)
      · rw [if_pos h,oJ]
        have e3:decide (n < 4)=decide (n≤3):=decide_eq_decide.mpr (by omega)
        rw [e3]
        refine EvP.gN rfl (EvP.ite (fun h1=>EvP.ret ?_) (fun h1=>EvP.ret ?_))
        · rw [hlen]
          simp only [Bool.and_eq_true,decide_eq_true_eq] at h1
          rw [decide_eq_true h1.1,decide_eq_true h1.2]
          rfl
        · rw [← Bool.and_assoc,Bool.eq_false_iff.mpr h1]
          rfl
      · rw [if_neg j3]
        refine EvP.gN (sO op) (EvP.ite (fun h1=>?_) (fun h1=>EvP.ret ?_))
        · simp only [Bool.and_eq_true,decide_eq_true_eq] at h1
          rw [decide_eq_true h1.1,decide_eq_true h1.2]
          refine EvP.ite (fun h2=>?_) (fun h2=>EvP.ret (by rw [decide_eq_false h2];rfl))
          rw [decide_eq_true h2]
          refine EvP.ite (fun h3=>?_) (fun h3=>EvP.ret ?_)
          · obtain ⟨a,b,rfl⟩:=NA (show l.length=2 by omega)
            rw [w64 (by omega) (by omega),show ((d + 1:Nat):Int) - 1=(d:Int) by omega,aAw,aAx]
            refine EvP.yes (by simp) (EvP.bV (sG d _ _ _ (by omega)) (EvP.ite (fun h5=>?_) (fun h5=>EvP.ret ?_)))
            · refine EvP.yes (by simp) (EvP.bV (sG d _ _ _ (by omega)) (EvP.ret ?_))
              simp [h5]
            · simp [h5]
          · split
            · simp at h3
            · rfl
        · rw [← Bool.and_assoc,Bool.eq_false_iff.mpr h1]
          rfl
theorem lF (op n:Int) (l:List S28):EvP (fun k=>dG.f k op n l) (·=vx 5 op n l):=by
  unfold dG.f
  exact EvP.bV (sG 5 op n l (by omega)) (EvP.ret rfl)
theorem wS (op n:Int) (l:List S28):EvP (fun k=>fQ.f k op n l) (·=vx 5 op n l):=by
  unfold fQ.f
  exact EvP.bV (mM 5 op n l (by omega)) (EvP.ret rfl)
def tri (e:S28):Int × Int × List S28:=(e.f0,e.f1,e.f2)
theorem mK (a:Int):iK.f a=some (wrap32 a):=by
 unfold iK.f
 rw [aAn]
theorem mQ (a:Int):iA.f a=some (wrap32 a):=by
 have ht:Int.tmod a 4294967296=a % 4294967296∨(a < 0∧Int.tmod a 4294967296= -((-a) % 4294967296)):=by
  rcases Int.le_total 0 a with h|h
  ·exact .inl (Int.tmod_eq_emod_of_nonneg h)
  ·by_cases h0:a=0
   ·subst h0
    exact .inl rfl
   ·refine .inr ⟨by omega,?_⟩
    rw [← Int.tmod_eq_emod_of_nonneg (show 0≤-a by omega),Int.neg_tmod,Int.neg_neg]
 unfold iA.f
 generalize Int.tmod a 4294967296=m at ht ⊢
 unfold wrap32
 by_cases h1:m > 2147483647
 ·rw [if_pos h1,w64 (by omega) (by omega)]
  congr 1
  omega
 ·by_cases h2:m < -2147483648
  ·rw [if_neg h1,if_pos h2,w64 (by omega) (by omega)]
   congr 1
   omega
  ·rw [if_neg h1,if_neg h2]
   congr 1
   omega
theorem vG (b:Bool):lI.f b=some (if b=true then 1 else 0):=by
 unfold lI.f
 cases b <;> rfl
theorem uF (b:Bool):kU.f b=some (if b=true then 1 else 0):=by
 unfold kU.f
 cases b <;> rfl
theorem CU (op a b:Int):iL.f op a b=some (ap op a b):=by
 unfold iL.f ap
 have hs:=aAp b
 by_cases h1:op=1
 ·rw [if_pos h1,if_pos h1]
 rw [if_neg h1,if_neg h1]
 by_cases h2:op=2
 ·rw [if_pos h2,if_pos h2]
 rw [if_neg h2,if_neg h2]
 by_cases h3:op=3
 ·rw [if_pos h3,if_pos h3]
 rw [if_neg h3,if_neg h3]
 by_cases h4:op=4
 ·rw [if_pos h4,if_pos h4,vG]
  simp
 rw [if_neg h4,if_neg h4]
 by_cases h5:op=5
 ·rw [if_pos h5,if_pos h5,vG]
  simp
 rw [if_neg h5,if_neg h5]
 by_cases h6:op=6
 ·rw [if_pos h6,if_pos h6,if_pos hs.1,mK,Option.bind_some]
 rw [if_neg h6,if_neg h6]
 by_cases h7:op=7
 ·rw [if_pos h7,if_pos h7,if_pos hs.1]
 rw [if_neg h7,if_neg h7]
 by_cases h8:op=8
 ·rw [if_pos h8,if_pos h8,mK,Option.bind_some,pY]
 rw [if_neg h8,if_neg h8]
 by_cases h9:op=9
 ·rw [if_pos h9,if_pos h9,mK,Option.bind_some,pY]
 rw [if_neg h9,if_neg h9]
 by_cases j3:op=10
 ·rw [if_pos j3,if_pos j3,mK,Option.bind_some,pY]
 rw [if_neg j3,if_neg j3]
 by_cases j4:op=11
 ·rw [if_pos j4,if_pos j4]
  by_cases hb:b=0
  ·rw [if_pos hb,if_pos hb]
  ·rw [if_neg hb,if_neg hb,mK,Option.bind_some,pY]
 rw [if_neg j4,if_neg j4]
 by_cases hb:b=0
 ·rw [if_pos hb,if_pos hb]
 ·rw [if_neg hb,if_neg hb]
theorem DI (op a b:Int) (ho:1≤op∧op≤12) (ha:vw a=true) (hb:vw b=true):EvP (fun k=>eG.f k op a b) (·=(ap op a b,true)):=by
  have hs:=aAp b
  unfold eG.f ap
  refine EvP.gN (sO op) (EvP.yes (by simp;exact ho) (EvP.gN (pU a) (EvP.yes ha (EvP.gN (pU b) ?_))))
  rw [hb]
  refine EvP.step (fun k=>eG.j0.eq_2 (k:=k) ..) (EvP.no (by simp) ?_)
  refine EvP.ite (fun h=>EvP.ret (by rw [if_pos h])) (fun h=>?_)
  rw [if_neg h]
  refine EvP.ite (fun h=>EvP.ret (by rw [if_pos h])) (fun h=>?_)
  rw [if_neg h]
  refine EvP.ite (fun h=>EvP.ret (by rw [if_pos h])) (fun h=>?_)
  rw [if_neg h]
  refine EvP.ite (fun h=>EvP.gN (uF _) (EvP.ret (by rw [if_pos h];simp))) (fun h=>?_)
  rw [if_neg h]
  refine EvP.ite (fun h=>EvP.gN (uF _) (EvP.ret (by rw [if_pos h];simp))) (fun h=>?_)
  rw [if_neg h]
  refine EvP.ite (fun h=>?_) (fun h=>?_)
  · rw [if_pos h]
    unfold iV.f
    rw [if_neg (by simp),if_pos hs.1,mQ,Option.bind_some]
    exact EvP.gN rfl (EvP.ret rfl)
  rw [if_neg h]
  refine EvP.ite (fun h=>?_) (fun h=>?_)
  · rw [if_pos h]
    unfold iV.f
    rw [if_pos rfl,if_pos hs.1]
    exact EvP.gN rfl (EvP.ret rfl)
  rw [if_neg h]
  refine EvP.ite (fun h=>EvP.gN (mQ _) (EvP.ret (by rw [if_pos h,pY]))) (fun h=>?_)
  rw [if_neg h]
  refine EvP.ite (fun h=>EvP.gN (mQ _) (EvP.ret (by rw [if_pos h,pY]))) (fun h=>?_)
  rw [if_neg h]
  refine EvP.ite (fun h=>EvP.gN (mQ _) (EvP.ret (by rw [if_pos h,pY]))) (fun h=>?_)
  rw [if_neg h]
  refine EvP.ite (fun h=>?_) (fun h=>?_)
  · rw [if_pos h]
    unfold lU.f
    by_cases hz:b=0
    · rw [if_pos hz,if_pos hz]
      exact EvP.gN rfl (EvP.ret rfl)
    · rw [if_neg hz,if_neg hz,mQ,Option.bind_some,pY]
      exact EvP.gN rfl (EvP.ret rfl)
  rw [if_neg h]
  unfold lV.f
  by_cases hz:b=0
  · rw [if_pos hz,if_pos hz]
    exact EvP.gN rfl (EvP.ret rfl)
  · rw [if_neg hz,if_neg hz]
    exact EvP.gN rfl (EvP.ret rfl)
mutual
def trE:S24→S28
 |⟨a,b,l⟩=>⟨a,b,uX l⟩
def uX:List S24→List S28
 |[]=>[]
 |x :: xs=>trE x :: uX xs
end
mutual
def lG:S24→Nat
 |⟨_,_,l⟩=>lT l
def lT:List S24→Nat
 |[]=>0
 |x :: xs=>lG x + 1 + lT xs
end
theorem WC (x:S24):trE x=⟨x.f0,x.f1,uX x.f2⟩:=by
 cases x
 rw [trE]
theorem FI (x:S24):lG x=lT x.f2:=by
 cases x
 rw [lG]
theorem yK:∀ l:List S24,(uX l).length=l.length
 |[]=>by rw [uX];rfl
 |x :: xs=>by rw [uX,List.length_cons,List.length_cons,yK xs]
theorem mJ:∀ l:List S24,l.length≤lT l
 |[]=>Nat.zero_le _
 |x :: xs=>by
  have:=mJ xs
  rw [lT,List.length_cons]
  omega
theorem xJ:∀ (l:List S24) (x:S24),x ∈ l→lG x≤lT l
 |y :: ys,x,h=>by
  rw [lT]
  rcases List.mem_cons.1 h with rfl|h
  ·omega
  ·have:=xJ ys x h
   omega
theorem ME (l:List S24) (i:Nat) (h:i < l.length):lT (l.drop i)=lG l[i] + 1 + lT (l.drop (i + 1)):=by
 rw [List.drop_eq_getElem_cons h,lT]
theorem FV {P:S24→Prop} (h:∀ e:S24,(∀ x ∈ e.f2,P x)→P e) (e:S24):P e:=
 S24.rec (motive_1:=P) (motive_2:=fun l=>∀ x ∈ l,P x) (fun a b l ih=>h ⟨a,b,l⟩ ih) (fun x hx=>by simp at hx) (fun y ys h1 h2 x hx=>by
  rcases List.mem_cons.1 hx with rfl|hx
  ·exact h1
  ·exact h2 x hx) e
theorem KS (l:List S24) (i:Nat) (h:i < l.length):iG l (i:Int)=l[i]:=by
 unfold iG
 rw [Int.toNat_natCast,List.getD_eq_getElem?_getD,List.getElem?_eq_getElem h]
 rfl
def lefts (c:Nat) (n:Int):Int:=if (c:Int)≤n then n - c else -1
theorem MQ (l:List S24) (hl:l.length≤1048576) (he:∀ x ∈ l,∀ n:Int,0≤n→n≤1048576→EvP (fun k=>dS.f k x.f0 x.f1 x.f2 n) (·=lefts (lG x) n)):
    ∀ (d j:Nat) (n:Int),j + d=l.length→0≤n→n≤1048576→EvP (fun k=>bO.l0 k l n (j:Int)) (·=lefts (lT (l.drop j) - d) n):=by
  intro d
  induction d with
  |zero=>
    intro j n hj h0 h1
    refine EvP.step (fun k=>bO.l0.eq_2 (k:=k) ..) (EvP.no (by omega) (EvP.ret ?_))
    rw [List.drop_eq_nil_of_le (by omega)]
    unfold lefts
    rw [if_pos (by simp [lT];omega)]
    simp [lT]
  |succ d ih=>
    intro j n hj h0 h1
    have hlt:j < l.length:=by omega
    have hc:=ME l j hlt
    have hd:d≤lT (l.drop (j + 1)):=by
      have:=mJ (l.drop (j + 1))
      rw [List.length_drop] at this
      omega
    refine EvP.step (fun k=>bO.l0.eq_2 (k:=k) ..) (EvP.yes (by omega) (EvP.yes (by omega) ?_))
    rw [KS l j hlt,w64 (n:=(j:Int) + 1) (by omega) (by omega)]
    refine EvP.bV (he _ (List.getElem_mem hlt) n h0 h1) ?_
    by_cases h2:(lG l[j]:Int)≤n
    · have e:lefts (lG l[j]) n=n - lG l[j]:=if_pos h2
      rw [e]
      refine EvP.no (by omega) ?_
      refine (ih (j + 1) (n - lG l[j]) (by omega) (by omega) (by omega)).mono fun a ha=>?_
      rw [ha]
      unfold lefts
      by_cases h3:((lT (l.drop (j + 1)) - d:Nat):Int)≤n - lG l[j]
      · rw [if_pos h3,if_pos (by omega)]
        omega
      · rw [if_neg h3,if_neg (by omega)]
    · have e:lefts (lG l[j]) n= -1:=if_neg h2
      rw [e]
      refine EvP.yes (by omega) (EvP.ret ?_)
      unfold lefts
      rw [if_neg (by omega)]
theorem MR (l:List S24) (hl:l.length≤maxLen) (he:∀ x ∈ l,∀ n:Int,0≤n→n≤1048576→EvP (fun k=>dS.f k x.f0 x.f1 x.f2 n) (·=lefts (lG x) n)) (n:Int) (h0:0≤n) (h1:n≤1048576):
    EvP (fun k=>bO.f k l n) (·=lefts (lT l) n):=by
  have hm:maxLen=9223372036854775807:=rfl
  have hc:=mJ l
  refine EvP.step (fun k=>bO.f.eq_2 (k:=k) ..) ?_
  rw [w64 (by omega) (by omega)]
  refine EvP.ite (fun h=>EvP.ret ?_) (fun h=>?_)
  · unfold lefts
    rw [if_neg (by omega)]
  · refine (MQ l (by omega) he l.length 0 (n - l.length) (by omega) (by omega) (by omega)).mono fun a ha=>?_
    rw [ha,List.drop_zero]
    unfold lefts
    by_cases h3:((lT l - l.length:Nat):Int)≤n - l.length
    · rw [if_pos h3,if_pos (by omega)]
      omega
    · rw [if_neg h3,if_neg (by omega)]
theorem PS (e:S24):LY e→∀ n:Int,0≤n→n≤1048576→EvP (fun k=>dS.f k e.f0 e.f1 e.f2 n) (·=lefts (lG e) n):=by
  refine FV (P:=fun e=>LY e→∀ n:Int,0≤n→n≤1048576→EvP (fun k=>dS.f k e.f0 e.f1 e.f2 n) (·=lefts (lG e) n)) (fun e ih hw n h0 h1=>?_) e
  cases hw with
  |mk _ _ _ hl hx=>
    refine EvP.step (fun k=>dS.f.eq_2 (k:=k) ..) ?_
    refine EvP.bV (MR e.f2 hl (fun x hm=>ih x hm (hx x hm)) n h0 h1) ?_
    rw [FI]
    refine EvP.ite (fun h=>EvP.ret ?_) (fun h=>EvP.ret rfl)
    unfold lefts at h ⊢
    by_cases h3:(lT e.f2:Int)≤n
    · rw [if_pos h3] at h
      omega
    · rw [if_neg h3]
theorem MV (l:List S24) (hl:l.length≤1048576) (he:∀ x ∈ l,EvP (fun k=>fJ.f k x.f0 x.f1 x.f2) (·=tri (trE x))):
    ∀ (d j:Nat) (m:List S28),j + d=l.length→m.length=l.length→EvP (fun k=>dZ.l0 k l m (j:Int)) (·=m.take j ++ uX (l.drop j)):=by
  intro d
  induction d with
  |zero=>
    intro j m hj hm
    refine EvP.step (fun k=>dZ.l0.eq_2 (k:=k) ..) (EvP.no (by omega) (EvP.ret ?_))
    rw [List.drop_eq_nil_of_le (by omega),List.take_of_length_le (by omega)]
    simp [uX]
  |succ d ih=>
    intro j m hj hm
    have hlt:j < l.length:=by omega
    refine EvP.step (fun k=>dZ.l0.eq_2 (k:=k) ..) (EvP.yes (by omega) (EvP.yes (by omega) ?_))
    rw [KS l j hlt,w64 (n:=(j:Int) + 1) (by omega) (by omega),Int.toNat_natCast]
    refine EvP.bV (he _ (List.getElem_mem hlt)) (EvP.yes (by omega) ?_)
    simp only [tri,vM]
    refine (ih (j + 1) (m.set j (trE l[j])) (by omega) (by rw [List.length_set];exact hm)).mono fun a ha=>?_
    rw [ha,List.take_succ_eq_append_getElem (by rw [List.length_set];omega),List.getElem_set_self,List.take_set_of_le (by omega),List.append_assoc,List.drop_eq_getElem_cons hlt,uX]
    rfl
theorem MW (l:List S24) (hl:l.length≤1048576) (he:∀ x ∈ l,EvP (fun k=>fJ.f k x.f0 x.f1 x.f2) (·=tri (trE x))):EvP (fun k=>dZ.f k l) (·=uX l):=by
  refine EvP.step (fun k=>dZ.f.eq_2 (k:=k) ..) (EvP.yes (by omega) (EvP.yes (by omega) ?_))
  exact MV l hl he l.length 0 _ (by omega) (by rw [List.length_replicate];omega)
theorem PX (e:S24):lG e≤1048576→EvP (fun k=>fJ.f k e.f0 e.f1 e.f2) (·=tri (trE e)):=by
  refine FV (P:=fun e=>lG e≤1048576→EvP (fun k=>fJ.f k e.f0 e.f1 e.f2) (·=tri (trE e))) (fun e ih hc=>?_) e
  rw [FI] at hc
  have hl:=mJ e.f2
  refine EvP.step (fun k=>fJ.f.eq_2 (k:=k) ..) ?_
  refine EvP.bV (MW e.f2 (by omega) (fun x hm=>ih x hm (by have:=xJ e.f2 x hm;omega))) (EvP.ret ?_)
  rw [WC]
  rfl
theorem MH (m:List S28) (hl:m.length≤1048576) (he:∀ x ∈ m,EvP (fun k=>dJ.f k x.f0 x.f1 x.f2 x.f0 x.f1 x.f2) (·=true)):
    ∀ (d j:Nat),j + d=m.length→EvP (fun k=>bC.l0 k m m (j:Int)) (·=true):=by
  intro d
  induction d with
  |zero=>
    intro j hj
    exact EvP.step (fun k=>bC.l0.eq_2 (k:=k) ..) (EvP.no (by omega) (EvP.ret rfl))
  |succ d ih=>
    intro j hj
    have hlt:j < m.length:=by omega
    refine EvP.step (fun k=>bC.l0.eq_2 (k:=k) ..) (EvP.yes (by omega) (EvP.yes (by omega) (EvP.yes (by omega) ?_)))
    rw [GQ m j hlt,w64 (n:=(j:Int) + 1) (by omega) (by omega)]
    exact EvP.bV (he _ (List.getElem_mem hlt)) (EvP.yes rfl (ih (j + 1) (by omega)))
theorem MI (m:List S28) (hl:m.length≤1048576) (he:∀ x ∈ m,EvP (fun k=>dJ.f k x.f0 x.f1 x.f2 x.f0 x.f1 x.f2) (·=true)):EvP (fun k=>bC.f k m m) (·=true):=
  EvP.step (fun k=>bC.f.eq_2 (k:=k) ..) (EvP.yes rfl (MH m hl he m.length 0 (by omega)))
inductive Short:S28→Prop
 |mk (x:S28) (h:x.f2.length≤1048576) (g:∀ y ∈ x.f2,Short y):Short x
theorem FL (e:S28) (h:Short e):EvP (fun k=>dJ.f k e.f0 e.f1 e.f2 e.f0 e.f1 e.f2) (·=true):=by
  induction h with
  |mk x h g ih=>
    refine EvP.step (fun k=>dJ.f.eq_2 (k:=k) ..) (EvP.yes rfl (EvP.yes rfl ?_))
    exact EvP.bV (MI x.f2 h ih) (EvP.yes rfl (EvP.ret rfl))
theorem WE {l:List S24} {y:S28} (h:y ∈ uX l):∃ x ∈ l,y=trE x:=by
 induction l with
 |nil=>simp [uX] at h
 |cons a l ih=>
  rw [uX] at h
  rcases List.mem_cons.1 h with rfl|h
  ·exact ⟨a,List.mem_cons_self,rfl⟩
  ·obtain ⟨x,hx,e⟩:=ih h
   exact ⟨x,List.mem_cons_of_mem _ hx,e⟩
theorem PN (e:S24):lG e≤1048576→Short (trE e):=by
 refine FV (P:=fun e=>lG e≤1048576→Short (trE e)) (fun e ih hc=>?_) e
 rw [FI] at hc
 have hl:=mJ e.f2
 rw [WC]
 refine .mk _ (by rw [yK];omega) fun y hy=>?_
 obtain ⟨x,hx,rfl⟩:=WE hy
 exact ih x hx (by have:=xJ e.f2 x hx;omega)
theorem xS:∀ x:X,Short (emb x)
 | .num _=> .mk _ (by simp [emb]) (fun y hy=>by simp [emb] at hy)
 | .var _=> .mk _ (by simp [emb]) (fun y hy=>by simp [emb] at hy)
 | .bin _ a b=> .mk _ (by simp [emb]) (fun y hy=>by
  simp only [emb,List.mem_cons,List.not_mem_nil,or_false] at hy
  rcases hy with rfl|rfl
  ·exact xS a
  ·exact xS b)
mutual
def nE:S28→Nat
 |⟨_,_,l⟩=>nEs l + 1
def nEs:List S28→Nat
 |[]=>0
 |x :: xs=>nE x + nEs xs
end
mutual
def mkE:S28→Int→S28
 |⟨_,_,l⟩,n=>⟨n,n + 1,nU l (n + 2)⟩
def nU:List S28→Int→List S28
 |[],_=>[]
 |x :: xs,n=>mkE x n :: nU xs (n + 2 * nE x)
end
theorem GJ (x:S28):nE x=nEs x.f2 + 1:=by
 cases x
 rw [nE]
theorem aAt (x:S28) (n:Int):mkE x n=⟨n,n + 1,nU x.f2 (n + 2)⟩:=by
 cases x
 rw [mkE]
theorem yB:∀ (l:List S28) (n:Int),(nU l n).length=l.length
 |[],_=>by rw [nU]
 |x :: xs,n=>by rw [nU,List.length_cons,List.length_cons,yB xs]
theorem pE:∀ l:List S28,l.length≤nEs l
 |[]=>Nat.zero_le _
 |x :: xs=>by
  have:=pE xs
  rw [nEs,List.length_cons,GJ]
  omega
theorem KO (l:List S28) (i:Nat) (h:i < l.length):nEs (l.drop i)=nE l[i] + nEs (l.drop (i + 1)):=by
 rw [List.drop_eq_getElem_cons h,nEs]
theorem aAq {P:S28→Prop} (h:∀ e:S28,(∀ x ∈ e.f2,P x)→P e) (e:S28):P e:=
 S28.rec (motive_1:=P) (motive_2:=fun l=>∀ x ∈ l,P x) (fun a b l ih=>h ⟨a,b,l⟩ ih) (fun x hx=>by simp at hx) (fun y ys h1 h2 x hx=>by
  rcases List.mem_cons.1 hx with rfl|hx
  ·exact h1
  ·exact h2 x hx) e
theorem GA (l:List S28) (hL:l.length≤1099511627776) (he:∀ x ∈ l,∀ n:Int,0≤n→n + 2 * nEs x.f2≤1099511627776→EvP (fun k=>bU.f k x.f2 n) (·=(n + 2 * nEs x.f2,nU x.f2 n))):
    ∀ (d j:Nat) (m:List S28) (n:Int),j + d=l.length→m.length=l.length→m.drop j=l.drop j→0≤n→n + 2 * nEs (l.drop j)≤1099511627776→EvP (fun k=>bU.l0 k m n (j:Int)) (·=(n + 2 * nEs (l.drop j),m.take j ++ nU (l.drop j) n)):=by
  intro d
  induction d with
  |zero=>
    intro j m n hj hm hd h0 h1
    refine EvP.step (fun k=>bU.l0.eq_2 (k:=k) ..) (EvP.no (by omega) (EvP.ret ?_))
    rw [List.drop_eq_nil_of_le (by omega),List.take_of_length_le (by omega),nEs,nU]
    simp
  |succ d ih=>
    intro j m n hj hm hd h0 h1
    have hlt:j < l.length:=by omega
    have hc:=KO l j hlt
    have hn:=GJ l[j]
    have hl:=pE (l.drop j)
    rw [List.length_drop] at hl
    have hg:m[j]'(by omega)=l[j]:=by
      have h2:=congrArg (·[0]?) hd
      simp only [List.getElem?_drop,Nat.add_zero] at h2
      rw [List.getElem?_eq_getElem (by omega),List.getElem?_eq_getElem hlt] at h2
      exact Option.some.inj h2
    refine EvP.step (fun k=>bU.l0.eq_2 (k:=k) ..) (EvP.yes (by omega) (EvP.yes (by omega) ?_))
    rw [GQ m j (by omega),hg,w64 (n:=n + 1) (by omega) (by omega),w64 (n:=n + 1 + 1) (by omega) (by omega),w64 (n:=(j:Int) + 1) (by omega) (by omega),Int.toNat_natCast]
    refine EvP.bV (he _ (List.getElem_mem hlt) (n + 1 + 1) (by omega) (by omega)) ?_
    dsimp only
    refine (ih (j + 1) (m.set j _) (n + 1 + 1 + 2 * nEs l[j].f2) (by omega) (by rw [List.length_set];exact hm) ?_ (by omega) (by omega)).mono fun a ha=>?_
    · rw [List.drop_set_of_lt (by omega),← List.drop_drop,hd,List.drop_drop]
    · rw [ha,List.take_succ_eq_append_getElem (by rw [List.length_set];omega),List.getElem_set_self,List.take_set_of_le (by omega),List.append_assoc,List.drop_eq_getElem_cons hlt,nEs,nU,aAt]
      rw [show n + 1 + 1=n + 2 by omega,show n + 2 + 2 * (nEs l[j].f2:Int)=n + 2 * (nE l[j]:Int) by omega]
      refine Prod.ext ?_ ?_
      · show n + 2 * (nE l[j]:Int) + 2 * (nEs (l.drop (j + 1)):Int)=n + 2 * ((nE l[j] + nEs (l.drop (j + 1)):Nat):Int)
        omega
      · rfl
theorem wV (l:List S28) (he:∀ x ∈ l,∀ n:Int,0≤n→n + 2 * nEs x.f2≤1099511627776→EvP (fun k=>bU.f k x.f2 n) (·=(n + 2 * nEs x.f2,nU x.f2 n))) (n:Int) (h0:0≤n) (h1:n + 2 * nEs l≤1099511627776):
    EvP (fun k=>bU.f k l n) (·=(n + 2 * nEs l,nU l n)):=
  EvP.step (fun k=>bU.f.eq_2 (k:=k) ..) (GA l (by have:=pE l;omega) he l.length 0 l n (by omega) rfl rfl h0 h1)
theorem FZ (x:S28):∀ n:Int,0≤n→n + 2 * nEs x.f2≤1099511627776→EvP (fun k=>bU.f k x.f2 n) (·=(n + 2 * nEs x.f2,nU x.f2 n)):=
  aAq (P:=fun x=>∀ n:Int,0≤n→n + 2 * nEs x.f2≤1099511627776→EvP (fun k=>bU.f k x.f2 n) (·=(n + 2 * nEs x.f2,nU x.f2 n))) (fun e ih n h0 h1=>wV e.f2 ih n h0 h1) x
theorem FY (l:List S28) (n:Int) (h0:0≤n) (h1:n + 2 * nEs l≤1099511627776):EvP (fun k=>bU.f k l n) (·=(n + 2 * nEs l,nU l n)):=
  wV l (fun x _=>FZ x) n h0 h1
theorem FQ (l:List S28) (hL:l.length≤1099511627776) (he:∀ x ∈ l,∀ n:Int,0≤n→n + 2 * nEs x.f2≤1099511627776→EvP (fun k=>bD.f k (nU x.f2 n) n) (·=n + 2 * nEs x.f2)):
    ∀ (d j:Nat) (m:List S28) (n:Int),j + d=l.length→m.length=l.length→m.drop j=nU (l.drop j) n→0≤n→n + 2 * nEs (l.drop j)≤1099511627776→EvP (fun k=>bD.l0 k m n (j:Int)) (·=n + 2 * nEs (l.drop j)):=by
  intro d
  induction d with
  |zero=>
    intro j m n hj hm hd h0 h1
    refine EvP.step (fun k=>bD.l0.eq_2 (k:=k) ..) (EvP.no (by omega) (EvP.ret ?_))
    rw [List.drop_eq_nil_of_le (by omega),nEs]
    simp
  |succ d ih=>
    intro j m n hj hm hd h0 h1
    have hlt:j < l.length:=by omega
    have hc:=KO l j hlt
    have hn:=GJ l[j]
    have hl:=pE (l.drop j)
    rw [List.length_drop] at hl
    rw [List.drop_eq_getElem_cons (show j < m.length by omega),List.drop_eq_getElem_cons hlt,nU] at hd
    injection hd with hg hd
    rw [aAt] at hg
    refine EvP.step (fun k=>bD.l0.eq_2 (k:=k) ..) (EvP.yes (by omega) (EvP.yes (by omega) ?_))
    rw [GQ m j (by omega),hg,w64 (n:=n + 1) (by omega) (by omega),w64 (n:=n + 1 + 1) (by omega) (by omega),w64 (n:=(j:Int) + 1) (by omega) (by omega)]
    dsimp only
    refine EvP.yes rfl (EvP.yes rfl ?_)
    rw [show n + 1 + 1=n + 2 by omega]
    refine EvP.bV (he _ (List.getElem_mem hlt) (n + 2) (by omega) (by omega)) (EvP.no (by omega) ?_)
    refine (ih (j + 1) m (n + 2 + 2 * nEs l[j].f2) (by omega) hm ?_ (by omega) (by omega)).mono fun a ha=>?_
    · rw [hd,show n + 2 + 2 * (nEs l[j].f2:Int)=n + 2 * (nE l[j]:Int) by omega]
    · rw [ha]
      omega
theorem wR (l:List S28) (he:∀ x ∈ l,∀ n:Int,0≤n→n + 2 * nEs x.f2≤1099511627776→EvP (fun k=>bD.f k (nU x.f2 n) n) (·=n + 2 * nEs x.f2)) (n:Int) (h0:0≤n) (h1:n + 2 * nEs l≤1099511627776):
    EvP (fun k=>bD.f k (nU l n) n) (·=n + 2 * nEs l):=
  EvP.step (fun k=>bD.f.eq_2 (k:=k) ..) (FQ l (by have:=pE l;omega) he l.length 0 _ n (by omega) (yB l n) rfl h0 h1)
theorem FP (x:S28):∀ n:Int,0≤n→n + 2 * nEs x.f2≤1099511627776→EvP (fun k=>bD.f k (nU x.f2 n) n) (·=n + 2 * nEs x.f2):=
  aAq (P:=fun x=>∀ n:Int,0≤n→n + 2 * nEs x.f2≤1099511627776→EvP (fun k=>bD.f k (nU x.f2 n) n) (·=n + 2 * nEs x.f2)) (fun e ih n h0 h1=>wR e.f2 ih n h0 h1) x
theorem FN (l:List S28) (n:Int) (h0:0≤n) (h1:n + 2 * nEs l≤1099511627776):EvP (fun k=>bD.f k (nU l n) n) (·=n + 2 * nEs l):=
  wR l (fun x _=>FP x) n h0 h1
theorem MK:∀ x:X,nE (emb x)=x.size
 | .num _=>by rw [GJ];simp [emb,nEs,X.size]
 | .var _=>by rw [GJ];simp [emb,nEs,X.size]
 | .bin _ a b=>by
  have ha:=MK a
  have hb:=MK b
  rw [GJ]
  simp only [emb,nEs,X.size]
  omega
theorem KP:∀ l:List S24,(∀ x ∈ l,nE (trE x)=lG x + 1)→nEs (uX l)=lT l
 |[],_=>by rw [uX,nEs,lT]
 |x :: xs,h=>by
  rw [uX,nEs,lT,h x List.mem_cons_self,KP xs (fun y hy=>h y (List.mem_cons_of_mem _ hy))]
theorem aBs (x:S24):nE (trE x)=lG x + 1:=
 FV (P:=fun x=>nE (trE x)=lG x + 1) (fun e ih=>by rw [WC,GJ,FI,KP e.f2 ih]) x
mutual
def cS:S70→Nat
 |⟨_,_,_,_,b,e⟩=>cSs b + cSs e
def cSs:List S70→Nat
 |[]=>0
 |x :: xs=>cS x + 1 + cSs xs
end
theorem yM (x:S70):cS x=cSs x.f4 + cSs x.f5:=by
 cases x
 rw [cS]
theorem fG:∀ l:List S70,l.length≤cSs l
 |[]=>Nat.zero_le _
 |x :: xs=>by
  have:=fG xs
  rw [cSs,List.length_cons]
  omega
theorem BD:∀ l m:List S70,cSs (l ++ m)=cSs l + cSs m
 |[],m=>by rw [cSs];simp
 |x :: xs,m=>by
  rw [List.cons_append,cSs,cSs,BD xs m]
  omega
theorem oG:∀ (l:List S70) (x:S70),x ∈ l→cS x < cSs l
 |y :: ys,x,h=>by
  rw [cSs]
  rcases List.mem_cons.1 h with rfl|h
  ·omega
  ·have:=oG ys x h
   omega
theorem IK (l:List S70) (i:Nat) (h:i < l.length):cSs (l.drop i)=cS l[i] + 1 + cSs (l.drop (i + 1)):=by
 rw [List.drop_eq_getElem_cons h,cSs]
theorem aAb (x:S70):cSs [x]=cS x + 1:=by
 rw [cSs,cSs]
theorem NZ:cSs []=0:=by rw [cSs]
theorem pR (l:List S70) (i:Nat) (h:i < l.length):aG l (i:Int)=l[i]:=by
 unfold aG
 rw [Int.toNat_natCast,List.getD_eq_getElem?_getD,List.getElem?_eq_getElem h]
 rfl
def BX (use:Bool) (va:Int):Bool:=if use=true then decide (0≤va) && decide (va≤3) else va == 0
def vF (boxes:Int) (use:Bool) (bx:Int):Bool:=if use=true then decide (0≤bx) && decide (bx≤boxes - 1) else bx == 0
def uO (op n:Int) (la:List S28):Bool:=op == 0 && (n == 0 && la.length == 0)
def kR (boxes:Int) (nv nb ne nd no:Bool) (va bx op n:Int) (la:List S28) (lb le:Nat):Bool:=
 BX nv va && (vF boxes nb bx && ((if ne=true then vx 5 op n la else uO op n la) && ((nd || lb == 0) && (no || le == 0))))
def xX (boxes kd va bx op n:Int) (la:List S28) (lb le:Nat):Bool:=
 if kd=1 then kR boxes true false true false false va bx op n la lb le
 else if kd=2 then kR boxes false false true true true va bx op n la lb le
 else if kd=3 then kR boxes false false true true false va bx op n la lb le
 else if kd=4 then kR boxes false true true false false va bx op n la lb le
 else if kd=5 then kR boxes true true false false false va bx op n la lb le
 else if kd=7 then kR boxes false false true false false va bx op n la lb le
 else if kd=6 then kR boxes false false false false false va bx op n la lb le
 else false
def stS (boxes:Int) (s:S70):Bool:=xX boxes s.f0 s.f1 s.f2 s.f3.f0 s.f3.f1 s.f3.f2 s.f4.length s.f5.length
def oC (s:S70):Bool:=s.f0 == 2 || s.f0 == 3
def iJ (boxes:Int):Nat→S70→Bool
 |0,s=>stS boxes s && !oC s
 |d + 1,s=>stS boxes s && (!oC s || (s.f4.all (iJ boxes d) && s.f5.all (iJ boxes d)))
def okL (boxes:Int) (d:Nat) (l:List S70):Bool:=l.all (iJ boxes d)
theorem TR {boxes:Int} {d:Nat} {s:S70} (h:iJ boxes d s=true):stS boxes s=true:=by
 cases d <;> (simp only [iJ,Bool.and_eq_true] at h;exact h.1)
theorem EL {boxes kd va bx op n:Int} {la:List S28} {lb le:Nat} (h:xX boxes kd va bx op n la lb le=true) (h2:kd≠2) (h3:kd≠3):lb=0∧le=0:=by
 unfold xX at h
 rw [if_neg h2,if_neg h3] at h
 repeat' split at h
 all_goals first
  |(cases h;done)
  |(simp only [kR,Bool.and_eq_true,Bool.false_or,beq_iff_eq] at h;exact h.2.2.2)
theorem yX {boxes:Int} {s:S70} (h:stS boxes s=true) (h2:¬ (s.f0=2∨s.f0=3)):cS s=0:=by
 obtain ⟨h4,h5⟩:=EL h (fun e=>h2 (.inl e)) (fun e=>h2 (.inr e))
 rw [yM,List.eq_nil_of_length_eq_zero h4,List.eq_nil_of_length_eq_zero h5,cSs]
theorem oM (s:S70):oC s=true ↔ s.f0=2∨s.f0=3:=by
 unfold oC
 simp
theorem aAe (use:Bool) (va:Int):inr va 4 use=BX use va:=by
 rw [Bool.eq_iff_iff]
 cases use
 ·simp [inr,BX]
 ·simp [inr,BX]
  omega
theorem KZ (nv nb ne nd no:Bool) (va bx op n:Int) (la:List S28) (lb le:Nat) (boxes:Int):
    EvP (fun k=>iQ k nv nb ne nd no va bx op n la lb le boxes) (·=kR boxes nv nb ne nd no va bx op n la lb le):=by
  unfold iQ kR
  rw [aAe]
  refine EvP.ite (fun h1=>?_) (fun h1=>EvP.ret (by rw [Bool.eq_false_iff.mpr h1];rfl))
  rw [h1,Bool.true_and]
  have hb:(inr bx boxes nb=true∧¬ (nb=true∧boxes≤bx)) ↔ vF boxes nb bx=true:=by
    cases nb
    · simp [inr,vF]
    · simp [inr,vF]
      omega
  refine EvP.ite (fun h2=>EvP.ite (fun h3=>EvP.ret ?_) (fun h3=>?_)) (fun h2=>EvP.ret ?_)
  · have:vF boxes nb bx=false:=Bool.eq_false_iff.mpr (fun e=>(hb.mpr e).2 h3)
    rw [this]
    rfl
  · rw [hb.mp ⟨h2,h3⟩,Bool.true_and]
    refine EvP.ite (fun h4=>?_) (fun h4=>?_)
    · rw [if_pos h4]
      refine EvP.bV (wS op n la) (EvP.ite (fun h5=>EvP.ret (by rw [h5,Bool.true_and])) (fun h5=>EvP.ret (by rw [Bool.eq_false_iff.mpr h5];rfl)))
    · rw [if_neg h4]
      unfold uO
      refine EvP.ite (fun h5=>EvP.ite (fun h6=>EvP.ite (fun h7=>EvP.ret ?_) (fun h7=>EvP.ret ?_)) (fun h6=>EvP.ret ?_)) (fun h5=>EvP.ret ?_)
      · rw [beq_eq_false_iff_ne.mpr (show la.length≠0 by omega)]
        simp
      · rw [h5,h6,beq_iff_eq.mpr (show la.length=0 by omega)]
        simp
      · rw [beq_eq_false_iff_ne.mpr h6]
        simp
      · rw [beq_eq_false_iff_ne.mpr h5]
        simp
  · have:vF boxes nb bx=false:=Bool.eq_false_iff.mpr (fun e=>h2 (hb.mpr e).1)
    rw [this]
    rfl
theorem wT (kd va bx op n:Int) (la:List S28) (lb le:Nat) (boxes:Int):
    EvP (fun k=>dQ.f k kd va bx op n la lb le boxes) (·=xX boxes kd va bx op n la lb le):=by
  unfold dQ.f xX
  have hr:=fun nv nb ne nd no=>KZ nv nb ne nd no va bx op n la lb le boxes
  repeat (refine EvP.ite (fun h=>?_) (fun h=>?_);· rw [if_pos h];exact hr _ _ _ _ _
          rw [if_neg h])
  exact EvP.ret rfl
def ND (boxes:Int) (d:Nat) (l:List S70) (cnt:Int) (p:Bool × Int):Prop:=
 p.1=(okL boxes d l && decide (cnt + cSs l≤16))∧(p.1=true→p.2=cnt + cSs l)
theorem vE (boxes blocks:Int) (d:Nat) (hd:d≤3) (hb:blocks=3 - d) (l:List S70) (hl:cSs l≤1000000000)
  (sub:∀ d',d=d' + 1→∀ (m:List S70) (cnt:Int),cSs m≤1000000000→0≤cnt→cnt≤16→EvP (fun k=>bM.f k m boxes (wrap64 (blocks + 1)) cnt) (ND boxes d' m cnt)):
  ∀ (r j:Nat) (cnt:Int),j + r=l.length→0≤cnt→cnt≤16→
   EvP (fun k=>bM.l0 k l boxes blocks (j:Int) cnt) (fun p=>p.1=(okL boxes d (l.drop j) && decide (cnt + cSs (l.drop j) - r≤16))∧(p.1=true→p.2=cnt + cSs (l.drop j) - r)):=by
 intro r
 have hlen:=fG l
 induction r with
 |zero=>
  intro j cnt hj h0 h1
  refine EvP.step (fun k=>bM.l0.eq_2 (k:=k) ..) (EvP.no (by omega) (EvP.ret ?_))
  rw [List.drop_eq_nil_of_le (by omega),NZ]
  constructor
  ·simp [okL]
   omega
  ·intro _
   simp
 |succ r ih=>
  intro j cnt hj h0 h1
  have hlt:j < l.length:=by omega
  have hc:=IK l j hlt
  have hr:r≤cSs (l.drop (j + 1)):=by
   have:=fG (l.drop (j + 1))
   rw [List.length_drop] at this
   omega
  have hm:=oG l _ (List.getElem_mem hlt)
  have hcs:=yM l[j]
  have hall:okL boxes d (l.drop j)=(iJ boxes d l[j] && okL boxes d (l.drop (j + 1))):=by
   rw [List.drop_eq_getElem_cons hlt]
   rfl
  rw [hall]
  refine EvP.step (fun k=>bM.l0.eq_2 (k:=k) ..) (EvP.yes (by omega) (EvP.yes (by omega) ?_))
  rw [pR l j hlt,w64 (n:=(j:Int) + 1) (by omega) (by omega)]
  refine EvP.bV (wT _ _ _ _ _ _ _ _ _) (EvP.ite (fun hs=>?_) (fun hs=>EvP.ret ?_))
  ·have hs:stS boxes l[j]=true:=hs
   refine EvP.no (by omega) (EvP.ite (fun hk=>?_) (fun hk=>?_))
   ·have hbk:oC l[j]=true:=(oM _).mpr hk
    cases d with
    |zero=>
     refine EvP.yes (by omega) (EvP.ret ?_)
     have:iJ boxes 0 l[j]=false:=by simp [iJ,hbk]
     rw [this]
     exact ⟨rfl,fun h=>by cases h⟩
    |succ d'=>
     have ho:iJ boxes (d' + 1) l[j]=(okL boxes d' l[j].f4 && okL boxes d' l[j].f5):=by
      simp only [iJ,hs,hbk,okL]
      rfl
     rw [ho]
     refine EvP.no (by omega) (EvP.bind (sub d' rfl _ cnt (by omega) h0 h1) fun p hp=>?_)
     obtain ⟨hp1,hp2⟩:=hp
     refine EvP.ite (fun hy=>?_) (fun hy=>EvP.ret ?_)
     ·have e2:=hp2 hy
      rw [hy] at hp1
      have hq:=hp1.symm
      rw [Bool.and_eq_true,decide_eq_true_eq] at hq
      rw [e2]
      refine EvP.bind (sub d' rfl _ _ (by omega) (by omega) hq.2) fun q hq'=>?_
      obtain ⟨hq1,hq2⟩:=hq'
      refine EvP.ite (fun hz=>?_) (fun hz=>EvP.ret ?_)
      ·have e3:=hq2 hz
       rw [hz] at hq1
       have hq3:=hq1.symm
       rw [Bool.and_eq_true,decide_eq_true_eq] at hq3
       rw [e3]
       refine (ih (j + 1) _ (by omega) (by omega) hq3.2).mono fun a ha=>?_
       rw [hq.1,hq3.1,Bool.true_and,Bool.true_and]
       refine ⟨ha.1.trans ?_,fun h=>(ha.2 h).trans ?_⟩
       ·congr 1
        exact decide_eq_decide.mpr (by omega)
       ·omega
      ·have hz':=Bool.eq_false_iff.mpr hz
       rw [hz'] at hq1
       refine ⟨?_,fun h=>by cases h⟩
       show false=_
       symm
       rw [Bool.eq_false_iff]
       intro e
       simp only [Bool.and_eq_true,decide_eq_true_eq] at e
       have:(okL boxes d' l[j].f5 && decide (cnt + ↑(cSs l[j].f4) + ↑(cSs l[j].f5)≤16))=true:=by
        rw [e.1.1.2,decide_eq_true (by omega)]
        rfl
       rw [this] at hq1
       cases hq1
     ·have hy':=Bool.eq_false_iff.mpr hy
      rw [hy'] at hp1
      refine ⟨?_,fun h=>by cases h⟩
      show false=_
      symm
      rw [Bool.eq_false_iff]
      intro e
      simp only [Bool.and_eq_true,decide_eq_true_eq] at e
      have:(okL boxes d' l[j].f4 && decide (cnt + ↑(cSs l[j].f4)≤16))=true:=by
       rw [e.1.1.1,decide_eq_true (by omega)]
       rfl
      rw [this] at hp1
      cases hp1
   ·have hbk:oC l[j]=false:=Bool.eq_false_iff.mpr (fun e=>hk ((oM _).mp e))
    have ho:iJ boxes d l[j]=true:=by
     cases d <;> simp [iJ,hs,hbk]
    have hz:=yX hs hk
    rw [ho,Bool.true_and]
    refine (ih (j + 1) cnt (by omega) h0 h1).mono fun a ha=>?_
    refine ⟨ha.1.trans ?_,fun h=>(ha.2 h).trans ?_⟩
    ·congr 1
     exact decide_eq_decide.mpr (by omega)
    ·omega
  ·have hs:stS boxes l[j]=false:=Bool.eq_false_iff.mpr hs
   have ho:iJ boxes d l[j]=false:=Bool.eq_false_iff.mpr (fun e=>by rw [TR e] at hs;cases hs)
   rw [ho]
   exact ⟨rfl,fun h=>by cases h⟩
theorem vQ (boxes:Int):∀ (d:Nat) (blocks:Int) (l:List S70) (cnt:Int),d≤3→blocks=3 - d→cSs l≤1000000000→0≤cnt→cnt≤16→
  EvP (fun k=>bM.f k l boxes blocks cnt) (ND boxes d l cnt):=by
 intro d
 induction d with
 |zero=>
  intro blocks l cnt hd hb hl h0 h1
  have hlen:=fG l
  refine EvP.step (fun k=>bM.f.eq_2 (k:=k) ..) ?_
  rw [w64 (n:=cnt + (l.length:Int)) (by omega) (by omega)]
  refine EvP.ite (fun h=>EvP.ret ?_) (fun h=>?_)
  ·refine ⟨?_,fun h=>by cases h⟩
   rw [decide_eq_false (by omega)]
   simp
  ·refine (vE boxes blocks 0 hd hb l hl (fun d' e=>by omega) l.length 0 _ (by omega) (by omega) (by omega)).mono fun a ha=>?_
   rw [List.drop_zero] at ha
   refine ⟨ha.1.trans ?_,fun h=>(ha.2 h).trans ?_⟩
   ·congr 1
    exact decide_eq_decide.mpr (by omega)
   ·omega
 |succ d ih=>
  intro blocks l cnt hd hb hl h0 h1
  have hlen:=fG l
  refine EvP.step (fun k=>bM.f.eq_2 (k:=k) ..) ?_
  rw [w64 (n:=cnt + (l.length:Int)) (by omega) (by omega)]
  refine EvP.ite (fun h=>EvP.ret ?_) (fun h=>?_)
  ·refine ⟨?_,fun h=>by cases h⟩
   rw [decide_eq_false (by omega)]
   simp
  ·refine (vE boxes blocks (d + 1) hd hb l hl (fun d' e m cnt hm h0 h1=>?_) l.length 0 _ (by omega) (by omega) (by omega)).mono fun a ha=>?_
   ·have e':d=d':=by omega
    subst e'
    rw [w64 (by omega) (by omega)]
    exact ih _ m cnt (by omega) (by omega) hm h0 h1
   ·rw [List.drop_zero] at ha
    refine ⟨ha.1.trans ?_,fun h=>(ha.2 h).trans ?_⟩
    ·congr 1
     exact decide_eq_decide.mpr (by omega)
    ·omega
def okT (boxes:Int) (l:List S70):Bool:=okL boxes 3 l && decide (cSs l≤16)
theorem vR (boxes:Int) (l:List S70) (hl:cSs l≤1000000000):EvP (fun k=>eZ.f k l boxes) (·=okT boxes l):=by
  unfold eZ.f
  refine EvP.bind (vQ boxes 3 0 l 0 (by omega) (by omega) hl (by omega) (by omega)) fun p hp=>EvP.ret ?_
  rw [hp.1]
  unfold okT
  congr 1
  exact decide_eq_decide.mpr (by omega)
theorem kT (a b c d e:Int) (l:List S28) (m n:List S70) (u:Bool):dW.f a b c d e l m n u=some (BX u b):=by
 unfold dW.f BX
 rw [oJ]
 cases u <;> rfl
theorem kS (a b c d e:Int) (l:List S28) (m n:List S70) (u:Bool):eU.f a b c d e l m n u=some (vF 3 u c):=by
 unfold eU.f vF
 rw [oJ]
 cases u <;> rfl
theorem rO (op n:Int) (l:List S28):iW.f op n l=some (uO op n l):=by
 unfold iW.f uO
 have hlen:((l.length:Int) == 0)=(l.length == 0):=by
  rw [Bool.eq_iff_iff,beq_iff_eq,beq_iff_eq]
  omega
 by_cases h:op=0
 ·rw [if_pos h,h]
  by_cases h2:n=0
  ·rw [if_pos h2,h2,hlen]
   rfl
  ·rw [if_neg h2,beq_eq_false_iff_ne.mpr h2]
   rfl
 ·rw [if_neg h,beq_eq_false_iff_ne.mpr h]
  rfl
theorem pW (kd va bx op n:Int) (la:List S28) (m1 m2:List S70) (h2:kd≠2) (h3:kd≠3):
    EvP (fun k=>bZ.f k kd va bx op n la m1 m2) (·=xX 3 kd va bx op n la m1.length m2.length):=by
  unfold bZ.f
  have yes:∀ b:Bool,((m1.length == 0 && m2.length == 0)=!b)→EvP (fun k=>bZ.j0 k b kd va bx op n la m1 m2) (·=xX 3 kd va bx op n la m1.length m2.length):=by
    intro b hb
    refine EvP.step (fun k=>bZ.j0.eq_2 (k:=k) ..) ?_
    refine EvP.ite (fun h=>EvP.ret ?_) (fun h=>?_)
    · symm
      rw [Bool.eq_false_iff]
      intro e
      obtain ⟨z1,z2⟩:=EL e h2 h3
      rw [z1,z2,h] at hb
      cases hb
    · have hb':(m1.length == 0 && m2.length == 0)=true:=by
        rw [hb,Bool.eq_false_iff.mpr h]
        rfl
      unfold xX
      have hT:∀ a b c:Bool,(a && (b && (c && ((false || m1.length == 0) && (false || m2.length == 0)))))=(a && (b && c)):=by
        intro a b c
        rw [Bool.false_or,Bool.false_or,hb',Bool.and_true]
      refine EvP.ite (fun h1=>?_) (fun h1=>?_)
      · rw [if_pos h1]
        unfold kR
        rw [hT]
        refine EvP.gN (kT ..) (EvP.ite (fun hv=>EvP.gN (kS ..) (EvP.ite (fun hx=>EvP.bV (lF ..) (EvP.ret ?_)) (fun hx=>EvP.ret ?_))) (fun hv=>EvP.ret ?_)) <;> simp [*]
      · rw [if_neg h1,if_neg h2,if_neg h3]
        refine EvP.ite (fun h1=>?_) (fun h1=>?_)
        · rw [if_pos h1]
          unfold kR
          rw [hT]
          refine EvP.gN (kT ..) (EvP.ite (fun hv=>EvP.gN (kS ..) (EvP.ite (fun hx=>EvP.bV (lF ..) (EvP.ret ?_)) (fun hx=>EvP.ret ?_))) (fun hv=>EvP.ret ?_)) <;> simp [*]
        · rw [if_neg h1]
          refine EvP.ite (fun h1=>?_) (fun h1=>?_)
          · rw [if_pos h1]
            unfold kR
            rw [hT]
            refine EvP.gN (kT ..) (EvP.ite (fun hv=>EvP.gN (kS ..) (EvP.ite (fun hx=>EvP.gN (rO ..) (EvP.ret ?_)) (fun hx=>EvP.ret ?_))) (fun hv=>EvP.ret ?_)) <;> simp [*]
          · rw [if_neg h1]
            refine EvP.ite (fun h6=>?_) (fun h6=>?_)
            · rw [if_neg (by omega),if_pos h6]
              unfold kR
              rw [hT]
              refine EvP.gN (kT ..) (EvP.ite (fun hv=>EvP.gN (kS ..) (EvP.ite (fun hx=>EvP.gN (rO ..) (EvP.ret ?_)) (fun hx=>EvP.ret ?_))) (fun hv=>EvP.ret ?_)) <;> simp [*]
            · refine EvP.ite (fun h7=>?_) (fun h7=>?_)
              · rw [if_pos h7]
                unfold kR
                rw [hT]
                refine EvP.gN (kT ..) (EvP.ite (fun hv=>EvP.gN (kS ..) (EvP.ite (fun hx=>EvP.bV (lF ..) (EvP.ret ?_)) (fun hx=>EvP.ret ?_))) (fun hv=>EvP.ret ?_)) <;> simp [*]
              · rw [if_neg h7,if_neg h6]
                exact EvP.ret rfl
  refine EvP.ite (fun h=>yes true ?_) (fun h=>yes _ ?_)
  · rw [beq_eq_false_iff_ne.mpr (show m1.length≠0 by omega)]
    rfl
  · rw [beq_iff_eq.mpr (show m1.length=0 by omega),Bool.true_and,← decide_not,Bool.eq_iff_iff,beq_iff_eq,decide_eq_true_eq]
    omega
theorem xB (l:List S70) (hl:l.length≤1000000000) (x1:Int) (d:Nat) (sub:∀ x ∈ l,EvP (fun k=>bK.f k x.f0 x.f1 x.f2 x.f3.f0 x.f3.f1 x.f3.f2 x.f4 x.f5 x1) (·=iJ 3 d x)):
    ∀ (r j:Nat),j + r=l.length→EvP (fun k=>bE.l0 k l x1 (j:Int)) (·=okL 3 d (l.drop j)):=by
  intro r
  induction r with
  |zero=>
    intro j hj
    refine EvP.step (fun k=>bE.l0.eq_2 (k:=k) ..) (EvP.no (by omega) (EvP.ret ?_))
    rw [List.drop_eq_nil_of_le (by omega)]
    rfl
  |succ r ih=>
    intro j hj
    have hlt:j < l.length:=by omega
    refine EvP.step (fun k=>bE.l0.eq_2 (k:=k) ..) (EvP.yes (by omega) (EvP.yes (by omega) ?_))
    rw [pR l j hlt,w64 (n:=(j:Int) + 1) (by omega) (by omega)]
    have hall:okL 3 d (l.drop j)=(iJ 3 d l[j] && okL 3 d (l.drop (j + 1))):=by
      rw [List.drop_eq_getElem_cons hlt]
      rfl
    rw [hall]
    refine EvP.bV (sub _ (List.getElem_mem hlt)) (EvP.ite (fun h=>?_) (fun h=>EvP.ret ?_))
    · rw [h,Bool.true_and]
      exact ih (j + 1) (by omega)
    · rw [Bool.eq_false_iff.mpr h]
      rfl
theorem pV (l:List S70) (hl:l.length≤1000000000) (x1:Int) (d:Nat) (sub:∀ x ∈ l,EvP (fun k=>bK.f k x.f0 x.f1 x.f2 x.f3.f0 x.f3.f1 x.f3.f2 x.f4 x.f5 x1) (·=iJ 3 d x)):
    EvP (fun k=>bE.f k l x1) (·=okL 3 d l):=
  EvP.step (fun k=>bE.f.eq_2 (k:=k) ..) (xB l hl x1 d sub l.length 0 (by omega))
theorem DK:∀ (d:Nat) (x1:Int) (x:S70),d≤3→x1=d→cS x≤1000000000→EvP (fun k=>bK.f k x.f0 x.f1 x.f2 x.f3.f0 x.f3.f1 x.f3.f2 x.f4 x.f5 x1) (·=iJ 3 d x):=by
  intro d
  induction d with
  |zero=>
    intro x1 x hd h1 hc
    have j1:EvP (fun k=>bK.j1 k x1 true x.f0 x.f1 x.f2 x.f3.f0 x.f3.f1 x.f3.f2 x.f4 x.f5) (·=false):=
      EvP.step (fun k=>bK.j1.eq_2 (k:=k) ..) (EvP.yes rfl (EvP.ret rfl))
    refine EvP.step (fun k=>bK.f.eq_2 (k:=k) ..) (EvP.ite (fun h2=>?_) (fun h2=>?_))
    · have:iJ 3 0 x=false:=by simp [iJ,oC,h2]
      rw [this]
      refine EvP.step (fun k=>bK.j0.eq_2 (k:=k) ..) (EvP.no Bool.false_ne_true (EvP.yes (by omega) j1))
    · refine EvP.step (fun k=>bK.j0.eq_2 (k:=k) ..) (EvP.ite (fun h3=>?_) (fun h3=>EvP.yes (by omega) ?_))
      · have h3:x.f0≠3:=bne_iff_ne.mp h3
        refine EvP.bV (pW _ _ _ _ _ _ _ _ h2 h3) (EvP.ret ?_)
        simp [iJ,oC,h2,h3,stS]
      · have h3:x.f0=3:=by simpa using h3
        have:iJ 3 0 x=false:=by simp [iJ,oC,h3]
        rw [this]
        exact j1
  |succ d ih=>
    intro x1 x hd h1 hc
    have hcs:=yM x
    have e1:wrap64 (x1 - 1)=(d:Int):=by
      rw [w64 (by omega) (by omega)]
      omega
    have len4:=fG x.f4
    have len5:=fG x.f5
    have sub:∀ m:List S70,cSs m≤1000000000→EvP (fun k=>bE.f k m (wrap64 (x1 - 1))) (·=okL 3 d m):=by
      intro m hm
      have:=fG m
      refine pV m (by omega) _ d (fun y hy=>ih _ y (by omega) e1 ?_)
      have:=oG m y hy
      omega
    have j1:∀ b:Bool,oC x=true→(b=(x.f0 == 3 && decide ((x.f5.length:Int) > 0)))→EvP (fun k=>bK.j1 k x1 b x.f0 x.f1 x.f2 x.f3.f0 x.f3.f1 x.f3.f2 x.f4 x.f5) (·=iJ 3 (d + 1) x):=by
      intro b hb hbb
      have ho:iJ 3 (d + 1) x=(stS 3 x && (okL 3 d x.f4 && okL 3 d x.f5)):=by
        simp only [iJ,hb,okL]
        rfl
      rw [ho]
      refine EvP.step (fun k=>bK.j1.eq_2 (k:=k) ..) (EvP.ite (fun h=>EvP.ret ?_) (fun h=>?_))
      · rw [h] at hbb
        have h4:=hbb.symm
        simp only [Bool.and_eq_true,beq_iff_eq,decide_eq_true_eq] at h4
        have:stS 3 x=false:=by
          have hne:(x.f5.length == 0)=false:=beq_eq_false_iff_ne.mpr (by omega)
          simp [stS,xX,h4.1,kR,hne]
        rw [this]
        rfl
      · have hst:stS 3 x=(BX false x.f1 && (vF 3 false x.f2 && vx 5 x.f3.f0 x.f3.f1 x.f3.f2)):=by
          rcases (oM x).mp hb with h2|h2
          · simp [stS,xX,h2,kR]
          · have h5:x.f5.length=0:=by
              rw [Bool.eq_false_iff.mpr h,h2] at hbb
              have:=hbb.symm
              simp only [beq_self_eq_true,Bool.true_and,decide_eq_false_iff_not] at this
              omega
            simp [stS,xX,h2,kR,h5]
        rw [hst]
        refine EvP.gN (kT ..) (EvP.ite (fun hv=>EvP.gN (kS ..) (EvP.ite (fun hx=>EvP.bV (lF ..) (EvP.ite (fun he=>?_) (fun he=>EvP.ret ?_))) (fun hx=>EvP.ret ?_))) (fun hv=>EvP.ret ?_))
        · refine EvP.bV (sub x.f4 (by omega)) (EvP.ite (fun h4=>EvP.bV (sub x.f5 (by omega)) (EvP.ret ?_)) (fun h4=>EvP.ret ?_)) <;> simp [*]
        all_goals simp [*]
    refine EvP.step (fun k=>bK.f.eq_2 (k:=k) ..) (EvP.ite (fun h2=>?_) (fun h2=>?_))
    · refine EvP.step (fun k=>bK.j0.eq_2 (k:=k) ..) (EvP.no Bool.false_ne_true (EvP.no (by omega) (EvP.no (by omega) (j1 false ?_ ?_))))
      · simp [oC,h2]
      · simp [h2]
    · refine EvP.step (fun k=>bK.j0.eq_2 (k:=k) ..) (EvP.ite (fun h3=>?_) (fun h3=>EvP.no (by omega) ?_))
      · have h3:x.f0≠3:=bne_iff_ne.mp h3
        refine EvP.bV (pW _ _ _ _ _ _ _ _ h2 h3) (EvP.ret ?_)
        simp [iJ,oC,h2,h3,stS]
      · have h3:x.f0=3:=by simpa using h3
        refine EvP.yes h3 (j1 _ ?_ ?_)
        · simp [oC,h3]
        · simp [h3]
theorem xA (l:List S70) (hl:cSs l≤1000000000):EvP (fun k=>bE.f k l 3) (·=okL 3 3 l):=by
  have:=fG l
  refine pV l (by omega) _ 3 (fun y hy=>DK 3 3 y (by omega) (by omega) ?_)
  have:=oG l y hy
  omega
theorem xV:∀ (c:Nat) (l:List S70),cSs l≤c→c≤1000000000→EvP (fun k=>bF.f k l) (·=(cSs l:Int)):=by
  intro c
  induction c with
  |zero=>
    intro l hl hc
    have:=fG l
    refine EvP.step (fun k=>bF.f.eq_2 (k:=k) ..) (EvP.step (fun k=>bF.l0.eq_2 (k:=k) ..) (EvP.no (by omega) (EvP.ret ?_)))
    omega
  |succ c ih=>
    intro l hl hc
    have hlen:=fG l
    have loop:∀ (r j:Nat) (a:Int),j + r=l.length→0≤a→a + cSs (l.drop j)≤1000000000→EvP (fun k=>bF.l0 k l a (j:Int)) (·=a + cSs (l.drop j)):=by
      intro r
      induction r with
      |zero=>
        intro j a hj h0 h1
        refine EvP.step (fun k=>bF.l0.eq_2 (k:=k) ..) (EvP.no (by omega) (EvP.ret ?_))
        rw [List.drop_eq_nil_of_le (by omega),NZ]
        omega
      |succ r ih2=>
        intro j a hj h0 h1
        have hlt:j < l.length:=by omega
        have hd:=IK l j hlt
        have hm:=oG l _ (List.getElem_mem hlt)
        have hcs:=yM l[j]
        refine EvP.step (fun k=>bF.l0.eq_2 (k:=k) ..) (EvP.yes (by omega) (EvP.yes (by omega) ?_))
        rw [pR l j hlt,w64 (n:=(j:Int) + 1) (by omega) (by omega)]
        refine EvP.bV (ih _ (by omega) (by omega)) (EvP.bV (ih _ (by omega) (by omega)) ?_)
        rw [w64 (n:=a + 1) (by omega) (by omega),w64 (n:=a + 1 + (cSs l[j].f4:Int)) (by omega) (by omega),w64 (by omega) (by omega)]
        refine (ih2 (j + 1) _ (by omega) (by omega) (by omega)).mono fun b hb=>?_
        omega
    refine EvP.step (fun k=>bF.f.eq_2 (k:=k) ..) ((loop l.length 0 0 (by omega) (by omega) (by rw [List.drop_zero];omega)).mono fun b hb=>?_)
    rw [List.drop_zero] at hb
    omega
theorem vV (l:List S70) (hl:cSs l≤1000000000):EvP (fun k=>eO.f k l) (·=okT 3 l):=by
  unfold eO.f okT
  refine EvP.bV (xA l hl) (EvP.ite (fun h=>EvP.bV (xV _ l hl (by omega)) (EvP.ret ?_)) (fun h=>EvP.ret ?_))
  · rw [h,Bool.true_and]
    exact decide_eq_decide.mpr (by omega)
  · rw [Bool.eq_false_iff.mpr h]
    rfl
theorem yZ {boxes:Int} {l:List S70}:okT boxes l=true ↔ okL boxes 3 l=true∧cSs l≤16:=by
 unfold okT
 rw [Bool.and_eq_true,decide_eq_true_eq]
mutual
def trS:S66→S70
 |⟨a,b,c,e,m,n⟩=>⟨a,b,c,trE e,mG m,mG n⟩
def mG:List S66→List S70
 |[]=>[]
 |x :: xs=>trS x :: mG xs
end
mutual
def nS:S66→Nat
 |⟨_,_,_,e,m,n⟩=>lG e + gF m + gF n
def gF:List S66→Nat
 |[]=>0
 |x :: xs=>nS x + 1 + gF xs
end
theorem OJ (x:S66):trS x=⟨x.f0,x.f1,x.f2,trE x.f3,mG x.f4,mG x.f5⟩:=by
 cases x
 rw [trS]
theorem BG (x:S66):nS x=lG x.f3 + gF x.f4 + gF x.f5:=by
 cases x
 rw [nS]
theorem pX:∀ l:List S66,(mG l).length=l.length
 |[]=>by rw [mG];rfl
 |x :: xs=>by rw [mG,List.length_cons,List.length_cons,pX xs]
theorem iU:∀ l:List S66,l.length≤gF l
 |[]=>Nat.zero_le _
 |x :: xs=>by
  have:=iU xs
  rw [gF,List.length_cons]
  omega
theorem mW:∀ (l:List S66) (x:S66),x ∈ l→nS x≤gF l
 |y :: ys,x,h=>by
  rw [gF]
  rcases List.mem_cons.1 h with rfl|h
  ·omega
  ·have:=mW ys x h
   omega
theorem MG (l:List S66) (i:Nat) (h:i < l.length):gF (l.drop i)=nS l[i] + 1 + gF (l.drop (i + 1)):=by
 rw [List.drop_eq_getElem_cons h,gF]
theorem BK {P:S66→Prop} (h:∀ e:S66,(∀ x ∈ e.f4,P x)→(∀ x ∈ e.f5,P x)→P e) (e:S66):P e:=
 S66.rec (motive_1:=P) (motive_2:=fun l=>∀ x ∈ l,P x) (fun a b c e m n ih1 ih2=>h ⟨a,b,c,e,m,n⟩ ih1 ih2) (fun x hx=>by simp at hx) (fun y ys h1 h2 x hx=>by
  rcases List.mem_cons.1 hx with rfl|hx
  ·exact h1
  ·exact h2 x hx) e
theorem xG (l:List S66) (he:∀ x ∈ l,cS (trS x)≤nS x):cSs (mG l)≤gF l:=by
 induction l with
 |nil=>rw [mG,cSs];exact Nat.zero_le _
 |cons a l ih=>
  have h1:=he a List.mem_cons_self
  have h2:=ih (fun x hx=>he x (List.mem_cons_of_mem _ hx))
  rw [mG,cSs,gF]
  omega
theorem aCh (e:S66):cS (trS e)≤nS e:=by
 refine BK (P:=fun e=>cS (trS e)≤nS e) (fun e i1 i2=>?_) e
 have h1:=xG e.f4 i1
 have h2:=xG e.f5 i2
 rw [OJ,yM,BG]
 dsimp only
 omega
theorem aBk (l:List S66):cSs (mG l)≤gF l:=xG l (fun x _=>aCh x)
theorem KT (l:List S66) (i:Nat) (h:i < l.length):dU l (i:Int)=l[i]:=by
 unfold dU
 rw [Int.toNat_natCast,List.getD_eq_getElem?_getD,List.getElem?_eq_getElem h]
 rfl
theorem MU (l:List S66) (hl:l.length≤1048576) (he:∀ x ∈ l,∀ n:Int,0≤n→n≤1048576→EvP (fun k=>dO.f k x.f0 x.f1 x.f2 x.f3.f0 x.f3.f1 x.f3.f2 x.f4 x.f5 n) (·=lefts (nS x) n)):
    ∀ (d j:Nat) (n:Int),j + d=l.length→0≤n→n≤1048576→EvP (fun k=>bP.l0 k l n (j:Int)) (·=lefts (gF (l.drop j) - d) n):=by
  intro d
  induction d with
  |zero=>
    intro j n hj h0 h1
    refine EvP.step (fun k=>bP.l0.eq_2 (k:=k) ..) (EvP.no (by omega) (EvP.ret ?_))
    rw [List.drop_eq_nil_of_le (by omega)]
    unfold lefts
    rw [if_pos (by simp [gF];omega)]
    simp [gF]
  |succ d ih=>
    intro j n hj h0 h1
    have hlt:j < l.length:=by omega
    have hc:=MG l j hlt
    have hd:d≤gF (l.drop (j + 1)):=by
      have:=iU (l.drop (j + 1))
      rw [List.length_drop] at this
      omega
    refine EvP.step (fun k=>bP.l0.eq_2 (k:=k) ..) (EvP.yes (by omega) (EvP.yes (by omega) ?_))
    rw [KT l j hlt,w64 (n:=(j:Int) + 1) (by omega) (by omega)]
    refine EvP.bV (he _ (List.getElem_mem hlt) n h0 h1) ?_
    by_cases h2:(nS l[j]:Int)≤n
    · have e:lefts (nS l[j]) n=n - nS l[j]:=if_pos h2
      rw [e]
      refine EvP.no (by omega) ?_
      refine (ih (j + 1) (n - nS l[j]) (by omega) (by omega) (by omega)).mono fun a ha=>?_
      rw [ha]
      unfold lefts
      by_cases h3:((gF (l.drop (j + 1)) - d:Nat):Int)≤n - nS l[j]
      · rw [if_pos h3,if_pos (by omega)]
        omega
      · rw [if_neg h3,if_neg (by omega)]
    · have e:lefts (nS l[j]) n= -1:=if_neg h2
      rw [e]
      refine EvP.yes (by omega) (EvP.ret ?_)
      unfold lefts
      rw [if_neg (by omega)]
theorem vZ (l:List S66) (hl:l.length≤maxLen) (he:∀ x ∈ l,∀ n:Int,0≤n→n≤1048576→EvP (fun k=>dO.f k x.f0 x.f1 x.f2 x.f3.f0 x.f3.f1 x.f3.f2 x.f4 x.f5 n) (·=lefts (nS x) n)) (n:Int) (h0:0≤n) (h1:n≤1048576):
    EvP (fun k=>bP.f k l n) (·=lefts (gF l) n):=by
  have hm:maxLen=9223372036854775807:=rfl
  have hc:=iU l
  refine EvP.step (fun k=>bP.f.eq_2 (k:=k) ..) ?_
  rw [w64 (by omega) (by omega)]
  refine EvP.ite (fun h=>EvP.ret ?_) (fun h=>?_)
  · unfold lefts
    rw [if_neg (by omega)]
  · refine (MU l (by omega) he l.length 0 (n - l.length) (by omega) (by omega) (by omega)).mono fun a ha=>?_
    rw [ha,List.drop_zero]
    unfold lefts
    by_cases h3:((gF l - l.length:Nat):Int)≤n - l.length
    · rw [if_pos h3,if_pos (by omega)]
      omega
    · rw [if_neg h3,if_neg (by omega)]
theorem PV (e:S66):yL e→∀ n:Int,0≤n→n≤1048576→EvP (fun k=>dO.f k e.f0 e.f1 e.f2 e.f3.f0 e.f3.f1 e.f3.f2 e.f4 e.f5 n) (·=lefts (nS e) n):=by
  refine BK (P:=fun e=>yL e→∀ n:Int,0≤n→n≤1048576→EvP (fun k=>dO.f k e.f0 e.f1 e.f2 e.f3.f0 e.f3.f1 e.f3.f2 e.f4 e.f5 n) (·=lefts (nS e) n)) (fun e i1 i2 hw n h0 h1=>?_) e
  cases hw with
  |mk _ _ _ _ he hl4 j3 hl5 j4=>
    refine EvP.step (fun k=>dO.f.eq_2 (k:=k) ..) ?_
    refine EvP.bV (PS e.f3 he n h0 h1) ?_
    rw [BG]
    by_cases c1:(lG e.f3:Int)≤n
    · rw [show lefts (lG e.f3) n=n - lG e.f3 from if_pos c1]
      refine EvP.no (by omega) (EvP.bV (vZ e.f4 hl4 (fun x hm=>i1 x hm (j3 x hm)) _ (by omega) (by omega)) ?_)
      by_cases c2:(gF e.f4:Int)≤n - lG e.f3
      · rw [show lefts (gF e.f4) (n - lG e.f3)=n - lG e.f3 - gF e.f4 from if_pos c2]
        refine EvP.no (by omega) (EvP.bV (vZ e.f5 hl5 (fun x hm=>i2 x hm (j4 x hm)) _ (by omega) (by omega)) ?_)
        by_cases c3:(gF e.f5:Int)≤n - lG e.f3 - gF e.f4
        · rw [show lefts (gF e.f5) (n - lG e.f3 - gF e.f4)=n - lG e.f3 - gF e.f4 - gF e.f5 from if_pos c3]
          refine EvP.no (by omega) (EvP.ret ?_)
          unfold lefts
          rw [if_pos (by omega)]
          omega
        · rw [show lefts (gF e.f5) (n - lG e.f3 - gF e.f4)= -1 from if_neg c3]
          refine EvP.yes (by omega) (EvP.ret ?_)
          unfold lefts
          rw [if_neg (by omega)]
      · rw [show lefts (gF e.f4) (n - lG e.f3)= -1 from if_neg c2]
        refine EvP.yes (by omega) (EvP.ret ?_)
        unfold lefts
        rw [if_neg (by omega)]
    · rw [show lefts (lG e.f3) n= -1 from if_neg c1]
      refine EvP.yes (by omega) (EvP.ret ?_)
      unfold lefts
      rw [if_neg (by omega)]
theorem MS (l:List S66) (hl:l.length≤maxLen) (hx:∀ x ∈ l,yL x) (n:Int) (h0:0≤n) (h1:n≤1048576):EvP (fun k=>bP.f k l n) (·=lefts (gF l) n):=
  vZ l hl (fun x hm=>PV x (hx x hm)) n h0 h1
theorem MZ (l:List S66) (hl:l.length≤1048576) (he:∀ x ∈ l,EvP (fun k=>gM.f k x) (·=trS x)):
    ∀ (d j:Nat) (m:List S70),j + d=l.length→m.length=l.length→EvP (fun k=>dL.l0 k l m (j:Int)) (·=m.take j ++ mG (l.drop j)):=by
  intro d
  induction d with
  |zero=>
    intro j m hj hm
    refine EvP.step (fun k=>dL.l0.eq_2 (k:=k) ..) (EvP.no (by omega) (EvP.ret ?_))
    rw [List.drop_eq_nil_of_le (by omega),List.take_of_length_le (by omega)]
    simp [mG]
  |succ d ih=>
    intro j m hj hm
    have hlt:j < l.length:=by omega
    refine EvP.step (fun k=>dL.l0.eq_2 (k:=k) ..) (EvP.yes (by omega) (EvP.yes (by omega) ?_))
    rw [KT l j hlt,w64 (n:=(j:Int) + 1) (by omega) (by omega),Int.toNat_natCast]
    refine EvP.bV (he _ (List.getElem_mem hlt)) (EvP.yes (by omega) ?_)
    refine (ih (j + 1) (m.set j (trS l[j])) (by omega) (by rw [List.length_set];exact hm)).mono fun a ha=>?_
    rw [ha,List.take_succ_eq_append_getElem (by rw [List.length_set];omega),List.getElem_set_self,List.take_set_of_le (by omega),List.append_assoc,List.drop_eq_getElem_cons hlt,mG]
    rfl
theorem wB (l:List S66) (hl:l.length≤1048576) (he:∀ x ∈ l,EvP (fun k=>gM.f k x) (·=trS x)):EvP (fun k=>dL.f k l) (·=mG l):=by
  refine EvP.step (fun k=>dL.f.eq_2 (k:=k) ..) (EvP.yes (by omega) ?_)
  exact MZ l hl he l.length 0 _ (by omega) (by rw [List.length_replicate])
theorem RA (e:S66):nS e≤1048576→EvP (fun k=>gM.f k e) (·=trS e):=by
  refine BK (P:=fun e=>nS e≤1048576→EvP (fun k=>gM.f k e) (·=trS e)) (fun e i1 i2 hc=>?_) e
  rw [BG] at hc
  have h4:=iU e.f4
  have h5:=iU e.f5
  refine EvP.step (fun k=>gM.f.eq_2 (k:=k) ..) ?_
  refine EvP.bV (PX e.f3 (by omega)) (EvP.bV (wB e.f4 (by omega) (fun x hm=>i1 x hm (by have:=mW e.f4 x hm;omega))) (EvP.bV (wB e.f5 (by omega) (fun x hm=>i2 x hm (by have:=mW e.f5 x hm;omega))) (EvP.ret ?_)))
  rw [OJ]
  simp only [tri,vM]
theorem MX (l:List S66) (hc:gF l≤1048576):EvP (fun k=>dL.f k l) (·=mG l):=
  wB l (by have:=iU l;omega) (fun x hm=>RA x (by have:=mW l x hm;omega))
theorem MJ (m:List S70) (hl:m.length≤1048576) (he:∀ x ∈ m,EvP (fun k=>dR.f k x.f0 x.f1 x.f2 x.f3.f0 x.f3.f1 x.f3.f2 x.f4 x.f5 x.f0 x.f1 x.f2 x.f3.f0 x.f3.f1 x.f3.f2 x.f4 x.f5) (·=true)):
    ∀ (d j:Nat),j + d=m.length→EvP (fun k=>aZ.l0 k m m (j:Int)) (·=true):=by
  intro d
  induction d with
  |zero=>
    intro j hj
    exact EvP.step (fun k=>aZ.l0.eq_2 (k:=k) ..) (EvP.no (by omega) (EvP.ret rfl))
  |succ d ih=>
    intro j hj
    have hlt:j < m.length:=by omega
    refine EvP.step (fun k=>aZ.l0.eq_2 (k:=k) ..) (EvP.yes (by omega) (EvP.yes (by omega) (EvP.yes (by omega) ?_)))
    rw [pR m j hlt,w64 (n:=(j:Int) + 1) (by omega) (by omega)]
    exact EvP.bV (he _ (List.getElem_mem hlt)) (EvP.yes rfl (ih (j + 1) (by omega)))
theorem rW (m:List S70) (hl:m.length≤1048576) (he:∀ x ∈ m,EvP (fun k=>dR.f k x.f0 x.f1 x.f2 x.f3.f0 x.f3.f1 x.f3.f2 x.f4 x.f5 x.f0 x.f1 x.f2 x.f3.f0 x.f3.f1 x.f3.f2 x.f4 x.f5) (·=true)):EvP (fun k=>aZ.f k m m) (·=true):=
  EvP.step (fun k=>aZ.f.eq_2 (k:=k) ..) (EvP.yes rfl (MJ m hl he m.length 0 (by omega)))
inductive tH:S70→Prop
 |mk (x:S70) (he:Short x.f3) (h4:x.f4.length≤1048576) (g4:∀ y ∈ x.f4,tH y) (h5:x.f5.length≤1048576) (g5:∀ y ∈ x.f5,tH y):tH x
theorem wP (e:S70) (h:tH e):EvP (fun k=>dR.f k e.f0 e.f1 e.f2 e.f3.f0 e.f3.f1 e.f3.f2 e.f4 e.f5 e.f0 e.f1 e.f2 e.f3.f0 e.f3.f1 e.f3.f2 e.f4 e.f5) (·=true):=by
  induction h with
  |mk x he h4 g4 h5 g5 i4 i5=>
    refine EvP.step (fun k=>dR.f.eq_2 (k:=k) ..) (EvP.yes rfl (EvP.yes rfl (EvP.yes rfl ?_)))
    exact EvP.bV (FL _ he) (EvP.yes rfl (EvP.bV (rW x.f4 h4 i4) (EvP.yes rfl (EvP.bV (rW x.f5 h5 i5) (EvP.yes rfl (EvP.ret rfl))))))
theorem BU {l:List S66} {y:S70} (h:y ∈ mG l):∃ x ∈ l,y=trS x:=by
 induction l with
 |nil=>simp [mG] at h
 |cons a l ih=>
  rw [mG] at h
  rcases List.mem_cons.1 h with rfl|h
  ·exact ⟨a,List.mem_cons_self,rfl⟩
  ·obtain ⟨x,hx,e⟩:=ih h
   exact ⟨x,List.mem_cons_of_mem _ hx,e⟩
theorem PO (e:S66):nS e≤1048576→tH (trS e):=by
 refine BK (P:=fun e=>nS e≤1048576→tH (trS e)) (fun e i1 i2 hc=>?_) e
 rw [BG] at hc
 have h4:=iU e.f4
 have h5:=iU e.f5
 rw [OJ]
 refine .mk _ (PN e.f3 (by omega)) (by rw [pX];omega) (fun y hy=>?_) (by rw [pX];omega) (fun y hy=>?_)
 ·obtain ⟨x,hx,rfl⟩:=BU hy
  exact i1 x hx (by have:=mW e.f4 x hx;omega)
 ·obtain ⟨x,hx,rfl⟩:=BU hy
  exact i2 x hx (by have:=mW e.f5 x hx;omega)
theorem CJ (l:List S66) (hc:gF l≤1048576):EvP (fun k=>aZ.f k (mG l) (mG l)) (·=true):=
  rW _ (by rw [pX];have:=iU l;omega) (fun y hy=>by
    obtain ⟨x,hx,rfl⟩:=BU hy
    exact wP _ (PO x (by have:=mW l x hx;omega)))
theorem aCs (a:S70):(⟨a.f0,a.f1,a.f2,a.f3,a.f4,a.f5⟩:S70)=a:=by
 cases a
 rfl
inductive ST where
 |mk (kd va bx:Int) (x:X) (b e:List ST)
namespace ST
def kd:ST→Int|⟨a,_,_,_,_,_⟩=>a
def va:ST→Int|⟨_,a,_,_,_,_⟩=>a
def bx:ST→Int|⟨_,_,a,_,_,_⟩=>a
def x:ST→X|⟨_,_,_,a,_,_⟩=>a
def b:ST→List ST|⟨_,_,_,_,a,_⟩=>a
def e:ST→List ST|⟨_,_,_,_,_,a⟩=>a
end ST
mutual
def nT:ST→S70
 |⟨kd,va,bx,x,b,e⟩=>⟨kd,va,bx,emb x,dF b,dF e⟩
def dF:List ST→List S70
 |[]=>[]
 |s :: ss=>nT s :: dF ss
end
def wW (kd va bx:Int) (x:X) (b e:List ST):List ST:=
 if kd=2 then (match x with
  | .num n=>if n=0 then e else b
  | y=>[⟨kd,va,bx,y,b,e⟩])
 else if kd=3 then (match x with
  | .num n=>if n=0 then [] else [⟨kd,va,bx, .num n,b,e⟩]
  | y=>[⟨kd,va,bx,y,b,e⟩])
 else [⟨kd,va,bx,x,b,e⟩]
mutual
def mU:ST→List ST
 |⟨kd,va,bx,x,b,e⟩=>wW kd va bx x.fold (fM b) (fM e)
def fM:List ST→List ST
 |[]=>[]
 |s :: ss=>mU s ++ fM ss
end
theorem xK (t:ST):nT t=⟨t.kd,t.va,t.bx,emb t.x,dF t.b,dF t.e⟩:=by
 cases t
 rw [nT]
 rfl
theorem yY (t:ST):mU t=wW t.kd t.va t.bx t.x.fold (fM t.b) (fM t.e):=by
 cases t
 rw [mU]
 rfl
theorem iE:∀ l:List ST,(dF l).length=l.length
 |[]=>by rw [dF];rfl
 |x :: xs=>by rw [dF,List.length_cons,List.length_cons,iE xs]
theorem oH:∀ l m:List ST,dF (l ++ m)=dF l ++ dF m
 |[],m=>by rw [dF];rfl
 |x :: xs,m=>by rw [List.cons_append,dF,dF,oH xs m];rfl
theorem DX:∀ (l:List ST) (i:Nat) (h:i < l.length),(dF l)[i]'(by rw [iE];exact h)=nT l[i]
 |x :: xs,0,_=>by simp [dF]
 |x :: xs,i + 1,h=>by
  have h2:=DX xs i (by simpa using h)
  simp only [dF,List.getElem_cons_succ]
  exact h2
theorem FW {P:ST→Prop} (h:∀ t:ST,(∀ y ∈ t.b,P y)→(∀ y ∈ t.e,P y)→P t) (t:ST):P t:=
 @ST.rec (motive_1:=P) (motive_2:=fun l=>∀ y ∈ l,P y) (fun a b c d m n i1 i2=>h ⟨a,b,c,d,m,n⟩ i1 i2) (fun y hy=>by simp at hy) (fun y ys h1 h2 z hz=>by
  rcases List.mem_cons.1 hz with rfl|hz
  ·exact h1
  ·exact h2 z hz) t
inductive AX:ST→Prop
 |mk (t:ST) (h1:t.x.ok) (h2:t.x.depth≤5) (hb:∀ y ∈ t.b,AX y) (he:∀ y ∈ t.e,AX y):AX t
theorem TQ (boxes:Int):∀ (d:Nat) (s:S70),iJ boxes d s=true→∃ t,nT t=s∧AX t:=by
 have ex:∀ s:S70,stS boxes s=true→∃ x:X,emb x=s.f3∧x.ok∧x.depth≤5:=by
  intro s h
  have hv:vx 5 s.f3.f0 s.f3.f1 s.f3.f2=true∨uO s.f3.f0 s.f3.f1 s.f3.f2=true:=by
   unfold stS xX kR at h
   repeat' split at h
   all_goals first
    |(cases h;done)
    |(simp only [Bool.and_eq_true] at h;first|exact .inl h.2.2.1|exact .inr h.2.2.1)
    |skip
   all_goals simp_all
  rcases hv with hv|hv
  ·obtain ⟨x,h1,h2,h3⟩:=GX 5 _ _ _ hv
   exact ⟨x,h3.trans (vM _),h1,h2⟩
  ·unfold uO at hv
   simp only [Bool.and_eq_true,beq_iff_eq] at hv
   refine ⟨.num 0,?_,⟨by omega,by omega⟩,by simp [X.depth]⟩
   rw [emb,← vM s.f3,hv.1,hv.2.1,List.eq_nil_of_length_eq_zero hv.2.2]
 have mk:∀ (s:S70),stS boxes s=true→(∃ l,dF l=s.f4∧∀ y ∈ l,AX y)→(∃ l,dF l=s.f5∧∀ y ∈ l,AX y)→∃ t,nT t=s∧AX t:=by
  rintro s h ⟨l,h4,a4⟩ ⟨m,h5,a5⟩
  obtain ⟨x,hx,hok,hd⟩:=ex s h
  refine ⟨⟨s.f0,s.f1,s.f2,x,l,m⟩,?_, .mk _ hok hd a4 a5⟩
  rw [nT,hx,h4,h5]
  exact aCs s
 have nils:∀ s:S70,stS boxes s=true→oC s=false→(∃ l,dF l=s.f4∧∀ y ∈ l,AX y)∧(∃ l,dF l=s.f5∧∀ y ∈ l,AX y):=by
  intro s h hb
  have hf:=yX h (fun e=>by rw [(oM s).mpr e] at hb;cases hb)
  rw [yM] at hf
  have l4:=fG s.f4
  have l5:=fG s.f5
  rw [List.eq_nil_of_length_eq_zero (show s.f4.length=0 by omega),List.eq_nil_of_length_eq_zero (show s.f5.length=0 by omega)]
  exact ⟨⟨[],by rw [dF],by simp⟩,⟨[],by rw [dF],by simp⟩⟩
 intro d
 induction d with
 |zero=>
  intro s h
  simp only [iJ,Bool.and_eq_true] at h
  obtain ⟨n4,n5⟩:=nils s h.1 (by simpa using h.2)
  exact mk s h.1 n4 n5
 |succ d ih=>
  intro s h
  have lists:∀ l:List S70,l.all (iJ boxes d)=true→∃ m,dF m=l∧∀ y ∈ m,AX y:=by
   intro l
   induction l with
   |nil=>exact fun _=>⟨[],by rw [dF],by simp⟩
   |cons y ys ihl=>
    intro h
    rw [List.all_cons,Bool.and_eq_true] at h
    obtain ⟨t,ht,at_⟩:=ih y h.1
    obtain ⟨m,hm,am⟩:=ihl h.2
    refine ⟨t :: m,by rw [dF,ht,hm],fun z hz=>?_⟩
    rcases List.mem_cons.1 hz with rfl|hz
    ·exact at_
    ·exact am z hz
  simp only [iJ,Bool.and_eq_true,Bool.or_eq_true] at h
  cases hb:oC s with
  |false=>
   obtain ⟨n4,n5⟩:=nils s h.1 hb
   exact mk s h.1 n4 n5
  |true=>
   rw [hb] at h
   rcases h.2 with h2|h2
   ·cases h2
   ·exact mk s h.1 (lists _ h2.1) (lists _ h2.2)
theorem TP (boxes:Int) (d:Nat):∀ l:List S70,okL boxes d l=true→∃ m,dF m=l∧∀ y ∈ m,AX y
 |[],_=>⟨[],by rw [dF],by simp⟩
 |y :: ys,h=>by
  have h':(iJ boxes d y && okL boxes d ys)=true:=h
  rw [Bool.and_eq_true] at h'
  obtain ⟨t,ht,at_⟩:=TQ boxes d y h'.1
  obtain ⟨m,hm,am⟩:=TP boxes d ys h'.2
  refine ⟨t :: m,by rw [dF,ht,hm],fun z hz=>?_⟩
  rcases List.mem_cons.1 hz with rfl|hz
  ·exact at_
  ·exact am z hz
theorem yE (kd va bx:Int) (x:X) (b e:List ST):(wW kd va bx x b e=b∧kd=2)∨(wW kd va bx x b e=e∧kd=2)∨wW kd va bx x b e=[]∨(wW kd va bx x b e=[⟨kd,va,bx,x,b,e⟩]∧¬ (kd=2∧x.isNum=true)∧¬ (kd=3∧x= .num 0)):=by
 unfold wW
 by_cases h2:kd=2
 ·rw [if_pos h2]
  cases x with
  |num n=>
   dsimp only
   by_cases h:n=0
   ·rw [if_pos h]
    exact .inr (.inl ⟨rfl,h2⟩)
   ·rw [if_neg h]
    exact .inl ⟨rfl,h2⟩
  |var v=>exact .inr (.inr (.inr ⟨rfl,by simp [X.isNum],by simp⟩))
  |bin o p q=>exact .inr (.inr (.inr ⟨rfl,by simp [X.isNum],by simp⟩))
 ·rw [if_neg h2]
  by_cases h3:kd=3
  ·rw [if_pos h3]
   cases x with
   |num n=>
    dsimp only
    by_cases h:n=0
    ·rw [if_pos h]
     exact .inr (.inr (.inl rfl))
    ·rw [if_neg h]
     exact .inr (.inr (.inr ⟨rfl,by simp [h2],by simp [h]⟩))
   |var v=>exact .inr (.inr (.inr ⟨rfl,by simp [h2],by simp⟩))
   |bin o p q=>exact .inr (.inr (.inr ⟨rfl,by simp [h2],by simp⟩))
  ·rw [if_neg h3]
   exact .inr (.inr (.inr ⟨rfl,by simp [h2],by simp [h3]⟩))
def cT (l:List ST):Nat:=cSs (dF l)
theorem xH (l m:List ST):cT (l ++ m)=cT l + cT m:=by
 unfold cT
 rw [oH,BD]
theorem xI (t:ST):cT [t]=cT t.b + cT t.e + 1:=by
 unfold cT
 rw [dF,dF,aAb,xK,yM]
theorem FD (t:ST) (l:List ST):cT (t :: l)=cT t.b + cT t.e + 1 + cT l:=by
 rw [show t :: l=[t] ++ l from rfl,xH,xI]
theorem aBl:cT []=0:=by
 unfold cT
 rw [dF,cSs]
theorem rU (l:List ST) (h:∀ y ∈ l,cT (mU y)≤cT [y]):cT (fM l)≤cT l:=by
 induction l with
 |nil=>rw [fM];exact Nat.le_refl _
 |cons y ys ih=>
  have h1:=h y List.mem_cons_self
  have h2:=ih (fun z hz=>h z (List.mem_cons_of_mem _ hz))
  rw [fM,xH,FD]
  rw [xI] at h1
  omega
theorem BF (t:ST):cT (mU t)≤cT [t]:=by
 refine FW (P:=fun t=>cT (mU t)≤cT [t]) (fun t i1 i2=>?_) t
 have h1:=rU t.b i1
 have h2:=rU t.e i2
 rw [yY,xI]
 rcases yE t.kd t.va t.bx t.x.fold (fM t.b) (fM t.e) with ⟨h,_⟩|⟨h,_⟩|h|⟨h,_⟩
 ·rw [h];omega
 ·rw [h];omega
 ·rw [h,aBl];omega
 ·rw [h,xI]
  show cT (fM t.b) + cT (fM t.e) + 1≤_
  omega
theorem uI (l:List ST):cT (fM l)≤cT l:=rU l (fun y _=>BF y)
theorem rR (l:List ST) (h:∀ y ∈ l,∀ z ∈ mU y,AX z):∀ z ∈ fM l,AX z:=by
 induction l with
 |nil=>rw [fM];simp
 |cons y ys ih=>
  intro z hz
  rw [fM,List.mem_append] at hz
  rcases hz with hz|hz
  ·exact h y List.mem_cons_self z hz
  ·exact ih (fun w hw=>h w (List.mem_cons_of_mem _ hw)) z hz
theorem SG (t:ST):AX t→∀ z ∈ mU t,AX z:=by
 refine FW (P:=fun t=>AX t→∀ z ∈ mU t,AX z) (fun t i1 i2 ha=>?_) t
 cases ha with
 |mk _ h1 h2 hb he=>
  have g1:=rR t.b (fun y hy=>i1 y hy (hb y hy))
  have g2:=rR t.e (fun y hy=>i2 y hy (he y hy))
  rw [yY]
  rcases yE t.kd t.va t.bx t.x.fold (fM t.b) (fM t.e) with ⟨h,_⟩|⟨h,_⟩|h|⟨h,_⟩
  ·rw [h];exact g1
  ·rw [h];exact g2
  ·rw [h];simp
  ·rw [h]
   intro z hz
   rw [List.mem_singleton] at hz
   subst hz
   exact .mk _ (X.oI _ h1) (Nat.le_trans (X.vO _) h2) g1 g2
theorem OT (l:List ST) (h:∀ y ∈ l,AX y):∀ z ∈ fM l,AX z:=rR l (fun y hy=>SG y (h y hy))
mutual
def mS:S70→Nat
 |⟨_,_,_,e,b,l⟩=>5 + 2 * nEs e.f2 + mSs b + mSs l
def mSs:List S70→Nat
 |[]=>0
 |x :: xs=>mS x + mSs xs
end
mutual
def mkS:S70→Int→S70
 |⟨_,_,_,e,b,l⟩,n=>⟨n,n + 1,n + 2,⟨n + 3,n + 4,nU e.f2 (n + 5)⟩,sU b (n + 5 + 2 * nEs e.f2),sU l (n + 5 + 2 * nEs e.f2 + mSs b)⟩
def sU:List S70→Int→List S70
 |[],_=>[]
 |x :: xs,n=>mkS x n :: sU xs (n + mS x)
end
theorem TL (x:S70):mS x=5 + 2 * nEs x.f3.f2 + mSs x.f4 + mSs x.f5:=by
 cases x
 rw [mS]
theorem aAu (x:S70) (n:Int):mkS x n=⟨n,n + 1,n + 2,⟨n + 3,n + 4,nU x.f3.f2 (n + 5)⟩,sU x.f4 (n + 5 + 2 * nEs x.f3.f2),sU x.f5 (n + 5 + 2 * nEs x.f3.f2 + mSs x.f4)⟩:=by
 cases x
 rw [mkS]
theorem yD:∀ (l:List S70) (n:Int),(sU l n).length=l.length
 |[],_=>by rw [sU]
 |x :: xs,n=>by rw [sU,List.length_cons,List.length_cons,yD xs]
theorem vS:∀ l:List S70,l.length≤mSs l
 |[]=>Nat.zero_le _
 |x :: xs=>by
  have:=vS xs
  rw [mSs,List.length_cons,TL]
  omega
theorem KL (l:List S70) (i:Nat) (h:i < l.length):mSs (l.drop i)=mS l[i] + mSs (l.drop (i + 1)):=by
 rw [List.drop_eq_getElem_cons h,mSs]
theorem aAr {P:S70→Prop} (h:∀ e:S70,(∀ x ∈ e.f4,P x)→(∀ x ∈ e.f5,P x)→P e) (e:S70):P e:=
 S70.rec (motive_1:=P) (motive_2:=fun l=>∀ x ∈ l,P x) (fun a b c e m n ih1 ih2=>h ⟨a,b,c,e,m,n⟩ ih1 ih2) (fun x hx=>by simp at hx) (fun y ys h1 h2 x hx=>by
  rcases List.mem_cons.1 hx with rfl|hx
  ·exact h1
  ·exact h2 x hx) e
def wG (m:List S70):Prop:=∀ n:Int,0≤n→n + mSs m≤1099511627776→EvP (fun k=>cK.f k m n) (·=(n + mSs m,sU m n))
theorem GI (l:List S70) (hL:l.length≤1099511627776) (he:∀ x ∈ l,wG x.f4∧wG x.f5):
    ∀ (d j:Nat) (m:List S70) (n:Int),j + d=l.length→m.length=l.length→m.drop j=l.drop j→0≤n→n + mSs (l.drop j)≤1099511627776→EvP (fun k=>cK.l0 k m n (j:Int)) (·=(n + mSs (l.drop j),m.take j ++ sU (l.drop j) n)):=by
  intro d
  induction d with
  |zero=>
    intro j m n hj hm hd h0 h1
    refine EvP.step (fun k=>cK.l0.eq_2 (k:=k) ..) (EvP.no (by omega) (EvP.ret ?_))
    rw [List.drop_eq_nil_of_le (by omega),List.take_of_length_le (by omega),mSs,sU]
    simp
  |succ d ih=>
    intro j m n hj hm hd h0 h1
    have hlt:j < l.length:=by omega
    have hc:=KL l j hlt
    have hn:=TL l[j]
    have hg:m[j]'(by omega)=l[j]:=by
      have h2:=congrArg (·[0]?) hd
      simp only [List.getElem?_drop,Nat.add_zero] at h2
      rw [List.getElem?_eq_getElem (by omega),List.getElem?_eq_getElem hlt] at h2
      exact Option.some.inj h2
    obtain ⟨q4,q5⟩:=he _ (List.getElem_mem hlt)
    refine EvP.step (fun k=>cK.l0.eq_2 (k:=k) ..) (EvP.yes (by omega) (EvP.yes (by omega) ?_))
    rw [pR m j (by omega),hg,w64 (n:=n + 1) (by omega) (by omega),w64 (n:=n + 1 + 1) (by omega) (by omega),w64 (n:=n + 1 + 1 + 1) (by omega) (by omega),w64 (n:=n + 1 + 1 + 1 + 1) (by omega) (by omega),w64 (n:=n + 1 + 1 + 1 + 1 + 1) (by omega) (by omega),w64 (n:=(j:Int) + 1) (by omega) (by omega),Int.toNat_natCast]
    rw [show n + 1 + 1 + 1 + 1 + 1=n + 5 by omega,show n + 1 + 1 + 1 + 1=n + 4 by omega,show n + 1 + 1 + 1=n + 3 by omega,show n + 1 + 1=n + 2 by omega]
    refine EvP.bV (FY _ (n + 5) (by omega) (by omega)) ?_
    dsimp only
    refine EvP.bV (q4 _ (by omega) (by omega)) ?_
    dsimp only
    refine EvP.bV (q5 _ (by omega) (by omega)) ?_
    dsimp only
    refine (ih (j + 1) (m.set j _) _ (by omega) (by rw [List.length_set];exact hm) ?_ (by omega) (by omega)).mono fun a ha=>?_
    · rw [List.drop_set_of_lt (by omega),← List.drop_drop,hd,List.drop_drop]
    · rw [ha,List.take_succ_eq_append_getElem (by rw [List.length_set];omega),List.getElem_set_self,List.take_set_of_le (by omega),List.append_assoc,List.drop_eq_getElem_cons hlt,mSs,sU,aAu]
      rw [show n + 5 + 2 * (nEs l[j].f3.f2:Int) + (mSs l[j].f4:Int) + (mSs l[j].f5:Int)=n + (mS l[j]:Int) by omega]
      refine Prod.ext ?_ ?_
      · show n + (mS l[j]:Int) + (mSs (l.drop (j + 1)):Int)=n + ((mS l[j] + mSs (l.drop (j + 1)):Nat):Int)
        omega
      · rfl
theorem sD (l:List S70) (he:∀ x ∈ l,wG x.f4∧wG x.f5):wG l:=fun n h0 h1=>
 EvP.step (fun k=>cK.f.eq_2 (k:=k) ..) (GI l (by have:=vS l;omega) he l.length 0 l n (by omega) rfl rfl h0 h1)
theorem GH (x:S70):wG x.f4∧wG x.f5:=aAr (P:=fun x=>wG x.f4∧wG x.f5) (fun e i4 i5=>⟨sD e.f4 i4,sD e.f5 i5⟩) x
theorem GD (l:List S70) (n:Int) (h0:0≤n) (h1:n + mSs l≤1099511627776):EvP (fun k=>cK.f k l n) (·=(n + mSs l,sU l n)):=sD l (fun x _=>GH x) n h0 h1
def wF (m:List S70):Prop:=∀ n:Int,0≤n→n + mSs m≤1099511627776→EvP (fun k=>bN.f k (sU m n) n) (·=n + mSs m)
theorem FU (l:List S70) (hL:l.length≤1099511627776) (he:∀ x ∈ l,wF x.f4∧wF x.f5):
    ∀ (d j:Nat) (m:List S70) (n:Int),j + d=l.length→m.length=l.length→m.drop j=sU (l.drop j) n→0≤n→n + mSs (l.drop j)≤1099511627776→EvP (fun k=>bN.l0 k m n (j:Int)) (·=n + mSs (l.drop j)):=by
  intro d
  induction d with
  |zero=>
    intro j m n hj hm hd h0 h1
    refine EvP.step (fun k=>bN.l0.eq_2 (k:=k) ..) (EvP.no (by omega) (EvP.ret ?_))
    rw [List.drop_eq_nil_of_le (by omega),mSs]
    simp
  |succ d ih=>
    intro j m n hj hm hd h0 h1
    have hlt:j < l.length:=by omega
    have hc:=KL l j hlt
    have hn:=TL l[j]
    rw [List.drop_eq_getElem_cons (show j < m.length by omega),List.drop_eq_getElem_cons hlt,sU] at hd
    injection hd with hg hd
    rw [aAu] at hg
    obtain ⟨q4,q5⟩:=he _ (List.getElem_mem hlt)
    refine EvP.step (fun k=>bN.l0.eq_2 (k:=k) ..) (EvP.yes (by omega) (EvP.yes (by omega) ?_))
    rw [pR m j (by omega),hg,w64 (n:=n + 1) (by omega) (by omega),w64 (n:=n + 1 + 1) (by omega) (by omega),w64 (n:=n + 1 + 1 + 1) (by omega) (by omega),w64 (n:=n + 1 + 1 + 1 + 1) (by omega) (by omega),w64 (n:=n + 1 + 1 + 1 + 1 + 1) (by omega) (by omega),w64 (n:=(j:Int) + 1) (by omega) (by omega)]
    rw [show n + 1 + 1 + 1 + 1 + 1=n + 5 by omega,show n + 1 + 1 + 1 + 1=n + 4 by omega,show n + 1 + 1 + 1=n + 3 by omega,show n + 1 + 1=n + 2 by omega]
    dsimp only
    refine EvP.yes rfl (EvP.yes rfl (EvP.yes rfl (EvP.yes rfl (EvP.yes rfl ?_))))
    refine EvP.bV (FN _ (n + 5) (by omega) (by omega)) (EvP.no (by omega) ?_)
    refine EvP.bV (q4 _ (by omega) (by omega)) (EvP.no (by omega) ?_)
    refine EvP.bV (q5 _ (by omega) (by omega)) (EvP.no (by omega) ?_)
    refine (ih (j + 1) m _ (by omega) hm ?_ (by omega) (by omega)).mono fun a ha=>?_
    · rw [hd,show n + 5 + 2 * (nEs l[j].f3.f2:Int) + (mSs l[j].f4:Int) + (mSs l[j].f5:Int)=n + (mS l[j]:Int) by omega]
    · rw [ha]
      omega
theorem rY (l:List S70) (he:∀ x ∈ l,wF x.f4∧wF x.f5):wF l:=fun n h0 h1=>
 EvP.step (fun k=>bN.f.eq_2 (k:=k) ..) (FU l (by have:=vS l;omega) he l.length 0 _ n (by omega) (yD l n) rfl h0 h1)
theorem FT (x:S70):wF x.f4∧wF x.f5:=aAr (P:=fun x=>wF x.f4∧wF x.f5) (fun e i4 i5=>⟨rY e.f4 i4,rY e.f5 i5⟩) x
theorem FR (l:List S70) (n:Int) (h0:0≤n) (h1:n + mSs l≤1099511627776):EvP (fun k=>bN.f k (sU l n) n) (·=n + mSs l):=rY l (fun x _=>FT x) n h0 h1
theorem pQ:∀ l:List S66,(∀ x ∈ l,mS (trS x)≤5 * (nS x + 1))→mSs (mG l)≤5 * gF l
 |[],_=>by rw [mG,mSs];exact Nat.zero_le _
 |x :: xs,h=>by
  have h1:=h x List.mem_cons_self
  have h2:=pQ xs (fun y hy=>h y (List.mem_cons_of_mem _ hy))
  rw [mG,mSs,gF]
  omega
theorem aBr (x:S66):mS (trS x)≤5 * (nS x + 1):=
 BK (P:=fun x=>mS (trS x)≤5 * (nS x + 1)) (fun e i4 i5=>by
  have h4:=pQ e.f4 i4
  have h5:=pQ e.f5 i5
  have h3:=aBs e.f3
  have h2:=GJ (trE e.f3)
  rw [OJ,TL,BG]
  dsimp only
  omega) x
theorem TM (l:List S66):mSs (mG l)≤5 * gF l:=pQ l (fun x _=>aBr x)
theorem oK:∀ l:List ST,(∀ t ∈ l,mS (nT t)≤65 * (cS (nT t) + 1))→mSs (dF l)≤65 * cSs (dF l)
 |[],_=>by rw [dF,mSs];exact Nat.zero_le _
 |t :: ts,h=>by
  have h1:=h t List.mem_cons_self
  have h2:=oK ts (fun y hy=>h y (List.mem_cons_of_mem _ hy))
  rw [dF,mSs,cSs]
  omega
theorem aAh (t:ST):AX t→mS (nT t)≤65 * (cS (nT t) + 1):=
 FW (P:=fun t=>AX t→mS (nT t)≤65 * (cS (nT t) + 1)) (fun t i4 i5 ha=>by
  cases ha with
  |mk _ h1 h2 hb he=>
   have h4:=oK t.b (fun y hy=>i4 y hy (hb y hy))
   have h5:=oK t.e (fun y hy=>i5 y hy (he y hy))
   have h3:=MK t.x
   have h6:=GJ (emb t.x)
   have h7:=X.vU t.x
   have h8:2 ^ t.x.depth≤2 ^ 5:=Nat.pow_le_pow_right (by omega) h2
   rw [xK,TL,yM]
   dsimp only
   omega) t
theorem PD (l:List ST) (h:∀ t ∈ l,AX t):mSs (dF l)≤65 * cT l:=oK l (fun t ht=>aAh t (h t ht))
theorem xL {l:List ST} {y:S70} (h:y ∈ dF l):∃ t ∈ l,y=nT t:=by
 induction l with
 |nil=>simp [dF] at h
 |cons a l ih=>
  rw [dF] at h
  rcases List.mem_cons.1 h with rfl|h
  ·exact ⟨a,List.mem_cons_self,rfl⟩
  ·obtain ⟨x,hx,e⟩:=ih h
   exact ⟨x,List.mem_cons_of_mem _ hx,e⟩
theorem MP (t:ST):cS (nT t)≤1048576→tH (nT t):=
 FW (P:=fun t=>cS (nT t)≤1048576→tH (nT t)) (fun t i4 i5 hc=>by
  rw [xK,yM] at hc
  dsimp only at hc
  have h4:=fG (dF t.b)
  have h5:=fG (dF t.e)
  rw [xK]
  refine .mk _ (xS t.x) (by dsimp only;omega) (fun y hy=>?_) (by dsimp only;omega) (fun y hy=>?_)
  ·have:=oG _ y hy
   obtain ⟨x,hx,rfl⟩:=xL hy
   exact i4 x hx (by dsimp only at this;omega)
  ·have:=oG _ y hy
   obtain ⟨x,hx,rfl⟩:=xL hy
   exact i5 x hx (by dsimp only at this;omega)) t
theorem IV (l:List ST) (hc:cT l≤1048576):EvP (fun k=>aZ.f k (dF l) (dF l)) (·=true):=
  rW _ (by have:=fG (dF l);unfold cT at hc;omega) (fun y hy=>by
    have h:=oG _ y hy
    obtain ⟨t,ht,rfl⟩:=xL hy
    exact wP _ (MP t (by unfold cT at hc;omega)))
theorem nO (l:List (List S70)) (i:Nat) (h:i < l.length):fU l (i:Int)=l[i]:=by
 unfold fU
 rw [Int.toNat_natCast,List.getD_eq_getElem?_getD,List.getElem?_eq_getElem h]
 rfl
def pF (r:Int):Bool:=decide (1≤r) && decide (r≤4)
def nL (rs:List Int):Bool:=rs.all pF && decide ((rs.length:Int)≤3)
theorem CW (rs:List Int) (hl:rs.length≤1000000000):∀ (d j:Nat),j + d=rs.length→EvP (fun k=>bS.l0 k rs rs (rs.length:Int) (j:Int)) (·=((rs.drop j).all pF && decide ((rs.length:Int)≤3))):=by
  intro d
  induction d with
  |zero=>
    intro j hj
    refine EvP.step (fun k=>bS.l0.eq_2 (k:=k) ..) (EvP.no (by omega) (EvP.ret ?_))
    rw [List.drop_eq_nil_of_le (by omega)]
    rfl
  |succ d ih=>
    intro j hj
    have hlt:j < rs.length:=by omega
    refine EvP.step (fun k=>bS.l0.eq_2 (k:=k) ..) (EvP.yes (by omega) (EvP.yes (by omega) (EvP.yes (by omega) ?_)))
    rw [xP rs j hlt,w64 (by omega) (by omega),List.drop_eq_getElem_cons hlt,List.all_cons]
    refine EvP.ite (fun h=>EvP.ret ?_) (fun h=>EvP.ite (fun h2=>EvP.ret ?_) (fun h2=>?_))
    · have:pF rs[j]=false:=by
        unfold pF
        rw [decide_eq_false (by omega)]
        rfl
      rw [this]
      rfl
    · have:pF rs[j]=false:=by
        unfold pF
        rw [decide_eq_false (p:=rs[j]≤4) (by omega),Bool.and_false]
      rw [this]
      rfl
    · have:pF rs[j]=true:=by
        unfold pF
        rw [decide_eq_true (by omega),decide_eq_true (by omega)]
        rfl
      rw [this,Bool.true_and]
      exact ih (j + 1) (by omega)
theorem CV (rs:List Int) (hl:rs.length≤1000000000):EvP (fun k=>bS.f k rs) (·=nL rs):=by
  unfold bS.f
  exact CW rs hl rs.length 0 (by omega)
theorem DN (rs:List Int) (hl:rs.length≤1000000000):∀ (d j:Nat),j + d=rs.length→EvP (fun k=>cO.l0 k rs (j:Int)) (·=((rs.drop j).all pF && decide ((rs.length:Int)≤3))):=by
  intro d
  induction d with
  |zero=>
    intro j hj
    refine EvP.step (fun k=>cO.l0.eq_2 (k:=k) ..) (EvP.no (by omega) (EvP.ret ?_))
    rw [List.drop_eq_nil_of_le (by omega)]
    rfl
  |succ d ih=>
    intro j hj
    have hlt:j < rs.length:=by omega
    refine EvP.step (fun k=>cO.l0.eq_2 (k:=k) ..) (EvP.yes (by omega) (EvP.yes (by omega) ?_))
    rw [xP rs j hlt,w64 (by omega) (by omega),List.drop_eq_getElem_cons hlt,List.all_cons,oJ]
    refine EvP.gN rfl (EvP.ite (fun h=>?_) (fun h=>EvP.ret ?_))
    · rw [show pF rs[j]=true from h,Bool.true_and]
      exact ih (j + 1) (by omega)
    · rw [show pF rs[j]=false from Bool.eq_false_iff.mpr h]
      rfl
theorem DL (rs:List Int) (hl:rs.length≤1000000000):EvP (fun k=>cO.f k rs) (·=nL rs):=by
  unfold cO.f
  exact DN rs hl rs.length 0 (by omega)
def rX (m:Int) (s:S70):Bool:=!((s.f0 == 4 || s.f0 == 5) && decide (s.f2≥m))
mutual
def bxS (m:Int):S70→Bool
 |⟨a,b,c,e,l1,l2⟩=>rX m ⟨a,b,c,e,l1,l2⟩ && (oF m l1 && oF m l2)
def oF (m:Int):List S70→Bool
 |[]=>true
 |x :: xs=>bxS m x && oF m xs
end
theorem SH (m:Int) (s:S70):bxS m s=(rX m s && (oF m s.f4 && oF m s.f5)):=by
 cases s
 rw [bxS]
theorem BA (m:Int):∀ l:List S70,oF m l=l.all (bxS m)
 |[]=>by rw [oF];rfl
 |x :: xs=>by rw [oF,BA m xs];rfl
theorem xW (m:Int):∀ (c:Nat) (l:List S70),cSs l≤c→c≤1000000000→EvP (fun k=>bA.f k l m) (·=oF m l):=by
  intro c
  induction c with
  |zero=>
    intro l hl hc
    have:=fG l
    obtain rfl:=List.eq_nil_of_length_eq_zero (show l.length=0 by omega)
    exact EvP.step (fun k=>bA.f.eq_2 (k:=k) ..) (EvP.step (fun k=>bA.l0.eq_2 (k:=k) ..) (EvP.no (by simp) (EvP.ret (by rw [oF]))))
  |succ c ih=>
    intro l hl hc
    have hlen:=fG l
    have loop:∀ (r j:Nat),j + r=l.length→EvP (fun k=>bA.l0 k l m (j:Int)) (·=oF m (l.drop j)):=by
      intro r
      induction r with
      |zero=>
        intro j hj
        refine EvP.step (fun k=>bA.l0.eq_2 (k:=k) ..) (EvP.no (by omega) (EvP.ret ?_))
        rw [List.drop_eq_nil_of_le (by omega),oF]
      |succ r ih2=>
        intro j hj
        have hlt:j < l.length:=by omega
        have hm:=oG l _ (List.getElem_mem hlt)
        have hcs:=yM l[j]
        have hd:oF m (l.drop j)=(bxS m l[j] && oF m (l.drop (j + 1))):=by
          rw [List.drop_eq_getElem_cons hlt,oF]
        rw [hd,SH]
        have j1:∀ b:Bool,(rX m l[j]=!b)→EvP (fun k=>bA.j1 k l m (j:Int) b l[j].f0 l[j].f1 l[j].f2 l[j].f3.f0 l[j].f3.f1 l[j].f3.f2 l[j].f4 l[j].f5) (·=(rX m l[j] && (oF m l[j].f4 && oF m l[j].f5) && oF m (l.drop (j + 1)))):=by
          intro b hb
          refine EvP.step (fun k=>bA.j1.eq_2 (k:=k) ..) (EvP.ite (fun h=>EvP.ret ?_) (fun h=>?_))
          · rw [hb,h]
            rfl
          · rw [hb,Bool.eq_false_iff.mpr h,w64 (n:=(j:Int) + 1) (by omega) (by omega)]
            refine EvP.bV (ih _ (by omega) (by omega)) (EvP.ite (fun h4=>EvP.bV (ih _ (by omega) (by omega)) (EvP.ite (fun h5=>?_) (fun h5=>EvP.ret ?_))) (fun h4=>EvP.ret ?_))
            · rw [h4,h5]
              exact ih2 (j + 1) (by omega)
            · rw [Bool.eq_false_iff.mpr h5]
              simp
            · rw [Bool.eq_false_iff.mpr h4]
              simp
        refine EvP.step (fun k=>bA.l0.eq_2 (k:=k) ..) (EvP.yes (by omega) (EvP.yes (by omega) ?_))
        rw [pR l j hlt]
        refine EvP.ite (fun h4=>j1 _ ?_) (fun h4=>EvP.ite (fun h5=>j1 _ ?_) (fun h5=>j1 _ ?_))
        · simp [rX,h4]
        · simp [rX,h5]
        · simp [rX,h4,h5]
    refine EvP.step (fun k=>bA.f.eq_2 (k:=k) ..) ?_
    exact loop l.length 0 (by omega)
theorem EM (m:Int) (h0:0≤m) (h3:m≤3) (s:S70):stS m s=(stS 3 s && rX m s):=by
 rw [Bool.eq_iff_iff,Bool.and_eq_true]
 unfold stS xX kR rX vF
 by_cases c4:s.f0=4
 ·simp only [c4]
  simp
  constructor
  ·rintro ⟨a,⟨b,c⟩,d⟩
   exact ⟨⟨a,⟨b,by omega⟩,d⟩,by omega⟩
  ·rintro ⟨⟨a,⟨b,c⟩,d⟩,e⟩
   exact ⟨a,⟨b,by omega⟩,d⟩
 ·by_cases c5:s.f0=5
  ·simp only [c5]
   simp
   constructor
   ·rintro ⟨a,⟨b,c⟩,d⟩
    exact ⟨⟨a,⟨b,by omega⟩,d⟩,by omega⟩
   ·rintro ⟨⟨a,⟨b,c⟩,d⟩,e⟩
    exact ⟨a,⟨b,by omega⟩,d⟩
  ·simp [c4,c5]
theorem lZ (m:Int) (h0:0≤m) (h3:m≤3):∀ (d:Nat) (s:S70),iJ m d s=true ↔ (iJ 3 d s=true∧bxS m s=true)
 |0,s=>by
  simp only [iJ,Bool.and_eq_true,EM m h0 h3 s,SH]
  constructor
  ·rintro ⟨⟨a,b⟩,c⟩
   have hf:=yX a (fun e=>by rw [(oM s).mpr e] at c;cases c)
   rw [yM] at hf
   have l4:=fG s.f4
   have l5:=fG s.f5
   rw [List.eq_nil_of_length_eq_zero (show s.f4.length=0 by omega),List.eq_nil_of_length_eq_zero (show s.f5.length=0 by omega)]
   exact ⟨⟨a,c⟩,b,by rw [oF],by rw [oF]⟩
  ·rintro ⟨⟨a,c⟩,b,_⟩
   exact ⟨⟨a,b⟩,c⟩
 |d + 1,s=>by
  have ih:∀ l:List S70,l.all (iJ m d)=true ↔ (l.all (iJ 3 d)=true∧oF m l=true):=by
   intro l
   rw [BA,List.all_eq_true,List.all_eq_true,List.all_eq_true]
   constructor
   ·exact fun h=>⟨fun x hx=>((lZ m h0 h3 d x).mp (h x hx)).1,fun x hx=>((lZ m h0 h3 d x).mp (h x hx)).2⟩
   ·exact fun h x hx=>(lZ m h0 h3 d x).mpr ⟨h.1 x hx,h.2 x hx⟩
  simp only [iJ,Bool.and_eq_true,Bool.or_eq_true,EM m h0 h3 s,SH,ih]
  cases hb:oC s with
  |true=>
   simp only [Bool.not_true,Bool.false_eq_true,false_or]
   constructor
   ·rintro ⟨⟨a,b⟩,⟨c1,c2⟩,d1,d2⟩
    exact ⟨⟨a,c1,d1⟩,b,c2,d2⟩
   ·rintro ⟨⟨a,c1,d1⟩,b,c2,d2⟩
    exact ⟨⟨a,b⟩,⟨c1,c2⟩,d1,d2⟩
  |false=>
   simp only [Bool.not_false,true_or,and_true]
   constructor
   ·rintro ⟨a,b⟩
    have hf:=yX a (fun e=>by rw [(oM s).mpr e] at hb;cases hb)
    rw [yM] at hf
    have l4:=fG s.f4
    have l5:=fG s.f5
    rw [List.eq_nil_of_length_eq_zero (show s.f4.length=0 by omega),List.eq_nil_of_length_eq_zero (show s.f5.length=0 by omega)]
    exact ⟨a,b,by rw [oF],by rw [oF]⟩
   ·rintro ⟨a,b,_⟩
    exact ⟨a,b⟩
theorem PG (m:Int) (h0:0≤m) (h3:m≤3) (l:List S70):okT m l=(okT 3 l && oF m l):=by
 rw [Bool.eq_iff_iff,Bool.and_eq_true,yZ,yZ,BA]
 unfold okL
 rw [List.all_eq_true,List.all_eq_true,List.all_eq_true]
 constructor
 ·exact fun h=>⟨⟨fun x hx=>((lZ m h0 h3 3 x).mp (h.1 x hx)).1,h.2⟩,fun x hx=>((lZ m h0 h3 3 x).mp (h.1 x hx)).2⟩
 ·exact fun h=>⟨fun x hx=>(lZ m h0 h3 3 x).mpr ⟨h.1.1 x hx,h.2 x hx⟩,h.1.2⟩
def kI (rs:List Int) (ts:List (List S70)):Bool:=nL rs && (decide (1≤ts.length) && decide (ts.length≤3) && ts.all (okT (rs.length:Int)))
theorem EI {rs:List Int} (h:nL rs=true):(0:Int)≤rs.length∧(rs.length:Int)≤3:=by
 unfold nL at h
 rw [Bool.and_eq_true,decide_eq_true_eq] at h
 exact ⟨by omega,h.2⟩
def tJ (ts:List (List S70)):Prop:=ts.length≤1000000000∧∀ t ∈ ts,cSs t≤1000000000
theorem nN (rs:List Int) (ts:List (List S70)) (hr:rs.length≤1000000000) (ht:tJ ts):EvP (fun k=>aW.f k rs ts) (·=kI rs ts):=by
  obtain ⟨hl,ht⟩:=ht
  have loop:nL rs=true→∀ (d j:Nat),j + d=ts.length→EvP (fun k=>aW.l0 k ts (ts.length:Int) (j:Int) rs ts) (·=(ts.drop j).all (okT (rs.length:Int))):=by
    intro hro d
    induction d with
    |zero=>
      intro j hj
      refine EvP.step (fun k=>aW.l0.eq_2 (k:=k) ..) (EvP.no (by omega) (EvP.ret ?_))
      rw [List.drop_eq_nil_of_le (by omega)]
      rfl
    |succ d ih=>
      intro j hj
      have hlt:j < ts.length:=by omega
      refine EvP.step (fun k=>aW.l0.eq_2 (k:=k) ..) (EvP.yes (by omega) (EvP.yes (by omega) (EvP.yes (by omega) ?_)))
      rw [nO ts j hlt,w64 (by omega) (by omega),List.drop_eq_getElem_cons hlt,List.all_cons]
      refine EvP.bV (vR _ _ (ht _ (List.getElem_mem hlt))) (EvP.ite (fun h=>?_) (fun h=>EvP.ret ?_))
      · rw [h,Bool.true_and]
        exact ih (j + 1) (by omega)
      · rw [Bool.eq_false_iff.mpr h]
        rfl
  have j0:∀ b:Bool,(b=false→nL rs=true∧1≤ts.length∧ts.length≤3)→(b=true→kI rs ts=false)→EvP (fun k=>aW.j0 k b rs ts) (·=kI rs ts):=by
    intro b h1 h2
    refine EvP.step (fun k=>aW.j0.eq_2 (k:=k) ..) (EvP.ite (fun h=>EvP.ret (h2 h).symm) (fun h=>?_))
    obtain ⟨g1,g2,g3⟩:=h1 (Bool.eq_false_iff.mpr h)
    unfold kI
    rw [g1,decide_eq_true g2,decide_eq_true g3]
    exact loop g1 ts.length 0 (by omega)
  unfold aW.f
  refine EvP.bV (CV rs hr) (EvP.ite (fun h=>EvP.ite (fun h1=>j0 true (fun e=>by cases e) (fun _=>?_)) (fun h1=>j0 _ (fun e=>?_) (fun e=>?_))) (fun h=>j0 true (fun e=>by cases e) (fun _=>?_)))
  · unfold kI
    rw [decide_eq_false (by omega)]
    simp
  · have:=of_decide_eq_false e
    exact ⟨h,by omega,by omega⟩
  · have:=of_decide_eq_true e
    unfold kI
    rw [decide_eq_false (p:=ts.length≤3) (by omega)]
    simp
  · unfold kI
    rw [Bool.eq_false_iff.mpr h]
    rfl
theorem nQ (rs:List Int) (ts:List (List S70)) (hr:rs.length≤1000000000) (ht:tJ ts):EvP (fun k=>aQ.f k rs ts) (·=kI rs ts):=by
  obtain ⟨hl,ht⟩:=ht
  have loop:nL rs=true→∀ (d j:Nat),j + d=ts.length→EvP (fun k=>aQ.l0 k (j:Int) rs ts) (·=(ts.drop j).all (okT (rs.length:Int))):=by
    intro hro d
    obtain ⟨r0,r3⟩:=EI hro
    induction d with
    |zero=>
      intro j hj
      refine EvP.step (fun k=>aQ.l0.eq_2 (k:=k) ..) (EvP.no (by omega) (EvP.ret ?_))
      rw [List.drop_eq_nil_of_le (by omega)]
      rfl
    |succ d ih=>
      intro j hj
      have hlt:j < ts.length:=by omega
      refine EvP.step (fun k=>aQ.l0.eq_2 (k:=k) ..) (EvP.yes (by omega) (EvP.yes (by omega) ?_))
      rw [nO ts j hlt,w64 (by omega) (by omega),List.drop_eq_getElem_cons hlt,List.all_cons,PG _ r0 r3]
      refine EvP.bV (vV _ (ht _ (List.getElem_mem hlt))) (EvP.ite (fun h=>EvP.bV (xW _ _ _ (ht _ (List.getElem_mem hlt)) (by omega)) (EvP.ite (fun h2=>?_) (fun h2=>EvP.ret ?_))) (fun h=>EvP.ret ?_))
      · rw [h,h2,Bool.true_and,Bool.true_and]
        exact ih (j + 1) (by omega)
      · rw [h,Bool.eq_false_iff.mpr h2]
        rfl
      · rw [Bool.eq_false_iff.mpr h]
        rfl
  have j0:∀ b:Bool,(b=false→nL rs=true∧1≤ts.length∧ts.length≤3)→(b=true→kI rs ts=false)→EvP (fun k=>aQ.j0 k b rs ts) (·=kI rs ts):=by
    intro b h1 h2
    refine EvP.step (fun k=>aQ.j0.eq_2 (k:=k) ..) (EvP.ite (fun h=>EvP.ret (h2 h).symm) (fun h=>?_))
    obtain ⟨g1,g2,g3⟩:=h1 (Bool.eq_false_iff.mpr h)
    unfold kI
    rw [g1,decide_eq_true g2,decide_eq_true g3]
    exact loop g1 ts.length 0 (by omega)
  unfold aQ.f
  refine EvP.bV (DL rs hr) (EvP.ite (fun h=>?_) (fun h=>j0 true (fun e=>by cases e) (fun _=>?_)))
  · rw [oJ]
    refine EvP.gN rfl (j0 _ (fun e=>?_) (fun e=>?_))
    · rw [Bool.not_eq_false',Bool.and_eq_true,decide_eq_true_eq,decide_eq_true_eq] at e
      exact ⟨h,by omega,by omega⟩
    · unfold kI
      have e2:(decide (1≤ts.length) && decide (ts.length≤3))=false:=by
        rw [Bool.eq_false_iff]
        intro q
        rw [Bool.and_eq_true,decide_eq_true_eq,decide_eq_true_eq] at q
        rw [decide_eq_true (by omega),decide_eq_true (by omega)] at e
        cases e
      rw [e2]
      simp
  · unfold kI
    rw [Bool.eq_false_iff.mpr h]
    rfl
theorem BP {rs:List Int} {ts:List (List S70)}:kI rs ts=true ↔ nL rs=true∧1≤ts.length∧ts.length≤3∧∀ t ∈ ts,okT (rs.length:Int) t=true:=by
 unfold kI
 simp only [Bool.and_eq_true,decide_eq_true_eq,List.all_eq_true,and_assoc]
def sV (ts:List (List S66)):List (List S70):=ts.map mG
def lD:List (List S66)→Nat
 |[]=>0
 |t :: ts=>gF t + 1 + lD ts
theorem kX:∀ l:List (List S66),l.length≤lD l
 |[]=>Nat.zero_le _
 |x :: xs=>by
  have:=kX xs
  rw [lD,List.length_cons]
  omega
theorem uJ:∀ (l:List (List S66)) (x:List S66),x ∈ l→gF x≤lD l
 |y :: ys,x,h=>by
  rw [lD]
  rcases List.mem_cons.1 h with rfl|h
  ·omega
  ·have:=uJ ys x h
   omega
theorem MF (l:List (List S66)) (i:Nat) (h:i < l.length):lD (l.drop i)=gF l[i] + 1 + lD (l.drop (i + 1)):=by
 rw [List.drop_eq_getElem_cons h,lD]
theorem EG (l:List (List S66)) (i:Nat) (h:i < l.length):rM l (i:Int)=l[i]:=by
 unfold rM
 rw [Int.toNat_natCast,List.getD_eq_getElem?_getD,List.getElem?_eq_getElem h]
 rfl
theorem LC (l:List (List S66)) (hl:l.length≤1048576) (he:∀ x ∈ l,x.length≤maxLen∧∀ y ∈ x,yL y):
    ∀ (d j:Nat) (n:Int),j + d=l.length→0≤n→n≤1048576→EvP (fun k=>dB.l0 k l n (j:Int)) (·=lefts (lD (l.drop j) - d) n):=by
  intro d
  induction d with
  |zero=>
    intro j n hj h0 h1
    refine EvP.step (fun k=>dB.l0.eq_2 (k:=k) ..) (EvP.no (by omega) (EvP.ret ?_))
    rw [List.drop_eq_nil_of_le (by omega)]
    unfold lefts
    rw [if_pos (by simp [lD];omega)]
    simp [lD]
  |succ d ih=>
    intro j n hj h0 h1
    have hlt:j < l.length:=by omega
    have hc:=MF l j hlt
    have hd:d≤lD (l.drop (j + 1)):=by
      have:=kX (l.drop (j + 1))
      rw [List.length_drop] at this
      omega
    obtain ⟨w1,w2⟩:=he _ (List.getElem_mem hlt)
    refine EvP.step (fun k=>dB.l0.eq_2 (k:=k) ..) (EvP.yes (by omega) (EvP.yes (by omega) ?_))
    rw [EG l j hlt,w64 (n:=(j:Int) + 1) (by omega) (by omega)]
    refine EvP.bV (MS _ w1 w2 n h0 h1) ?_
    by_cases h2:(gF l[j]:Int)≤n
    · have e:lefts (gF l[j]) n=n - gF l[j]:=if_pos h2
      rw [e]
      refine EvP.no (by omega) ?_
      refine (ih (j + 1) (n - gF l[j]) (by omega) (by omega) (by omega)).mono fun a ha=>?_
      rw [ha]
      unfold lefts
      by_cases h3:((lD (l.drop (j + 1)) - d:Nat):Int)≤n - gF l[j]
      · rw [if_pos h3,if_pos (by omega)]
        omega
      · rw [if_neg h3,if_neg (by omega)]
    · have e:lefts (gF l[j]) n= -1:=if_neg h2
      rw [e]
      refine EvP.yes (by omega) (EvP.ret ?_)
      unfold lefts
      rw [if_neg (by omega)]
theorem LB (l:List (List S66)) (hl:l.length≤maxLen) (he:∀ x ∈ l,x.length≤maxLen∧∀ y ∈ x,yL y) (n:Int) (h0:0≤n) (h1:n≤1048576):
    EvP (fun k=>dB.f k l n) (·=lefts (lD l) n):=by
  have hm:maxLen=9223372036854775807:=rfl
  have hc:=kX l
  unfold dB.f
  rw [w64 (by omega) (by omega)]
  refine EvP.ite (fun h=>EvP.ret ?_) (fun h=>?_)
  · unfold lefts
    rw [if_neg (by omega)]
  · refine (LC l (by omega) he l.length 0 (n - l.length) (by omega) (by omega) (by omega)).mono fun a ha=>?_
    rw [ha,List.drop_zero]
    unfold lefts
    by_cases h3:((lD l - l.length:Nat):Int)≤n - l.length
    · rw [if_pos h3,if_pos (by omega)]
      omega
    · rw [if_neg h3,if_neg (by omega)]
theorem GU (rs:List Int) (ts:List (List S66)) (hr:rs.length≤maxLen) (hl:ts.length≤maxLen) (he:∀ x ∈ ts,x.length≤maxLen∧∀ y ∈ x,yL y):
  EvP (fun k=>gG.f k rs ts 1048576) (fun r=>r < 0∨(rs.length≤1048576∧lD ts≤1048576)):=by
 have hm:maxLen=9223372036854775807:=rfl
 unfold gG.f
 refine EvP.gN (PU rs 1048576 (by omega) (by omega) (by omega)) ?_
 by_cases h:(1048576:Int) - rs.length < 0
 ·rw [if_pos h]
  exact EvP.yes (by omega) (EvP.ret (.inl (by omega)))
 ·rw [if_neg h]
  refine EvP.no h (EvP.bV (LB ts hl he _ (by omega) (by omega)) (EvP.ite (fun h2=>EvP.ret (.inl (by omega))) (fun h2=>EvP.ret (.inr ⟨by omega,?_⟩))))
  unfold lefts at h2
  by_cases h3:(lD ts:Int)≤1048576 - rs.length
  ·omega
  ·rw [if_neg h3] at h2
   omega
theorem LG (l:List (List S66)) (hl:l.length≤1048576) (he:∀ x ∈ l,gF x≤1048576):
    ∀ (d j:Nat) (m:List (List S70)),j + d=l.length→m.length=l.length→EvP (fun k=>fK.l0 k l m (j:Int)) (·=m.take j ++ sV (l.drop j)):=by
  intro d
  induction d with
  |zero=>
    intro j m hj hm
    refine EvP.step (fun k=>fK.l0.eq_2 (k:=k) ..) (EvP.no (by omega) (EvP.ret ?_))
    rw [List.drop_eq_nil_of_le (by omega),List.take_of_length_le (by omega)]
    simp [sV]
  |succ d ih=>
    intro j m hj hm
    have hlt:j < l.length:=by omega
    refine EvP.step (fun k=>fK.l0.eq_2 (k:=k) ..) (EvP.yes (by omega) (EvP.yes (by omega) ?_))
    rw [EG l j hlt,w64 (n:=(j:Int) + 1) (by omega) (by omega),Int.toNat_natCast]
    refine EvP.bV (MX _ (he _ (List.getElem_mem hlt))) (EvP.yes (by omega) ?_)
    refine (ih (j + 1) (m.set j (mG l[j])) (by omega) (by rw [List.length_set];exact hm)).mono fun a ha=>?_
    rw [ha,List.take_succ_eq_append_getElem (by rw [List.length_set];omega),List.getElem_set_self,List.take_set_of_le (by omega),List.append_assoc,List.drop_eq_getElem_cons hlt]
    rfl
theorem LD (l:List (List S66)) (hc:lD l≤1048576):EvP (fun k=>fK.f k l) (·=sV l):=by
  have hl:=kX l
  unfold fK.f
  refine EvP.yes (by omega) (EvP.yes (by omega) ?_)
  exact LG l (by omega) (fun x hx=>by have:=uJ l x hx;omega) l.length 0 _ (by omega) (by rw [List.length_replicate];omega)
theorem GV (rs:List Int) (ts:List (List S66)) (hr:rs.length≤1048576) (hc:lD ts≤1048576):EvP (fun k=>gY.f k rs ts) (·=(rs,sV ts)):=by
  unfold gY.f
  exact EvP.bV (PY rs (by omega)) (EvP.bV (LD ts hc) (EvP.ret rfl))
theorem IQ (l:List (List S66)) (hl:l.length≤1048576) (he:∀ x ∈ l,gF x≤1048576):
    ∀ (d j:Nat),j + d=l.length→EvP (fun k=>bL.l0 k (sV l) (sV l) (j:Int)) (·=true):=by
  intro d
  have hlen:(sV l).length=l.length:=List.length_map ..
  induction d with
  |zero=>
    intro j hj
    exact EvP.step (fun k=>bL.l0.eq_2 (k:=k) ..) (EvP.no (by omega) (EvP.ret rfl))
  |succ d ih=>
    intro j hj
    have hlt:j < l.length:=by omega
    refine EvP.step (fun k=>bL.l0.eq_2 (k:=k) ..) (EvP.yes (by omega) (EvP.yes (by omega) (EvP.yes (by omega) ?_)))
    rw [nO _ j (by omega),w64 (n:=(j:Int) + 1) (by omega) (by omega),show (sV l)[j]'(by omega)=mG l[j] from List.getElem_map ..]
    exact EvP.bV (CJ _ (he _ (List.getElem_mem hlt))) (EvP.yes rfl (ih (j + 1) (by omega)))
theorem FM (rs:List Int) (ts:List (List S66)) (hr:rs.length≤1048576) (hc:lD ts≤1048576):EvP (fun k=>eP.f k rs (sV ts) rs (sV ts)) (·=true):=by
  have hl:=kX ts
  unfold eP.f
  refine EvP.bV (DY rs rs (by omega)) (EvP.yes (by simp) (EvP.bV ?_ (EvP.yes rfl (EvP.ret rfl))))
  unfold bL.f
  exact EvP.yes rfl (IQ ts (by omega) (fun x hx=>by have:=uJ ts x hx;omega) ts.length 0 (by omega))
theorem KY (ts:List (List S66)) (hc:lD ts≤1048576):tJ (sV ts):=by
 have hl:=kX ts
 refine ⟨by rw [show (sV ts).length=ts.length from List.length_map ..];omega,fun t ht=>?_⟩
 obtain ⟨x,hx,rfl⟩:=List.mem_map.mp ht
 have h1:=uJ ts x hx
 have h2:=aBk x
 omega
def mSS:List (List S70)→Nat
 |[]=>0
 |x :: xs=>mSs x + mSS xs
def yO:List (List S70)→Int→List (List S70)
 |[],_=>[]
 |x :: xs,n=>sU x n :: yO xs (n + mSs x)
theorem yC:∀ (l:List (List S70)) (n:Int),(yO l n).length=l.length
 |[],_=>rfl
 |x :: xs,n=>by rw [yO,List.length_cons,List.length_cons,yC xs]
theorem KI (l:List (List S70)) (i:Nat) (h:i < l.length):mSS (l.drop i)=mSs l[i] + mSS (l.drop (i + 1)):=by
 rw [List.drop_eq_getElem_cons h,mSS]
theorem CZ (l:List (List S70)) (hL:l.length≤1048576):
    ∀ (d j:Nat) (m:List (List S70)) (n:Int),j + d=l.length→m.length=l.length→m.drop j=l.drop j→0≤n→n + mSS (l.drop j)≤1099511627776→EvP (fun k=>fA.l0 k m n (j:Int)) (·=(n + mSS (l.drop j),m.take j ++ yO (l.drop j) n)):=by
  intro d
  induction d with
  |zero=>
    intro j m n hj hm hd h0 h1
    refine EvP.step (fun k=>fA.l0.eq_2 (k:=k) ..) (EvP.no (by omega) (EvP.ret ?_))
    rw [List.drop_eq_nil_of_le (by omega),List.take_of_length_le (by omega),mSS,yO]
    simp
  |succ d ih=>
    intro j m n hj hm hd h0 h1
    have hlt:j < l.length:=by omega
    have hc:=KI l j hlt
    have hg:m[j]'(by omega)=l[j]:=by
      have h2:=congrArg (·[0]?) hd
      simp only [List.getElem?_drop,Nat.add_zero] at h2
      rw [List.getElem?_eq_getElem (by omega),List.getElem?_eq_getElem hlt] at h2
      exact Option.some.inj h2
    refine EvP.step (fun k=>fA.l0.eq_2 (k:=k) ..) (EvP.yes (by omega) (EvP.yes (by omega) ?_))
    rw [nO m j (by omega),hg,w64 (n:=(j:Int) + 1) (by omega) (by omega),Int.toNat_natCast]
    refine EvP.bV (GD _ n (by omega) (by omega)) ?_
    dsimp only
    refine (ih (j + 1) (m.set j _) _ (by omega) (by rw [List.length_set];exact hm) ?_ (by omega) (by omega)).mono fun a ha=>?_
    · rw [List.drop_set_of_lt (by omega),← List.drop_drop,hd,List.drop_drop]
    · rw [ha,List.take_succ_eq_append_getElem (by rw [List.length_set];omega),List.getElem_set_self,List.take_set_of_le (by omega),List.append_assoc,List.drop_eq_getElem_cons hlt,mSS,yO]
      refine Prod.ext ?_ rfl
      show n + (mSs l[j]:Int) + (mSS (l.drop (j + 1)):Int)=n + ((mSs l[j] + mSS (l.drop (j + 1)):Nat):Int)
      omega
theorem CY (l:List (List S70)) (hL:l.length≤1048576) (n:Int) (h0:0≤n) (h1:n + mSS l≤1099511627776):EvP (fun k=>fA.f k l n) (·=(n + mSS l,yO l n)):=by
  unfold fA.f
  exact CZ l hL l.length 0 l n (by omega) rfl rfl h0 h1
theorem CO (l:List (List S70)) (hL:l.length≤1048576):
    ∀ (d j:Nat) (m:List (List S70)) (n:Int),j + d=l.length→m.length=l.length→m.drop j=yO (l.drop j) n→0≤n→n + mSS (l.drop j)≤1099511627776→EvP (fun k=>bW.l0 k m n (j:Int)) (·=n + mSS (l.drop j)):=by
  intro d
  induction d with
  |zero=>
    intro j m n hj hm hd h0 h1
    refine EvP.step (fun k=>bW.l0.eq_2 (k:=k) ..) (EvP.no (by omega) (EvP.ret ?_))
    rw [List.drop_eq_nil_of_le (by omega),mSS]
    simp
  |succ d ih=>
    intro j m n hj hm hd h0 h1
    have hlt:j < l.length:=by omega
    have hc:=KI l j hlt
    rw [List.drop_eq_getElem_cons (show j < m.length by omega),List.drop_eq_getElem_cons hlt,yO] at hd
    injection hd with hg hd
    refine EvP.step (fun k=>bW.l0.eq_2 (k:=k) ..) (EvP.yes (by omega) (EvP.yes (by omega) ?_))
    rw [nO m j (by omega),hg,w64 (n:=(j:Int) + 1) (by omega) (by omega)]
    refine EvP.bV (FR _ n (by omega) (by omega)) (EvP.no (by omega) ?_)
    refine (ih (j + 1) m _ (by omega) hm hd (by omega) (by omega)).mono fun a ha=>?_
    rw [ha]
    omega
theorem CK (l:List (List S70)) (hL:l.length≤1048576) (n:Int) (h0:0≤n) (h1:n + mSS l≤1099511627776):EvP (fun k=>bW.f k (yO l n) n) (·=n + mSS l):=by
  unfold bW.f
  exact CO l hL l.length 0 _ n (by omega) (yC l n) rfl h0 h1
theorem tY (a:List Int) (b:List (List S70)) (ha:a.length≤1048576) (hb:b.length≤1048576) (hm:mSS b≤100000000):EvP (fun k=>gQ.f k a b 1) (·=((1:Int) + a.length + mSS b,marked a.length 1,yO b ((1:Int) + a.length))):=by
  unfold gQ.f
  exact EvP.bV (KM a 1 (by omega) (by omega) (by omega)) (EvP.bV (CY b hb _ (by omega) (by omega)) (EvP.ret rfl))
theorem BI (a:List Int) (b:List (List S70)) (ha:a.length≤1048576) (hb:b.length≤1048576) (hm:mSS b≤100000000):EvP (fun k=>fP.f k (marked a.length 1) (yO b ((1:Int) + a.length)) 1) (·=(1:Int) + a.length + mSS b):=by
  unfold fP.f
  exact EvP.bV (KE a.length 1 (by omega) (by omega) (by omega)) (EvP.no (by omega) (EvP.bV (CK b hb _ (by omega) (by omega)) (EvP.no (by omega) (EvP.ret rfl))))
theorem KJ:∀ ts:List (List S66),mSS (sV ts)≤5 * lD ts
 |[]=>Nat.zero_le _
 |x :: xs=>by
  have h1:=TM x
  have h2:=KJ xs
  show mSs (mG x) + mSS (sV xs)≤5 * lD (x :: xs)
  rw [lD]
  omega
theorem TK (b:Nat):∀ ts:List (List S70),(∀ t ∈ ts,mSs t≤b)→mSS ts≤b * ts.length
 |[],_=>Nat.zero_le _
 |x :: xs,h=>by
  have h1:=h x List.mem_cons_self
  have h2:=TK b xs (fun t ht=>h t (List.mem_cons_of_mem _ ht))
  rw [mSS,List.length_cons,Nat.mul_succ]
  omega
theorem IU (ts:List (List S70)) (hl:ts.length≤1048576) (h:∀ t ∈ ts,EvP (fun k=>aZ.f k t t) (·=true)):EvP (fun k=>bL.f k ts ts) (·=true):=by
  unfold bL.f
  refine EvP.yes rfl ?_
  have loop:∀ (d j:Nat),j + d=ts.length→EvP (fun k=>bL.l0 k ts ts (j:Int)) (·=true):=by
    intro d
    induction d with
    |zero=>
      intro j hj
      exact EvP.step (fun k=>bL.l0.eq_2 (k:=k) ..) (EvP.no (by omega) (EvP.ret rfl))
    |succ d ih=>
      intro j hj
      have hlt:j < ts.length:=by omega
      refine EvP.step (fun k=>bL.l0.eq_2 (k:=k) ..) (EvP.yes (by omega) (EvP.yes (by omega) (EvP.yes (by omega) ?_)))
      rw [nO _ j hlt,w64 (n:=(j:Int) + 1) (by omega) (by omega)]
      exact EvP.bV (h _ (List.getElem_mem hlt)) (EvP.yes rfl (ih (j + 1) (by omega)))
  exact loop ts.length 0 (by omega)
theorem wO (rs:List Int) (ts:List (List S70)) (hr:rs.length≤1048576) (hl:ts.length≤1048576) (h:∀ t ∈ ts,EvP (fun k=>aZ.f k t t) (·=true)):EvP (fun k=>eP.f k rs ts rs ts) (·=true):=by
  unfold eP.f
  exact EvP.bV (DY rs rs (by omega)) (EvP.yes (by simp) (EvP.bV (IU ts hl h) (EvP.yes rfl (EvP.ret rfl))))
theorem FJ {x:X} (h:x.ok):(emb x).f0=0 ↔ ∃ n,x= .num n:=by
 cases x with
 |num n=>exact ⟨fun _=>⟨n,rfl⟩,fun _=>rfl⟩
 |var v=>
  refine ⟨fun e=>?_,fun ⟨n,e⟩=>by cases e⟩
  simp [emb] at e
 |bin op a b=>
  refine ⟨fun e=>?_,fun ⟨n,e⟩=>by cases e⟩
  have e:op=0:=e
  have ho:=h.1
  omega
theorem mZ:∀ x:X,x.ok→EvP (fun k=>bI.f k (emb x).f0 (emb x).f1 (emb x).f2) (·=tri (emb x.fold))
  | .num n,h=>EvP.step (fun k=>bI.f.eq_2 (k:=k) ..) (EvP.yes rfl (EvP.ret rfl))
  | .var v,h=>EvP.step (fun k=>bI.f.eq_2 (k:=k) ..) (EvP.yes rfl (EvP.ret rfl))
  | .bin op a b,h=>by
    have ha:=X.oI a h.2.1
    have hb:=X.oI b h.2.2
    have he:(X.bin op a b).fold=X.rH op a.fold b.fold:=rfl
    rw [he]
    refine EvP.step (fun k=>bI.f.eq_2 (k:=k) ..) (EvP.no (by simp [emb]) (EvP.yes (by simp [emb]) ?_))
    refine EvP.bV (mZ a h.2.1) (EvP.yes (by simp [emb]) (EvP.bV (mZ b h.2.2) ?_))
    generalize a.fold=x at ha ⊢
    generalize b.fold=y at hb ⊢
    simp only [tri]
    have stay:(¬ ∃ m n,x= .num m∧y= .num n)→X.rH op x y= .bin op x y:=fun hn=>X.IX fun m n e1 e2=>absurd ⟨m,n,e1,e2⟩ hn
    refine EvP.ite (fun hx=>?_) (fun hx=>?_)
    · obtain ⟨m,rfl⟩:=(FJ ha).1 hx
      refine EvP.step (fun k=>bI.j0.eq_2 (k:=k) ..) (EvP.ite (fun hy=>?_) (fun hy=>EvP.ret ?_))
      · obtain ⟨n,rfl⟩:=(FJ hb).1 (by simpa using hy)
        refine EvP.gN (CU _ _ _) ?_
        simp only [emb,X.rH]
        refine EvP.ite (fun h1=>EvP.ite (fun h2=>EvP.ret ?_) (fun h2=>EvP.ret ?_)) (fun h1=>EvP.ret ?_)
        · rw [if_pos ⟨h1,h2⟩]
          rfl
        · rw [if_neg (fun e=>h2 e.2)]
          rfl
        · rw [if_neg (fun e=>h1 e.1)]
          rfl
      · rw [stay (fun ⟨m',n,_,e⟩=>hy (by rw [e];rfl))]
        simp only [emb,vM]
    · refine EvP.step (fun k=>bI.j0.eq_2 (k:=k) ..) (EvP.no (by simp) (EvP.ret ?_))
      rw [stay (fun ⟨m',n,e,_⟩=>hx (by rw [e];rfl))]
      simp only [emb,vM]
theorem pG:∀ x:X,x.ok→EvP (fun k=>dA.f k (emb x).f0 (emb x).f1 (emb x).f2) (·=tri (emb x.fold))
  | .num n,h=>EvP.step (fun k=>dA.f.eq_2 (k:=k) ..) (EvP.yes rfl (EvP.gN rfl (EvP.ret rfl)))
  | .var v,h=>EvP.step (fun k=>dA.f.eq_2 (k:=k) ..) (EvP.yes rfl (EvP.gN rfl (EvP.ret rfl)))
  | .bin op a b,h=>by
    have ha:=X.oI a h.2.1
    have hb:=X.oI b h.2.2
    have he:(X.bin op a b).fold=X.rH op a.fold b.fold:=rfl
    rw [he]
    refine EvP.step (fun k=>dA.f.eq_2 (k:=k) ..) (EvP.no (by simp [emb]) (EvP.yes (by simp [emb]) ?_))
    refine EvP.bV (pG a h.2.1) (EvP.yes (by simp [emb]) (EvP.bV (pG b h.2.2) ?_))
    generalize a.fold=x at ha ⊢
    generalize b.fold=y at hb ⊢
    simp only [tri]
    have stay:(¬ ∃ m n,x= .num m∧y= .num n)→X.rH op x y= .bin op x y:=fun hn=>X.IX fun m n e1 e2=>absurd ⟨m,n,e1,e2⟩ hn
    refine EvP.ite (fun hx=>?_) (fun hx=>?_)
    · obtain ⟨m,rfl⟩:=(FJ ha).1 hx
      refine EvP.step (fun k=>dA.j0.eq_2 (k:=k) ..) (EvP.ite (fun hy=>?_) (fun hy=>EvP.gN rfl (EvP.ret ?_)))
      · obtain ⟨n,rfl⟩:=(FJ hb).1 (by simpa using hy)
        have hm:0≤m∧m≤99999:=ha
        have hn:0≤n∧n≤99999:=hb
        refine EvP.bV (DI _ _ _ h.1 (WI.2 (by simp only [emb];omega)) (WI.2 (by simp only [emb];omega))) (EvP.gN (oJ _ _ _) ?_)
        simp only [emb,X.rH]
        refine EvP.ite (fun h1=>EvP.gN rfl (EvP.ret ?_)) (fun h1=>EvP.gN rfl (EvP.ret ?_))
        · rw [Bool.and_eq_true] at h1
          rw [if_pos ⟨of_decide_eq_true h1.1,of_decide_eq_true h1.2⟩]
          rfl
        · rw [Bool.and_eq_true] at h1
          rw [if_neg (fun e=>h1 ⟨decide_eq_true e.1,decide_eq_true e.2⟩)]
          rfl
      · rw [stay (fun ⟨m',n,_,e⟩=>hy (by rw [e];rfl))]
        simp only [emb,vM]
    · refine EvP.step (fun k=>dA.j0.eq_2 (k:=k) ..) (EvP.no (by simp) (EvP.gN rfl (EvP.ret ?_)))
      rw [stay (fun ⟨m',n,e,_⟩=>hx (by rw [e];rfl))]
      simp only [emb,vM]
def Bytes (b:List Int):Prop:=b.length≤2000∧∀ x ∈ b,0≤x∧x≤255
theorem Bytes.rd {b:List Int} (h:Bytes b) (i:Int) (h0:0≤i) (h1:i < b.length):0≤Go.Proofs.YthiegfpcfedbgaaW.PrintWords.rd b i∧Go.Proofs.YthiegfpcfedbgaaW.PrintWords.rd b i≤255:=h.2 _ (aBu b i h0 h1)
set_option linter.unusedSimpArgs false
theorem lX (l:List ST):l.length≤cT l:=by
 have h:=fG (dF l)
 rw [iE] at h
 exact h
theorem IL (l:List ST) (j:Nat):cT (l.take j) + cT (l.drop j)=cT l:=by
 rw [← xH,List.take_append_drop]
theorem OI (l:List ST) (j:Nat) (h:j < l.length):aG (dF l) (j:Int)=nT l[j]:=by
 rw [pR _ j (by rw [iE];exact h),DX l j h]
theorem OG (kd va bx:Int) (y:X) (hy:y.ok) (b e:List ST):
  wW kd va bx y b e=if kd=2∧(emb y).f0=0∧(emb y).f1≠0 then b else if kd=2∧(emb y).f0=0 then e else if kd=3∧(emb y).f0=0∧(emb y).f1=0 then [] else [⟨kd,va,bx,y,b,e⟩]:=by
 unfold wW
 cases y with
 |num n=>
  by_cases h2:kd=2
  ·subst h2
   by_cases hn:n=0 <;> simp [emb,hn]
  ·by_cases h3:kd=3
   ·subst h3
    by_cases hn:n=0 <;> simp [emb,hn]
   ·simp [emb,h2,h3]
 |var v=>by_cases h2:kd=2 <;> by_cases h3:kd=3 <;> simp [emb,h2,h3]
 |bin o p q=>
  have ho:o≠0:=by have:=hy.1;omega
  by_cases h2:kd=2 <;> by_cases h3:kd=3 <;> simp [emb,h2,h3,ho]
theorem wU:∀ (c:Nat) (l:List ST),(∀ t ∈ l,AX t)→cT l≤c→c≤1000000000→EvP (fun k=>aM.f k (dF l)) (·=dF (fM l)):=by
  intro c
  induction c with
  |zero=>
    intro l _ hl hc
    have:=lX l
    obtain rfl:=List.eq_nil_of_length_eq_zero (show l.length=0 by omega)
    refine EvP.step (fun k=>aM.f.eq_2 (k:=k) ..) (EvP.step (fun k=>aM.l0.eq_2 (k:=k) ..) (EvP.no (by rw [dF];simp) (EvP.ret ?_)))
    rw [fM,dF]
  |succ c ih=>
    intro l ha hl hc
    have hlen:=iE l
    have loop:∀ (r j:Nat) (acc:List ST),j + r=l.length→acc.length + cT (l.drop j)≤2000000000→EvP (fun k=>aM.l0 k (dF acc) (dF l) ((dF l).length:Int) (j:Int)) (·=dF (acc ++ fM (l.drop j))):=by
      intro r
      induction r with
      |zero=>
        intro j acc hj h1
        refine EvP.step (fun k=>aM.l0.eq_2 (k:=k) ..) (EvP.no (by omega) (EvP.ret ?_))
        rw [List.drop_eq_nil_of_le (by omega),fM,List.append_nil]
      |succ r ih2=>
        intro j acc hj h1
        have hlt:j < l.length:=by omega
        have hl2:=lX l
        have hsp:=IL l j
        have hd:=List.drop_eq_getElem_cons hlt
        have hcd:cT (l.drop j)=cT l[j].b + cT l[j].e + 1 + cT (l.drop (j + 1)):=by rw [hd,FD]
        have hrd:=OI l j hlt
        have hat:=ha _ (List.getElem_mem hlt)
        have hft:=BF l[j]
        rw [xI] at hft
        have hfl:=lX (mU l[j])
        have hb1:=lX (fM l[j].b)
        have hb2:=uI l[j].b
        have he1:=lX (fM l[j].e)
        have he2:=uI l[j].e
        generalize l[j]=t at *
        obtain ⟨hok,_,hab,hae⟩:t.x.ok∧t.x.depth≤5∧(∀ y ∈ t.b,AX y)∧(∀ y ∈ t.e,AX y):=by
          cases hat with
          |mk _ a b c d=>exact ⟨a,b,c,d⟩
        refine EvP.step (fun k=>aM.l0.eq_2 (k:=k) ..) (EvP.yes (by omega) (EvP.yes (by omega) (EvP.yes (by omega) ?_)))
        rw [hrd,xK t]
        dsimp only
        refine EvP.bV (ih _ hab (by omega) (by omega)) (EvP.bV (ih _ hae (by omega) (by omega)) (EvP.bV (mZ _ hok) ?_))
        have hyo:=X.oI _ hok
        have hf:mU t=_:=(yY t).trans (OG _ _ _ _ hyo _ _)
        have next:∀ p:List ST,mU t=p→EvP (fun k=>aM.l0 k (dF acc ++ dF p) (dF l) ((dF l).length:Int) ((j:Int) + 1)) (·=dF (acc ++ fM (l.drop j))):=by
          rintro p rfl
          rw [← oH]
          refine (ih2 (j + 1) (acc ++ mU t) (by omega) (by rw [List.length_append];omega)).mono fun b hb=>?_
          rw [hb,hd,fM,List.append_assoc]
        have la:=iE acc
        have lb:=iE (fM t.b)
        have le:=iE (fM t.e)
        dsimp only [tri]
        have one:mU t=[⟨t.kd,t.va,t.bx,t.x.fold,fM t.b,fM t.e⟩]→EvP (fun k=>aM.l0 k (dF acc ++ [(⟨t.kd,t.va,t.bx,⟨(emb t.x.fold).f0,(emb t.x.fold).f1,(emb t.x.fold).f2⟩,dF (fM t.b),dF (fM t.e)⟩:S70)]) (dF l) ((dF l).length:Int) ((j:Int) + 1)) (·=dF (acc ++ fM (l.drop j))):=by
          intro h
          have h2:=next _ h
          rw [dF,dF,nT] at h2
          rw [vM]
          exact h2
        clear ih ih2
        by_cases h2:t.kd=2
        · refine EvP.yes h2 ?_
          by_cases ho:(emb t.x.fold).f0=0
          · refine EvP.yes ho (EvP.step (fun k=>aM.j1.eq_2 (k:=k) ..) ?_)
            by_cases hn:(emb t.x.fold).f1=0
            · refine EvP.no (by simp [hn]) (EvP.yes h2 (EvP.step (fun k=>aM.j2.eq_2 (k:=k) ..) (EvP.yes (by simp [ho]) (EvP.yes (by omega) ?_))))
              rw [w64 (n:=(j:Int) + 1) (by omega) (by omega)]
              exact next _ (by rw [hf,if_neg (fun e=>e.2.2 hn),if_pos ⟨h2,ho⟩])
            · refine EvP.yes (by simp [hn]) (EvP.yes (by omega) ?_)
              rw [w64 (n:=(j:Int) + 1) (by omega) (by omega)]
              exact next _ (by rw [hf,if_pos ⟨h2,ho,hn⟩])
          · refine EvP.no ho (EvP.step (fun k=>aM.j1.eq_2 (k:=k) ..) (EvP.no (by simp) (EvP.yes h2 (EvP.step (fun k=>aM.j2.eq_2 (k:=k) ..) (EvP.no (by simp [ho]) (EvP.no (by omega) (EvP.yes (by omega) ?_)))))))
            rw [w64 (n:=(j:Int) + 1) (by omega) (by omega)]
            exact one (by rw [hf,if_neg (fun e=>ho e.2.1),if_neg (fun e=>ho e.2),if_neg (fun e=>ho e.2.1)])
        · refine EvP.no h2 (EvP.step (fun k=>aM.j1.eq_2 (k:=k) ..) (EvP.no (by simp) (EvP.no h2 (EvP.step (fun k=>aM.j2.eq_2 (k:=k) ..) (EvP.no (by simp) ?_)))))
          rw [w64 (n:=(j:Int) + 1) (by omega) (by omega)]
          by_cases h3:t.kd=3
          · refine EvP.yes h3 ?_
            by_cases ho:(emb t.x.fold).f0=0
            · refine EvP.yes (by simp [ho]) ?_
              by_cases hn:(emb t.x.fold).f1=0
              · refine EvP.yes hn ?_
                have h4:=next [] (by rw [hf,if_neg (fun e=>h2 e.1),if_neg (fun e=>h2 e.1),if_pos ⟨h3,ho,hn⟩])
                rw [dF,List.append_nil] at h4
                exact h4
              · exact EvP.no hn (EvP.yes (by omega) (one (by rw [hf,if_neg (fun e=>h2 e.1),if_neg (fun e=>h2 e.1),if_neg (fun e=>hn e.2.2)])))
            · exact EvP.no (by simp [ho]) (EvP.yes (by omega) (one (by rw [hf,if_neg (fun e=>h2 e.1),if_neg (fun e=>h2 e.1),if_neg (fun e=>ho e.2.1)])))
          · exact EvP.no h3 (EvP.yes (by omega) (one (by rw [hf,if_neg (fun e=>h2 e.1),if_neg (fun e=>h2 e.1),if_neg (fun e=>h3 e.1)])))
    refine EvP.step (fun k=>aM.f.eq_2 (k:=k) ..) ?_
    have h:=loop l.length 0 [] (by omega) (by rw [List.drop_zero];simp;omega)
    rw [List.drop_zero,List.nil_append,dF] at h
    exact h
theorem vX (t:ST) (hok:t.x.ok) (hb:EvP (fun k=>aX.f k (dF t.b)) (·=dF (fM t.b))) (he:EvP (fun k=>aX.f k (dF t.e)) (·=dF (fM t.e))):
    EvP (fun k=>fB.f k (nT t)) (·=dF (mU t)):=by
  refine EvP.step (fun k=>fB.f.eq_2 (k:=k) ..) ?_
  rw [xK t]
  dsimp only
  refine EvP.bV (pG _ hok) (EvP.bV hb (EvP.bV he (EvP.ret ?_)))
  have hyo:=X.oI _ hok
  rw [yY,OG _ _ _ _ hyo]
  dsimp only [tri,ED]
  by_cases h2:t.kd=2
  · by_cases ho:(emb t.x.fold).f0=0
    · by_cases hn:(emb t.x.fold).f1=0 <;> simp [h2,ho,hn]
    · simp [h2,ho,dF,nT,vM]
  · by_cases h3:t.kd=3
    · by_cases ho:(emb t.x.fold).f0=0
      · by_cases hn:(emb t.x.fold).f1=0
        · simp [h3,ho,hn,dF]
        · simp [h3,ho,hn,dF,nT]
          rw [← ho,vM]
      · simp [h3,ho,dF,nT,vM]
    · simp [h2,h3,dF,nT,vM]
theorem vW:∀ (c:Nat) (l:List ST),(∀ t ∈ l,AX t)→cT l≤c→c≤1000000000→EvP (fun k=>aX.f k (dF l)) (·=dF (fM l)):=by
  intro c
  induction c with
  |zero=>
    intro l _ hl hc
    have:=lX l
    obtain rfl:=List.eq_nil_of_length_eq_zero (show l.length=0 by omega)
    refine EvP.step (fun k=>aX.f.eq_2 (k:=k) ..) (EvP.step (fun k=>aX.l0.eq_2 (k:=k) ..) (EvP.no (by rw [dF];simp) (EvP.ret ?_)))
    rw [fM,dF]
  |succ c ih=>
    intro l ha hl hc
    have hlen:=iE l
    have loop:∀ (r j:Nat) (acc:List ST),j + r=l.length→acc.length + cT (l.drop j)≤2000000000→EvP (fun k=>aX.l0 k (dF l) (dF acc) (j:Int)) (·=dF (acc ++ fM (l.drop j))):=by
      intro r
      induction r with
      |zero=>
        intro j acc hj h1
        refine EvP.step (fun k=>aX.l0.eq_2 (k:=k) ..) (EvP.no (by omega) (EvP.ret ?_))
        rw [List.drop_eq_nil_of_le (by omega),fM,List.append_nil]
      |succ r ih2=>
        intro j acc hj h1
        have hlt:j < l.length:=by omega
        have hl2:=lX l
        have hsp:=IL l j
        have hd:=List.drop_eq_getElem_cons hlt
        have hcd:cT (l.drop j)=cT l[j].b + cT l[j].e + 1 + cT (l.drop (j + 1)):=by rw [hd,FD]
        have hrd:=OI l j hlt
        have hat:=ha _ (List.getElem_mem hlt)
        have hft:=BF l[j]
        rw [xI] at hft
        have hfl:=lX (mU l[j])
        generalize l[j]=t at *
        obtain ⟨hok,_,hab,hae⟩:t.x.ok∧t.x.depth≤5∧(∀ y ∈ t.b,AX y)∧(∀ y ∈ t.e,AX y):=by
          cases hat with
          |mk _ a b c d=>exact ⟨a,b,c,d⟩
        have la:=iE acc
        have lf:=iE (mU t)
        refine EvP.step (fun k=>aX.l0.eq_2 (k:=k) ..) (EvP.yes (by omega) (EvP.yes (by omega) ?_))
        rw [hrd]
        refine EvP.bV (vX t hok (ih _ hab (by omega) (by omega)) (ih _ hae (by omega) (by omega))) (EvP.yes (by omega) ?_)
        rw [w64 (n:=(j:Int) + 1) (by omega) (by omega),← oH]
        refine (ih2 (j + 1) (acc ++ mU t) (by omega) (by rw [List.length_append];omega)).mono fun b hb=>?_
        rw [hb,hd,fM,List.append_assoc]
    refine EvP.step (fun k=>aX.f.eq_2 (k:=k) ..) ?_
    have h:=loop l.length 0 [] (by omega) (by rw [List.drop_zero];simp;omega)
    rw [List.drop_zero,List.nil_append,dF] at h
    exact h
def pO (ms:List (List ST)):List (List S70):=ms.map (fun m=>dF (fM m))
theorem uT (rs:List Int) (ms:List (List ST)) (hl:ms.length≤1000) (ha:∀ m ∈ ms,(∀ t ∈ m,AX t)∧cT m≤16):∀ (r j:Nat) (acc:List (List S70)),j + r=ms.length→acc.length + r≤2000→
    EvP (fun k=>aV.l0 k (ms.map dF) ((ms.map dF).length:Int) (j:Int) rs acc) (·=(rs,acc ++ pO (ms.drop j),true)):=by
  have hlen:(ms.map dF).length=ms.length:=List.length_map _
  intro r
  induction r with
  |zero=>
    intro j acc hj h1
    refine EvP.step (fun k=>aV.l0.eq_2 (k:=k) ..) (EvP.no (by omega) (EvP.ret ?_))
    rw [List.drop_eq_nil_of_le (by omega)]
    simp [pO]
  |succ r ih=>
    intro j acc hj h1
    have hlt:j < ms.length:=by omega
    obtain ⟨hax,hc⟩:=ha _ (List.getElem_mem hlt)
    refine EvP.step (fun k=>aV.l0.eq_2 (k:=k) ..) (EvP.yes (by omega) (EvP.yes (by omega) (EvP.yes (by omega) ?_)))
    rw [nO _ j (by omega),List.getElem_map]
    refine EvP.bV (wU 16 _ hax hc (by omega)) (EvP.yes (by omega) ?_)
    rw [w64 (by omega) (by omega)]
    refine (ih (j + 1) _ (by omega) (by rw [List.length_append];simp;omega)).mono fun b hb=>?_
    rw [hb,List.drop_eq_getElem_cons hlt]
    unfold pO
    rw [List.map_cons,List.append_assoc]
    rfl
theorem uV (rs qs:List Int) (ms:List (List ST)) (hl:ms.length≤1000) (ha:∀ m ∈ ms,(∀ t ∈ m,AX t)∧cT m≤16):∀ (r j:Nat) (acc:List (List S70)),j + r=ms.length→acc.length + r≤2000→
    EvP (fun k=>aY.l0 k (j:Int) qs (ms.map dF) rs acc) (·=(rs,acc ++ pO (ms.drop j),true)):=by
  have hlen:(ms.map dF).length=ms.length:=List.length_map _
  intro r
  induction r with
  |zero=>
    intro j acc hj h1
    refine EvP.step (fun k=>aY.l0.eq_2 (k:=k) ..) (EvP.no (by omega) (EvP.ret ?_))
    rw [List.drop_eq_nil_of_le (by omega)]
    simp [pO]
  |succ r ih=>
    intro j acc hj h1
    have hlt:j < ms.length:=by omega
    obtain ⟨hax,hc⟩:=ha _ (List.getElem_mem hlt)
    refine EvP.step (fun k=>aY.l0.eq_2 (k:=k) ..) (EvP.yes (by omega) (EvP.yes (by omega) ?_))
    rw [nO _ j (by omega),List.getElem_map]
    refine EvP.bV (vW 16 _ hax hc (by omega)) (EvP.yes (by omega) ?_)
    rw [w64 (by omega) (by omega)]
    refine (ih (j + 1) _ (by omega) (by rw [List.length_append];simp;omega)).mono fun b hb=>?_
    rw [hb,List.drop_eq_getElem_cons hlt]
    unfold pO
    rw [List.map_cons,List.append_assoc]
    rfl
theorem uU {rs:List Int} {ts:List (List S70)} (hr:rs.length≤1000000000) (ht:tJ ts) (h:kI rs ts=false):EvP (fun k=>aV.f k rs ts) (·=([],[],false)):=by
  unfold aV.f
  exact EvP.bV (nN rs ts hr ht) (EvP.no (by rw [h];simp) (EvP.ret rfl))
theorem uW {rs:List Int} {ts:List (List S70)} (hr:rs.length≤1000000000) (ht:tJ ts) (h:kI rs ts=false):EvP (fun k=>aY.f k rs ts) (·=([],[],false)):=by
  unfold aY.f
  exact EvP.bV (nQ rs ts hr ht) (EvP.no (by rw [h];simp) (EvP.ret rfl))
theorem tT {rs:List Int} {ms:List (List ST)} (hr:rs.length≤1000) (ht:tJ (ms.map dF)) (hl:ms.length≤1000) (ha:∀ m ∈ ms,(∀ t ∈ m,AX t)∧cT m≤16) (h:kI rs (ms.map dF)=true):
    EvP (fun k=>aV.f k rs (ms.map dF)) (·=(rs,pO ms,true)):=by
  unfold aV.f
  refine EvP.bV (nN rs _ (by omega) ht) (EvP.yes h (EvP.gN (SI rs (by omega)) ?_))
  have:=uT rs ms hl ha ms.length 0 [] (by omega) (by simp;omega)
  rw [List.drop_zero,List.nil_append] at this
  exact this
theorem uE {rs:List Int} {ms:List (List ST)} (hr:rs.length≤1000) (ht:tJ (ms.map dF)) (hl:ms.length≤1000) (ha:∀ m ∈ ms,(∀ t ∈ m,AX t)∧cT m≤16) (h:kI rs (ms.map dF)=true):
    EvP (fun k=>aY.f k rs (ms.map dF)) (·=(rs,pO ms,true)):=by
  unfold aY.f
  refine EvP.bV (nQ rs _ (by omega) ht) (EvP.yes h (EvP.gN rfl (EvP.yes (by simp;omega) ?_)))
  have:=uV ([] ++ rs) rs ms hl ha ms.length 0 [] (by omega) (by simp;omega)
  rw [List.drop_zero,List.nil_append,List.nil_append] at this
  rw [List.nil_append]
  exact this
theorem aBm {rs:List Int} {ts:List (List S70)} (h:kI rs ts=true):∃ ms:List (List ST),ms.map dF=ts∧ms.length≤3∧(∀ m ∈ ms,(∀ t ∈ m,AX t)∧cT m≤16)∧∀ m ∈ ms,okT (rs.length:Int) (dF m)=true:=by
 obtain ⟨_,_,h3,h4⟩:=BP.1 h
 suffices ∀ ts:List (List S70),(∀ t ∈ ts,okT (rs.length:Int) t=true)→∃ ms:List (List ST),ms.map dF=ts∧(∀ m ∈ ms,(∀ t ∈ m,AX t)∧cT m≤16)∧∀ m ∈ ms,okT (rs.length:Int) (dF m)=true by
  obtain ⟨ms,e,ha,ho⟩:=this ts h4
  exact ⟨ms,e,by rw [← List.length_map (f:=dF),e];exact h3,ha,ho⟩
 intro ts
 induction ts with
 |nil=>exact fun _=>⟨[],rfl,by simp,by simp⟩
 |cons t ts ih=>
  intro h
  obtain ⟨ms,e,ha,ho⟩:=ih (fun x hx=>h x (List.mem_cons_of_mem _ hx))
  have ht:=h t List.mem_cons_self
  obtain ⟨m,hm,hx⟩:=TP _ 3 t (yZ.1 ht).1
  subst hm
  refine ⟨m :: ms,by rw [List.map_cons,e],fun y hy=>?_,fun y hy=>?_⟩
  ·rcases List.mem_cons.1 hy with rfl|hy
   ·exact ⟨hx,(yZ.1 ht).2⟩
   ·exact ha y hy
  ·rcases List.mem_cons.1 hy with rfl|hy
   ·exact ht
   ·exact ho y hy
end Go.Proofs.Ythiegfpcfedbgaa.PA

namespace Go.Proofs.Ythiegfpcfedbgaa.Pure
open Go.RowKit Go.Proofs.Ythiegfpcfedbgaa.PA Go.Proofs.YthiegfpcfedbgaaW.PrintWords Go.Proofs.YthiegfpcfedbgaaW.PrintLast Go.Proofs.YthiegfpcfedbgaaW.PrintMore Go.Proofs.Ythiegfpcfedbgaa.Core
theorem aAc (rs:List Int) (ts:List (List S70)) (hr:rs.length≤1000000000) (ht:tJ ts):∃ r:List Int × List (List S70) × Bool,EvP (fun k=>aY.f k rs ts) (·=r)∧EvP (fun k=>aV.f k rs ts) (·=r)∧EvP (fun k=>eP.f k r.1 r.2.1 r.1 r.2.1) (·=true)∧r.1.length≤1048576∧r.2.1.length≤1048576∧mSS r.2.1≤100000000:=by
  cases hv:kI rs ts with
  |false=>
    exact ⟨_,uW hr ht hv,uU hr ht hv,wO [] [] (by simp) (by simp) (by simp),by simp,by simp,by simp [mSS]⟩
  |true=>
    obtain ⟨ms,rfl,hl,ha,_⟩:=aBm hv
    have hrl:=EI (BP.1 hv).1
    have hlen:(pO ms).length=ms.length:=List.length_map _
    have hmem:∀ t ∈ pO ms,∃ m ∈ ms,t=dF (fM m):=fun t ht=>by
      obtain ⟨m,hm,e⟩:=List.mem_map.1 ht
      exact ⟨m,hm,e.symm⟩
    refine ⟨_,uE (by omega) ht (by omega) ha hv,tT (by omega) ht (by omega) ha hv,wO rs (pO ms) (by omega) (by omega) (fun t ht=>?_),by show rs.length≤1048576;omega,by show (pO ms).length≤1048576;omega,?_⟩
    · obtain ⟨m,hm,rfl⟩:=hmem t ht
      have h1:=uI m
      have h2:=(ha m hm).2
      exact IV (fM m) (by omega)
    · show mSS (pO ms)≤100000000
      have h5:=TK 1040 (pO ms) (fun t ht=>by
        obtain ⟨m,hm,rfl⟩:=hmem t ht
        have h1:=uI m
        have h2:=(ha m hm).2
        have h3:=PD (fM m) (OT m (ha m hm).1)
        omega)
      omega
theorem FnExactProgramFold:fI.Pure:=by
 intro rs ts hr hl
 refine EvP.ends (r:=true) ?_
 unfold fI.f
 refine EvP.bind (GU rs ts hr.1 hl.1 hl.2) fun n hn=>EvP.ite (fun _=>EvP.ret rfl) (fun h=>?_)
 rcases hn with hn|⟨h1,h2⟩
 ·exact absurd hn h
 have hlt:(sV ts).length=ts.length:=List.length_map ..
 have hlc:=kX ts
 have hm:=KJ ts
 obtain ⟨r,q1,q2,q3,q4,q5,q6⟩:=aAc rs (sV ts) (by omega) (KY ts h2)
 obtain ⟨gr,gt,gb⟩:=r
 dsimp only at q3 q4 q5 q6
 refine EvP.bV (GV rs ts h1 h2) (EvP.bV q1 (EvP.bV q2 (EvP.bV q3 (EvP.no (by simp) (EvP.no (by simp) ?_)))))
 refine EvP.bV (FM rs ts h1 h2) (EvP.no (by simp) ?_)
 refine EvP.bV (tY rs (sV ts) h1 (by omega) (by omega)) (EvP.no (by show ¬ (1 + (rs.length:Int) + (mSS (sV ts):Int) < 0);omega) ?_)
 refine EvP.bV (tY gr gt q4 q5 q6) ?_
 exact EvP.bV (BI gr gt q4 q5 q6) (EvP.no (by omega) (EvP.no (by simp) (EvP.ret rfl)))
end Go.Proofs.Ythiegfpcfedbgaa.Pure

