/- Part 6. -/
import Derived.Test.YtjamfkpgmkhbnaaGreatDoorQFnSourceWords4
import Derived.Lib.Join
import Derived.Lib.ItoaNum
import Derived.Lib.Bytealg
import Derived.KernelRfl
import Derived.Test.YtjamfkpgmkhbnaaGreatDoorRows
import Derived.ProofKit
import Derived.LaidMore
import Derived.Stop.Joined
import Derived.Stop.LaidErr
import Derived.MakeChecks
import Derived.Lib.LaidTab
import Derived.ChangeOld
import Derived.ChangeVars
set_option maxHeartbeats 8000000
set_option maxRecDepth 100000
namespace Go.Proofs.YtjamfkpgmkhbnaaGreatDoor.PA
open Go.RowKit Go.Proofs.YtjamfkpgmkhbnaaGreatDoor.Core Go.Proofs.YtjamfkpgmkhbnaaGreatDoorW.PrintWords
def ba (l:List UInt8):ByteArray:=⟨l.toArray⟩
theorem kN (l:List UInt8):(ba l).size=l.length:=by simp [ba,ByteArray.size]
theorem aAv (l:List UInt8):(ba l).data.toList=l:=by simp [ba]
theorem aCx (s:ByteArray):ba s.data.toList=s:=by
 cases s
 simp [ba]
theorem aFx {s t:ByteArray} (h:s.data.toList=t.data.toList):s=t:=by rw [← aCx s,h,aCx]
theorem yJ (l m:List UInt8):ba l ++ ba m=ba (l ++ m):=aFx (by simp [ba])
theorem BJ (l:List UInt8) (i j:Nat):(ba l).extract i j=ba ((l.take j).drop i):=aFx (by
 simp only [ba,ByteArray.data_extract,Array.toList_extract,List.extract_eq_take_drop]
 rw [List.drop_take])
theorem NI (l:List UInt8) (i:Nat) (h:i < l.length):bt (ba l) (i:Int)=(l[i].toNat:Int):=by
 unfold bt
 rw [dif_pos (by rw [Int.toNat_natCast,kN];exact h)]
 simp [ba,ByteArray.getElem_eq_getElem_data]
theorem GN (s:ByteArray):∀ (d i:Nat) (r:List UInt8),i + d=s.size→ByteArray.toList.loop s i r=r.reverse ++ s.data.toList.drop i
 |0,i,r,h=>by
  rw [ByteArray.toList.loop,if_neg (by omega),List.drop_eq_nil_of_le (by show s.size≤i;omega),List.append_nil]
 |d + 1,i,r,h=>by
  have hi:i < s.data.toList.length:=by show i < s.size;omega
  rw [ByteArray.toList.loop,if_pos (by omega),GN s d (i + 1) _ (by omega),List.drop_eq_getElem_cons hi,List.reverse_cons,List.append_assoc]
  congr 1
  simp only [List.singleton_append,List.cons.injEq,and_true]
  show s.data[i]! =_
  exact getElem!_pos s.data i hi
theorem toList_data (s:ByteArray):s.toList=s.data.toList:=by
 unfold ByteArray.toList
 rw [GN s s.size 0 [] (by omega)]
 rfl
theorem pW (l:List UInt8):(ba l).toList=l:=by rw [toList_data,aAv]
def isD (c:UInt8):Bool:=decide (48≤c.toNat) && decide (c.toNat≤57)
def isL (c:UInt8):Bool:=decide (97≤c.toNat) && decide (c.toNat≤122)
def syms:List (List UInt8):=[[61,61],[60,60],[62,62],[124],[94],[38],[60],[43],[45],[42],[47],[37],[40],[41],[123],[125],[61],[59]]
inductive Tok:List UInt8→Prop
 |dig (c:UInt8) (t:List UInt8) (h:∀ x ∈ c :: t,isD x=true):Tok (c :: t)
 |let_ (c:UInt8) (t:List UInt8) (h:∀ x ∈ c :: t,isL x=true):Tok (c :: t)
 |sym (t:List UInt8) (h:t ∈ syms):Tok t
def Rest (r:List UInt8):Prop:=r=[]∨∃ q,r=32 :: q
theorem Tok.pos {t:List UInt8} (h:Tok t):0 < t.length:=by
 cases h with
 |dig=>simp
 |let_=>simp
 |sym t h=>
  simp only [syms,List.mem_cons,List.not_mem_nil,or_false] at h
  rcases h with h|h|h|h|h|h|h|h|h|h|h|h|h|h|h|h|h|h <;> subst h <;> decide
def iB:List (List UInt8)→List UInt8
 |[]=>[]
 |[x]=>x
 |x :: y :: r=>x ++ 32 :: iB (y :: r)
theorem NM:∀ l:List (List UInt8),Lib.join l [32]=iB l
 |[]=>rfl
 |[x]=>Lib.join_one x _
 |x :: y :: r=>by
  rw [Lib.join_cons,iB,← NM (y :: r),Lib.join_cons]
  simp [Lib.joinTail]
theorem oH (x:List UInt8) {l:List (List UInt8)} (h:l≠[]):iB (x :: l)=x ++ 32 :: iB l:=by
 cases l with
 |nil=>exact absurd rfl h
 |cons y r=>rfl
theorem OZ {l m:List (List UInt8)} (hl:l≠[]) (hm:m≠[]):iB (l ++ m)=iB l ++ 32 :: iB m:=by
 induction l with
 |nil=>exact absurd rfl hl
 |cons x r ih=>
  cases r with
  |nil=>rw [List.singleton_append,oH x hm];rfl
  |cons y q=>
   rw [List.cons_append,oH x (by simp),ih (by simp),oH x (by simp)]
   simp
theorem AP (u:Nat):∀ c ∈ Lib.decDigits u,isD c=true:=by
 induction u using Nat.strongRecOn with
 | _ u ih=>
  intro c hc
  rw [Lib.decDigits] at hc
  split at hc
  ·rw [List.mem_singleton] at hc
   subst hc
   have:u=0∨u=1∨u=2∨u=3∨u=4∨u=5∨u=6∨u=7∨u=8∨u=9:=by omega
   rcases this with h|h|h|h|h|h|h|h|h|h <;> subst h <;> decide
  ·rcases List.mem_append.1 hc with h|h
   ·exact ih _ (by omega) c h
   ·rw [List.mem_singleton] at h
    subst h
    have:u % 10=0∨u % 10=1∨u % 10=2∨u % 10=3∨u % 10=4∨u % 10=5∨u % 10=6∨u % 10=7∨u % 10=8∨u % 10=9:=by omega
    rcases this with h|h|h|h|h|h|h|h|h|h <;> rw [h] <;> decide
theorem MC (u:Nat):0 < (Lib.decDigits u).length:=by
 rw [Lib.decDigits]
 split
 ·exact Nat.one_pos
 ·simp
theorem AQ (d:Nat):∀ u:Nat,u < 10 ^ (d + 1)→(Lib.decDigits u).length≤d + 1:=by
 induction d with
 |zero=>
  intro u hu
  rw [Lib.decDigits,dif_pos (by omega)]
  exact Nat.le_refl _
 |succ d ih=>
  intro u hu
  rw [Lib.decDigits]
  split
  ·simp
  ·have:=ih (u / 10) (by rw [Nat.pow_succ] at hu;omega)
   simp only [List.length_append,List.length_singleton]
   omega
def dec (n:Int):List UInt8:=Lib.decDigits n.toNat
theorem II (n:Int):Tok (dec n):=by
 have h:=AP n.toNat
 have h0:=MC n.toNat
 unfold dec
 cases hd:Lib.decDigits n.toNat with
 |nil=>rw [hd] at h0;simp at h0
 |cons c t=>rw [hd] at h;exact .dig c t h
theorem vG {n:Int} (h0:0≤n) (h:n≤99999):(dec n).length≤5:=AQ 4 n.toNat (by omega)
theorem aDa {n:Int} (h:0≤n):Lib.itoa n=dec n:=by
 unfold Lib.itoa dec
 rw [if_neg (by omega)]
def lev (op:Int):Int:=if op≤6 then op else if op=7 then 6 else if op≤9 then 7 else 8
def opB (op:Int):List UInt8:=[[124],[94],[38],[61,61],[60],[60,60],[62,62],[43],[45],[42],[47],[37]].getD (op - 1).toNat []
theorem aFj {op:Int} (h:1≤op∧op≤12):Tok (opB op):=by
 have:op=1∨op=2∨op=3∨op=4∨op=5∨op=6∨op=7∨op=8∨op=9∨op=10∨op=11∨op=12:=by omega
 apply Tok.sym
 rcases this with h|h|h|h|h|h|h|h|h|h|h|h <;> subst h <;> decide
def AA (v:Int):List UInt8:=[(97 + v).toNat.toUInt8]
theorem LG {v:Int} (h:0≤v∧v < 4):Tok (AA v):=by
 have:v=0∨v=1∨v=2∨v=3:=by omega
 rcases this with h|h|h|h <;> subst h <;> exact .let_ _ _ (by decide)
def tF (l:List (List UInt8)) (b:Bool):List (List UInt8):=if b=true then [40] :: (l ++ [[41]]) else l
namespace X
def lev:X→Int
 |num _=>9
 |var _=>9
 |bin op _ _=>PA.lev op
def toks:X→List (List UInt8)
 |num n=>[dec n]
 |var v=>[AA v]
 |bin op a b=>tF a.toks (decide (a.lev < PA.lev op)) ++ opB op :: tF b.toks (decide (b.lev≤PA.lev op))
end X
theorem OE {l:List (List UInt8)} {b:Bool} (h:∀ t ∈ l,Tok t):∀ t ∈ tF l b,Tok t:=by
 unfold tF
 split
 ·intro t ht
  rcases List.mem_cons.1 ht with h1|h1
  ·subst h1
   exact .sym _ (by decide)
  ·rcases List.mem_append.1 h1 with h2|h2
   ·exact h t h2
   ·rw [List.mem_singleton] at h2
    subst h2
    exact .sym _ (by decide)
 ·exact h
theorem LD:∀ x:X,x.ok→∀ t ∈ x.toks,Tok t
 | .num n,h=>by
  intro t ht
  rw [X.toks,List.mem_singleton] at ht
  subst ht
  exact II n
 | .var v,h=>by
  intro t ht
  rw [X.toks,List.mem_singleton] at ht
  subst ht
  exact LG h
 | .bin op a b,h=>by
  intro t ht
  rw [X.toks] at ht
  rcases List.mem_append.1 ht with h1|h1
  ·exact OE (LD a h.2.1) t h1
  ·rcases List.mem_cons.1 h1 with h2|h2
   ·subst h2
    exact aFj h.1
   ·exact OE (LD b h.2.2) t h2
theorem wC (l:List (List UInt8)) (b:Bool):(tF l b).length≤l.length + 2:=by
 unfold tF
 split
 ·simp
 ·omega
theorem uX:∀ x:X,x.toks.length + 4≤5 * x.size
 | .num _=>by simp [X.toks,X.size]
 | .var _=>by simp [X.toks,X.size]
 | .bin op a b=>by
  have h1:=wC a.toks (decide (a.lev < lev op))
  have h2:=wC b.toks (decide (b.lev≤lev op))
  have h3:=uX a
  have h4:=uX b
  rw [X.toks,List.length_append,List.length_cons,X.size]
  omega
open Go.Proofs.YtjamfkpgmkhbnaaGreatDoorW.PrintMore
theorem GU (c:UInt8):lQ.f (c.toNat:Int)=some (isD c):=by
 unfold lQ.f isD
 by_cases h:((c.toNat:Int))≥48
 ·rw [if_pos h,decide_eq_true (show 48≤c.toNat by omega),Bool.true_and]
  congr 1
  exact decide_eq_decide.mpr (by omega)
 ·rw [if_neg h,decide_eq_false (show ¬ 48≤c.toNat by omega),Bool.false_and]
theorem EL (c:UInt8):kV.f (c.toNat:Int)=some (isL c):=by
 unfold kV.f isL
 by_cases h:((c.toNat:Int))≥97
 ·rw [if_pos h,decide_eq_true (show 97≤c.toNat by omega),Bool.true_and]
  congr 1
  exact decide_eq_decide.mpr (by omega)
 ·rw [if_neg h,decide_eq_false (show ¬ 97≤c.toNat by omega),Bool.false_and]
def isM (m:Bool) (c:UInt8):Bool:=if m=true then isD c else isL c
theorem aGw (m:Bool) (c:UInt8):(if m=true then lQ.f (c.toNat:Int) else kV.f (c.toNat:Int))=some (isM m c):=by
 cases m
 ·rw [if_neg Bool.false_ne_true,EL]
  rfl
 ·rw [if_pos rfl,GU]
  rfl
theorem aGb (l:List UInt8) (hl:l.length≤1000000000) (m:Bool):∀ (d j:Nat),j + d=l.length→EvP (fun k=>aV.l1 k (ba l) m (j:Int)) (·=((j + ((l.drop j).takeWhile (isM m)).length:Nat):Int))
  |0,j,h=>by
    refine EvP.step (fun k=>aV.l1.eq_2 (k:=k) ..) (EvP.no (by rw [kN];omega) (EvP.ret ?_))
    rw [List.drop_eq_nil_of_le (by omega)]
    simp
  |d + 1,j,h=>by
    have hj:j < l.length:=by omega
    refine EvP.step (fun k=>aV.l1.eq_2 (k:=k) ..) (EvP.yes (by rw [kN];omega) (EvP.yes (by omega) ?_))
    rw [NI l j hj]
    refine EvP.fM (aGw m l[j]) ?_
    rw [List.drop_eq_getElem_cons hj]
    cases hm:isM m l[j] with
    |true=>
      refine EvP.yes rfl ?_
      rw [w64 (by omega) (by omega),show (j:Int) + 1=((j + 1:Nat):Int) by omega]
      refine (aGb l hl m d (j + 1) (by omega)).mono (fun a ha=>?_)
      rw [ha,List.takeWhile_cons,if_pos hm,List.length_cons]
      congr 1
      omega
    |false=>
      refine EvP.no Bool.false_ne_true (EvP.ret ?_)
      rw [List.takeWhile_cons,if_neg (by rw [hm];exact Bool.false_ne_true)]
      simp
theorem aDi (l:List UInt8) (hl:l.length≤1000000000) (m:Bool):EvP (fun k=>aV.l1 k (ba l) m 0) (·=((l.takeWhile (isM m)).length:Int)):=
  (aGb l hl m l.length 0 (by omega)).mono (fun a ha=>by rw [ha];simp)
theorem AY {p:UInt8→Bool} {t r:List UInt8} (ht:∀ x ∈ t,p x=true) (hr:Rest r) (j3:p 32=false):(t ++ r).takeWhile p=t:=by
 rw [List.takeWhile_append_of_pos ht]
 rcases hr with rfl|⟨q,rfl⟩
 ·simp
 ·rw [List.takeWhile_cons,if_neg (by rw [j3];exact Bool.false_ne_true),List.append_nil]
theorem DZ {p:UInt8→Bool} {c:UInt8} {t:List UInt8} (h:p c=false):(c :: t).takeWhile p=[]:=by
 rw [List.takeWhile_cons,if_neg (by rw [h];exact Bool.false_ne_true)]
theorem aFe {c:UInt8} (h:isL c=true):isD c=false:=by
 unfold isL at h
 unfold isD
 simp only [Bool.and_eq_true,decide_eq_true_eq] at h
 rw [decide_eq_false (p:=c.toNat≤57) (by omega),Bool.and_false]
def aCd (c:UInt8):List UInt8→Bool
 |a :: b :: _=>a == c && b == c
 | _=>false
theorem WE (l:List UInt8) (c:UInt8) (hl:l.length≤1000000000):strings_HasPrefix.f (ba l) ⟨#[c,c]⟩=some (aCd c l):=by
 unfold strings_HasPrefix.f stringslite_HasPrefix.f
 have hs:(⟨#[c,c]⟩:ByteArray).size=2:=rfl
 rw [hs,kN]
 by_cases h:(l.length:Int)≥((2:Nat):Int)
 ·rw [if_pos h,if_pos (by omega),if_pos h]
  simp only [Option.bind_some]
  congr 1
  match l,h with
  |a :: b :: r,_=>
   have e:(ba (a :: b :: r)).extract 0 (((2:Nat):Int):Int).toNat=ba [a,b]:=by
    rw [BJ]
    rfl
   rw [e,pW,show (⟨#[c,c]⟩:ByteArray)=ba [c,c] from rfl,pW]
   simp [aCd]
  |[a],h=>simp at h
  |[],h=>simp at h
 ·rw [if_neg h]
  simp only [Option.bind_some]
  congr 1
  match l,h with
  |a :: b :: r,h=>simp at h;omega
  |[a],_=>rfl
  |[],_=>rfl
theorem aHn (c:UInt8) (q:List UInt8):¬ (ba (c :: q)).toList=([]:List UInt8):=by
 rw [pW]
 simp
theorem TQ (c:UInt8) (q:List UInt8):bt (ba (c :: q)) 0=(c.toNat:Int):=NI (c :: q) 0 (by simp)
theorem aFt (t r:List UInt8) (hl:(t ++ r).length≤1000000000) (ht:t ∈ syms) (hr:Rest r):aV.st2 (ba (t ++ r)) 0=some (t.length:Int):=by
 simp only [aV.st2,aV.fin,WE _ _ hl,Option.bind_some]
 clear hl
 simp only [syms,List.mem_cons,List.not_mem_nil,or_false] at ht
 rcases hr with rfl|⟨q,rfl⟩
 all_goals
  rcases ht with h|h|h|h|h|h|h|h|h|h|h|h|h|h|h|h|h|h <;> subst h
 all_goals
  simp only [List.cons_append,List.nil_append,List.append_nil]
 all_goals
  first
  |(simp [aCd];done)
  |(rw [if_neg (by simp [aCd]),if_neg (by simp [aCd]),if_neg (by simp [aCd]),if_neg (aHn _ _),TQ];rfl)
theorem aBm {t r:List UInt8} (ht:t ∈ syms) (m:Bool):(t ++ r).takeWhile (isM m)=[]:=by
 simp only [syms,List.mem_cons,List.not_mem_nil,or_false] at ht
 rcases ht with h|h|h|h|h|h|h|h|h|h|h|h|h|h|h|h|h|h <;> subst h <;> exact DZ (by cases m <;> decide)
theorem yE (t r:List UInt8) (hl:(t ++ r).length≤1000000000) (ht:Tok t) (hr:Rest r):EvP (fun k=>aV.f k (ba (t ++ r))) (·=(t.length:Int)):=by
  have h0:=ht.pos
  show EvP (fun k=>(aV.l1 k (ba (t ++ r)) true 0).bind fun d=>if 0 < d then some d else (aV.l1 k (ba (t ++ r)) false 0).bind fun c=>if 0 < c then some c else aV.st2 (ba (t ++ r)) 0) _
  refine EvP.dK (aDi _ hl true) ?_
  cases ht with
  |dig c t h=>
    rw [AY (p:=isM true) h hr (by decide)]
    exact EvP.yes (by omega) (EvP.ret rfl)
  |let_ c t h=>
    rw [List.cons_append,DZ (p:=isM true) (aFe (h c (by simp))),← List.cons_append]
    refine EvP.no (by simp) (EvP.dK (aDi _ hl false) ?_)
    rw [AY (p:=isM false) h hr (by decide)]
    exact EvP.yes (by omega) (EvP.ret rfl)
  |sym t h=>
    rw [aBm h]
    refine EvP.no (by simp) (EvP.dK (aDi _ hl false) ?_)
    rw [aBm h]
    exact EvP.no (by simp) (EvP.of (aFt t r hl h hr) rfl)
theorem LX (t:List UInt8) (hl:t.length≤1000000000) (ht:Tok t):EvP (fun k=>gP.f k (ba t)) (·=true):=by
  unfold gP.f
  have h:=yE t [] (by simpa using hl) ht (.inl rfl)
  rw [List.append_nil] at h
  have h0:=ht.pos
  refine EvP.no (by rw [pW];intro e;rw [e] at h0;simp at h0) (EvP.dK h (EvP.ret ?_))
  rw [kN]
  simp
theorem rdB (L:List (List UInt8)) (j:Nat) (h:j < L.length):nL ByteArray.empty (L.map ba) (j:Int)=ba L[j]:=by
 unfold nL
 rw [Int.toNat_natCast,List.getD_eq_getElem?_getD,List.getElem?_map,List.getElem?_eq_getElem h]
 rfl
theorem AJ (L:List (List UInt8)) (hn:L.length≤1000000) (hs:∀ t ∈ L,t.length≤1000000) (ht:∀ t ∈ L,Tok t) (hj:(iB L).length≤1000000000):∀ (d j:Nat),j + d=L.length→EvP (fun k=>dN.l0 k (L.map ba) (L.map ba) ((L.map ba).length:Int) (j:Int)) (·=ba (iB L))
  |0,j,h=>by
    refine EvP.step (fun k=>dN.l0.eq_2 (k:=k) ..) (EvP.no (by rw [List.length_map];omega) ?_)
    have e:strings_Join.f (L.map ba) (⟨#[32]⟩:ByteArray)=some (ba (iB L)):=by
      unfold strings_Join.f
      have e2:RL (L.map ba) (⟨#[32]⟩:ByteArray)=iB L:=by
        unfold RL
        rw [List.map_map,show ((fun x:ByteArray=>x.data.toList) ∘ ba)=id from funext aAv,List.map_id]
        exact NM L
      rw [e2,if_pos (by rw [List.length_map];omega),if_pos (by omega)]
      rfl
    exact EvP.fM e (EvP.ret rfl)
  |d + 1,j,h=>by
    have hj':j < L.length:=by omega
    refine EvP.step (fun k=>dN.l0.eq_2 (k:=k) ..) (EvP.yes (by rw [List.length_map];omega) (EvP.yes (by omega) (EvP.yes (by rw [List.length_map];omega) ?_)))
    rw [rdB L j hj']
    refine EvP.dK (LX _ (by have:=hs L[j] (by simp);omega) (ht L[j] (by simp))) (EvP.yes rfl ?_)
    rw [w64 (by omega) (by omega),show (j:Int) + 1=((j + 1:Nat):Int) by omega]
    exact AJ L hn hs ht hj d (j + 1) (by omega)
theorem BN (L:List (List UInt8)) (hn:L.length≤1000000) (hs:∀ t ∈ L,t.length≤1000000) (ht:∀ t ∈ L,Tok t) (hj:(iB L).length≤1000000000):EvP (fun k=>dN.f k (L.map ba)) (·=ba (iB L)):=
  AJ L hn hs ht hj L.length 0 (by omega)
theorem aFz {c:UInt8} (h:isD c=true):EvP (fun k=>bK.f k (c.toNat:Int)) (·=1):=by
  unfold isD at h
  simp only [Bool.and_eq_true,decide_eq_true_eq] at h
  unfold bK.f
  refine EvP.yes (by omega) (EvP.step (fun k=>bK.j0.eq_2 (k:=k) ..) (EvP.yes (by rw [decide_eq_true_eq];omega) (EvP.ret rfl)))
theorem aGa {c:UInt8} (h:isL c=true):EvP (fun k=>bK.f k (c.toNat:Int)) (·=2):=by
  unfold isL at h
  simp only [Bool.and_eq_true,decide_eq_true_eq] at h
  unfold bK.f
  refine EvP.yes (by omega) (EvP.step (fun k=>bK.j0.eq_2 (k:=k) ..) (EvP.no (by rw [decide_eq_true_eq];omega) (EvP.yes (by omega) ?_)))
  exact EvP.step (fun k=>bK.j1.eq_2 (k:=k) ..) (EvP.yes (by rw [decide_eq_true_eq];omega) (EvP.ret rfl))
theorem KQ (t:List UInt8) (hl:t.length≤1000000000) (h0:0 < t.length) (n:Int) (hk:∀ x ∈ t,EvP (fun k=>bK.f k (x.toNat:Int)) (·=n)):∀ (d j:Nat),j + d=t.length→EvP (fun k=>fP.l0 k (ba t) 0 (j:Int)) (·=(t.length:Int))
  |0,j,h=>EvP.step (fun k=>fP.l0.eq_2 (k:=k) ..) (EvP.no (by rw [kN];omega) (EvP.ret (by omega)))
  |d + 1,j,h=>by
    have hj:j < t.length:=by omega
    refine EvP.step (fun k=>fP.l0.eq_2 (k:=k) ..) (EvP.yes (by rw [kN];omega) (EvP.yes (by omega) ?_))
    rw [NI t j hj,show bt (ba t) 0=(t[0].toNat:Int) from NI t 0 h0]
    refine EvP.dK (hk _ (by simp)) (EvP.yes (by omega) (EvP.yes (by rw [kN];omega) (EvP.dK (hk _ (by simp)) (EvP.yes rfl ?_))))
    rw [w64 (by omega) (by omega),show (j:Int) + 1=((j + 1:Nat):Int) by omega]
    exact KQ t hl h0 n hk d (j + 1) (by omega)
theorem aBz (t:List UInt8) (h:t ∈ syms):EvP (fun k=>eD.f k (ba t) 0) (·=(t.length:Int)):=by
  refine Ev.evp (Ev.of (eD.mono _ _) (k:=60) ?_)
  simp only [syms,List.mem_cons,List.not_mem_nil,or_false] at h
  rcases h with h|h|h|h|h|h|h|h|h|h|h|h|h|h|h|h|h|h <;> subst h <;> kernel_rfl
theorem aDj (t:List UInt8) (hl:t.length≤1000000000) (ht:Tok t):EvP (fun k=>eD.f k (ba t) 0) (·=(t.length:Int)):=by
  have h0:=ht.pos
  cases ht with
  |dig c t h=>
    unfold eD.f
    refine EvP.yes (by omega) (EvP.yes (by rw [kN];omega) ?_)
    rw [TQ]
    refine EvP.dK (aFz (h c (by simp))) (EvP.yes rfl (EvP.step (fun k=>eD.j0.eq_2 (k:=k) ..) (EvP.yes rfl (EvP.dK ?_ (EvP.ret rfl)))))
    exact KQ (c :: t) hl h0 1 (fun x hx=>aFz (h x hx)) (c :: t).length 0 (by omega)
  |let_ c t h=>
    unfold eD.f
    refine EvP.yes (by omega) (EvP.yes (by rw [kN];omega) ?_)
    rw [TQ]
    refine EvP.dK (aGa (h c (by simp))) (EvP.no (by omega) (EvP.step (fun k=>eD.j0.eq_2 (k:=k) ..) (EvP.yes rfl (EvP.dK ?_ (EvP.ret rfl)))))
    exact KQ (c :: t) hl h0 2 (fun x hx=>aGa (h x hx)) (c :: t).length 0 (by omega)
  |sym t h=>exact aBz t h
theorem CB (t:List UInt8) (hl:t.length≤1000000000) (ht:Tok t):EvP (fun k=>gK.f k (ba t)) (·=true):=by
  unfold gK.f
  have h0:=ht.pos
  refine EvP.no (by rw [pW];intro e;rw [e] at h0;simp at h0) (EvP.dK (aDj t hl ht) (EvP.ret ?_))
  rw [kN]
  simp
theorem WJ {l:List (List UInt8)} (h:l≠[]) (x:List UInt8):iB (l ++ [x])=iB l ++ 32 :: x:=OZ h (by simp)
theorem KP (L:List (List UInt8)):∀ j:Nat,(iB (L.take j)).length≤(iB L).length:=by
 induction L with
 |nil=>intro j;simp
 |cons x r ih=>
  intro j
  cases j with
  |zero=>simp [iB]
  |succ j=>
   rw [List.take_succ_cons]
   cases r with
   |nil=>simp [iB]
   |cons y q=>
    cases j with
    |zero=>simp [iB]
    |succ j=>
     have:=ih (j + 1)
     rw [oH x (by simp),oH x (by simp)]
     simp only [List.length_append,List.length_cons] at this ⊢
     omega
theorem GI (L:List (List UInt8)) (hn:L.length≤1000000) (hs:∀ t ∈ L,t.length≤1000000) (ht:∀ t ∈ L,Tok t) (hj:(iB L).length≤1000000000):∀ (d j:Nat),j + d=L.length→EvP (fun k=>dI.l0 k (L.map ba) (ba (iB (L.take j))) (j:Int)) (·=ba (iB L))
  |0,j,h=>EvP.step (fun k=>dI.l0.eq_2 (k:=k) ..) (EvP.no (by rw [List.length_map];omega) (EvP.ret (by rw [List.take_of_length_le (by omega)])))
  |d + 1,j,h=>by
    have hj':j < L.length:=by omega
    have h1:=KP L j
    have h2:=hs L[j] (by simp)
    refine EvP.step (fun k=>dI.l0.eq_2 (k:=k) ..) (EvP.yes (by rw [List.length_map];omega) (EvP.yes (by omega) ?_))
    rw [rdB L j hj']
    refine EvP.dK (CB _ (by omega) (ht L[j] (by simp))) (EvP.yes rfl ?_)
    have e1:L.take (j + 1)=L.take j ++ [L[j]]:=by rw [List.take_succ_eq_append_getElem hj']
    have ih:=GI L hn hs ht hj d (j + 1) (by omega)
    rw [show ((j + 1:Nat):Int)=wrap64 ((j:Int) + 1) by rw [w64 (by omega) (by omega)];omega] at ih
    refine EvP.ite (fun hp=>?_) (fun hp=>?_)
    · refine EvP.yes (by rw [kN];omega) ?_
      rw [show (⟨#[32]⟩:ByteArray)=ba [32] from rfl,yJ]
      refine EvP.yes (by rw [kN,kN,List.length_append];show _ + 1 + _≤_;omega) ?_
      rw [yJ]
      have e2:iB (L.take j) ++ [32] ++ L[j]=iB (L.take (j + 1)):=by
        rw [e1,WJ (by intro e;have:=congrArg List.length e;rw [List.length_take,List.length_nil] at this;omega)]
        simp
      rw [e2]
      exact ih
    · have hj0:j=0:=by omega
      subst hj0
      refine EvP.yes (by rw [kN,kN];omega) ?_
      rw [yJ]
      have e2:iB (L.take 0) ++ L[0]=iB (L.take (0 + 1)):=by
        rw [e1]
        rfl
      rw [e2]
      exact ih
theorem CF (L:List (List UInt8)) (hn:L.length≤1000000) (hs:∀ t ∈ L,t.length≤1000000) (ht:∀ t ∈ L,Tok t) (hj:(iB L).length≤1000000000):EvP (fun k=>dI.f k (L.map ba)) (·=ba (iB L)):=
  GI L hn hs ht hj L.length 0 (by omega)
theorem aBi (x:X) (hd:x.depth≤5):x.size≤31:=by
 have h1:=X.BX x
 have h2:2 ^ x.depth≤2 ^ 5:=Nat.pow_le_pow_right (by omega) hd
 omega
theorem aAe (x y:Int) (hx:0≤x) (j3:x < 4611686018427387904) (hy:0≤y) (j4:y < 4611686018427387904):0≤Go.bits .xor .i64 x y:=by
 obtain ⟨a,rfl⟩:=Int.eq_ofNat_of_zero_le hx
 obtain ⟨b,rfl⟩:=Int.eq_ofNat_of_zero_le hy
 have ha:a < 2 ^ 62:=by omega
 have hb:b < 2 ^ 62:=by omega
 have hx:=Nat.xor_lt_two_pow ha hb
 simp only [Go.bits,BitVec.ofInt_natCast,BitVec.toNat_xor,BitVec.toNat_ofNat]
 rw [show IntKind.i64.bits=64 from rfl,Nat.mod_eq_of_lt (a:=a) (by omega),Nat.mod_eq_of_lt (a:=b) (by omega),IntKind.wrap_i64]
 omega
def Bytes (b:List Int):Prop:=b.length≤2000∧∀ x ∈ b,0≤x∧x≤255
theorem Bytes.rd {b:List Int} (h:Bytes b) (i:Int) (h0:0≤i) (h1:i < b.length):0≤Go.Proofs.YtjamfkpgmkhbnaaGreatDoorW.PrintWords.rd b i∧Go.Proofs.YtjamfkpgmkhbnaaGreatDoorW.PrintWords.rd b i≤255:=h.2 _ (aDz b i h0 h1)
theorem WT (l:List Int) (hl:l.length≤140737488351232) (hw:∀ x ∈ l,(Lit.int .u8 x).wf=true):∃ b,nQ.f l=some (b,0)∧Bytes b:=by
 have hb:∀ x ∈ l,0≤x∧x≤255:=by
  intro x hx
  have h:=hw x hx
  simp only [Lit.wf,Bool.and_eq_true,decide_eq_true_eq] at h
  have e1:IntKind.u8.min=0:=by decide
  have e2:IntKind.u8.max=255:=by decide
  omega
 unfold nQ.f
 by_cases h:(l.length:Int) > 2000
 ·rw [if_pos h,if_pos (by omega)]
  exact ⟨_,rfl,by rw [List.length_take];omega,fun x hx=>hb x (List.mem_of_mem_take hx)⟩
 ·rw [if_neg h]
  exact ⟨_,rfl,by omega,hb⟩
def aGj (p n:Int) (r:Int × Int):Prop:=r.2=p + 1∧0≤r.1∧(1≤n→r.1 < n)∧(n < 1→r.1=0)
theorem aFl (b:List Int) (hb:Bytes b) (p n:Int) (h0:0≤p) (h1:p≤1000000000000):EvP (fun k=>aG.f k b p n) (aGj p n):=by
 unfold aG.f
 rw [w64 (n:=p + 1) (by omega) (by omega)]
 have hz:EvP (fun k=>aG.j0 k n true b (p + 1)) (fun r=>r.2=p + 1∧r.1=0):=
  EvP.step (fun k=>aG.j0.eq_2 (k:=k) ..) (EvP.yes rfl (EvP.ret ⟨rfl,rfl⟩))
 refine EvP.ite (fun h=>?_) (fun h=>?_)
 ·exact hz.mono fun r hr=>⟨hr.1,by omega,fun _=>by omega,fun _=>hr.2⟩
 ·cases hl:((b.length:Int) == 0) with
  |true=>exact hz.mono fun r hr=>⟨hr.1,by omega,fun _=>by omega,fun _=>hr.2⟩
  |false=>
   have hl':(b.length:Int)≠0:=by simpa using hl
   have hbl:=hb.1
   refine EvP.step (fun k=>aG.j0.eq_2 (k:=k) ..) (EvP.no (by decide) ?_)
   rw [w64 (n:=p + 1 - 1) (by omega) (by omega),show p + 1 - 1=p by omega]
   refine EvP.ite (fun h2=>?_) (fun h2=>?_)
   ·refine EvP.yes h0 (EvP.no (by omega) (EvP.ret ?_))
    have hr:=hb.rd p h0 h2
    rw [w64 (by omega) (by omega)]
    have ht:=EA hr.1 (show 0 < n by omega)
    exact ⟨rfl,ht.1,fun _=>ht.2,fun _=>by omega⟩
   ·have t1:=EA h0 (show (0:Int) < b.length by omega)
    have t2:=EA (show 0≤p * 7 + 3 by omega) (show (0:Int) < b.length by omega)
    rw [w64 (n:=p * 7) (by omega) (by omega),w64 (n:=p * 7 + 3) (by omega) (by omega)]
    refine EvP.no hl' (EvP.yes t1.1 (EvP.yes t1.2 (EvP.yes t2.1 (EvP.yes t2.2 (EvP.no (by omega) (EvP.ret ?_))))))
    have r1:=hb.rd _ t1.1 t1.2
    have r2:=hb.rd _ t2.1 t2.2
    have hd0:0≤Int.tdiv p b.length:=Int.tdiv_nonneg h0 (by omega)
    have hd1:Int.tdiv p b.length≤p:=by
     rw [Int.tdiv_eq_ediv_of_nonneg h0]
     exact Int.ediv_le_self _ h0
    generalize Go.Proofs.YtjamfkpgmkhbnaaGreatDoorW.PrintWords.rd b (Int.tmod p b.length)=x1 at *
    generalize Go.Proofs.YtjamfkpgmkhbnaaGreatDoorW.PrintWords.rd b (Int.tmod (p * 7 + 3) b.length)=x2 at *
    generalize Int.tdiv p b.length=q at *
    simp only [w64 (n:=x1) (by omega) (by omega),w64 (n:=x2) (by omega) (by omega),w64 (n:=q) (by omega) (by omega)]
    simp only [w64 (n:=x1 * 131) (by omega) (by omega),w64 (n:=x2 * 1117) (by omega) (by omega),w64 (n:=p * 29) (by omega) (by omega),w64 (n:=q * 53) (by omega) (by omega)]
    simp only [w64 (n:=x1 * 131 + x2 * 1117) (by omega) (by omega)]
    simp only [w64 (n:=x1 * 131 + x2 * 1117 + p * 29) (by omega) (by omega)]
    simp only [w64 (n:=x1 * 131 + x2 * 1117 + p * 29 + q * 53) (by omega) (by omega)]
    have j3:0≤x1 * 131 + x2 * 1117 + p * 29 + q * 53:=by omega
    have j4:x1 * 131 + x2 * 1117 + p * 29 + q * 53 < 1000000000000000:=by omega
    generalize x1 * 131 + x2 * 1117 + p * 29 + q * 53=s at *
    have hv0:0≤Int.tdiv s 64:=Int.tdiv_nonneg j3 (by omega)
    have hv1:Int.tdiv s 64≤s:=by
     rw [Int.tdiv_eq_ediv_of_nonneg j3]
     exact Int.ediv_le_self _ j3
    rw [w64 (n:=Int.tdiv s 64) (by omega) (by omega)]
    have hx:=aAe s (Int.tdiv s 64) j3 (by omega) hv0 (by omega)
    have ht:=EA hx (show 0 < n by omega)
    exact ⟨rfl,ht.1,fun _=>ht.2,fun _=>by omega⟩
theorem gD {β:Type} {b:List Int} (hb:Bytes b) {p n:Int} (h0:0≤p) (h1:p≤1000000000000) {f:Nat→Int × Int→Option β} {R:β→Prop}
  (k:∀ v,0≤v→(1≤n→v < n)→(n < 1→v=0)→EvP (fun m=>f m (v,p + 1)) R):EvP (fun m=>(aG.f m b p n).bind (f m)) R:=
 EvP.bind (aFl b hb p n h0 h1) (fun r hr=>by
  obtain ⟨v,q⟩:=r
  obtain ⟨e,k0,k1,k2⟩:=hr
  obtain rfl:q=p + 1:=e
  exact k v k0 k1 k2)
theorem aDk (b:List Int) (hb:Bytes b) (p:Int) (h0:0≤p) (h1:p≤900000000000):EvP (fun k=>lZ.f k b p) (fun r=>r.2=p + 1∧1≤r.1∧r.1≤12):=by
 unfold lZ.f
 refine gD hb h0 (by omega) fun v v0 v1 _=>?_
 have:=v1 (by omega)
 dsimp only
 rw [w64 (by omega) (by omega)]
 exact EvP.ret (by dsimp only;omega)
theorem KR (b:List Int) (hb:Bytes b) (p:Int) (h0:0≤p) (h1:p≤900000000000):EvP (fun k=>iE.f k b p) (fun r=>p≤r.2.2.2∧r.2.2.2≤p + 2∧r.2.2.1.length=0):=by
 unfold iE.f
 refine gD hb h0 (by omega) fun v v0 v1 _=>?_
 dsimp only
 refine EvP.ite (fun h=>?_) (fun h=>?_)
 ·refine gD hb (by omega) (by omega) fun v2 w0 w1 _=>?_
  exact EvP.fM rfl (EvP.ret (by simp;omega))
 ·refine EvP.ite (fun h=>?_) (fun h=>?_)
  ·refine EvP.fM rfl (gD hb (by omega) (by omega) fun v2 w0 w1 _=>?_)
   have:=w1 (by omega)
   exact EvP.yes w0 (EvP.yes (by simp;omega) (EvP.fM rfl (EvP.ret (by simp;omega))))
  ·refine gD hb (by omega) (by omega) fun v2 w0 w1 _=>?_
   exact EvP.fM rfl (EvP.ret (by simp;omega))
theorem WK (b:List Int) (hb:Bytes b):∀ (d:Nat) (p:Int),d≤10→0≤p→p + 4 ^ (d + 1)≤800000000000→EvP (fun k=>bI.f k b p (d:Int)) (fun r=>p≤r.2.2.2∧r.2.2.2≤p + 4 ^ (d + 1)∧r.2.2.1.length≤2):=by
 intro d
 have leaf:∀ (d':Int) (q:Int) (p:Int) (m:Nat),0≤q→q≤800000000000→p≤q→q + 2≤p + 4 ^ (m + 1)→EvP (fun k=>bI.j0 k d' true b q) (fun r=>p≤r.2.2.2∧r.2.2.2≤p + 4 ^ (m + 1)∧r.2.2.1.length≤2):=by
  intro d' q p m h0 h1 h2 h3
  refine EvP.step (fun k=>bI.j0.eq_2 (k:=k) ..) (EvP.yes rfl ?_)
  refine EvP.bind (KR b hb q h0 (by omega)) fun r hr=>?_
  exact EvP.ret (by dsimp only;omega)
 induction d with
 |zero=>
  intro p hd h0 h1
  refine EvP.step (fun k=>bI.f.eq_2 (k:=k) ..) (EvP.yes (by omega) ?_)
  exact leaf _ p p 0 h0 (by omega) (by omega) (by omega)
 |succ d ih=>
  intro p hd h0 h1
  have h4:(4:Int) ^ (d + 1 + 1)=4 * 4 ^ (d + 1):=by rw [Int.pow_succ,Int.mul_comm]
  have h5:(4:Int)≤4 ^ (d + 1):=by
   have:0 < (4:Int) ^ d:=Int.pow_pos (by omega)
   rw [Int.pow_succ]
   omega
  refine EvP.step (fun k=>bI.f.eq_2 (k:=k) ..) (EvP.ite (fun h=>?_) (fun h=>?_))
  ·exact leaf _ p p (d + 1) h0 (by omega) (by omega) (by omega)
  ·refine gD hb h0 (by omega) fun v v0 v1 _=>?_
   dsimp only
   cases hv:(v == 0) with
   |true=>exact leaf _ (p + 1) p (d + 1) (by omega) (by omega) (by omega) (by omega)
   |false=>
    refine EvP.step (fun k=>bI.j0.eq_2 (k:=k) ..) (EvP.no (by simp) ?_)
    rw [w64 (by omega) (by omega),show ((d + 1:Nat):Int) - 1=(d:Int) by omega]
    refine EvP.bind (aDk b hb (p + 1) (by omega) (by omega)) fun r hr=>?_
    refine EvP.bind (ih r.2 (by omega) (by omega) (by omega)) fun s hs=>?_
    refine EvP.bind (ih s.2.2.2 (by omega) (by omega) (by omega)) fun u hu=>?_
    exact EvP.fM rfl (EvP.ret (by simp;omega))
theorem pY (b:List Int) (hb:Bytes b) (d:Int) (p:Int) (hd0:0≤d) (hd:d≤5) (h0:0≤p) (h1:p≤700000000000):EvP (fun k=>bI.f k b p d) (fun r=>p≤r.2.2.2∧r.2.2.2≤p + 4096∧r.2.2.1.length≤2):=by
 have hp:(4:Int) ^ (d.toNat + 1)≤4096:=by
  have:d.toNat≤5:=by omega
  have h2:4 ^ (d.toNat + 1)≤4 ^ 6:=Nat.pow_le_pow_right (by omega) (by omega)
  have h3:((4 ^ (d.toNat + 1):Nat):Int)≤4096:=by omega
  rw [Int.natCast_pow] at h3
  exact h3
 have h:=WK b hb d.toNat p (by omega) h0 (by omega)
 rw [Int.toNat_of_nonneg hd0] at h
 exact h.mono fun r hr=>by omega
theorem HY {n:Int} (h0:0≤n) (h:n≤99999):gV.f n=some (ba (dec n)):=by
 unfold gV.f
 rw [if_pos h0,if_pos (by omega),aDa h0]
 rfl
theorem tJ {v:Int} (h:0≤v∧v < 4):kX.f v=some (ba (AA v)):=by
 unfold kX.f
 rw [if_pos (by omega)]
 rfl
theorem KY {op:Int} (h:1≤op∧op≤12):op=1∨op=2∨op=3∨op=4∨op=5∨op=6∨op=7∨op=8∨op=9∨op=10∨op=11∨op=12:=by omega
theorem wY {op:Int} (h:1≤op∧op≤12):EvP (fun k=>dL.f k op) (·=lev op):=by
  refine Ev.evp (Ev.of (dL.mono _) (k:=10) ?_)
  rcases KY h with h|h|h|h|h|h|h|h|h|h|h|h <;> subst h <;> first|rfl|kernel_rfl
theorem wZ {op:Int} (h:1≤op∧op≤12):lS.f op=some (lev op):=by
 rcases KY h with h|h|h|h|h|h|h|h|h|h|h|h <;> subst h <;> first|rfl|kernel_rfl
theorem KJ {op:Int} (h:1≤op∧op≤12):pX.f op=some (ba (opB op)):=by
 rcases KY h with h|h|h|h|h|h|h|h|h|h|h|h <;> subst h <;> first|rfl|kernel_rfl
theorem LC {op:Int} (h:1≤op∧op≤12):rD.f op=some (ba (opB op)):=by
 rcases KY h with h|h|h|h|h|h|h|h|h|h|h|h <;> subst h <;> first|rfl|kernel_rfl
theorem EP {op:Int} (h:1≤op∧op≤12):1≤lev op∧lev op≤8:=by
 rcases KY h with h|h|h|h|h|h|h|h|h|h|h|h <;> subst h <;> decide
theorem WX {n:Int} (h0:0≤n) (h:n < 10):strOfNums (([(wrap64 (48 + n)) % 256]:List Int))=ba [UInt8.ofNat (48 + n.toNat)]:=by
 rw [w64 (by omega) (by omega),Int.emod_eq_of_lt (by omega) (by omega)]
 show ba [UInt8.ofNat (48 + n).toNat]=_
 rw [show (48 + n).toNat=48 + n.toNat by omega]
theorem sS:∀ (m:Nat) (n:Int),n.toNat≤m→0≤n→n≤1000000→EvP (fun k=>dX.f k n) (·=ba (dec n)):=by
  intro m
  induction m with
  |zero=>
    intro n hm h0 h1
    have:n=0:=by omega
    subst this
    refine EvP.step (fun k=>dX.f.eq_2 (k:=k) ..) (EvP.no (by omega) (EvP.no (by omega) (EvP.yes (by omega) (EvP.ret ?_))))
    rw [WX (by omega) (by omega)]
    unfold dec
    rw [Lib.decDigits,dif_pos (by decide)]
  |succ m ih=>
    intro n hm h0 h1
    refine EvP.step (fun k=>dX.f.eq_2 (k:=k) ..) (EvP.no (by omega) (EvP.no (by omega) (EvP.ite (fun h=>EvP.ret ?_) (fun h=>?_))))
    · rw [WX (by omega) (by omega)]
      unfold dec
      rw [Lib.decDigits,dif_pos (by omega)]
    · have hd:Int.tdiv n 10=n / 10:=Int.tdiv_eq_ediv_of_nonneg h0
      have hr:Int.tmod n 10=n % 10:=Int.tmod_eq_emod_of_nonneg h0
      rw [hd,hr,w64 (n:=n / 10) (by omega) (by omega)]
      refine EvP.dK (ih (n / 10) (by omega) (by omega) (by omega)) (EvP.fM rfl ?_)
      rw [WX (n:=n % 10) (by omega) (by omega)]
      have hl:(dec (n / 10)).length≤7:=AQ 6 _ (by omega)
      refine EvP.yes (by rw [kN,kN];show _ + 1≤_;omega) (EvP.ret ?_)
      rw [yJ]
      unfold dec
      rw [Lib.decDigits.eq_1 n.toNat,dif_neg (by omega),show (n / 10).toNat=n.toNat / 10 by omega,show (n % 10).toNat=n.toNat % 10 by omega]
theorem uT {v:Int} (h:0≤v∧v < 4):mO.f v=some (ba (AA v)):=by
 unfold mO.f
 rw [w64 (by omega) (by omega),Int.emod_eq_of_lt (by omega) (by omega)]
 rfl
theorem yC (L:List (List UInt8)) (b:Bool) (hl:L.length≤1000000):mP.f (L.map ba) b=some ((tF L b).map ba):=by
 unfold mP.f tF
 cases b with
 |false=>rw [if_neg Bool.false_ne_true,if_neg Bool.false_ne_true]
 |true=>
  rw [if_pos rfl,if_pos rfl]
  simp only [Option.bind_some]
  rw [if_pos (by rw [List.length_map];show 1 + _ < _;omega)]
  rw [if_pos (by rw [List.length_append,List.length_map];show 1 + _ < _;omega)]
  rw [List.map_cons,List.map_append]
  rfl
theorem xA {x:X} (h:x.ok):mI.f (emb x).f0 (emb x).f1 (emb x).f2=some x.lev:=by
 unfold mI.f
 cases x with
 |num n=>rfl
 |var v=>rfl
 |bin op a b=>
  rw [if_neg (by simp [emb])]
  show ((lS.f op).bind fun t=>some t)=_
  rw [wZ h.1]
  rfl
theorem rX {x:X} (h:x.ok) (hx:∀ out:List ByteArray,out.length + 5 * x.size≤1000000→EvP (fun k=>bH.f k (emb x).f0 (emb x).f1 (emb x).f2 out) (·=out ++ x.toks.map ba))
    (least:Int) (hl:least≤9) (out:List ByteArray) (ho:out.length + 5 * x.size + 2≤1000000):EvP (fun k=>bA.f k (emb x).f0 (emb x).f1 (emb x).f2 least out) (·=out ++ (tF x.toks (decide (x.lev < least))).map ba):=by
  refine EvP.step (fun k=>bA.f.eq_2 (k:=k) ..) ?_
  have no:decide (x.lev < least)=false→EvP (fun k=>bA.j0 k out true (emb x).f0 (emb x).f1 (emb x).f2) (·=out ++ (tF x.toks (decide (x.lev < least))).map ba):=by
    intro hd
    rw [hd]
    exact EvP.step (fun k=>bA.j0.eq_2 (k:=k) ..) (EvP.yes rfl (EvP.dK (hx out (by omega)) (EvP.ret rfl)))
  cases x with
  |num n=>exact EvP.fM (nV 0) (EvP.no (by decide) (no (decide_eq_false (by show ¬ (9:Int) < least;omega))))
  |var v=>exact EvP.fM (nV 13) (EvP.no (by decide) (no (decide_eq_false (by show ¬ (9:Int) < least;omega))))
  |bin op a b=>
    have h1:=h.1
    refine EvP.fM (nV op) (EvP.yes (by simp [h1.1,h1.2]) (EvP.dK (wY h1) ?_))
    show EvP (fun n=>bA.j0 n out (decide (lev op≥least)) (emb (X.bin op a b)).f0 (emb (X.bin op a b)).f1 (emb (X.bin op a b)).f2) _
    by_cases hc:lev op < least
    · rw [decide_eq_false (show ¬ lev op≥least by omega)]
      rw [show decide ((X.bin op a b).lev < least)=true from decide_eq_true hc]
      refine EvP.step (fun k=>bA.j0.eq_2 (k:=k) ..) (EvP.no Bool.false_ne_true (EvP.yes (by omega) (EvP.dK (hx (out ++ [(⟨#[40]⟩:ByteArray)]) (by rw [List.length_append];show _ + 1 + _≤_;omega)) (EvP.yes ?_ (EvP.ret ?_)))))
      · have:=uX (X.bin op a b)
        rw [List.length_append,List.length_append,List.length_map]
        show _ + 1 + _ < _
        omega
      · unfold tF
        rw [if_pos rfl,List.map_cons,List.map_append]
        simp
        exact ⟨rfl,rfl⟩
    · rw [decide_eq_true (show lev op≥least by omega)]
      exact no (decide_eq_false hc)
theorem kP:∀ x:X,x.ok→∀ out:List ByteArray,out.length + 5 * x.size≤1000000→EvP (fun k=>bH.f k (emb x).f0 (emb x).f1 (emb x).f2 out) (·=out ++ x.toks.map ba)
  | .num n,h,out,ho=>by
    have h:0≤n∧n≤99999:=h
    exact EvP.step (fun k=>bH.f.eq_2 (k:=k) ..) (EvP.yes rfl (EvP.fM (HY h.1 h.2) (EvP.yes (by omega) (EvP.ret rfl))))
  | .var v,h,out,ho=>by
    have h:0≤v∧v < 4:=h
    exact EvP.step (fun k=>bH.f.eq_2 (k:=k) ..) (EvP.no (by show ¬ (13:Int)=0;decide) (EvP.yes rfl (EvP.fM (tJ h) (EvP.yes (by omega) (EvP.ret rfl)))))
  | .bin op a b,h,out,ho=>by
    have h1:=h.1
    have hr:=EP h1
    have hs:(X.bin op a b).size=a.size + b.size + 1:=rfl
    have ta:=uX a
    have wa:=wC a.toks (decide (a.lev < lev op))
    show EvP (fun k=>bH.f k op 0 [emb a,emb b] out) _
    refine EvP.step (fun k=>bH.f.eq_2 (k:=k) ..) (EvP.no (by show ¬ op=0;omega) (EvP.no (by show ¬ op=13;omega) (EvP.dK (wY h1) (EvP.yes (by show (0:Int) < 2;omega) ?_))))
    show EvP (fun k=>(bA.f k (emb a).f0 (emb a).f1 (emb a).f2 (lev op) out).bind _) _
    refine EvP.dK (rX h.2.1 (kP a h.2.1) (lev op) (by omega) out (by omega)) (EvP.fM (KJ h1) (EvP.yes (by rw [List.length_append,List.length_map];omega) (EvP.yes (by show (1:Int) < 2;omega) ?_)))
    show EvP (fun k=>(bA.f k (emb b).f0 (emb b).f1 (emb b).f2 (wrap64 (lev op + 1)) _).bind _) _
    rw [w64 (by omega) (by omega)]
    refine EvP.dK (rX h.2.2 (kP b h.2.2) (lev op + 1) (by omega) _ (by rw [List.length_append,List.length_append,List.length_map];show _ + _ + 1 + _ + 2≤_;omega)) (EvP.ret ?_)
    rw [X.toks,List.map_append,List.map_cons,show decide (b.lev < lev op + 1)=decide (b.lev≤lev op) from decide_eq_decide.mpr (by omega)]
    simp
theorem nJ:∀ x:X,x.ok→x.size≤1000→EvP (fun k=>bM.f k (emb x).f0 (emb x).f1 (emb x).f2) (·=x.toks.map ba)
  | .num n,h,_=>by
    have h:0≤n∧n≤99999:=h
    exact EvP.step (fun k=>bM.f.eq_2 (k:=k) ..) (EvP.yes rfl (EvP.dK (sS n.toNat n (by omega) h.1 (by omega)) (EvP.ret rfl)))
  | .var v,h,_=>by
    have h:0≤v∧v < 4:=h
    exact EvP.step (fun k=>bM.f.eq_2 (k:=k) ..) (EvP.no (by show ¬ (13:Int)=0;decide) (EvP.yes rfl (EvP.fM (uT h) (EvP.ret rfl))))
  | .bin op a b,h,hz=>by
    have h1:=h.1
    have hr:=EP h1
    have hs:(X.bin op a b).size=a.size + b.size + 1:=rfl
    have ta:=uX a
    have tb:=uX b
    have wa:=wC a.toks (decide (a.lev < lev op))
    have wb:=wC b.toks (decide (b.lev≤lev op))
    show EvP (fun k=>bM.f k op 0 [emb a,emb b]) _
    refine EvP.step (fun k=>bM.f.eq_2 (k:=k) ..) (EvP.no (by show ¬ op=0;omega) (EvP.no (by show ¬ op=13;omega) (EvP.fM (wZ h1) (EvP.yes (by show (0:Int) < 2;omega) ?_))))
    show EvP (fun k=>(bM.f k (emb a).f0 (emb a).f1 (emb a).f2).bind _) _
    refine EvP.dK (nJ a h.2.1 (by omega)) (EvP.fM (xA h.2.1) (EvP.fM (yC _ _ (by omega)) (EvP.fM (LC h1) (EvP.yes (by rw [List.length_map];omega) (EvP.fM rfl (EvP.yes (by show (1:Int) < 2;omega) ?_))))))
    show EvP (fun k=>(bM.f k (emb b).f0 (emb b).f1 (emb b).f2).bind _) _
    refine EvP.dK (nJ b h.2.2 (by omega)) (EvP.fM (xA h.2.2) (EvP.fM (yC _ _ (by omega)) ?_))
    refine EvP.yes (by rw [List.length_append,List.length_map,List.length_map];show _ + 1 + _ < _;omega) ?_
    first
    |exact EvP.ret (by rw [X.toks,List.map_append,List.map_cons];simp)
    |exact EvP.fM rfl (EvP.ret (by rw [X.toks,List.map_append,List.map_cons];simp))
theorem aBf {op:Int} (h:1≤op∧op≤12):(opB op).length≤2:=by
 rcases KY h with h|h|h|h|h|h|h|h|h|h|h|h <;> subst h <;> decide
theorem GR {l:List (List UInt8)} {b:Bool} {m:Nat} (hm:1≤m) (h:∀ t ∈ l,t.length≤m):∀ t ∈ tF l b,t.length≤m:=by
 unfold tF
 split
 ·intro t ht
  rcases List.mem_cons.1 ht with h1|h1
  ·subst h1
   exact hm
  ·rcases List.mem_append.1 h1 with h2|h2
   ·exact h t h2
   ·rw [List.mem_singleton] at h2
    subst h2
    exact hm
 ·exact h
theorem wM:∀ x:X,x.ok→∀ t ∈ x.toks,t.length≤5
 | .num n,h=>by
  have h:0≤n∧n≤99999:=h
  intro t ht
  rw [X.toks,List.mem_singleton] at ht
  subst ht
  exact vG h.1 h.2
 | .var v,h=>by
  intro t ht
  rw [X.toks,List.mem_singleton] at ht
  subst ht
  exact (by decide:(1:Nat)≤5)
 | .bin op a b,h=>by
  intro t ht
  rw [X.toks] at ht
  rcases List.mem_append.1 ht with h1|h1
  ·exact GR (by decide) (wM a h.2.1) t h1
  ·rcases List.mem_cons.1 h1 with h2|h2
   ·subst h2
    have:=aBf h.1
    omega
   ·exact GR (by decide) (wM b h.2.2) t h2
theorem EN (m:Nat):∀ L:List (List UInt8),(∀ t ∈ L,t.length≤m)→(iB L).length≤(m + 1) * L.length
 |[],_=>by simp [iB]
 |[x],h=>by
  have:=h x (by simp)
  simp only [iB,List.length_singleton]
  omega
 |x :: y :: r,h=>by
  have h1:=h x (by simp)
  have h2:=EN m (y :: r) (fun t ht=>h t (by simp [ht]))
  rw [oH x (by simp),List.length_append,List.length_cons,List.length_cons (a:=x),Nat.mul_add]
  omega
theorem wN (x:X) (hx:x.ok) (hd:x.depth≤5):x.size≤31∧x.toks.length≤151∧(iB x.toks).length≤906:=by
 have h1:=aBi x hd
 have h2:=uX x
 have h3:=EN 5 x.toks (wM x hx)
 omega
theorem aDg {L:List (List UInt8)} (hne:L≠[]) (h:∀ t ∈ L,Tok t):iB L≠[]:=by
 cases L with
 |nil=>exact absurd rfl hne
 |cons x r=>
  have hx:=(h x (by simp)).pos
  intro e
  have e2:=congrArg List.length e
  cases r with
  |nil=>
   have e2:x.length=0:=e2
   omega
  |cons y q=>
   rw [oH x (by simp),List.length_append] at e2
   simp at e2
inductive VS (boxes:Int):ST→Prop
 |mk (t:ST) (h:stS boxes (oG t)=true) (hx:t.x.ok) (hd:t.x.depth≤5) (hb:∀ y ∈ t.b,VS boxes y) (he:∀ y ∈ t.e,VS boxes y):VS boxes t
theorem VS.st {boxes:Int} {t:ST} (h:VS boxes t):stS boxes (oG t)=true:=by cases h;assumption
theorem VS.ok {boxes:Int} {t:ST} (h:VS boxes t):t.x.ok:=by cases h;assumption
theorem VS.dp {boxes:Int} {t:ST} (h:VS boxes t):t.x.depth≤5:=by cases h;assumption
theorem VS.b {boxes:Int} {t:ST} (h:VS boxes t):∀ y ∈ t.b,VS boxes y:=by cases h;assumption
theorem VS.e {boxes:Int} {t:ST} (h:VS boxes t):∀ y ∈ t.e,VS boxes y:=by cases h;assumption
theorem EI {l:List ST} {y:ST} (h:y ∈ l):oG y ∈ gF l:=by
 induction l with
 |nil=>cases h
 |cons x r ih=>
  rw [gF]
  rcases List.mem_cons.1 h with rfl|h
  ·exact List.mem_cons_self
  ·exact List.mem_cons_of_mem _ (ih h)
theorem wG {l:List ST} (h:(gF l).length=0):l=[]:=by
 rw [iO] at h
 exact List.eq_nil_of_length_eq_zero h
theorem IL {boxes:Int} {t:ST} (h:stS boxes (oG t)=true) (hk:rY (oG t)=false):t.b=[]∧t.e=[]:=by
 have hk':¬ ((oG t).f0=2∨(oG t).f0=3):=by rw [← oL,hk];exact Bool.false_ne_true
 rw [sH] at h hk'
 have:=EX h (fun e=>hk' (.inl e)) (fun e=>hk' (.inr e))
 exact ⟨wG this.1,wG this.2⟩
theorem aEg (boxes:Int):∀ (d:Nat) (t:ST),kU boxes d (oG t)=true→AX t→VS boxes t
 |0,t,h,ha=>by
  rw [kU,Bool.and_eq_true,Bool.not_eq_true'] at h
  obtain ⟨e1,e2⟩:=IL h.1 h.2
  cases ha with
  |mk _ h1 h2 hb he=>exact .mk t h.1 h1 h2 (by rw [e1];intro y hy;cases hy) (by rw [e2];intro y hy;cases hy)
 |d + 1,t,h,ha=>by
  rw [kU,Bool.and_eq_true] at h
  cases ha with
  |mk _ h1 h2 hb he=>
   cases hk:rY (oG t) with
   |false=>
    obtain ⟨e1,e2⟩:=IL h.1 hk
    exact .mk t h.1 h1 h2 (by rw [e1];intro y hy;cases hy) (by rw [e2];intro y hy;cases hy)
   |true=>
    have h3:=h.2
    rw [hk] at h3
    simp only [Bool.not_true,Bool.false_or,Bool.and_eq_true,List.all_eq_true] at h3
    rw [show (oG t).f4=gF t.b by rw [sH],show (oG t).f5=gF t.e by rw [sH]] at h3
    exact .mk t h.1 h1 h2 (fun y hy=>aEg boxes d y (h3.1 _ (EI hy)) (hb y hy)) (fun y hy=>aEg boxes d y (h3.2 _ (EI hy)) (he y hy))
theorem LH {boxes:Int} {t:ST} (h:VS boxes t):t.kd=1∨t.kd=2∨t.kd=3∨t.kd=4∨t.kd=5∨t.kd=6∨t.kd=7:=by
 have h1:=h.st
 rw [sH] at h1
 unfold stS yD at h1
 dsimp only at h1
 by_cases c1:t.kd=1
 ·omega
 rw [if_neg c1] at h1
 by_cases c2:t.kd=2
 ·omega
 rw [if_neg c2] at h1
 by_cases c3:t.kd=3
 ·omega
 rw [if_neg c3] at h1
 by_cases c4:t.kd=4
 ·omega
 rw [if_neg c4] at h1
 by_cases c5:t.kd=5
 ·omega
 rw [if_neg c5] at h1
 by_cases c7:t.kd=7
 ·omega
 rw [if_neg c7] at h1
 by_cases c6:t.kd=6
 ·omega
 rw [if_neg c6] at h1
 cases h1
theorem yG {boxes:Int} {t:ST} (h:VS boxes t) (hk:t.kd=1∨t.kd=5):0≤t.va∧t.va < 4:=by
 have h1:=h.st
 rw [sH] at h1
 unfold stS yD at h1
 dsimp only at h1
 rcases hk with hk|hk <;> rw [hk] at h1 <;> simp [mU,GQ] at h1 <;> omega
theorem yF {boxes:Int} (hbx:boxes≤3) {t:ST} (h:VS boxes t) (hk:t.kd=4∨t.kd=5):0≤t.bx∧t.bx≤2:=by
 have h1:=h.st
 rw [sH] at h1
 unfold stS yD at h1
 dsimp only at h1
 rcases hk with hk|hk <;> rw [hk] at h1 <;> simp [mU,xM] at h1 <;> omega
def wIf:List UInt8:=[105,102]
def OA:List UInt8:=[101,108,115,101]
def vS:List UInt8:=[119,104,105,108,101]
def yH:List UInt8:=[115,101,110,100]
def OB:List UInt8:=[114,101,99,118]
def vU:List UInt8:=[121,105,101,108,100]
def CJ:List UInt8:=[112,114,105,110,116]
def aEh:List UInt8:=[98,111,120]
def SY:List UInt8:=[116,97,115,107]
mutual
def sT:ST→List (List UInt8)
 |⟨kd,va,bx,x,b,e⟩=>
  if kd=1 then [AA va,[61]] ++ x.toks ++ [[59]]
  else if kd=2 then wIf :: (x.toks ++ ([123] :: (sTs b ++ [[125]]))) ++ (if e.length=0 then [] else OA :: ([123] :: (sTs e ++ [[125]])))
  else if kd=3 then vS :: (x.toks ++ ([123] :: (sTs b ++ [[125]])))
  else if kd=4 then [yH,dec bx] ++ x.toks ++ [[59]]
  else if kd=5 then [OB,dec bx,AA va,[59]]
  else if kd=6 then [vU,[59]]
  else CJ :: x.toks ++ [[59]]
def sTs:List ST→List (List UInt8)
 |[]=>[]
 |s :: ss=>sT s ++ sTs ss
end
def nK (l:List ST):List (List UInt8):=[123] :: (sTs l ++ [[125]])
theorem MN (t:ST):sT t=
  if t.kd=1 then [AA t.va,[61]] ++ t.x.toks ++ [[59]]
  else if t.kd=2 then wIf :: (t.x.toks ++ nK t.b) ++ (if t.e.length=0 then [] else OA :: nK t.e)
  else if t.kd=3 then vS :: (t.x.toks ++ nK t.b)
  else if t.kd=4 then [yH,dec t.bx] ++ t.x.toks ++ [[59]]
  else if t.kd=5 then [OB,dec t.bx,AA t.va,[59]]
  else if t.kd=6 then [vU,[59]]
  else CJ :: t.x.toks ++ [[59]]:=by
 cases t
 rw [sT]
 rfl
theorem aFm {t:ST} (h:t.kd=1):sT t=[AA t.va,[61]] ++ t.x.toks ++ [[59]]:=by rw [MN,if_pos h]
theorem aBg {t:ST} (h:t.kd=2) (h0:t.e.length=0):sT t=wIf :: (t.x.toks ++ nK t.b):=by rw [MN,if_neg (by omega),if_pos h,if_pos h0,List.append_nil]
theorem aBh {t:ST} (h:t.kd=2) (h0:¬ t.e.length=0):sT t=wIf :: (t.x.toks ++ nK t.b) ++ OA :: nK t.e:=by rw [MN,if_neg (by omega),if_pos h,if_neg h0]
theorem aFo {t:ST} (h:t.kd=3):sT t=vS :: (t.x.toks ++ nK t.b):=by rw [MN,if_neg (by omega),if_neg (by omega),if_pos h]
theorem aFp {t:ST} (h:t.kd=4):sT t=[yH,dec t.bx] ++ t.x.toks ++ [[59]]:=by rw [MN,if_neg (by omega),if_neg (by omega),if_neg (by omega),if_pos h]
theorem aFq {t:ST} (h:t.kd=5):sT t=[OB,dec t.bx,AA t.va,[59]]:=by rw [MN,if_neg (by omega),if_neg (by omega),if_neg (by omega),if_neg (by omega),if_pos h]
theorem aFr {t:ST} (h:t.kd=6):sT t=[vU,[59]]:=by rw [MN,if_neg (by omega),if_neg (by omega),if_neg (by omega),if_neg (by omega),if_neg (by omega),if_pos h]
theorem aFs {t:ST} (h:t.kd=7):sT t=CJ :: t.x.toks ++ [[59]]:=by rw [MN,if_neg (by omega),if_neg (by omega),if_neg (by omega),if_neg (by omega),if_neg (by omega),if_neg (by omega)]
theorem SL (l:List ST) (j:Nat) (h:j < l.length):sTs (l.drop j)=sT l[j] ++ sTs (l.drop (j + 1)):=by rw [List.drop_eq_getElem_cons h,sTs]
def Good (L:List (List UInt8)):Prop:=∀ t ∈ L,Tok t∧t.length≤5
theorem Good.nil:Good []:=fun _ h=>by cases h
theorem Good.cons {t:List UInt8} {L:List (List UInt8)} (h:Tok t) (hl:t.length≤5) (k:Good L):Good (t :: L):=fun x hx=>by
 rcases List.mem_cons.1 hx with rfl|hx
 ·exact ⟨h,hl⟩
 ·exact k x hx
theorem Good.app {L M:List (List UInt8)} (h:Good L) (k:Good M):Good (L ++ M):=fun x hx=>by
 rcases List.mem_append.1 hx with hx|hx
 ·exact h x hx
 ·exact k x hx
theorem aBx {x:X} (h:x.ok):Good x.toks:=fun t ht=>⟨LD x h t ht,wM x h t ht⟩
theorem rW {c:UInt8} {t:List UInt8} (h:(c :: t).all isL=true):Tok (c :: t):= .let_ c t (List.all_eq_true.1 h)
theorem KI {l:List ST} (h:Good (sTs l)):Good (nK l):=Good.cons (.sym _ (by decide)) (by decide) (h.app (Good.cons (.sym _ (by decide)) (by decide) .nil))
theorem uF:Good [[59]]:=Good.cons (.sym _ (by decide)) (by decide) .nil
theorem xO (l:List ST) (h:∀ y ∈ l,Good (sT y)):Good (sTs l):=by
 induction l with
 |nil=>rw [sTs];exact .nil
 |cons x r ih=>
  rw [sTs]
  exact (h x (by simp)).app (ih (fun y hy=>h y (by simp [hy])))
theorem aFb {boxes:Int} (hbx:boxes≤3) (t:ST):VS boxes t→Good (sT t):=
 KN (P:=fun t=>VS boxes t→Good (sT t)) (fun t hb he hv=>by
  have gb:=KI (xO t.b (fun y hy=>hb y hy (hv.b y hy)))
  have ge:=KI (xO t.e (fun y hy=>he y hy (hv.e y hy)))
  have gx:=aBx hv.ok
  rw [MN]
  rcases LH hv with hk|hk|hk|hk|hk|hk|hk
  ·rw [if_pos hk]
   have h1:=yG hv (.inl hk)
   exact ((Good.cons (LG h1) (by show (1:Nat)≤5;omega) (Good.cons (.sym _ (by decide)) (by decide) .nil)).app gx).app uF
  ·rw [if_neg (by omega),if_pos hk]
   refine (Good.cons (rW (by decide)) (by decide) (gx.app gb)).app ?_
   split
   ·exact .nil
   ·exact Good.cons (rW (by decide)) (by decide) ge
  ·rw [if_neg (by omega),if_neg (by omega),if_pos hk]
   exact Good.cons (rW (by decide)) (by decide) (gx.app gb)
  ·rw [if_neg (by omega),if_neg (by omega),if_neg (by omega),if_pos hk]
   have h1:=yF hbx hv (.inl hk)
   exact ((Good.cons (rW (by decide)) (by decide) (Good.cons (II _) (vG h1.1 (by omega)) .nil)).app gx).app uF
  ·rw [if_neg (by omega),if_neg (by omega),if_neg (by omega),if_neg (by omega),if_pos hk]
   have h1:=yF hbx hv (.inr hk)
   have h2:=yG hv (.inr hk)
   exact Good.cons (rW (by decide)) (by decide) (Good.cons (II _) (vG h1.1 (by omega)) (Good.cons (LG h2) (by show (1:Nat)≤5;omega) uF))
  ·rw [if_neg (by omega),if_neg (by omega),if_neg (by omega),if_neg (by omega),if_neg (by omega),if_pos hk]
   exact Good.cons (rW (by decide)) (by decide) uF
  ·rw [if_neg (by omega),if_neg (by omega),if_neg (by omega),if_neg (by omega),if_neg (by omega),if_neg (by omega)]
   exact (Good.cons (rW (by decide)) (by decide) gx).app uF) t
theorem aDe {boxes:Int} (hbx:boxes≤3) (l:List ST) (h:∀ t ∈ l,VS boxes t):Good (sTs l):=xO l (fun y hy=>aFb hbx y (h y hy))
theorem BS (l:List ST) (h:∀ y ∈ l,(sT y).length≤170 * cT [y]):(sTs l).length≤170 * cT l:=by
 induction l with
 |nil=>rw [sTs];simp
 |cons x r ih=>
  have h1:=h x (by simp)
  have h2:=ih (fun y hy=>h y (by simp [hy]))
  rw [pK] at h1
  rw [sTs,List.length_append,vF]
  omega
theorem WR {boxes:Int} (t:ST):VS boxes t→(sT t).length≤170 * cT [t]:=
 KN (P:=fun t=>VS boxes t→(sT t).length≤170 * cT [t]) (fun t hb he hv=>by
  have gb:=BS t.b (fun y hy=>hb y hy (hv.b y hy))
  have ge:=BS t.e (fun y hy=>he y hy (hv.e y hy))
  obtain ⟨_,gx,_⟩:=wN t.x hv.ok hv.dp
  have eb:(nK t.b).length=(sTs t.b).length + 2:=by simp [nK]
  have ee:(nK t.e).length=(sTs t.e).length + 2:=by simp [nK]
  rw [MN,pK]
  rcases LH hv with hk|hk|hk|hk|hk|hk|hk
  ·rw [if_pos hk]
   simp only [List.length_append,List.length_cons,List.length_nil]
   omega
  ·rw [if_neg (by omega),if_pos hk,List.length_append,List.length_cons,List.length_append,eb]
   split
   ·simp only [List.length_nil]
    omega
   ·rw [List.length_cons,ee]
    omega
  ·rw [if_neg (by omega),if_neg (by omega),if_pos hk,List.length_cons,List.length_append,eb]
   omega
  ·rw [if_neg (by omega),if_neg (by omega),if_neg (by omega),if_pos hk]
   simp only [List.length_append,List.length_cons,List.length_nil]
   omega
  ·rw [if_neg (by omega),if_neg (by omega),if_neg (by omega),if_neg (by omega),if_pos hk]
   simp only [List.length_cons,List.length_nil]
   omega
  ·rw [if_neg (by omega),if_neg (by omega),if_neg (by omega),if_neg (by omega),if_neg (by omega),if_pos hk]
   simp only [List.length_cons,List.length_nil]
   omega
  ·rw [if_neg (by omega),if_neg (by omega),if_neg (by omega),if_neg (by omega),if_neg (by omega),if_neg (by omega)]
   simp only [List.length_append,List.length_cons,List.length_nil]
   omega) t
theorem IK {boxes:Int} (l:List ST) (h:∀ t ∈ l,VS boxes t):(sTs l).length≤170 * cT l:=BS l (fun y hy=>WR y (h y hy))
def cB:Nat→Nat
 |0=>1
 |d + 1=>4 * cB d + 3
def pB:Nat→Nat
 |0=>5000
 |d + 1=>4 * pB d + 5000
theorem aCz {d:Nat} (h:d≤3):1≤cB d∧cB d≤127:=by
 match d,h with
 |0,_=>decide
 |1,_=>decide
 |2,_=>decide
 |3,_=>decide
theorem aDw {d:Nat} (h:d≤3):5000≤pB d∧pB d≤425000:=by
 match d,h with
 |0,_=>decide
 |1,_=>decide
 |2,_=>decide
 |3,_=>decide
def DS (p:Int) (P C:Nat) (r:Int × Int × Int × Int × Int × (List (S56)) × (List (S58)) × (List (S58)) × Int):Prop:=
 p≤r.2.2.2.2.2.2.2.2∧r.2.2.2.2.2.2.2.2≤p + P∧cSs r.2.2.2.2.2.2.1 + cSs r.2.2.2.2.2.2.2.1≤C
def DL (p:Int) (P C:Nat) (r:List (S58) × Int):Prop:=p≤r.2∧r.2≤p + P∧cSs r.1≤C
theorem EO (b:List Int) (hb:Bytes b) (p:Int) (h0:0≤p) (h1:p≤600000000000):EvP (fun k=>gL.f k b p) (DS p 4100 0):=by
 unfold gL.f
 refine gD hb h0 (by omega) fun v v0 v1 _=>?_
 refine gD hb (by dsimp only;omega) (by dsimp only;omega) fun u u0 u1 _=>?_
 have:=u1 (by omega)
 dsimp only
 rw [w64 (by omega) (by omega)]
 refine EvP.bind (pY b hb _ _ (by omega) (by omega) (by omega) (by omega)) fun r hr=>EvP.ret ?_
 unfold DS
 simp only [sM]
 omega
theorem WO (b:List Int) (hb:Bytes b) (p a1:Int) (h0:0≤p) (h1:p≤500000000000):EvP (fun k=>gM.f k b p a1) (DS p 4200 0):=by
 unfold gM.f
 refine EvP.ite (fun h=>?_) (fun h=>?_)
 ·refine EvP.bind (EO b hb p h0 (by omega)) fun r hr=>EvP.ret ?_
  unfold DS at hr ⊢
  dsimp only
  omega
 ·refine gD hb h0 (by omega) fun v v0 v1 _=>?_
  refine gD hb (by dsimp only;omega) (by dsimp only;omega) fun u u0 u1 _=>?_
  dsimp only
  refine EvP.ite (fun h=>?_) (fun h=>?_)
  ·refine gD hb (by omega) (by omega) fun w w0 w1 _=>?_
   have:=w1 (by omega)
   dsimp only
   rw [w64 (by omega) (by omega)]
   refine EvP.bind (pY b hb _ _ (by omega) (by omega) (by omega) (by omega)) fun r hr=>EvP.ret ?_
   unfold DS
   simp only [sM]
   omega
  ·refine gD hb (by omega) (by omega) fun w w0 w1 _=>EvP.ret ?_
   unfold DS
   simp only [sM]
   omega
theorem RP (b:List Int) (x1 x2:Int) (x4:Bool) (P C:Nat) (M:Int)
  (stmt:∀ p,0≤p→p≤M→EvP (fun k=>bD.f k b p x1 x2 x4) (DL p P C)) (n:Int):
  ∀ (r j:Nat) (l:List (S58)) (p:Int),(j:Int) + r=n→j + r≤100→cSs l + r * C≤1000000→0≤p→p + ((r * P:Nat):Int)≤M→
   EvP (fun k=>bR.l0 k x1 x2 n x4 l (j:Int) b p) (DL p (r * P) (cSs l + r * C)):=by
 intro r
 induction r with
 |zero=>
  intro j l p hj hr hl h0 h1
  refine EvP.step (fun k=>bR.l0.eq_2 (k:=k) ..) (EvP.no (by omega) (EvP.ret ?_))
  unfold DL
  dsimp only
  omega
 |succ r ih=>
  intro j l p hj hr hl h0 h1
  have e1:(r + 1) * P=r * P + P:=Nat.succ_mul r P
  have e2:(r + 1) * C=r * C + C:=Nat.succ_mul r C
  rw [e1] at h1 ⊢
  rw [e2] at hl ⊢
  refine EvP.step (fun k=>bR.l0.eq_2 (k:=k) ..) (EvP.yes (by omega) ?_)
  refine EvP.bind (stmt p h0 (by omega)) fun s hs=>?_
  obtain ⟨s0,s1,s2⟩:=hs
  have l1:=gI l
  have l2:=gI s.1
  have ha:=sF l s.1
  refine EvP.yes (by omega) ?_
  rw [w64 (by omega) (by omega)]
  refine (ih (j + 1) (l ++ s.1) s.2 (by omega) (by omega) (by omega) (by omega) (by omega)).mono fun a ha=>?_
  unfold DL at ha ⊢
  omega
theorem vH (b:List Int) (x1 x2:Int) (x4:Bool) (P C:Nat) (M:Int)
  (stmt:∀ p,0≤p→p≤M→EvP (fun k=>bD.f k b p x1 x2 x4) (DL p P C)) (n:Int) (m:Nat) (j3:0≤n) (hn:n≤m) (hm:m≤100) (hC:m * C≤1000000) (p:Int) (h0:0≤p) (h1:p + ((m * P:Nat):Int)≤M):
  EvP (fun k=>bR.f k b p x1 x2 n x4) (DL p (m * P) (m * C)):=by
 have hnm:n.toNat≤m:=by omega
 have e1:n.toNat * P≤m * P:=Nat.mul_le_mul_right P hnm
 have e2:n.toNat * C≤m * C:=Nat.mul_le_mul_right C hnm
 refine EvP.step (fun k=>bR.f.eq_2 (k:=k) ..) ?_
 refine (RP b x1 x2 x4 P C M stmt n n.toNat 0 [] p (by omega) (by omega) (by rw [sM];omega) h0 (by omega)).mono fun a ha=>?_
 unfold DL at ha ⊢
 rw [sM] at ha
 omega
theorem aDl (b:List Int) (hb:Bytes b) (x1 a2:Int) (x4:Bool) (P C:Nat) (hP:P≤1000000) (hC:C≤1000) (M:Int) (hM:M≤300000000000)
  (stmt:∀ p,0≤p→p≤M→EvP (fun k=>bD.f k b p x1 (wrap64 (a2 - 1)) x4) (DL p P C)) (p:Int) (h0:0≤p) (h1:p + 10000000≤M):
  EvP (fun k=>dV.f k b p x1 a2 x4) (DS p (4 * P + 4200) (4 * C)):=by
 refine EvP.step (fun k=>dV.f.eq_2 (k:=k) ..) ?_
 refine gD hb h0 (by omega) fun v v0 v1 _=>?_
 have:=v1 (by omega)
 dsimp only
 rw [w64 (n:=1 + v) (by omega) (by omega)]
 refine EvP.bind (pY b hb _ _ (by omega) (by omega) (by omega) (by omega)) fun r hr=>?_
 refine gD hb (by omega) (by omega) fun u u0 u1 _=>?_
 have:=u1 (by omega)
 refine EvP.bind (vH b x1 _ x4 P C M stmt u 2 u0 (by omega) (by omega) (by omega) _ (by dsimp only;omega) (by dsimp only;omega)) fun s hs=>?_
 obtain ⟨s0,s1,s2⟩:=hs
 dsimp only at s0 s1
 refine gD hb (by omega) (by omega) fun w w0 w1 _=>?_
 have:=w1 (by omega)
 refine EvP.bind (vH b x1 _ x4 P C M stmt w 2 w0 (by omega) (by omega) (by omega) _ (by dsimp only;omega) (by dsimp only;omega)) fun t ht=>EvP.ret ?_
 obtain ⟨t0,t1,t2⟩:=ht
 dsimp only at t0 t1
 unfold DS
 dsimp only
 omega
theorem WL (b:List Int) (hb:Bytes b) (x1 a2:Int) (P C:Nat) (hP:P≤1000000) (hC:C≤1000) (M:Int) (hM:M≤300000000000)
  (stmt:∀ p,0≤p→p≤M→EvP (fun k=>bD.f k b p x1 (wrap64 (a2 - 1)) false) (DL p P C)) (p:Int) (h0:0≤p) (h1:p + 10000000≤M):
  EvP (fun k=>fA.f k b p x1 a2) (DL p (2 * P + 10) (2 * C + 3)):=by
 refine EvP.step (fun k=>fA.f.eq_2 (k:=k) ..) ?_
 refine gD hb h0 (by omega) fun v v0 v1 _=>?_
 have:=v1 (by omega)
 refine EvP.bind (vH b x1 _ false P C M stmt v 2 v0 (by omega) (by omega) (by omega) _ (by dsimp only;omega) (by dsimp only;omega)) fun s hs=>?_
 obtain ⟨s0,s1,s2⟩:=hs
 dsimp only at s0 s1
 refine EvP.fM rfl (EvP.fM rfl (EvP.fM rfl (EvP.fM rfl ?_)))
 refine gD hb (by omega) (by omega) fun u u0 u1 _=>?_
 refine EvP.fM rfl (EvP.fM rfl (EvP.fM rfl ?_))
 have l1:=gI s.1
 refine EvP.yes (by simp;omega) (EvP.fM rfl (EvP.ret ?_))
 unfold DL
 simp only [cSs,cS,sF]
 omega
theorem KS (b:List Int) (hb:Bytes b) (x1 j3:Int) (x:Bool) (p:Int) (h0:0≤p) (h1:p≤300000000000):
  EvP (fun k=>bD.j2 k x1 j3 x b p) (DL p 4300 1):=by
 refine EvP.step (fun k=>bD.j2.eq_2 (k:=k) ..) (EvP.ite (fun h=>?_) (fun h=>EvP.ite (fun h=>EvP.ret ?_) (fun h=>?_)))
 ·refine EvP.bind (WO b hb p x1 h0 (by omega)) fun r hr=>EvP.ret ?_
  unfold DS at hr
  unfold DL
  simp only [cSs,cS]
  omega
 ·unfold DL
  simp only [cSs,cS]
  omega
 ·refine gD hb h0 (by omega) fun u u0 u1 _=>?_
  have:=u1 (by omega)
  dsimp only
  rw [w64 (by omega) (by omega)]
  refine EvP.bind (pY b hb _ _ (by omega) (by omega) (by omega) (by omega)) fun r hr=>EvP.ret ?_
  unfold DL
  simp only [cSs,cS]
  omega
theorem WM (b:List Int) (hb:Bytes b):∀ (d:Nat) (a2:Int) (x1:Int) (x3:Bool) (p:Int),d≤3→a2=d→0≤p→p + (d:Int) * 20000000≤200000000000→EvP (fun k=>bD.f k b p x1 a2 x3) (DL p (pB d) (cB d)):=by
 intro d
 induction d with
 |zero=>
  intro a2 x1 x3 p hd ha h0 h1
  have j2:∀ (q j5:Int) (x:Bool),p≤q→q≤p + 1→EvP (fun k=>bD.j2 k x1 j5 x b q) (DL p (pB 0) (cB 0)):=fun q j5 x hq hq2=>(KS b hb x1 j5 x q (by omega) (by omega)).mono fun r hr=>by
   unfold DL at hr ⊢
   simp only [pB,cB]
   omega
  have pr:∀ q:Int,p≤q→q≤p + 1→EvP (fun k=>(aG.f k b q 3).bind fun j4=>((bI.f k b j4.2 (wrap64 (1 + j4.1))).bind fun j3=>(some ((([(⟨7,0,0,(⟨j3.1,j3.2.1,j3.2.2.1⟩:S56),([]:List (S58)),([]:List (S58))⟩:S58)]:List (S58))),j3.2.2.2)))) (DL p (pB 0) (cB 0)):=by
   intro q hq hq2
   refine gD hb (by omega) (by omega) fun u u0 u1 _=>?_
   have:=u1 (by omega)
   dsimp only
   rw [w64 (by omega) (by omega)]
   refine EvP.bind (pY b hb _ _ (by omega) (by omega) (by omega) (by omega)) fun r hr=>EvP.ret ?_
   unfold DL
   simp only [cSs,cS,pB,cB]
   omega
  have j1:∀ q:Int,p≤q→q≤p + 1→EvP (fun k=>bD.j1 k x1 a2 false b q) (DL p (pB 0) (cB 0)):=fun q hq hq2=>
   EvP.step (fun k=>bD.j1.eq_2 (k:=k) ..) (EvP.no Bool.false_ne_true (pr q hq hq2))
  have j0:∀ (q j5:Int) (x:Bool),p≤q→q≤p + 1→EvP (fun k=>bD.j0 k x1 a2 x3 j5 x b q) (DL p (pB 0) (cB 0)):=by
   intro q j5 x hq hq2
   refine EvP.step (fun k=>bD.j0.eq_2 (k:=k) ..) (EvP.ite (fun h=>?_) (fun h=>EvP.ite (fun h=>EvP.no (by omega) (pr q hq hq2)) (fun h=>EvP.ite (fun h=>EvP.no (by omega) (j1 q hq hq2)) (fun h=>EvP.ite (fun h=>j2 q _ _ hq hq2) (fun h=>EvP.ite (fun h=>j2 q _ _ hq hq2) (fun h=>j2 q _ _ hq hq2))))))
   refine EvP.bind (EO b hb q (by omega) (by omega)) fun r hr=>EvP.ret ?_
   unfold DS at hr
   unfold DL
   simp only [cSs,cS,pB,cB]
   omega
  refine EvP.step (fun k=>bD.f.eq_2 (k:=k) ..) (gD hb h0 (by omega) fun u u0 u1 _=>?_)
  dsimp only
  exact EvP.ite (fun h=>j0 _ _ _ (by omega) (by omega)) (fun h=>j0 _ _ _ (by omega) (by omega))
 |succ d ih=>
  intro a2 x1 x3 p hd ha h0 h1
  have hc:=aCz (show d≤3 by omega)
  have hp:=aDw (show d≤3 by omega)
  have ec:cB (d + 1)=4 * cB d + 3:=rfl
  have ep:pB (d + 1)=4 * pB d + 5000:=rfl
  have ew:wrap64 (a2 - 1)=(d:Int):=by
   rw [w64 (by omega) (by omega)]
   omega
  have stmt:∀ (x4:Bool) (p:Int),0≤p→p≤200000000000 - (d:Int) * 20000000→EvP (fun k=>bD.f k b p x1 (wrap64 (a2 - 1)) x4) (DL p (pB d) (cB d)):=fun x4 p h0 h1=>ih _ x1 x4 p (by omega) ew h0 (by omega)
  have j2:∀ (q j5:Int) (x:Bool),p≤q→q≤p + 1→EvP (fun k=>bD.j2 k x1 j5 x b q) (DL p (pB (d + 1)) (cB (d + 1))):=fun q j5 x hq hq2=>(KS b hb x1 j5 x q (by omega) (by omega)).mono fun r hr=>by
   unfold DL at hr ⊢
   omega
  have pr:∀ q:Int,p≤q→q≤p + 1→EvP (fun k=>(aG.f k b q 3).bind fun j4=>((bI.f k b j4.2 (wrap64 (1 + j4.1))).bind fun j3=>(some ((([(⟨7,0,0,(⟨j3.1,j3.2.1,j3.2.2.1⟩:S56),([]:List (S58)),([]:List (S58))⟩:S58)]:List (S58))),j3.2.2.2)))) (DL p (pB (d + 1)) (cB (d + 1))):=by
   intro q hq hq2
   refine gD hb (by omega) (by omega) fun u u0 u1 _=>?_
   have:=u1 (by omega)
   dsimp only
   rw [w64 (by omega) (by omega)]
   refine EvP.bind (pY b hb _ _ (by omega) (by omega) (by omega) (by omega)) fun r hr=>EvP.ret ?_
   unfold DL
   simp only [cSs,cS]
   omega
  have j1:∀ (q:Int) (x:Bool),p≤q→q≤p + 1→EvP (fun k=>bD.j1 k x1 a2 x b q) (DL p (pB (d + 1)) (cB (d + 1))):=by
   intro q x hq hq2
   refine EvP.step (fun k=>bD.j1.eq_2 (k:=k) ..) (EvP.ite (fun h=>?_) (fun h=>pr q hq hq2))
   refine EvP.bind (WL b hb x1 a2 (pB d) (cB d) (by omega) (by omega) (200000000000 - (d:Int) * 20000000) (by omega) (stmt false) q (by omega) (by omega)) fun r hr=>EvP.ret ?_
   unfold DL at hr ⊢
   dsimp only
   omega
  have j0:∀ (q j5:Int) (x:Bool),p≤q→q≤p + 1→EvP (fun k=>bD.j0 k x1 a2 x3 j5 x b q) (DL p (pB (d + 1)) (cB (d + 1))):=by
   intro q j5 x hq hq2
   refine EvP.step (fun k=>bD.j0.eq_2 (k:=k) ..) (EvP.ite (fun h=>?_) (fun h=>EvP.ite (fun h=>EvP.ite (fun h=>?_) (fun h=>pr q hq hq2)) (fun h=>EvP.ite (fun h=>EvP.ite (fun h=>j1 q _ hq hq2) (fun h=>j1 q _ hq hq2)) (fun h=>EvP.ite (fun h=>j2 q _ _ hq hq2) (fun h=>EvP.ite (fun h=>j2 q _ _ hq hq2) (fun h=>j2 q _ _ hq hq2))))))
   ·refine EvP.bind (EO b hb q (by omega) (by omega)) fun r hr=>EvP.ret ?_
    unfold DS at hr
    unfold DL
    simp only [cSs,cS]
    omega
   ·refine EvP.bind (aDl b hb x1 a2 x3 (pB d) (cB d) (by omega) (by omega) (200000000000 - (d:Int) * 20000000) (by omega) (stmt x3) q (by omega) (by omega)) fun r hr=>EvP.ret ?_
    unfold DS at hr
    unfold DL
    simp only [cSs,cS]
    omega
  refine EvP.step (fun k=>bD.f.eq_2 (k:=k) ..) (gD hb h0 (by omega) fun u u0 u1 _=>?_)
  dsimp only
  exact EvP.ite (fun h=>j0 _ _ _ (by omega) (by omega)) (fun h=>j0 _ _ _ (by omega) (by omega))
theorem FU (b:List Int) (hb:Bytes b) (d:Nat) (hd:d≤3) (a2 x1:Int) (ha:a2=d) (x4:Bool) (n:Int) (m:Nat) (j3:0≤n) (hn:n≤m) (hm:m≤6) (p:Int) (h0:0≤p) (h1:p≤190000000000):
  EvP (fun k=>bR.f k b p x1 a2 n x4) (DL p (m * pB d) (m * cB d)):=by
 have hc:=aCz hd
 have hp:=aDw hd
 have e1:m * pB d≤6 * pB d:=Nat.mul_le_mul_right _ hm
 have e2:m * cB d≤6 * cB d:=Nat.mul_le_mul_right _ hm
 exact vH b x1 a2 x4 (pB d) (cB d) (200000000000 - (d:Int) * 20000000) (fun p h0 h1=>WM b hb d a2 x1 x4 p hd ha h0 (by omega)) n m j3 hn (by omega) (by omega) p h0 (by omega)
theorem RV (b:List Int) (p:Int):∀ (m:Nat) (l:List (S58)),l.length=m→cSs l≤1000000→EvP (fun k=>dY.l0 k l b p) (fun r=>r.2=p∧cSs r.1≤16):=by
 intro m
 induction m with
 |zero=>
  intro l hm hl
  obtain rfl:=List.eq_nil_of_length_eq_zero hm
  refine EvP.step (fun k=>dY.l0.eq_2 (k:=k) ..) (EvP.dK (sJ _ _ hl (by omega)) (EvP.no ?_ (EvP.ret ⟨rfl,?_⟩)))
  ·rw [sM]
   omega
  ·rw [sM]
   omega
 |succ m ih=>
  intro l hm hl
  refine EvP.step (fun k=>dY.l0.eq_2 (k:=k) ..) (EvP.dK (sJ _ _ hl (by omega)) (EvP.ite (fun h=>?_) (fun h=>EvP.ret ⟨rfl,by dsimp only;omega⟩)))
  have hlen:=gI l
  rw [w64 (by omega) (by omega),show (((l.length:Int) - 1)).toNat=m by omega]
  have ht:=LZ l m
  exact EvP.yes (by omega) (EvP.yes (by omega) (ih _ (by rw [List.length_take];omega) (by omega)))
theorem RU (b:List Int) (hb:Bytes b) (p a1:Int) (h0:0≤p) (h1:p≤180000000000):EvP (fun k=>dY.f k b p a1) (DL p 3000000 16):=by
 unfold dY.f
 refine gD hb h0 (by omega) fun v v0 v1 _=>?_
 have:=v1 (by omega)
 dsimp only
 rw [w64 (by omega) (by omega)]
 have hc:=aCz (show 3≤3 by omega)
 have hp:=aDw (show 3≤3 by omega)
 refine EvP.bind (FU b hb 3 (by omega) 3 a1 rfl true (1 + v) 6 (by omega) (by omega) (by omega) _ (by omega) (by omega)) fun r hr=>?_
 obtain ⟨r0,r1,r2⟩:=hr
 refine (RV b r.2 _ r.1 rfl (by omega)).mono fun s hs=>?_
 unfold DL
 omega
theorem MG (b:List Int) (hb:Bytes b) (p:Int) (h0:0≤p) (h1:p≤180000000000):EvP (fun k=>gU.f k b p) (DS p 100000 20):=by
 unfold gU.f
 refine EvP.fM rfl (gD hb h0 (by omega) fun v v0 v1 _=>?_)
 have:=v1 (by omega)
 dsimp only
 refine EvP.bind (FU b hb 1 (by omega) 1 0 rfl false v 2 (by omega) (by omega) (by omega) _ (by omega) (by omega)) fun r hr=>EvP.ret ?_
 obtain ⟨r0,r1,r2⟩:=hr
 have e1:cB 1=7:=rfl
 have e2:pB 1=25000:=rfl
 rw [e2] at r1
 rw [e1] at r2
 unfold DS
 simp only [sM]
 omega
set_option linter.unusedSimpArgs false
theorem uD (l:List ST):l.length≤cT l:=by
 have h:=gI (gF l)
 rw [iO] at h
 exact h
theorem RF (l:List ST) (j:Nat):cT (l.take j) + cT (l.drop j)=cT l:=by
 rw [← yL,List.take_append_drop]
theorem PI (l:List ST) (j:Nat) (h:j < l.length):aH (gF l) (j:Int)=oG l[j]:=by
 rw [DN _ j (by rw [iO];exact h),NJ l j h]
def TH (l:List ST):Prop:=∀ out:List ByteArray,out.length + 170 * cT l + 10≤1000000→EvP (fun k=>aZ.f k (gF l) out) (·=out ++ (nK l).map ba)
theorem BP {boxes:Int} (hbx:boxes≤3) (t:ST) (hv:VS boxes t) (hb:TH t.b) (he:TH t.e) (out:List ByteArray) (ho:out.length + 170 * cT [t]≤1000000):
    EvP (fun k=>aQ.f k (oG t).f0 (oG t).f1 (oG t).f2 (oG t).f3.f0 (oG t).f3.f1 (oG t).f3.f2 (oG t).f4 (oG t).f5 out) (·=out ++ (sT t).map ba):=by
  obtain ⟨zx,tx,_⟩:=wN t.x hv.ok hv.dp
  have hs:=hv.ok
  rw [pK] at ho
  rw [sH]
  show EvP (fun k=>aQ.f k t.kd t.va t.bx (emb t.x).f0 (emb t.x).f1 (emb t.x).f2 (gF t.b) (gF t.e) out) _
  refine EvP.step (fun k=>aQ.f.eq_2 (k:=k) ..) ?_
  rcases LH hv with hk|hk|hk|hk|hk|hk|hk
  · have h1:=yG hv (.inl hk)
    rw [aFm hk]
    refine EvP.yes hk (EvP.fM (tJ h1) (EvP.fM rfl (EvP.yes (by show _ + 2 < _;omega) (EvP.dK (kP t.x hs _ (by rw [List.length_append];show _ + 2 + _≤_;omega)) (EvP.yes ?_ (EvP.ret ?_))))))
    · rw [List.length_append,List.length_append,List.length_map]
      show _ + 2 + _ < _
      omega
    · simp
      first|done|rfl|exact ⟨rfl,rfl⟩|exact ⟨rfl,rfl,rfl⟩
  ·
    refine EvP.no (by omega) (EvP.yes hk (EvP.yes (by omega) (EvP.dK (kP t.x hs _ (by rw [List.length_append];show _ + 1 + _≤_;omega)) (EvP.dK (hb _ ?_) ?_))))
    · rw [List.length_append,List.length_append,List.length_map]
      show _ + 1 + _ + _ + _≤_
      omega
    · refine EvP.ite (fun h0=>?_) (fun h0=>?_)
      · rw [iO] at h0
        rw [aBh hk (by omega)]
        have hlb:=IK t.b hv.b
        have eb:(nK t.b).length=(sTs t.b).length + 2:=by simp [nK]
        refine EvP.yes ?_ (EvP.dK (he _ ?_) (EvP.ret ?_))
        · rw [List.length_append,List.length_append,List.length_append,List.length_map,List.length_map,eb]
          show _ + 1 + _ + _ < _
          omega
        · rw [List.length_append,List.length_append,List.length_append,List.length_append,List.length_map,List.length_map,eb]
          show _ + 1 + _ + _ + 1 + _ + _≤_
          omega
        · simp
          first|done|rfl|exact ⟨rfl,rfl⟩|exact ⟨rfl,rfl,rfl⟩
      · rw [iO] at h0
        rw [aBg hk (by omega)]
        refine EvP.ret ?_
        simp
        first|done|rfl|exact ⟨rfl,rfl⟩|exact ⟨rfl,rfl,rfl⟩
  · rw [aFo hk]
    refine EvP.no (by omega) (EvP.no (by omega) (EvP.yes hk (EvP.yes (by omega) (EvP.dK (kP t.x hs _ (by rw [List.length_append];show _ + 1 + _≤_;omega)) (EvP.dK (hb _ ?_) (EvP.ret ?_))))))
    · rw [List.length_append,List.length_append,List.length_map]
      show _ + 1 + _ + _ + _≤_
      omega
    · simp
      first|done|rfl|exact ⟨rfl,rfl⟩|exact ⟨rfl,rfl,rfl⟩
  · have h1:=yF hbx hv (.inl hk)
    rw [aFp hk]
    refine EvP.no (by omega) (EvP.no (by omega) (EvP.no (by omega) (EvP.yes hk (EvP.fM (HY h1.1 (by omega)) (EvP.fM rfl (EvP.yes (by show _ + 2 < _;omega) (EvP.dK (kP t.x hs _ (by rw [List.length_append];show _ + 2 + _≤_;omega)) (EvP.yes ?_ (EvP.ret ?_)))))))))
    · rw [List.length_append,List.length_append,List.length_map]
      show _ + 2 + _ < _
      omega
    · simp
      first|done|rfl|exact ⟨rfl,rfl⟩|exact ⟨rfl,rfl,rfl⟩
  · have h1:=yF hbx hv (.inr hk)
    have h2:=yG hv (.inr hk)
    rw [aFq hk]
    refine EvP.no (by omega) (EvP.no (by omega) (EvP.no (by omega) (EvP.no (by omega) (EvP.yes hk (EvP.fM (HY h1.1 (by omega)) (EvP.fM (tJ h2) (EvP.fM rfl (EvP.yes (by show _ + 3 < _;omega) (EvP.fM rfl (EvP.yes ?_ (EvP.ret ?_)))))))))))
    · rw [List.length_append]
      show _ + 3 < _
      omega
    · simp
      first|done|rfl|exact ⟨rfl,rfl⟩|exact ⟨rfl,rfl,rfl⟩
  · rw [aFr hk]
    refine EvP.no (by omega) (EvP.no (by omega) (EvP.no (by omega) (EvP.no (by omega) (EvP.no (by omega) (EvP.yes hk (EvP.yes (by omega) (EvP.fM rfl (EvP.yes ?_ (EvP.ret ?_)))))))))
    · rw [List.length_append]
      show _ + 1 < _
      omega
    · simp
      first|done|rfl|exact ⟨rfl,rfl⟩|exact ⟨rfl,rfl,rfl⟩
  · rw [aFs hk]
    refine EvP.no (by omega) (EvP.no (by omega) (EvP.no (by omega) (EvP.no (by omega) (EvP.no (by omega) (EvP.no (by omega) (EvP.yes hk (EvP.yes (by omega) (EvP.dK (kP t.x hs _ (by rw [List.length_append];show _ + 1 + _≤_;omega)) (EvP.yes ?_ (EvP.ret ?_))))))))))
    · rw [List.length_append,List.length_append,List.length_map]
      show _ + 1 + _ < _
      omega
    · simp
      first|done|rfl|exact ⟨rfl,rfl⟩|exact ⟨rfl,rfl,rfl⟩
theorem uM {boxes:Int} (hbx:boxes≤3) (l:List ST) (hc:cT l≤5000) (hv:∀ t ∈ l,VS boxes t) (hs:∀ t ∈ l,TH t.b∧TH t.e):∀ (d j:Nat) (out:List ByteArray),j + d=l.length→out.length + 170 * cT (l.drop j) + 5≤1000000→
    EvP (fun k=>aZ.l0 k out (gF l) ((gF l).length:Int) (j:Int)) (·=out ++ (sTs (l.drop j) ++ [[125]]).map ba)
  |0,j,out,h,ho=>by
    refine EvP.step (fun k=>aZ.l0.eq_2 (k:=k) ..) (EvP.no (by rw [iO];omega) (EvP.yes (by omega) (EvP.ret ?_)))
    rw [List.drop_eq_nil_of_le (by omega),sTs]
    rfl
  |d + 1,j,out,h,ho=>by
    have hj:j < l.length:=by omega
    have hcl:=uD l
    have hcd:cT (l.drop j)=cT [l[j]] + cT (l.drop (j + 1)):=by rw [List.drop_eq_getElem_cons hj,vF,pK]
    have hm:l[j] ∈ l:=by simp
    have hlen:=WR l[j] (hv _ hm)
    refine EvP.step (fun k=>aZ.l0.eq_2 (k:=k) ..) (EvP.yes (by rw [iO];omega) (EvP.yes (by omega) (EvP.yes (by rw [iO];omega) ?_)))
    rw [PI l j hj]
    refine EvP.dK (BP hbx l[j] (hv _ hm) (hs _ hm).1 (hs _ hm).2 out (by omega)) ?_
    rw [w64 (by omega) (by omega),show (j:Int) + 1=((j + 1:Nat):Int) by omega]
    refine (uM hbx l hc hv hs d (j + 1) _ (by omega) (by rw [List.length_append,List.length_map];omega)).mono (fun a ha=>?_)
    rw [ha,SL l j hj]
    simp
theorem yX {boxes:Int} (hbx:boxes≤3):∀ (c:Nat) (l:List ST),cT l≤c→c≤5000→(∀ t ∈ l,VS boxes t)→TH l:=by
 intro c
 induction c with
 |zero=>
  intro l hc h5 hv out ho
  have hl:l=[]:=by
   have:=uD l
   exact List.eq_nil_of_length_eq_zero (by omega)
  subst hl
  refine EvP.step (fun k=>aZ.f.eq_2 (k:=k) ..) (EvP.yes (by omega) ?_)
  refine (uM hbx [] (by omega) hv (fun t h=>by cases h) 0 0 _ rfl (by rw [List.length_append];show _ + 1 + _ + _≤_;simp only [List.drop_nil];omega)).mono (fun a ha=>?_)
  rw [ha]
  unfold nK
  simp
  first|done|rfl|exact ⟨rfl,rfl⟩|exact ⟨rfl,rfl,rfl⟩
 |succ c ih=>
  intro l hc h5 hv out ho
  have hs:∀ t ∈ l,TH t.b∧TH t.e:=by
   intro t ht
   have h1:cT [t]≤cT l:=by
    obtain ⟨s,r,rfl⟩:=List.append_of_mem ht
    rw [yL,vF t r,pK]
    omega
   rw [pK] at h1
   exact ⟨ih t.b (by omega) (by omega) (hv t ht).b,ih t.e (by omega) (by omega) (hv t ht).e⟩
  refine EvP.step (fun k=>aZ.f.eq_2 (k:=k) ..) (EvP.yes (by omega) ?_)
  refine (uM hbx l (by omega) hv hs l.length 0 _ (by omega) (by rw [List.length_append];show _ + 1 + _ + _≤_;rw [List.drop_zero];omega)).mono (fun a ha=>?_)
  rw [ha,List.drop_zero]
  unfold nK
  simp
  first|done|rfl|exact ⟨rfl,rfl⟩|exact ⟨rfl,rfl,rfl⟩
theorem BR (L:List (List UInt8)) (hL:L.length≤10) (x:X) (hx:x.ok) (hd:x.depth≤5):EvP (fun k=>gB.f k (L.map ba) (emb x).f0 (emb x).f1 (emb x).f2) (·=(L ++ x.toks ++ [[59]]).map ba):=by
  obtain ⟨zx,tx,_⟩:=wN x hx hd
  unfold gB.f
  refine EvP.dK (nJ x hx (by omega)) (EvP.yes (by rw [List.length_map,List.length_map];omega) ?_)
  first
  | (refine EvP.fM rfl (EvP.yes ?_ (EvP.ret ?_))
     · rw [List.length_append,List.length_map,List.length_map]
       omega
     · simp
       rfl)
  | (refine EvP.yes ?_ (EvP.ret ?_)
     · rw [List.length_append,List.length_map,List.length_map]
       omega
     · simp
       rfl)
def TI (l:List ST):Prop:=EvP (fun k=>bL.f k (gF l)) (·=(nK l).map ba)
theorem GY {boxes:Int} (hbx:boxes≤3) (t:ST) (hv:VS boxes t) (hc:cT [t]≤5000) (hb:TI t.b) (he:TI t.e):
    EvP (fun k=>bP.f k (oG t).f0 (oG t).f1 (oG t).f2 (oG t).f3.f0 (oG t).f3.f1 (oG t).f3.f2 (oG t).f4 (oG t).f5) (·=(sT t).map ba):=by
  obtain ⟨zx,tx,_⟩:=wN t.x hv.ok hv.dp
  have hs:=hv.ok
  have hd:=hv.dp
  have lb:=IK t.b hv.b
  have le:=IK t.e hv.e
  have eb:(nK t.b).length=(sTs t.b).length + 2:=by simp [nK]
  have ee:(nK t.e).length=(sTs t.e).length + 2:=by simp [nK]
  rw [pK] at hc
  rw [sH]
  show EvP (fun k=>bP.f k t.kd t.va t.bx (emb t.x).f0 (emb t.x).f1 (emb t.x).f2 (gF t.b) (gF t.e)) _
  refine EvP.step (fun k=>bP.f.eq_2 (k:=k) ..) ?_
  rcases LH hv with hk|hk|hk|hk|hk|hk|hk
  · have h1:=yG hv (.inl hk)
    rw [aFm hk]
    exact EvP.yes hk (EvP.fM (uT h1) (EvP.dK (BR [AA t.va,[61]] (by simp) t.x hs hd) (EvP.ret rfl)))
  · refine EvP.no (by omega) (EvP.no (by omega) (EvP.no (by omega) (EvP.no (by omega) (EvP.no (by omega) (EvP.no (by omega) (EvP.fM rfl (EvP.dK (nJ t.x hs (by omega)) (EvP.yes (by rw [List.length_map];show 1 + _ < _;omega) (EvP.fM rfl (EvP.dK hb (EvP.yes ?_ (EvP.fM rfl ?_))))))))))))
    · rw [List.length_append,List.length_map,List.length_map,eb]
      show 1 + _ + _ < _
      omega
    · refine EvP.ite (fun h0=>?_) (fun h0=>?_)
      · rw [iO] at h0
        rw [aBg hk (by omega)]
        refine EvP.ret ?_
        simp
        first|done|rfl|exact ⟨rfl,rfl⟩
      · rw [iO] at h0
        rw [aBh hk (by omega)]
        refine EvP.yes ?_ (EvP.fM rfl (EvP.dK he (EvP.yes ?_ (EvP.ret ?_))))
        · rw [List.length_append,List.length_append,List.length_map,List.length_map,eb]
          show 1 + _ + _ < _
          omega
        · rw [List.length_append,List.length_append,List.length_append,List.length_map,List.length_map,List.length_map,eb,ee]
          show 1 + _ + _ + 1 + _ < _
          omega
        · simp
          first|done|rfl|exact ⟨rfl,rfl⟩
  · rw [aFo hk]
    refine EvP.no (by omega) (EvP.no (by omega) (EvP.no (by omega) (EvP.no (by omega) (EvP.no (by omega) (EvP.yes hk (EvP.fM rfl (EvP.dK (nJ t.x hs (by omega)) (EvP.yes (by rw [List.length_map];show 1 + _ < _;omega) (EvP.fM rfl (EvP.dK hb (EvP.yes ?_ (EvP.ret ?_))))))))))))
    · rw [List.length_append,List.length_map,List.length_map,eb]
      show 1 + _ + _ < _
      omega
    · simp
      first|done|rfl|exact ⟨rfl,rfl⟩
  · have h1:=yF hbx hv (.inl hk)
    rw [aFp hk]
    exact EvP.no (by omega) (EvP.yes hk (EvP.dK (sS t.bx.toNat t.bx (by omega) h1.1 (by omega)) (EvP.dK (BR [yH,dec t.bx] (by simp) t.x hs hd) (EvP.ret rfl))))
  · have h1:=yF hbx hv (.inr hk)
    have h2:=yG hv (.inr hk)
    rw [aFq hk]
    exact EvP.no (by omega) (EvP.no (by omega) (EvP.no (by omega) (EvP.yes hk (EvP.dK (sS t.bx.toNat t.bx (by omega) h1.1 (by omega)) (EvP.fM (uT h2) (EvP.ret rfl))))))
  · rw [aFr hk]
    exact EvP.no (by omega) (EvP.no (by omega) (EvP.no (by omega) (EvP.no (by omega) (EvP.yes hk (EvP.ret rfl)))))
  · rw [aFs hk]
    exact EvP.no (by omega) (EvP.no (by omega) (EvP.yes hk (EvP.dK (BR [CJ] (by simp) t.x hs hd) (EvP.ret rfl))))
theorem xU {boxes:Int} (hbx:boxes≤3) (l:List ST) (hc:cT l≤5000) (hv:∀ t ∈ l,VS boxes t) (hs:∀ t ∈ l,TI t.b∧TI t.e):∀ (d j:Nat) (out:List ByteArray),j + d=l.length→out.length + 170 * cT (l.drop j) + 5≤1000000→
    EvP (fun k=>bL.l0 k (gF l) out (j:Int)) (·=out ++ (sTs (l.drop j) ++ [[125]]).map ba)
  |0,j,out,h,ho=>by
    refine EvP.step (fun k=>bL.l0.eq_2 (k:=k) ..) (EvP.no (by rw [iO];omega) (EvP.yes (by omega) (EvP.ret ?_)))
    rw [List.drop_eq_nil_of_le (by omega),sTs]
    rfl
  |d + 1,j,out,h,ho=>by
    have hj:j < l.length:=by omega
    have hcl:=uD l
    have hcd:cT (l.drop j)=cT [l[j]] + cT (l.drop (j + 1)):=by rw [List.drop_eq_getElem_cons hj,vF,pK]
    have hsp:=RF l j
    have hm:l[j] ∈ l:=by simp
    have hlen:=WR l[j] (hv _ hm)
    refine EvP.step (fun k=>bL.l0.eq_2 (k:=k) ..) (EvP.yes (by rw [iO];omega) (EvP.yes (by omega) ?_))
    rw [PI l j hj]
    refine EvP.dK (GY hbx l[j] (hv _ hm) (by omega) (hs _ hm).1 (hs _ hm).2) (EvP.yes (by rw [List.length_map];omega) ?_)
    rw [w64 (by omega) (by omega),show (j:Int) + 1=((j + 1:Nat):Int) by omega]
    refine (xU hbx l hc hv hs d (j + 1) _ (by omega) (by rw [List.length_append,List.length_map];omega)).mono (fun a ha=>?_)
    rw [ha,SL l j hj]
    simp
theorem EW {boxes:Int} (hbx:boxes≤3):∀ (c:Nat) (l:List ST),cT l≤c→c≤5000→(∀ t ∈ l,VS boxes t)→TI l:=by
 intro c
 induction c with
 |zero=>
  intro l hc h5 hv
  have hl:l=[]:=by
   have:=uD l
   exact List.eq_nil_of_length_eq_zero (by omega)
  subst hl
  refine EvP.step (fun k=>bL.f.eq_2 (k:=k) ..) ?_
  refine (xU hbx [] (by omega) hv (fun t h=>by cases h) 0 0 _ rfl (by show 1 + _ + _≤_;simp only [List.drop_nil];omega)).mono (fun a ha=>?_)
  rw [ha]
  unfold nK
  simp
  first|done|rfl
 |succ c ih=>
  intro l hc h5 hv
  have hs:∀ t ∈ l,TI t.b∧TI t.e:=by
   intro t ht
   have h1:cT [t]≤cT l:=by
    obtain ⟨s,r,rfl⟩:=List.append_of_mem ht
    rw [yL,vF t r,pK]
    omega
   rw [pK] at h1
   exact ⟨ih t.b (by omega) (by omega) (hv t ht).b,ih t.e (by omega) (by omega) (hv t ht).e⟩
  refine EvP.step (fun k=>bL.f.eq_2 (k:=k) ..) ?_
  refine (xU hbx l (by omega) hv hs l.length 0 _ (by omega) (by show 1 + _ + _≤_;rw [List.drop_zero];omega)).mono (fun a ha=>?_)
  rw [ha,List.drop_zero]
  unfold nK
  simp
  first|done|rfl
theorem DK (l:List (List S58)) (i:Nat) (h:i < l.length):fJ l (i:Int)=l[i]:=by
 unfold fJ
 rw [Int.toNat_natCast,List.getD_eq_getElem?_getD,List.getElem?_eq_getElem h]
 rfl
def tL (r:Int):Bool:=decide (1≤r) && decide (r≤4)
def rV (rs:List Int):Bool:=rs.all tL && decide ((rs.length:Int)≤3)
theorem MF (rs:List Int) (hl:rs.length≤1000000000):∀ (d j:Nat),j + d=rs.length→EvP (fun k=>dG.l0 k rs rs (rs.length:Int) (j:Int)) (·=((rs.drop j).all tL && decide ((rs.length:Int)≤3))):=by
  intro d
  induction d with
  |zero=>
    intro j hj
    refine EvP.step (fun k=>dG.l0.eq_2 (k:=k) ..) (EvP.no (by omega) (EvP.ret ?_))
    rw [List.drop_eq_nil_of_le (by omega)]
    rfl
  |succ d ih=>
    intro j hj
    have hlt:j < rs.length:=by omega
    refine EvP.step (fun k=>dG.l0.eq_2 (k:=k) ..) (EvP.yes (by omega) (EvP.yes (by omega) (EvP.yes (by omega) ?_)))
    rw [PK rs j hlt,w64 (by omega) (by omega),List.drop_eq_getElem_cons hlt,List.all_cons]
    refine EvP.ite (fun h=>EvP.ret ?_) (fun h=>EvP.ite (fun h2=>EvP.ret ?_) (fun h2=>?_))
    · have:tL rs[j]=false:=by
        unfold tL
        rw [decide_eq_false (by omega)]
        rfl
      rw [this]
      rfl
    · have:tL rs[j]=false:=by
        unfold tL
        rw [decide_eq_false (p:=rs[j]≤4) (by omega),Bool.and_false]
      rw [this]
      rfl
    · have:tL rs[j]=true:=by
        unfold tL
        rw [decide_eq_true (by omega),decide_eq_true (by omega)]
        rfl
      rw [this,Bool.true_and]
      exact ih (j + 1) (by omega)
theorem ME (rs:List Int) (hl:rs.length≤1000000000):EvP (fun k=>dG.f k rs) (·=rV rs):=by
  unfold dG.f
  exact MF rs hl rs.length 0 (by omega)
theorem MQ (rs:List Int) (hl:rs.length≤1000000000):∀ (d j:Nat),j + d=rs.length→EvP (fun k=>dW.l0 k rs (j:Int)) (·=((rs.drop j).all tL && decide ((rs.length:Int)≤3))):=by
  intro d
  induction d with
  |zero=>
    intro j hj
    refine EvP.step (fun k=>dW.l0.eq_2 (k:=k) ..) (EvP.no (by omega) (EvP.ret ?_))
    rw [List.drop_eq_nil_of_le (by omega)]
    rfl
  |succ d ih=>
    intro j hj
    have hlt:j < rs.length:=by omega
    refine EvP.step (fun k=>dW.l0.eq_2 (k:=k) ..) (EvP.yes (by omega) (EvP.yes (by omega) ?_))
    rw [PK rs j hlt,w64 (by omega) (by omega),List.drop_eq_getElem_cons hlt,List.all_cons,wI]
    refine EvP.fM rfl (EvP.ite (fun h=>?_) (fun h=>EvP.ret ?_))
    · rw [show tL rs[j]=true from h,Bool.true_and]
      exact ih (j + 1) (by omega)
    · rw [show tL rs[j]=false from Bool.eq_false_iff.mpr h]
      rfl
theorem MP (rs:List Int) (hl:rs.length≤1000000000):EvP (fun k=>dW.f k rs) (·=rV rs):=by
  unfold dW.f
  exact MQ rs hl rs.length 0 (by omega)
def wH (m:Int) (s:S58):Bool:=!((s.f0 == 4 || s.f0 == 5) && decide (s.f2≥m))
mutual
def bxS (m:Int):S58→Bool
 |⟨a,b,c,e,l1,l2⟩=>wH m ⟨a,b,c,e,l1,l2⟩ && (tT m l1 && tT m l2)
def tT (m:Int):List S58→Bool
 |[]=>true
 |x :: xs=>bxS m x && tT m xs
end
theorem aCy (m:Int) (s:S58):bxS m s=(wH m s && (tT m s.f4 && tT m s.f5)):=by
 cases s
 rw [bxS]
theorem KG (m:Int):∀ l:List S58,tT m l=l.all (bxS m)
 |[]=>by rw [tT];rfl
 |x :: xs=>by rw [tT,KG m xs];rfl
theorem EU (m:Int):∀ (c:Nat) (l:List S58),cSs l≤c→c≤1000000000→EvP (fun k=>bO.f k l m) (·=tT m l):=by
  intro c
  induction c with
  |zero=>
    intro l hl hc
    have:=gI l
    obtain rfl:=List.eq_nil_of_length_eq_zero (show l.length=0 by omega)
    exact EvP.step (fun k=>bO.f.eq_2 (k:=k) ..) (EvP.step (fun k=>bO.l0.eq_2 (k:=k) ..) (EvP.no (by simp) (EvP.ret (by rw [tT]))))
  |succ c ih=>
    intro l hl hc
    have hlen:=gI l
    have loop:∀ (r j:Nat),j + r=l.length→EvP (fun k=>bO.l0 k l m (j:Int)) (·=tT m (l.drop j)):=by
      intro r
      induction r with
      |zero=>
        intro j hj
        refine EvP.step (fun k=>bO.l0.eq_2 (k:=k) ..) (EvP.no (by omega) (EvP.ret ?_))
        rw [List.drop_eq_nil_of_le (by omega),tT]
      |succ r ih2=>
        intro j hj
        have hlt:j < l.length:=by omega
        have hm:=yK l _ (List.getElem_mem hlt)
        have hcs:=OV l[j]
        have hd:tT m (l.drop j)=(bxS m l[j] && tT m (l.drop (j + 1))):=by
          rw [List.drop_eq_getElem_cons hlt,tT]
        rw [hd,aCy]
        have j1:∀ b:Bool,(wH m l[j]=!b)→EvP (fun k=>bO.j1 k l m (j:Int) b l[j].f0 l[j].f1 l[j].f2 l[j].f3.f0 l[j].f3.f1 l[j].f3.f2 l[j].f4 l[j].f5) (·=(wH m l[j] && (tT m l[j].f4 && tT m l[j].f5) && tT m (l.drop (j + 1)))):=by
          intro b hb
          refine EvP.step (fun k=>bO.j1.eq_2 (k:=k) ..) (EvP.ite (fun h=>EvP.ret ?_) (fun h=>?_))
          · rw [hb,h]
            rfl
          · rw [hb,Bool.eq_false_iff.mpr h,w64 (n:=(j:Int) + 1) (by omega) (by omega)]
            refine EvP.dK (ih _ (by omega) (by omega)) (EvP.ite (fun h4=>EvP.dK (ih _ (by omega) (by omega)) (EvP.ite (fun h5=>?_) (fun h5=>EvP.ret ?_))) (fun h4=>EvP.ret ?_))
            · rw [h4,h5]
              exact ih2 (j + 1) (by omega)
            · rw [Bool.eq_false_iff.mpr h5]
              simp
            · rw [Bool.eq_false_iff.mpr h4]
              simp
        refine EvP.step (fun k=>bO.l0.eq_2 (k:=k) ..) (EvP.yes (by omega) (EvP.yes (by omega) ?_))
        rw [DN l j hlt]
        refine EvP.ite (fun h4=>j1 _ ?_) (fun h4=>EvP.ite (fun h5=>j1 _ ?_) (fun h5=>j1 _ ?_))
        · simp [wH,h4]
        · simp [wH,h5]
        · simp [wH,h4,h5]
    refine EvP.step (fun k=>bO.f.eq_2 (k:=k) ..) ?_
    exact loop l.length 0 (by omega)
theorem NW (m:Int) (h0:0≤m) (h3:m≤3) (s:S58):stS m s=(stS 3 s && wH m s):=by
 rw [Bool.eq_iff_iff,Bool.and_eq_true]
 unfold stS yD mU wH xM
 by_cases c4:s.f0=4
 ·simp only [c4]
  simp
  constructor
  ·rintro ⟨a,⟨b,c⟩,d⟩
   exact ⟨⟨a,⟨b,by omega⟩,d⟩,by omega⟩
  ·rintro ⟨⟨a,⟨b,c⟩,d⟩,e⟩
   exact ⟨a,⟨b,by omega⟩,d⟩
 ·by_cases c5:s.f0=5
  ·simp only [c5]
   simp
   constructor
   ·rintro ⟨a,⟨b,c⟩,d⟩
    exact ⟨⟨a,⟨b,by omega⟩,d⟩,by omega⟩
   ·rintro ⟨⟨a,⟨b,c⟩,d⟩,e⟩
    exact ⟨a,⟨b,by omega⟩,d⟩
  ·simp [c4,c5]
theorem rA (m:Int) (h0:0≤m) (h3:m≤3):∀ (d:Nat) (s:S58),kU m d s=true ↔ (kU 3 d s=true∧bxS m s=true)
 |0,s=>by
  simp only [kU,Bool.and_eq_true,NW m h0 h3 s,aCy]
  constructor
  ·rintro ⟨⟨a,b⟩,c⟩
   have hf:=IJ a (fun e=>by rw [(oL s).mpr e] at c;cases c)
   rw [OV] at hf
   have l4:=gI s.f4
   have l5:=gI s.f5
   rw [List.eq_nil_of_length_eq_zero (show s.f4.length=0 by omega),List.eq_nil_of_length_eq_zero (show s.f5.length=0 by omega)]
   exact ⟨⟨a,c⟩,b,by rw [tT],by rw [tT]⟩
  ·rintro ⟨⟨a,c⟩,b,_⟩
   exact ⟨⟨a,b⟩,c⟩
 |d + 1,s=>by
  have ih:∀ l:List S58,l.all (kU m d)=true ↔ (l.all (kU 3 d)=true∧tT m l=true):=by
   intro l
   rw [KG,List.all_eq_true,List.all_eq_true,List.all_eq_true]
   constructor
   ·exact fun h=>⟨fun x hx=>((rA m h0 h3 d x).mp (h x hx)).1,fun x hx=>((rA m h0 h3 d x).mp (h x hx)).2⟩
   ·exact fun h x hx=>(rA m h0 h3 d x).mpr ⟨h.1 x hx,h.2 x hx⟩
  simp only [kU,Bool.and_eq_true,Bool.or_eq_true,NW m h0 h3 s,aCy,ih]
  cases hb:rY s with
  |true=>
   simp only [Bool.not_true,Bool.false_eq_true,false_or]
   constructor
   ·rintro ⟨⟨a,b⟩,⟨c1,c2⟩,d1,d2⟩
    exact ⟨⟨a,c1,d1⟩,b,c2,d2⟩
   ·rintro ⟨⟨a,c1,d1⟩,b,c2,d2⟩
    exact ⟨⟨a,b⟩,⟨c1,c2⟩,d1,d2⟩
  |false=>
   simp only [Bool.not_false,true_or,and_true]
   constructor
   ·rintro ⟨a,b⟩
    have hf:=IJ a (fun e=>by rw [(oL s).mpr e] at hb;cases hb)
    rw [OV] at hf
    have l4:=gI s.f4
    have l5:=gI s.f5
    rw [List.eq_nil_of_length_eq_zero (show s.f4.length=0 by omega),List.eq_nil_of_length_eq_zero (show s.f5.length=0 by omega)]
    exact ⟨a,b,by rw [tT],by rw [tT]⟩
   ·rintro ⟨a,b,_⟩
    exact ⟨a,b⟩
theorem aCb (m:Int) (h0:0≤m) (h3:m≤3) (l:List S58):okT m l=(okT 3 l && tT m l):=by
 rw [Bool.eq_iff_iff,Bool.and_eq_true,DI,DI,KG]
 unfold okL
 rw [List.all_eq_true,List.all_eq_true,List.all_eq_true]
 constructor
 ·exact fun h=>⟨⟨fun x hx=>((rA m h0 h3 3 x).mp (h.1 x hx)).1,h.2⟩,fun x hx=>((rA m h0 h3 3 x).mp (h.1 x hx)).2⟩
 ·exact fun h=>⟨fun x hx=>(rA m h0 h3 3 x).mpr ⟨h.1.1 x hx,h.2 x hx⟩,h.1.2⟩
def mY (rs:List Int) (ts:List (List S58)):Bool:=rV rs && (decide (1≤ts.length) && decide (ts.length≤3) && ts.all (okT (rs.length:Int)))
theorem NV {rs:List Int} (h:rV rs=true):(0:Int)≤rs.length∧(rs.length:Int)≤3:=by
 unfold rV at h
 rw [Bool.and_eq_true,decide_eq_true_eq] at h
 exact ⟨by omega,h.2⟩
def BH (ts:List (List S58)):Prop:=ts.length≤1000000000∧∀ t ∈ ts,cSs t≤1000000000
theorem sW (rs:List Int) (ts:List (List S58)) (hr:rs.length≤1000000000) (ht:BH ts):EvP (fun k=>bG.f k rs ts) (·=mY rs ts):=by
  obtain ⟨hl,ht⟩:=ht
  have loop:rV rs=true→∀ (d j:Nat),j + d=ts.length→EvP (fun k=>bG.l0 k ts (ts.length:Int) (j:Int) rs ts) (·=(ts.drop j).all (okT (rs.length:Int))):=by
    intro hro d
    induction d with
    |zero=>
      intro j hj
      refine EvP.step (fun k=>bG.l0.eq_2 (k:=k) ..) (EvP.no (by omega) (EvP.ret ?_))
      rw [List.drop_eq_nil_of_le (by omega)]
      rfl
    |succ d ih=>
      intro j hj
      have hlt:j < ts.length:=by omega
      refine EvP.step (fun k=>bG.l0.eq_2 (k:=k) ..) (EvP.yes (by omega) (EvP.yes (by omega) (EvP.yes (by omega) ?_)))
      rw [DK ts j hlt,w64 (by omega) (by omega),List.drop_eq_getElem_cons hlt,List.all_cons]
      refine EvP.dK (BQ _ _ (ht _ (List.getElem_mem hlt))) (EvP.ite (fun h=>?_) (fun h=>EvP.ret ?_))
      · rw [h,Bool.true_and]
        exact ih (j + 1) (by omega)
      · rw [Bool.eq_false_iff.mpr h]
        rfl
  have j0:∀ b:Bool,(b=false→rV rs=true∧1≤ts.length∧ts.length≤3)→(b=true→mY rs ts=false)→EvP (fun k=>bG.j0 k b rs ts) (·=mY rs ts):=by
    intro b h1 h2
    refine EvP.step (fun k=>bG.j0.eq_2 (k:=k) ..) (EvP.ite (fun h=>EvP.ret (h2 h).symm) (fun h=>?_))
    obtain ⟨g1,g2,g3⟩:=h1 (Bool.eq_false_iff.mpr h)
    unfold mY
    rw [g1,decide_eq_true g2,decide_eq_true g3]
    exact loop g1 ts.length 0 (by omega)
  unfold bG.f
  refine EvP.dK (ME rs hr) (EvP.ite (fun h=>EvP.ite (fun h1=>j0 true (fun e=>by cases e) (fun _=>?_)) (fun h1=>j0 _ (fun e=>?_) (fun e=>?_))) (fun h=>j0 true (fun e=>by cases e) (fun _=>?_)))
  · unfold mY
    rw [decide_eq_false (by omega)]
    simp
  · have:=of_decide_eq_false e
    exact ⟨h,by omega,by omega⟩
  · have:=of_decide_eq_true e
    unfold mY
    rw [decide_eq_false (p:=ts.length≤3) (by omega)]
    simp
  · unfold mY
    rw [Bool.eq_false_iff.mpr h]
    rfl
theorem tC (rs:List Int) (ts:List (List S58)) (hr:rs.length≤1000000000) (ht:BH ts):EvP (fun k=>aX.f k rs ts) (·=mY rs ts):=by
  obtain ⟨hl,ht⟩:=ht
  have loop:rV rs=true→∀ (d j:Nat),j + d=ts.length→EvP (fun k=>aX.l0 k (j:Int) rs ts) (·=(ts.drop j).all (okT (rs.length:Int))):=by
    intro hro d
    obtain ⟨r0,r3⟩:=NV hro
    induction d with
    |zero=>
      intro j hj
      refine EvP.step (fun k=>aX.l0.eq_2 (k:=k) ..) (EvP.no (by omega) (EvP.ret ?_))
      rw [List.drop_eq_nil_of_le (by omega)]
      rfl
    |succ d ih=>
      intro j hj
      have hlt:j < ts.length:=by omega
      refine EvP.step (fun k=>aX.l0.eq_2 (k:=k) ..) (EvP.yes (by omega) (EvP.yes (by omega) ?_))
      rw [DK ts j hlt,w64 (by omega) (by omega),List.drop_eq_getElem_cons hlt,List.all_cons,aCb _ r0 r3]
      refine EvP.dK (BZ _ (ht _ (List.getElem_mem hlt))) (EvP.ite (fun h=>EvP.dK (EU _ _ _ (ht _ (List.getElem_mem hlt)) (by omega)) (EvP.ite (fun h2=>?_) (fun h2=>EvP.ret ?_))) (fun h=>EvP.ret ?_))
      · rw [h,h2,Bool.true_and,Bool.true_and]
        exact ih (j + 1) (by omega)
      · rw [h,Bool.eq_false_iff.mpr h2]
        rfl
      · rw [Bool.eq_false_iff.mpr h]
        rfl
  have j0:∀ b:Bool,(b=false→rV rs=true∧1≤ts.length∧ts.length≤3)→(b=true→mY rs ts=false)→EvP (fun k=>aX.j0 k b rs ts) (·=mY rs ts):=by
    intro b h1 h2
    refine EvP.step (fun k=>aX.j0.eq_2 (k:=k) ..) (EvP.ite (fun h=>EvP.ret (h2 h).symm) (fun h=>?_))
    obtain ⟨g1,g2,g3⟩:=h1 (Bool.eq_false_iff.mpr h)
    unfold mY
    rw [g1,decide_eq_true g2,decide_eq_true g3]
    exact loop g1 ts.length 0 (by omega)
  unfold aX.f
  refine EvP.dK (MP rs hr) (EvP.ite (fun h=>?_) (fun h=>j0 true (fun e=>by cases e) (fun _=>?_)))
  · rw [wI]
    refine EvP.fM rfl (j0 _ (fun e=>?_) (fun e=>?_))
    · rw [Bool.not_eq_false',Bool.and_eq_true,decide_eq_true_eq,decide_eq_true_eq] at e
      exact ⟨h,by omega,by omega⟩
    · unfold mY
      have e2:(decide (1≤ts.length) && decide (ts.length≤3))=false:=by
        rw [Bool.eq_false_iff]
        intro q
        rw [Bool.and_eq_true,decide_eq_true_eq,decide_eq_true_eq] at q
        rw [decide_eq_true (by omega),decide_eq_true (by omega)] at e
        cases e
      rw [e2]
      simp
  · unfold mY
    rw [Bool.eq_false_iff.mpr h]
    rfl
theorem KZ {rs:List Int} {ts:List (List S58)}:mY rs ts=true ↔ rV rs=true∧1≤ts.length∧ts.length≤3∧∀ t ∈ ts,okT (rs.length:Int) t=true:=by
 unfold mY
 simp only [Bool.and_eq_true,decide_eq_true_eq,List.all_eq_true,and_assoc]
set_option linter.unusedSimpArgs false
theorem aGv {rs:List Int} {ts:List (List S58)} (h:mY rs ts=true):∃ ms:List (List ST),ms.map gF=ts∧ms.length≤3∧(∀ m ∈ ms,(∀ t ∈ m,AX t)∧cT m≤16)∧∀ m ∈ ms,okT (rs.length:Int) (gF m)=true:=by
 obtain ⟨_,_,h3,h4⟩:=KZ.1 h
 suffices ∀ ts:List (List S58),(∀ t ∈ ts,okT (rs.length:Int) t=true)→∃ ms:List (List ST),ms.map gF=ts∧(∀ m ∈ ms,(∀ t ∈ m,AX t)∧cT m≤16)∧∀ m ∈ ms,okT (rs.length:Int) (gF m)=true by
  obtain ⟨ms,e,ha,ho⟩:=this ts h4
  exact ⟨ms,e,by rw [← List.length_map (f:=gF),e];exact h3,ha,ho⟩
 intro ts
 induction ts with
 |nil=>exact fun _=>⟨[],rfl,by simp,by simp⟩
 |cons t ts ih=>
  intro h
  obtain ⟨ms,e,ha,ho⟩:=ih (fun x hx=>h x (List.mem_cons_of_mem _ hx))
  have ht:=h t List.mem_cons_self
  obtain ⟨m,hm,hx⟩:=aDq _ 3 t (DI.1 ht).1
  subst hm
  refine ⟨m :: ms,by rw [List.map_cons,e],fun y hy=>?_,fun y hy=>?_⟩
  ·rcases List.mem_cons.1 hy with rfl|hy
   ·exact ⟨hx,(DI.1 ht).2⟩
   ·exact ha y hy
  ·rcases List.mem_cons.1 hy with rfl|hy
   ·exact ht
   ·exact ho y hy
def SK (r:Int):List (List UInt8):=[aEh,dec r,[59]]
def nY:List Int→List (List UInt8)
 |[]=>[]
 |r :: rs=>SK r ++ nY rs
def nC:List (List ST)→List (List UInt8)
 |[]=>[]
 |m :: ms=>SY :: nK m ++ nC ms
def pT (rs:List Int) (ms:List (List ST)):List (List UInt8):=nY rs ++ nC ms
structure VP (rs:List Int) (ms:List (List ST)):Prop where
 rooms:∀ r ∈ rs,1≤r∧r≤4
 nr:rs.length≤3
 n1:1≤ms.length
 nm:ms.length≤3
 vs:∀ m ∈ ms,(∀ t ∈ m,VS (rs.length:Int) t)∧cT m≤16
theorem aIa {rs:List Int} {ts:List (List S58)} (h:mY rs ts=true):∃ ms:List (List ST),ms.map gF=ts∧VP rs ms∧(∀ m ∈ ms,(∀ t ∈ m,AX t)∧cT m≤16):=by
 obtain ⟨ms,e,hl,ha,hk⟩:=aGv h
 obtain ⟨h1,h2,h3,h4⟩:=KZ.1 h
 refine ⟨ms,e,⟨?_,?_,?_,hl,?_⟩,ha⟩
 ·intro r hr
  unfold rV at h1
  rw [Bool.and_eq_true,List.all_eq_true] at h1
  have:=h1.1 r hr
  unfold tL at this
  rw [Bool.and_eq_true,decide_eq_true_eq,decide_eq_true_eq] at this
  exact this
 ·have:=NV h1
  omega
 ·rw [← e,List.length_map] at h2
  exact h2
 ·intro m hm
  refine ⟨fun t ht=>?_,(ha m hm).2⟩
  have h5:=(DI.1 (hk m hm)).1
  unfold okL at h5
  rw [List.all_eq_true] at h5
  exact aEg _ 3 t (h5 _ (EI ht)) ((ha m hm).1 t ht)
theorem GH (rs:List Int) (j:Nat) (h:j < rs.length):nY (rs.drop j)=SK rs[j] ++ nY (rs.drop (j + 1)):=by rw [List.drop_eq_getElem_cons h,nY]
theorem GL (ms:List (List ST)) (j:Nat) (h:j < ms.length):nC (ms.drop j)=SY :: nK ms[j] ++ nC (ms.drop (j + 1)):=by rw [List.drop_eq_getElem_cons h,nC]
theorem FP:∀ rs:List Int,(∀ r ∈ rs,1≤r∧r≤4)→Good (nY rs)
 |[],_=> .nil
 |r :: rs,h=>by
  have h1:=h r (by simp)
  rw [nY]
  exact (Good.cons (rW (by decide)) (by decide) (Good.cons (II _) (vG (by omega) (by omega)) uF)).app (FP rs (fun x hx=>h x (by simp [hx])))
theorem FQ {boxes:Int} (hbx:boxes≤3):∀ ms:List (List ST),(∀ m ∈ ms,∀ t ∈ m,VS boxes t)→Good (nC ms)
 |[],_=> .nil
 |m :: ms,h=>by
  rw [nC]
  exact (Good.cons (rW (by decide)) (by decide) (KI (aDe hbx m (h m (by simp))))).app (FQ hbx ms (fun x hx=>h x (by simp [hx])))
theorem CY {rs:List Int} {ms:List (List ST)} (h:VP rs ms):Good (pT rs ms):=
 (FP rs h.rooms).app (FQ (boxes:=(rs.length:Int)) (by have:=h.nr;omega) ms (fun m hm=>(h.vs m hm).1))
theorem KV:∀ rs:List Int,(nY rs).length=3 * rs.length
 |[]=>rfl
 |r :: rs=>by rw [nY,List.length_append,KV rs,List.length_cons];show 3 + _=_;omega
theorem PE {boxes:Int} (m:List ST) (h:∀ t ∈ m,VS boxes t) (hc:cT m≤16):(nK m).length≤2722:=by
 have:=IK m h
 have e:(nK m).length=(sTs m).length + 2:=by simp [nK]
 omega
theorem KW {boxes:Int}:∀ ms:List (List ST),(∀ m ∈ ms,(∀ t ∈ m,VS boxes t)∧cT m≤16)→(nC ms).length≤2723 * ms.length
 |[],_=>by simp [nC]
 |m :: ms,h=>by
  have h1:=PE m (h m (by simp)).1 (h m (by simp)).2
  have h2:=KW ms (fun x hx=>h x (by simp [hx]))
  rw [nC,List.length_append,List.length_cons,List.length_cons]
  omega
theorem xW {rs:List Int} {ms:List (List ST)} (h:VP rs ms):(pT rs ms).length≤8200:=by
 have h1:=KV rs
 have h2:=KW ms h.vs
 have:=h.nr
 have:=h.nm
 unfold pT
 rw [List.length_append]
 omega
theorem SV {rs:List Int} {ms:List (List ST)} (h:VP rs ms):(iB (pT rs ms)).length≤1000000:=by
 have h1:=EN 5 (pT rs ms) (fun t ht=>(CY h t ht).2)
 have h2:=xW h
 omega
theorem aGd {rs:List Int} {ms:List (List ST)} (h:VP rs ms):pT rs ms≠[]:=by
 have:=h.n1
 unfold pT
 cases ms with
 |nil=>simp at this
 |cons m r=>simp [nC]
theorem aDy (ms:List (List ST)) (j:Nat) (h:j < ms.length):fJ (ms.map gF) (j:Int)=gF ms[j]:=by
 rw [DK _ j (by rw [List.length_map];exact h),List.getElem_map]
theorem FT {rs:List Int} {ms:List (List ST)} (h:VP rs ms):∀ (d j:Nat) (out:List (List UInt8)),j + d=ms.length→out ++ nC (ms.drop j)=pT rs ms→
    EvP (fun k=>bC.l1 k (out.map ba) (ms.map gF) ((ms.map gF).length:Int) (j:Int)) (·=ba (iB (pT rs ms)))
  |0,j,out,hj,ho=>by
    have e:out=pT rs ms:=by rw [← ho,List.drop_eq_nil_of_le (by omega),nC,List.append_nil]
    have hl:=xW h
    have hg:=CY h
    refine EvP.step (fun k=>bC.l1.eq_2 (k:=k) ..) (EvP.no (by rw [List.length_map];omega) ?_)
    rw [e]
    exact EvP.dK (BN _ (by omega) (fun t ht=>by have:=(hg t ht).2;omega) (fun t ht=>(hg t ht).1) (by have:=SV h;omega)) (EvP.ret rfl)
  |d + 1,j,out,hj,ho=>by
    have hj':j < ms.length:=by omega
    have hm:=h.vs ms[j] (by simp)
    have hl:=xW h
    have hb:=PE ms[j] hm.1 hm.2
    have hle:out.length≤8200:=by
      have:=congrArg List.length ho
      rw [List.length_append] at this
      omega
    have hn:=h.nm
    refine EvP.step (fun k=>bC.l1.eq_2 (k:=k) ..) (EvP.yes (by rw [List.length_map];omega) (EvP.yes (by omega) (EvP.yes (by rw [List.length_map];omega) (EvP.yes (by rw [List.length_map];omega) ?_))))
    rw [aDy ms j hj']
    refine EvP.dK (yX (boxes:=(rs.length:Int)) (by have:=h.nr;omega) 16 ms[j] hm.2 (by omega) hm.1 _ (by rw [List.length_append,List.length_map];show _ + 1 + _ + _≤_;omega)) ?_
    rw [w64 (by omega) (by omega),show (j:Int) + 1=((j + 1:Nat):Int) by omega]
    have e2:out.map ba ++ [(⟨#[116,97,115,107]⟩:ByteArray)] ++ (nK ms[j]).map ba=(out ++ SY :: nK ms[j]).map ba:=by
      simp
      rfl
    rw [e2]
    exact FT h d (j + 1) _ (by omega) (by rw [← ho,GL ms j hj'];simp)
theorem FR {rs:List Int} {ms:List (List ST)} (h:VP rs ms):∀ (d j:Nat) (out:List (List UInt8)),j + d=rs.length→out ++ nY (rs.drop j) ++ nC ms=pT rs ms→
    EvP (fun k=>bC.l0 k (out.map ba) rs (rs.length:Int) (j:Int) rs (ms.map gF)) (·=ba (iB (pT rs ms)))
  |0,j,out,hj,ho=>by
    refine EvP.step (fun k=>bC.l0.eq_2 (k:=k) ..) (EvP.no (by omega) ?_)
    exact FT h ms.length 0 out (by omega) (by rw [← ho,show rs.drop j=[] from List.drop_eq_nil_of_le (by omega)];simp [nY])
  |d + 1,j,out,hj,ho=>by
    have hj':j < rs.length:=by omega
    have hr:=h.rooms rs[j] (by simp)
    have hl:=xW h
    have hn:=h.nr
    have hle:out.length≤8200:=by
      have:=congrArg List.length ho
      rw [List.length_append,List.length_append] at this
      omega
    refine EvP.step (fun k=>bC.l0.eq_2 (k:=k) ..) (EvP.yes (by omega) (EvP.yes (by omega) (EvP.yes (by omega) ?_)))
    rw [PK rs j hj']
    refine EvP.fM (HY (by omega) (by omega)) (EvP.fM rfl (EvP.yes (by rw [List.length_map];show _ + 3 < _;omega) ?_))
    rw [w64 (by omega) (by omega),show (j:Int) + 1=((j + 1:Nat):Int) by omega]
    have e2:out.map ba ++ [(⟨#[98,111,120]⟩:ByteArray),ba (dec rs[j]),(⟨#[59]⟩:ByteArray)]=(out ++ SK rs[j]).map ba:=by
      rw [List.map_append]
      rfl
    rw [e2]
    exact FR h d (j + 1) _ (by omega) (by rw [← ho,GH rs j hj'];simp)
theorem GJ {rs:List Int} {ms:List (List ST)} (h:VP rs ms):∀ (d j:Nat) (out:List (List UInt8)),j + d=ms.length→out ++ nC (ms.drop j)=pT rs ms→
    EvP (fun k=>bB.l1 k (out.map ba) (j:Int) rs (ms.map gF)) (·=ba (iB (pT rs ms)))
  |0,j,out,hj,ho=>by
    have e:out=pT rs ms:=by rw [← ho,List.drop_eq_nil_of_le (by omega),nC,List.append_nil]
    have hl:=xW h
    have hg:=CY h
    refine EvP.step (fun k=>bB.l1.eq_2 (k:=k) ..) (EvP.no (by rw [List.length_map];omega) ?_)
    rw [e]
    exact EvP.dK (CF _ (by omega) (fun t ht=>by have:=(hg t ht).2;omega) (fun t ht=>(hg t ht).1) (by have:=SV h;omega)) (EvP.ret rfl)
  |d + 1,j,out,hj,ho=>by
    have hj':j < ms.length:=by omega
    have hm:=h.vs ms[j] (by simp)
    have hl:=xW h
    have hb:=PE ms[j] hm.1 hm.2
    have hle:out.length≤8200:=by
      have:=congrArg List.length ho
      rw [List.length_append] at this
      omega
    have hn:=h.nm
    refine EvP.step (fun k=>bB.l1.eq_2 (k:=k) ..) (EvP.yes (by rw [List.length_map];omega) (EvP.yes (by rw [List.length_map];omega) (EvP.fM rfl (EvP.yes (by omega) ?_))))
    rw [aDy ms j hj']
    refine EvP.dK (EW (boxes:=(rs.length:Int)) (by have:=h.nr;omega) 16 ms[j] hm.2 (by omega) hm.1) (EvP.yes (by rw [List.length_append,List.length_map,List.length_map];show _ + 1 + _ < _;omega) ?_)
    rw [w64 (by omega) (by omega),show (j:Int) + 1=((j + 1:Nat):Int) by omega]
    have e2:out.map ba ++ [(⟨#[116,97,115,107]⟩:ByteArray)] ++ (nK ms[j]).map ba=(out ++ SY :: nK ms[j]).map ba:=by
      simp
      rfl
    rw [e2]
    exact GJ h d (j + 1) _ (by omega) (by rw [← ho,GL ms j hj'];simp)
theorem GK {rs:List Int} {ms:List (List ST)} (h:VP rs ms):∀ (d j:Nat) (out:List (List UInt8)),j + d=rs.length→out ++ nY (rs.drop j) ++ nC ms=pT rs ms→
    EvP (fun k=>bB.l0 k (out.map ba) (j:Int) rs (ms.map gF)) (·=ba (iB (pT rs ms)))
  |0,j,out,hj,ho=>by
    refine EvP.step (fun k=>bB.l0.eq_2 (k:=k) ..) (EvP.no (by omega) ?_)
    exact GJ h ms.length 0 out (by omega) (by rw [← ho,show rs.drop j=[] from List.drop_eq_nil_of_le (by omega)];simp [nY])
  |d + 1,j,out,hj,ho=>by
    have hj':j < rs.length:=by omega
    have hr:=h.rooms rs[j] (by simp)
    have hl:=xW h
    have hn:=h.nr
    have hle:out.length≤8200:=by
      have:=congrArg List.length ho
      rw [List.length_append,List.length_append] at this
      omega
    refine EvP.step (fun k=>bB.l0.eq_2 (k:=k) ..) (EvP.yes (by omega) (EvP.yes (by omega) ?_))
    rw [PK rs j hj']
    refine EvP.dK (sS rs[j].toNat rs[j] (by omega) (by omega) (by omega)) (EvP.fM rfl (EvP.yes (by rw [List.length_map];show _ + 3 < _;omega) ?_))
    rw [w64 (by omega) (by omega),show (j:Int) + 1=((j + 1:Nat):Int) by omega]
    have e2:out.map ba ++ [(⟨#[98,111,120]⟩:ByteArray),ba (dec rs[j]),(⟨#[59]⟩:ByteArray)]=(out ++ SK rs[j]).map ba:=by
      rw [List.map_append]
      rfl
    rw [e2]
    exact GK h d (j + 1) _ (by omega) (by rw [← ho,GH rs j hj'];simp)
theorem xR {rs:List Int} {ms:List (List ST)} (hr:rs.length≤1000000000) (ht:BH (ms.map gF)) (h:VP rs ms) (hp:mY rs (ms.map gF)=true):EvP (fun k=>bC.f k rs (ms.map gF)) (·=ba (iB (pT rs ms))):=by
  unfold bC.f
  exact EvP.dK (sW rs _ hr ht) (EvP.yes hp (FR h rs.length 0 [] (by omega) rfl))
theorem yB {rs:List Int} {ms:List (List ST)} (hr:rs.length≤1000000000) (ht:BH (ms.map gF)) (h:VP rs ms) (hp:mY rs (ms.map gF)=true):EvP (fun k=>bB.f k rs (ms.map gF)) (·=ba (iB (pT rs ms))):=by
  unfold bB.f
  exact EvP.dK (tC rs _ hr ht) (EvP.yes hp (GK h rs.length 0 [] (by omega) rfl))
theorem yV {rs:List Int} {ts:List (List S58)} (hr:rs.length≤1000000000) (ht:BH ts) (hp:mY rs ts=false):EvP (fun k=>bC.f k rs ts) (·=(⟨#[]⟩:ByteArray)):=by
  unfold bC.f
  exact EvP.dK (sW rs _ hr ht) (EvP.no (by rw [hp];exact Bool.false_ne_true) (EvP.ret rfl))
theorem yZ {rs:List Int} {ts:List (List S58)} (hr:rs.length≤1000000000) (ht:BH ts) (hp:mY rs ts=false):EvP (fun k=>bB.f k rs ts) (·=(⟨#[]⟩:ByteArray)):=by
  unfold bB.f
  exact EvP.dK (tC rs _ hr ht) (EvP.no (by rw [hp];exact Bool.false_ne_true) (EvP.ret rfl))
open Go.Proofs.YtjamfkpgmkhbnaaGreatDoorW.PrintLast
theorem RS (b:List Int) (hb:Bytes b):∀ (d:Nat) (l:List Int) (n:Int) (p:Int),(l.length:Int) + d=n→n≤3→0≤p→p + d≤800000000000→
  EvP (fun k=>dR.l0 k l n (l.length:Int) b p) (fun r=>r.2=p + d∧r.1.length=l.length + d):=by
 intro d
 induction d with
 |zero=>
  intro l n p hn h3 h0 h1
  exact EvP.step (fun k=>dR.l0.eq_2 (k:=k) ..) (EvP.no (by omega) (EvP.ret ⟨by simp,rfl⟩))
 |succ d ih=>
  intro l n p hn h3 h0 h1
  refine EvP.step (fun k=>dR.l0.eq_2 (k:=k) ..) (EvP.yes (by omega) (EvP.fM rfl (gD hb h0 (by omega) fun v v0 v1 _=>?_)))
  have:=v1 (by omega)
  dsimp only
  refine EvP.yes (by omega) (EvP.yes (by simp;omega) (EvP.yes (by omega) ?_))
  have e:wrap64 ((l.length:Int) + 1)=((l ++ [rd [1,1,2,3,4] v]).length:Int):=by
   rw [w64 (by omega) (by omega),List.length_append]
   simp
  rw [e]
  refine (ih _ n _ (by rw [List.length_append,List.length_singleton];omega) h3 (by omega) (by omega)).mono fun r hr=>?_
  rw [List.length_append,List.length_singleton] at hr
  omega
theorem RQ (b:List Int) (hb:Bytes b) (p:Int) (h0:0≤p) (h1:p≤700000000000):EvP (fun k=>dR.f k b p) (fun r=>p≤r.2∧r.2≤p + 4∧r.1.length≤3):=by
 unfold dR.f
 refine EvP.fM rfl (gD hb h0 (by omega) fun v v0 v1 _=>?_)
 have:=v1 (by omega)
 dsimp only
 refine EvP.yes (by omega) (EvP.yes (by simp;omega) ?_)
 have hm:rd [0,1,1,2,2,3] v ∈ [0,1,1,2,2,3]:=aDz _ _ (by omega) (by simp;omega)
 have hr:0≤rd [0,1,1,2,2,3] v∧rd [0,1,1,2,2,3] v≤3:=by
  generalize rd [0,1,1,2,2,3] v=x at hm
  simp at hm
  omega
 refine (RS b hb (rd [0,1,1,2,2,3] v).toNat [] (rd [0,1,1,2,2,3] v) (p + 1) (by simp;omega) (by omega) (by omega) (by omega)).mono fun r hr=>?_
 simp only [List.length_nil] at hr
 omega
def DP (p:Int) (P R T C:Nat) (r:List Int × List (List (S58)) × Int):Prop:=p≤r.2.2∧r.2.2≤p + P∧r.1.length≤R∧r.2.1.length≤T∧∀ t ∈ r.2.1,cSs t≤C
theorem MI (b:List Int) (hb:Bytes b) (rs:List Int):∀ (d:Nat) (ts:List (List (S58))) (n p:Int),(ts.length:Int) + d=n→1≤n→n≤3→0≤p→p + d * 3000000≤100000000000→(∀ t ∈ ts,cSs t≤36)→
  EvP (fun k=>bS.l0 k n (ts.length:Int) b p rs ts) (fun r=>p≤r.2.2∧r.2.2≤p + d * 3000000 + 200000∧r.1=rs∧1≤r.2.1.length∧r.2.1.length≤3∧∀ t ∈ r.2.1,cSs t≤36):=by
 intro d
 induction d with
 |zero=>
  intro ts n p hn h1 h3 h0 hp ht
  refine EvP.step (fun k=>bS.l0.eq_2 (k:=k) ..) (EvP.no (by omega) (gD hb h0 (by omega) fun v v0 v1 _=>?_))
  dsimp only
  refine EvP.ite (fun _=>EvP.bind (MG b hb _ (by omega) (by omega)) fun s hs=>EvP.yes (by omega) (EvP.ret ?_)) (fun _=>EvP.ret ?_)
  ·unfold DS at hs
   refine ⟨by dsimp only;omega,by dsimp only;omega,rfl,by dsimp only;rw [List.length_set];omega,by dsimp only;rw [List.length_set];omega,fun t hm=>?_⟩
   rcases List.mem_or_eq_of_mem_set hm with hm|rfl
   ·exact ht t hm
   ·simp only [cSs,cS]
    omega
  ·exact ⟨by dsimp only;omega,by dsimp only;omega,rfl,by dsimp only;omega,by dsimp only;omega,ht⟩
 |succ d ih=>
  intro ts n p hn h1 h3 h0 hp ht
  refine EvP.step (fun k=>bS.l0.eq_2 (k:=k) ..) (EvP.yes (by omega) (EvP.bind (RU b hb p _ h0 (by omega)) fun s hs=>EvP.yes (by omega) ?_))
  obtain ⟨s0,s1,s2⟩:=hs
  have e:wrap64 ((ts.length:Int) + 1)=((ts ++ [s.1]).length:Int):=by
   rw [w64 (by omega) (by omega),List.length_append]
   simp
  rw [e]
  refine (ih _ n s.2 (by rw [List.length_append,List.length_singleton];omega) h1 h3 (by omega) (by omega) (fun t hm=>?_)).mono fun r hr=>?_
  ·rcases List.mem_append.1 hm with hm|hm
   ·exact ht t hm
   ·rw [List.mem_singleton.1 hm]
    omega
  ·obtain ⟨r0,r1,r2⟩:=hr
   exact ⟨by omega,by omega,r2⟩
theorem MH (b:List Int) (hb:Bytes b) (p:Int) (h0:0≤p) (h1:p≤50000000000):EvP (fun k=>bS.f k b p) (fun r=>DP p 9500000 3 3 36 r∧1≤r.2.1.length):=by
 unfold bS.f
 refine EvP.bind (RQ b hb p h0 (by omega)) fun r hr=>gD hb (by omega) (by omega) fun v v0 v1 _=>?_
 have:=v1 (by omega)
 dsimp only
 rw [w64 (by omega) (by omega)]
 refine (MI b hb r.1 (1 + v).toNat [] (1 + v) (r.2 + 1) (by simp;omega) (by omega) (by omega) (by omega) (by omega) (fun t ht=>by cases ht)).mono fun s hs=>?_
 obtain ⟨s0,s1,s2,s3,s4,s5⟩:=hs
 exact ⟨⟨by omega,by omega,by rw [s2];omega,by omega,s5⟩,s3⟩
theorem SH (l:List (List (S58))) (h:0 < l.length):fJ l 0 ∈ l:=by
 rw [show (0:Int)=((0:Nat):Int) from rfl,DK l 0 h]
 exact List.getElem_mem h
theorem RX (b:List Int) (hb:Bytes b) (p:Int) (h0:0≤p) (h1:p≤50000000000):EvP (fun k=>dD.f k b p) (DP p 9600000 4 6 40):=by
 unfold dD.f
 refine EvP.bind (MH b hb p h0 h1) fun r hr=>?_
 obtain ⟨⟨r0,r1,r2,r3,r4⟩,r5⟩:=hr
 refine gD hb (by omega) (by omega) fun v v0 v1 _=>?_
 dsimp only
 have hl:∀ t ∈ r.2.1,cSs t≤40:=fun t ht=>Nat.le_trans (r4 t ht) (by omega)
 refine EvP.ite (fun h=>?_) (fun h=>EvP.ite (fun h=>?_) (fun h=>EvP.ite (fun h=>?_) (fun h=>EvP.ite (fun h=>?_) (fun h=>EvP.ite (fun h=>?_) (fun h=>EvP.ret ?_)))))
 ·refine EvP.fM rfl (gD hb (by omega) (by omega) fun u u0 u1 _=>?_)
  have:=u1 (by omega)
  refine EvP.yes u0 (EvP.yes (by simp;omega) (EvP.yes (by omega) (EvP.ret ⟨by dsimp only;omega,by dsimp only;omega,by dsimp only;rw [List.length_append,List.length_singleton];omega,by dsimp only;omega,hl⟩)))
 ·refine EvP.bind (KR b hb _ (by omega) (by omega)) fun s hs=>EvP.yes (by omega) (EvP.ret ⟨by dsimp only;omega,by dsimp only;omega,by dsimp only;omega,by dsimp only;rw [List.length_append,List.length_singleton];omega,fun t ht=>?_⟩)
  rcases List.mem_append.1 ht with ht|ht
  ·exact hl t ht
  ·rw [List.mem_singleton.1 ht]
   simp only [cSs,cS]
   omega
 ·exact EvP.ret ⟨by dsimp only;omega,by dsimp only;omega,by dsimp only;omega,by simp,fun t ht=>by cases ht⟩
 ·have hm:=SH r.2.1 (by omega)
  refine EvP.yes (by omega) (EvP.fM rfl (EvP.yes (by simp;omega) (EvP.ret ⟨by dsimp only;omega,by dsimp only;omega,by dsimp only;omega,by dsimp only;rw [List.length_append];simp;omega,fun t ht=>?_⟩)))
  rcases List.mem_append.1 ht with ht|ht
  ·exact hl t ht
  ·simp only [List.mem_cons,List.not_mem_nil,or_false,or_self] at ht
   rw [ht]
   exact hl _ hm
 ·have hm:=SH r.2.1 (by omega)
  have hc:=r4 _ hm
  have hlen:=gI (fJ r.2.1 0)
  refine EvP.yes (by omega) (EvP.yes (by omega) (EvP.ret ⟨by dsimp only;omega,by dsimp only;omega,by dsimp only;omega,by dsimp only;rw [List.length_set];omega,fun t ht=>?_⟩))
  rcases List.mem_or_eq_of_mem_set ht with ht|rfl
  ·exact hl t ht
  ·rw [sF]
   simp only [cSs,cS]
   omega
 ·exact ⟨by dsimp only;omega,by dsimp only;omega,by dsimp only;omega,by dsimp only;omega,hl⟩
def wd:List (List UInt8)→Nat
 |[]=>0
 |t :: L=>t.length + 1 + wd L
theorem pR:∀ L M:List (List UInt8),wd (L ++ M)=wd L + wd M
 |[],M=>by simp [wd]
 |t :: L,M=>by rw [List.cons_append,wd,wd,pR L M];omega
theorem TA:∀ L:List (List UInt8),L≠[]→(iB L).length + 1=wd L
 |[],h=>absurd rfl h
 |[x],_=>by simp [iB,wd]
 |x :: y :: r,_=>by
  have:=TA (y :: r) (by simp)
  rw [oH x (by simp),List.length_append,List.length_cons,wd]
  omega
theorem aBp (L:List (List UInt8)) (b:Bool):wd (tF L b)=wd L + (if b=true then 4 else 0):=by
 cases b with
 |false=>rfl
 |true=>
  unfold tF
  rw [if_pos rfl,if_pos rfl,wd,pR]
  show 1 + 1 + (wd L + (1 + 1 + 0))=_
  omega
theorem aHg (op:Int) (a b:X):wd (X.bin op a b).toks=wd a.toks + (if decide (a.lev < lev op)=true then 4 else 0) + ((opB op).length + 1) + (wd b.toks + (if decide (b.lev≤lev op)=true then 4 else 0)):=by
 rw [X.toks,pR,wd,aBp,aBp]
 omega
theorem aAd (l:List ST):wd (nK l)=wd (sTs l) + 4:=by
 unfold nK
 rw [wd,pR]
 show 1 + 1 + (_ + (1 + 1 + 0))=_
 omega
theorem TB (t:ST) (l:List ST):wd (sTs (t :: l))=wd (sT t) + wd (sTs l):=by rw [sTs,pR]
theorem BA (l:List Int) (hl:l.length≤140737488351232) (hw:∀ x ∈ l,(Lit.int .u8 x).wf=true):EvP (fun k=>fD.f k l) (fun r=>r.1.length≤4∧r.2.length≤6∧∀ t ∈ r.2,cSs t≤40):=by
 obtain ⟨b,hb0,hb⟩:=WT l hl hw
 unfold fD.f
 exact EvP.fM hb0 (EvP.bind (RX b hb _ (by dsimp only;omega) (by dsimp only;omega)) fun r hr=>EvP.ret hr.2.2)
theorem Tok.head {t:List UInt8} (h:Tok t):∃ c q,t=c :: q∧c≠32∧c≠10:=by
 cases h with
 |dig c q h=>
  have:=h c (by simp)
  refine ⟨c,q,rfl,fun e=>?_,fun e=>?_⟩ <;> subst e <;> revert this <;> decide
 |let_ c q h=>
  have:=h c (by simp)
  refine ⟨c,q,rfl,fun e=>?_,fun e=>?_⟩ <;> subst e <;> revert this <;> decide
 |sym t h=>
  simp only [syms,List.mem_cons,List.not_mem_nil,or_false] at h
  rcases h with h|h|h|h|h|h|h|h|h|h|h|h|h|h|h|h|h|h <;> subst h <;> exact ⟨_,_,rfl,by decide,by decide⟩
theorem wX {s:List UInt8} {p:Nat} {c:UInt8} {q:List UInt8} (h:s.drop p=c :: q):∃ hp:p < s.length,s[p]=c:=by
 have hp:p < s.length:=by
  rcases Nat.lt_or_ge p s.length with h1|h1
  ·exact h1
  ·rw [List.drop_eq_nil_of_le h1] at h
   cases h
 refine ⟨hp,?_⟩
 rw [List.drop_eq_getElem_cons hp] at h
 exact (List.cons.inj h).1
theorem EG (s:List UInt8) (hs:s.length≤20000):∀ (R:List (List UInt8)) (p:Nat) (acc:List ByteArray),(∀ t ∈ R,Tok t)→p≤s.length→s.drop p=iB R→acc.length≤p→
    EvP (fun k=>dH.l0 k (ba s) acc (p:Int)) (·=(acc ++ R.map ba,true))
  |[],p,acc,ht,hp,hd,ha=>by
    have hp2:p=s.length:=by
      have:=congrArg List.length hd
      rw [List.length_drop] at this
      simp only [iB,List.length_nil] at this
      omega
    refine EvP.step (fun k=>dH.l0.eq_2 (k:=k) ..) (EvP.no (by rw [kN];omega) (EvP.ret ?_))
    simp
  |t :: R,p,acc,ht,hp,hd,ha=>by
    obtain ⟨c,q,rfl,j3,j4⟩:=(ht t (by simp)).head
    have htok:=ht (c :: q) (by simp)
    obtain ⟨rest,hrest,hjo⟩:∃ rest,Rest rest∧iB ((c :: q) :: R)=(c :: q) ++ rest:=by
      cases R with
      |nil=>exact ⟨[], .inl rfl,by simp [iB]⟩
      |cons y r=>exact ⟨32 :: iB (y :: r), .inr ⟨_,rfl⟩,rfl⟩
    have hd2:s.drop p=c :: (q ++ rest):=by rw [hd,hjo];rfl
    obtain ⟨hlt,hc⟩:=wX hd2
    have hlen:p + (c :: q).length + rest.length=s.length:=by
      have:=congrArg List.length hd2
      rw [List.length_drop] at this
      simp only [List.length_cons,List.length_append] at this ⊢
      omega
    refine EvP.step (fun k=>dH.l0.eq_2 (k:=k) ..) (EvP.yes (by rw [kN];omega) (EvP.yes (by omega) ?_))
    rw [NI s p hlt,hc]
    have n32:¬ ((c.toNat:Int)=32):=fun e=>j3 (UInt8.toNat_inj.1 (by show c.toNat=32;omega))
    have n10:((c.toNat:Int) == 10)=false:=beq_eq_false_iff_ne.mpr (fun e=>j4 (UInt8.toNat_inj.1 (by show c.toNat=10;omega)))
    refine EvP.no n32 ?_
    rw [n10]
    refine EvP.step (fun k=>dH.j1.eq_2 (k:=k) ..) (EvP.no Bool.false_ne_true (EvP.yes (by omega) (EvP.yes (by rw [kN];omega) ?_)))
    have hex:(ba s).extract ((p:Int)).toNat (ba s).size=ba ((c :: q) ++ rest):=by
      rw [BJ,kN,Int.toNat_natCast,List.take_of_length_le (Nat.le_refl _),hd2]
      rfl
    rw [hex]
    refine EvP.dK (yE (c :: q) rest (by rw [List.length_append];omega) htok hrest) ?_
    have hq:0 < (c :: q).length:=by simp
    refine EvP.no (by omega) ?_
    rw [w64 (by omega) (by omega)]
    refine EvP.yes (by omega) (EvP.yes (by rw [kN];omega) (EvP.yes (by omega) ?_))
    have hex2:(ba s).extract ((p:Int)).toNat (((p:Int) + ((c :: q).length:Int)):Int).toNat=ba (c :: q):=by
      rw [BJ,Int.toNat_natCast,show (((p:Int) + ((c :: q).length:Int)):Int).toNat=p + (c :: q).length by omega,List.drop_take,hd2,show p + (c :: q).length - p=(c :: q).length by omega]
      rw [← List.cons_append,List.take_left]
    rw [hex2,show (p:Int) + ((c :: q).length:Int)=((p + (c :: q).length:Nat):Int) by omega]
    have hd3:s.drop (p + (c :: q).length)=rest:=by
      rw [← List.drop_drop,hd2,← List.cons_append,List.drop_left]
    cases R with
    |nil=>
      have hr:rest=[]:=by
        have:=congrArg List.length hjo
        simp only [iB,List.length_append] at this
        exact List.eq_nil_of_length_eq_zero (by omega)
      refine (EG s hs [] (p + (c :: q).length) (acc ++ [ba (c :: q)]) (fun _ h=>by cases h) (by omega) (by rw [hd3,hr];rfl) (by rw [List.length_append];show _ + 1≤_;omega)).mono (fun a ha=>?_)
      rw [ha]
      simp
    |cons y r=>
      have hr:rest=32 :: iB (y :: r):=List.append_cancel_left (hjo.symm.trans rfl)
      have hd4:s.drop (p + (c :: q).length)=32 :: iB (y :: r):=by rw [hd3,hr]
      obtain ⟨hlt2,hc2⟩:=wX hd4
      refine EvP.step (fun k=>dH.l0.eq_2 (k:=k) ..) (EvP.yes (by rw [kN];omega) (EvP.yes (by omega) ?_))
      rw [NI s _ hlt2,hc2]
      refine EvP.yes rfl (EvP.step (fun k=>dH.j1.eq_2 (k:=k) ..) (EvP.yes rfl ?_))
      rw [w64 (by omega) (by omega),show ((p + (c :: q).length:Nat):Int) + 1=((p + (c :: q).length + 1:Nat):Int) by omega]
      refine (EG s hs (y :: r) (p + (c :: q).length + 1) (acc ++ [ba (c :: q)]) (fun t h=>ht t (by simp only [List.mem_cons] at h ⊢;exact .inr h)) (by omega) ?_ (by rw [List.length_append];show _ + 1≤_;omega)).mono (fun a ha=>?_)
      · rw [← List.drop_drop,hd4]
        rfl
      · rw [ha]
        simp
theorem KL (L:List (List UInt8)) (ht:∀ t ∈ L,Tok t) (hl:(iB L).length≤20000):EvP (fun k=>dH.f k (ba (iB L))) (·=(L.map ba,true)):=by
  unfold dH.f
  refine EvP.no (by rw [kN];omega) ?_
  exact (EG (iB L) hl L 0 [] ht (by omega) rfl (by simp)).mono (fun a ha=>by rw [ha];rfl)
def X.isB:X→Nat
 | .bin _ _ _=>1
 | _=>0
theorem LJ:∀ x:X,x.ok→2 * wd x.toks + 8 * x.isB + 1≤13 * x.size
 | .num n,h=>by
  have h:0≤n∧n≤99999:=h
  have:=vG h.1 h.2
  show 2 * ((dec n).length + 1 + 0) + 8 * 0 + 1≤13 * 1
  omega
 | .var v,h=>by
  show 2 * (1 + 1 + 0) + 8 * 0 + 1≤13 * 1
  omega
 | .bin op a b,h=>by
  have ha:=LJ a h.2.1
  have hb:=LJ b h.2.2
  have ho:=aBf h.1
  have hr:=EP h.1
  have wa:(if decide (a.lev < lev op)=true then 4 else 0)≤4 * a.isB:=by
   cases a with
   |bin _ _ _=>show _≤4 * 1;split <;> omega
   |num _=>rw [if_neg (by rw [decide_eq_false (by show ¬ (9:Int) < lev op;omega)];exact Bool.false_ne_true)];exact Nat.zero_le _
   |var _=>rw [if_neg (by rw [decide_eq_false (by show ¬ (9:Int) < lev op;omega)];exact Bool.false_ne_true)];exact Nat.zero_le _
  have wb:(if decide (b.lev≤lev op)=true then 4 else 0)≤4 * b.isB:=by
   cases b with
   |bin _ _ _=>show _≤4 * 1;split <;> omega
   |num _=>rw [if_neg (by rw [decide_eq_false (by show ¬ (9:Int)≤lev op;omega)];exact Bool.false_ne_true)];exact Nat.zero_le _
   |var _=>rw [if_neg (by rw [decide_eq_false (by show ¬ (9:Int)≤lev op;omega)];exact Bool.false_ne_true)];exact Nat.zero_le _
  rw [aHg]
  show _ + 8 * 1 + 1≤13 * (a.size + b.size + 1)
  omega
theorem aEi (x:X) (h:x.ok) (hd:x.depth≤5):wd x.toks≤201:=by
 have h1:=LJ x h
 have h2:=aBi x hd
 omega
theorem aAc (l:List ST) (h:∀ y ∈ l,wd (sT y)≤230 * cT [y]):wd (sTs l)≤230 * cT l:=by
 induction l with
 |nil=>rw [sTs];exact Nat.zero_le _
 |cons y r ih=>
  have h1:=h y (by simp)
  have h2:=ih (fun z hz=>h z (by simp [hz]))
  rw [pK] at h1
  rw [TB,vF]
  omega
theorem wdS {boxes:Int} (hbx:boxes≤3) (t:ST):VS boxes t→wd (sT t)≤230 * cT [t]:=
 KN (P:=fun t=>VS boxes t→wd (sT t)≤230 * cT [t]) (fun t hb he hv=>by
  have gb:=aAc t.b (fun y hy=>hb y hy (hv.b y hy))
  have ge:=aAc t.e (fun y hy=>he y hy (hv.e y hy))
  have gx:=aEi t.x hv.ok hv.dp
  have eb:=aAd t.b
  have ee:=aAd t.e
  have w1:wIf.length=2:=rfl
  have w2:OA.length=4:=rfl
  have w3:vS.length=5:=rfl
  have w4:yH.length=4:=rfl
  have w5:OB.length=4:=rfl
  have w6:vU.length=5:=rfl
  have w7:CJ.length=5:=rfl
  have v1:(AA t.va).length=1:=rfl
  have s1:([59]:List UInt8).length=1:=rfl
  have s2:([61]:List UInt8).length=1:=rfl
  rw [pK]
  rcases LH hv with hk|hk|hk|hk|hk|hk|hk
  ·rw [aFm hk]
   simp only [pR,wd]
   omega
  ·by_cases c:t.e.length=0
   ·rw [aBg hk c,wd,pR]
    omega
   ·rw [aBh hk c,pR,wd,wd,pR]
    omega
  ·rw [aFo hk,wd,pR]
   omega
  ·have h1:=yF hbx hv (.inl hk)
   have:=vG h1.1 (by omega)
   rw [aFp hk]
   simp only [pR,wd]
   omega
  ·have h1:=yF hbx hv (.inr hk)
   have:=vG h1.1 (by omega)
   rw [aFq hk]
   simp only [wd]
   omega
  ·rw [aFr hk]
   simp only [wd]
   omega
  ·rw [aFs hk]
   simp only [pR,wd]
   omega) t
theorem OC:∀ rs:List Int,(∀ r ∈ rs,1≤r∧r≤4)→wd (nY rs)≤12 * rs.length
 |[],_=>Nat.le_refl _
 |r :: rs,h=>by
  have h1:=h r (by simp)
  have h2:=OC rs (fun x hx=>h x (by simp [hx]))
  have h3:=vG (n:=r) (by omega) (by omega)
  rw [nY,pR,List.length_cons]
  show 3 + 1 + ((dec r).length + 1 + (1 + 1 + 0)) + _≤_
  omega
theorem OD {boxes:Int} (hbx:boxes≤3):∀ ms:List (List ST),(∀ m ∈ ms,(∀ t ∈ m,VS boxes t)∧cT m≤16)→wd (nC ms)≤3700 * ms.length
 |[],_=>Nat.le_refl _
 |m :: ms,h=>by
  have h1:=aAc m (fun y hy=>wdS hbx y ((h m (by simp)).1 y hy))
  have h2:=(h m (by simp)).2
  have h3:=OD hbx ms (fun x hx=>h x (by simp [hx]))
  rw [nC,pR,wd,aAd,List.length_cons]
  show 4 + 1 + _ + _≤_
  omega
theorem WZ {rs:List Int} {ms:List (List ST)} (h:VP rs ms):(iB (pT rs ms)).length≤20000:=by
 have w1:=TA _ (aGd h)
 have h1:=OC rs h.rooms
 have h2:=OD (boxes:=(rs.length:Int)) (by have:=h.nr;omega) ms h.vs
 have:=h.nr
 have:=h.nm
 unfold pT at w1 ⊢
 rw [pR] at w1
 omega
theorem wF (L:List (List UInt8)) (hn:L.length≤1000000) (w:List UInt8):∀ (d j n:Nat),j + d=L.length→n≤j→EvP (fun k=>bX.l0 k (L.map ba) (ba w) (n:Int) (j:Int)) (·=((n + (L.drop j).count w:Nat):Int))
  |0,j,n,h,hm=>by
    refine EvP.step (fun k=>bX.l0.eq_2 (k:=k) ..) (EvP.no (by rw [List.length_map];omega) (EvP.ret ?_))
    rw [List.drop_eq_nil_of_le (by omega)]
    rfl
  |d + 1,j,n,h,hm=>by
    have hj:j < L.length:=by omega
    refine EvP.step (fun k=>bX.l0.eq_2 (k:=k) ..) (EvP.yes (by rw [List.length_map];omega) (EvP.yes (by omega) ?_))
    rw [rdB L j hj,pW,pW,List.drop_eq_getElem_cons hj,w64 (n:=(j:Int) + 1) (by omega) (by omega),show (j:Int) + 1=((j + 1:Nat):Int) by omega]
    refine EvP.ite (fun hc=>?_) (fun hc=>?_)
    · rw [w64 (by omega) (by omega),show (n:Int) + 1=((n + 1:Nat):Int) by omega]
      refine (wF L hn w d (j + 1) (n + 1) (by omega) (by omega)).mono (fun a ha=>?_)
      rw [ha,hc,List.count_cons_self]
      congr 1
      omega
    · refine (wF L hn w d (j + 1) n (by omega) (by omega)).mono (fun a ha=>?_)
      rw [ha,List.count_cons_of_ne hc]
theorem OY (L:List (List UInt8)) (hn:L.length≤1000000) (w:List UInt8):EvP (fun k=>bX.f k (L.map ba) (ba w)) (·=(L.count w:Int)):=
  (wF L hn w L.length 0 0 (by omega) (by omega)).mono (fun a ha=>by rw [ha,List.drop_zero,Nat.zero_add])
def NX (w:List UInt8):Prop:=(∃ c q,w=c :: q∧isD c=false)∧(∀ v,0≤v→v < 4→AA v≠w)∧(∀ op,1≤op→op≤12→opB op≠w)∧w≠[40]∧w≠[41]
theorem TT {w:List UInt8} (h:∃ c q,w=c :: q∧isD c=false) (n:Int):dec n≠w:=by
 obtain ⟨c,q,rfl,hc⟩:=h
 intro e
 have:=AP n.toNat c (by
  have e2:Lib.decDigits n.toNat=c :: q:=e
  rw [e2]
  exact List.mem_cons_self)
 rw [this] at hc
 cases hc
theorem LV {w:List UInt8} (h:NX w) (L:List (List UInt8)) (b:Bool):(tF L b).count w=L.count w:=by
 obtain ⟨_,_,_,h4,h5⟩:=h
 unfold tF
 split
 ·rw [List.count_cons_of_ne (fun e=>h4 e.symm),List.count_append,List.count_cons_of_ne (fun e=>h5 e.symm)]
  simp
 ·rfl
theorem CG {w:List UInt8} (h:NX w):∀ x:X,x.ok→x.toks.count w=0
 | .num n,_=>by rw [X.toks,List.count_cons_of_ne (TT h.1 n)];rfl
 | .var v,hv=>by rw [X.toks,List.count_cons_of_ne (h.2.1 v hv.1 hv.2)];rfl
 | .bin op a b,ho=>by
  rw [X.toks,List.count_append,LV h,CG h a ho.2.1,List.count_cons_of_ne (h.2.2.1 op ho.1.1 ho.1.2),LV h,CG h b ho.2.2]
theorem aDp {w:List UInt8} (h1:∃ c q,w=c :: q∧isD c=false) (h2:∀ v ∈ [0,1,2,3],AA v≠w) (h3:∀ op ∈ [1,2,3,4,5,6,7,8,9,10,11,12],opB op≠w) (h4:w≠[40]) (h5:w≠[41]):NX w:=by
 refine ⟨h1,fun v v0 v1=>h2 v ?_,fun op o1 o2=>h3 op ?_,h4,h5⟩
 ·have:v=0∨v=1∨v=2∨v=3:=by omega
  simpa using this
 ·have:=KY ⟨o1,o2⟩
  simpa using this
theorem aBd:NX vS:=aDp ⟨_,_,rfl,by decide⟩ (by decide) (by decide) (by decide) (by decide)
theorem aDo:NX yH:=aDp ⟨_,_,rfl,by decide⟩ (by decide) (by decide) (by decide) (by decide)
theorem aBe:NX vU:=aDp ⟨_,_,rfl,by decide⟩ (by decide) (by decide) (by decide) (by decide)
def qT (w u:List UInt8):Nat:=if u == w then 1 else 0
theorem EH (w:List UInt8) (l:List ST):(nK l).count w=qT w [123] + (sTs l).count w + qT w [125]:=by
 unfold nK qT
 rw [List.count_cons,List.count_append,List.count_cons,List.count_nil]
 omega
theorem aEa {boxes:Int} {w:List UInt8} (h:NX w) (he:([61] == w)=false) (hs:([59] == w)=false) (t:ST) (hv:VS boxes t):(sT t).count w=
  if t.kd=2 then qT w wIf + (nK t.b).count w + (if t.e.length=0 then 0 else qT w OA + (nK t.e).count w)
  else if t.kd=3 then qT w vS + (nK t.b).count w
  else if t.kd=4 then qT w yH
  else if t.kd=5 then qT w OB
  else if t.kd=6 then qT w vU
  else if t.kd=7 then qT w CJ
  else 0:=by
 have hx:=CG h t.x hv.ok
 have hd:∀ n,(dec n == w)=false:=fun n=>beq_eq_false_iff_ne.mpr (TT h.1 n)
 rcases LH hv with hk|hk|hk|hk|hk|hk|hk
 ·have hva:=yG hv (.inl hk)
  have hvw:(AA t.va == w)=false:=beq_eq_false_iff_ne.mpr (h.2.1 t.va hva.1 hva.2)
  rw [aFm hk,hk]
  simp [List.count_cons,hx,he,hs,hvw]
 ·by_cases c:t.e.length=0
  ·rw [aBg hk c,if_pos hk,if_pos c,List.count_cons,List.count_append,hx]
   unfold qT
   omega
  ·rw [aBh hk c,if_pos hk,if_neg c,List.count_append,List.count_cons,List.count_cons,List.count_append,hx]
   unfold qT
   omega
 ·rw [aFo hk,if_neg (by omega),if_pos hk,List.count_cons,List.count_append,hx]
  unfold qT
  omega
 ·rw [aFp hk,hk]
  simp [List.count_cons,hx,hs,hd,qT]
 ·have hva:=yG hv (.inr hk)
  have hvw:(AA t.va == w)=false:=beq_eq_false_iff_ne.mpr (h.2.1 t.va hva.1 hva.2)
  rw [aFq hk,hk]
  simp [List.count_cons,hs,hd,hvw,qT]
 ·rw [aFr hk,hk]
  simp [List.count_cons,hs,qT]
 ·rw [aFs hk,hk]
  simp [List.count_cons,hx,hs,qT]
theorem vK {w:List UInt8} (h:NX w) (hs:([59] == w)=false):∀ rs:List Int,(nY rs).count w=qT w aEh * rs.length
 |[]=>by simp [nY]
 |r :: rs=>by
  have hd:(dec r == w)=false:=beq_eq_false_iff_ne.mpr (TT h.1 r)
  rw [nY,List.count_append,vK h hs rs,List.length_cons,Nat.mul_add]
  unfold SK
  simp [List.count_cons,hd,hs,qT]
  omega
mutual
def nT (K:Int):ST→Nat
 |⟨kd,_,_,_,b,e⟩=>(if kd=K then 1 else 0) + nTs K b + nTs K e
def nTs (K:Int):List ST→Nat
 |[]=>0
 |s :: ss=>nT K s + nTs K ss
end
theorem aGz (K:Int) (t:ST):nT K t=(if t.kd=K then 1 else 0) + nTs K t.b + nTs K t.e:=by
 cases t
 rw [nT]
 rfl
theorem ER (K:Int) (l:List ST) (h:∀ y ∈ l,nT K y≤cT [y]):nTs K l≤cT l:=by
 induction l with
 |nil=>rw [nTs];exact Nat.zero_le _
 |cons x r ih=>
  have h1:=h x (by simp)
  have h2:=ih (fun y hy=>h y (by simp [hy]))
  rw [pK] at h1
  rw [nTs,vF]
  omega
theorem aHs (K:Int) (t:ST):nT K t≤cT [t]:=
 KN (P:=fun t=>nT K t≤cT [t]) (fun t hb he=>by
  have h1:=ER K t.b hb
  have h2:=ER K t.e he
  rw [aGz,pK]
  split <;> omega) t
theorem KX (K:Int) (l:List ST):nTs K l≤cT l:=ER K l (fun y _=>aHs K y)
theorem vP (K:Int):∀ (c:Nat) (l:List ST),cT l≤c→c≤1000000000→EvP (fun k=>bF.f k (gF l) K) (·=(nTs K l:Int)):=by
  intro c
  induction c with
  |zero=>
    intro l hl hc
    have:=uD l
    obtain rfl:=List.eq_nil_of_length_eq_zero (show l.length=0 by omega)
    exact EvP.step (fun k=>bF.f.eq_2 (k:=k) ..) (EvP.step (fun k=>bF.l0.eq_2 (k:=k) ..) (EvP.no (by rw [gF];simp) (EvP.ret (by rw [nTs];rfl))))
  |succ c ih=>
    intro l hl hc
    have hlen:=iO l
    have loop:∀ (r j:Nat) (a:Int),j + r=l.length→0≤a→a + cT (l.drop j)≤2000000000→EvP (fun k=>bF.l0 k (gF l) K a (j:Int)) (·=a + nTs K (l.drop j)):=by
      intro r
      induction r with
      |zero=>
        intro j a hj h0 h1
        refine EvP.step (fun k=>bF.l0.eq_2 (k:=k) ..) (EvP.no (by omega) (EvP.ret ?_))
        rw [List.drop_eq_nil_of_le (by omega),nTs]
        omega
      |succ r ih2=>
        intro j a hj h0 h1
        have hlt:j < l.length:=by omega
        have hl2:=uD l
        have hsp:=RF l j
        have hd:=List.drop_eq_getElem_cons hlt
        have hcd:cT (l.drop j)=cT l[j].b + cT l[j].e + 1 + cT (l.drop (j + 1)):=by rw [hd,vF]
        have hkd:nTs K (l.drop j)=nT K l[j] + nTs K (l.drop (j + 1)):=by rw [hd,nTs]
        have hrd:=PI l j hlt
        have hkb:=KX K l[j].b
        have hke:=KX K l[j].e
        have hkf:=aGz K l[j]
        generalize l[j]=t at *
        refine EvP.step (fun k=>bF.l0.eq_2 (k:=k) ..) (EvP.yes (by omega) (EvP.yes (by omega) ?_))
        rw [hrd,sH t]
        dsimp only
        rw [w64 (n:=(j:Int) + 1) (by omega) (by omega)]
        by_cases h3:t.kd=K
        · rw [if_pos h3] at hkf
          refine EvP.yes h3 (EvP.dK (ih _ (by omega) (by omega)) (EvP.dK (ih _ (by omega) (by omega)) ?_))
          rw [w64 (n:=a + 1) (by omega) (by omega),w64 (n:=a + 1 + (nTs K t.b:Int)) (by omega) (by omega),w64 (n:=a + 1 + (nTs K t.b:Int) + (nTs K t.e:Int)) (by omega) (by omega)]
          refine (ih2 (j + 1) _ (by omega) (by omega) (by omega)).mono fun b hb=>?_
          omega
        · rw [if_neg h3] at hkf
          refine EvP.no h3 (EvP.dK (ih _ (by omega) (by omega)) (EvP.dK (ih _ (by omega) (by omega)) ?_))
          rw [w64 (n:=a + (nTs K t.b:Int)) (by omega) (by omega),w64 (n:=a + (nTs K t.b:Int) + (nTs K t.e:Int)) (by omega) (by omega)]
          refine (ih2 (j + 1) _ (by omega) (by omega) (by omega)).mono fun b hb=>?_
          omega
    refine EvP.step (fun k=>bF.f.eq_2 (k:=k) ..) ((loop l.length 0 0 (by omega) (by omega) (by rw [List.drop_zero];omega)).mono fun b hb=>?_)
    rw [List.drop_zero] at hb
    omega
theorem yU {boxes:Int} {t:ST} (h:VS boxes t) (hk:t.kd≠2):t.e=[]:=by
 by_cases h3:t.kd=3
 ·have h1:=h.st
  rw [sH] at h1
  unfold stS yD at h1
  dsimp only at h1
  rw [if_neg (by omega),if_neg (by omega),if_pos h3] at h1
  unfold mU at h1
  simp at h1
  exact wG (by rw [h1.2.2.2];rfl)
 ·exact (IL h.st (by
   rw [← Bool.not_eq_true,oL,sH]
   exact fun e=>e.elim hk h3)).2
theorem EB {boxes:Int} {t:ST} (h:VS boxes t) (hk:t.kd≠2) (h3:t.kd≠3):t.b=[]:=
 (IL h.st (by
  rw [← Bool.not_eq_true,oL,sH]
  exact fun e=>e.elim hk h3)).1
theorem wJ (K:Int):nTs K []=0:=by rw [nTs]
theorem wB {w:List UInt8} {K:Int} (l:List ST) (h:∀ y ∈ l,(sT y).count w=nT K y):(sTs l).count w=nTs K l:=by
 induction l with
 |nil=>rw [sTs,nTs];rfl
 |cons x r ih=>rw [sTs,nTs,List.count_append,h x (by simp),ih (fun y hy=>h y (by simp [hy]))]
theorem LK {boxes:Int} {w:List UInt8} {K:Int} (hn:NX w) (h1:([61] == w)=false) (h2:([59] == w)=false) (h3:qT w [123]=0) (h4:qT w [125]=0) (h5:qT w OA=0)
  (q2:qT w wIf=if (2:Int)=K then 1 else 0) (q3:qT w vS=if (3:Int)=K then 1 else 0) (q4:qT w yH=if (4:Int)=K then 1 else 0) (q5:qT w OB=if (5:Int)=K then 1 else 0) (q6:qT w vU=if (6:Int)=K then 1 else 0) (q7:qT w CJ=if (7:Int)=K then 1 else 0) (q1:¬ (1:Int)=K)
  (t:ST):VS boxes t→(sT t).count w=nT K t:=
 KN (P:=fun t=>VS boxes t→(sT t).count w=nT K t) (fun t hb he hv=>by
  have gb:=wB t.b (fun y hy=>hb y hy (hv.b y hy))
  have ge:=wB t.e (fun y hy=>he y hy (hv.e y hy))
  rw [aEa hn h1 h2 t hv,EH,EH,gb,ge,aGz,h3,h4,h5]
  rcases LH hv with hk|hk|hk|hk|hk|hk|hk
  ·rw [yU hv (by omega),EB hv (by omega) (by omega),wJ,hk,if_neg q1]
   simp
  ·by_cases c:t.e.length=0
   ·rw [if_pos hk,if_pos c,q2,hk,List.eq_nil_of_length_eq_zero c,wJ]
    omega
   ·rw [if_pos hk,if_neg c,q2,hk]
    omega
  ·rw [yU hv (by omega),wJ,if_neg (by omega),if_pos hk,q3,hk]
   omega
  ·rw [yU hv (by omega),EB hv (by omega) (by omega),wJ,hk,← q4]
   simp
  ·rw [yU hv (by omega),EB hv (by omega) (by omega),wJ,hk,← q5]
   simp
  ·rw [yU hv (by omega),EB hv (by omega) (by omega),wJ,hk,← q6]
   simp
  ·rw [yU hv (by omega),EB hv (by omega) (by omega),wJ,hk,← q7]
   simp) t
def xB (K:Int):List (List ST)→Nat
 |[]=>0
 |m :: ms=>nTs K m + xB K ms
theorem EZ (K:Int) (ms:List (List ST)) (j:Nat) (h:j < ms.length):xB K (ms.drop j)=nTs K ms[j] + xB K (ms.drop (j + 1)):=by rw [List.drop_eq_getElem_cons h,xB]
theorem vN {w:List UInt8} {K:Int} (h0:(SY == w)=false) (h3:qT w [123]=0) (h4:qT w [125]=0):∀ (ms:List (List ST)),(∀ m ∈ ms,(sTs m).count w=nTs K m)→(nC ms).count w=xB K ms
 |[],_=>rfl
 |m :: ms,h=>by
  have ih:=vN h0 h3 h4 ms (fun x hx=>h x (by simp [hx]))
  rw [nC,List.count_append,List.count_cons,EH,h m (by simp),ih,xB,h3,h4,h0]
  simp
theorem words {rs:List Int} {ms:List (List ST)} (h:VP rs ms):(pT rs ms).count vS=xB 3 ms∧(pT rs ms).count yH=xB 4 ms∧(pT rs ms).count vU=xB 6 ms:=by
 unfold pT
 refine ⟨?_,?_,?_⟩
 ·rw [List.count_append,vK aBd (by decide),show qT vS aEh=0 by decide,vN (K:=3) (by decide) (by decide) (by decide) ms (fun m hm=>wB m (fun y hy=>LK aBd (by decide) (by decide) (by decide) (by decide) (by decide) (by decide) (by decide) (by decide) (by decide) (by decide) (by decide) (by decide) y ((h.vs m hm).1 y hy)))]
  omega
 ·rw [List.count_append,vK aDo (by decide),show qT yH aEh=0 by decide,vN (K:=4) (by decide) (by decide) (by decide) ms (fun m hm=>wB m (fun y hy=>LK aDo (by decide) (by decide) (by decide) (by decide) (by decide) (by decide) (by decide) (by decide) (by decide) (by decide) (by decide) (by decide) y ((h.vs m hm).1 y hy)))]
  omega
 ·rw [List.count_append,vK aBe (by decide),show qT vU aEh=0 by decide,vN (K:=6) (by decide) (by decide) (by decide) ms (fun m hm=>wB m (fun y hy=>LK aBe (by decide) (by decide) (by decide) (by decide) (by decide) (by decide) (by decide) (by decide) (by decide) (by decide) (by decide) (by decide) y ((h.vs m hm).1 y hy)))]
  omega
end Go.Proofs.YtjamfkpgmkhbnaaGreatDoor.PA

namespace Go.Proofs.YtjamfkpgmkhbnaaGreatDoor.Pure
open Go.RowKit Go.Proofs.YtjamfkpgmkhbnaaGreatDoor.PA Go.Proofs.YtjamfkpgmkhbnaaGreatDoorW.PrintWords Go.Proofs.YtjamfkpgmkhbnaaGreatDoorW.PrintLast Go.Proofs.YtjamfkpgmkhbnaaGreatDoorW.PrintMore Go.Proofs.YtjamfkpgmkhbnaaGreatDoor.Core
theorem TD {rs:List Int} {ms:List (List ST)} (hv:VP rs ms):∀ (d j a b c:Nat),j + d=ms.length→a + xB 3 (ms.drop j)=xB 3 ms→b + xB 4 (ms.drop j)=xB 4 ms→c + xB 6 (ms.drop j)=xB 6 ms→a≤1000 * j→b≤1000 * j→c≤1000 * j→
    EvP (fun k=>bE.l0 k ((pT rs ms).map ba) true (a:Int) (b:Int) (c:Int) (j:Int) rs (ms.map gF)) (·=true)
  |0,j,a,b,c,h,ha,hb,hc,_,_,_=>by
    have hlen:=xW hv
    obtain ⟨p1,p2,p3⟩:=words hv
    have e0:ms.drop j=[]:=List.drop_eq_nil_of_le (by omega)
    rw [e0,show xB 3 []=0 from rfl] at ha
    rw [e0,show xB 4 []=0 from rfl] at hb
    rw [e0,show xB 6 []=0 from rfl] at hc
    have ct:=fun w=>OY (pT rs ms) (by omega) w
    refine EvP.step (fun k=>bE.l0.eq_2 (k:=k) ..) (EvP.no (by rw [List.length_map];omega) (EvP.yes rfl (EvP.dK (ct vS) (EvP.yes (by rw [p1];omega) (EvP.dK (ct yH) (EvP.yes (by rw [p2];omega) (EvP.dK (ct vU) (EvP.ret ?_))))))))
    rw [p3,beq_iff_eq]
    omega
  |d + 1,j,a,b,c,h,ha,hb,hc,ka,kb,kc=>by
    have hj:j < ms.length:=by omega
    have hm:=hv.vs ms[j] (by simp)
    have n3:=KX 3 ms[j]
    have n4:=KX 4 ms[j]
    have n6:=KX 6 ms[j]
    have hn:=hv.nm
    refine EvP.step (fun k=>bE.l0.eq_2 (k:=k) ..) (EvP.yes (by rw [List.length_map];omega) (EvP.yes (by omega) ?_))
    rw [aDy ms j hj]
    refine EvP.dK (vP 3 16 ms[j] hm.2 (by omega)) (EvP.dK (vP 4 16 ms[j] hm.2 (by omega)) (EvP.dK (vP 6 16 ms[j] hm.2 (by omega)) ?_))
    rw [w64 (n:=(a:Int) + (nTs 3 ms[j]:Int)) (by omega) (by omega),w64 (n:=(b:Int) + (nTs 4 ms[j]:Int)) (by omega) (by omega),w64 (n:=(c:Int) + (nTs 6 ms[j]:Int)) (by omega) (by omega),w64 (n:=(j:Int) + 1) (by omega) (by omega),
      show (a:Int) + (nTs 3 ms[j]:Int)=((a + nTs 3 ms[j]:Nat):Int) by omega,show (b:Int) + (nTs 4 ms[j]:Int)=((b + nTs 4 ms[j]:Nat):Int) by omega,show (c:Int) + (nTs 6 ms[j]:Int)=((c + nTs 6 ms[j]:Nat):Int) by omega,show (j:Int) + 1=((j + 1:Nat):Int) by omega]
    rw [EZ 3 ms j hj] at ha
    rw [EZ 4 ms j hj] at hb
    rw [EZ 6 ms j hj] at hc
    exact TD hv d (j + 1) _ _ _ (by omega) (by omega) (by omega) (by omega) (by omega) (by omega) (by omega)
theorem FnSourceWords:bE.Pure:=by
 intro l _ hl hw
 refine EvP.ends (r:=true) ?_
 unfold bE.f
 refine EvP.ite (fun _=>EvP.ret rfl) (fun _=>?_)
 refine EvP.bind (BA l (by omega) hw) fun r hr=>?_
 obtain ⟨rs,ts⟩:=r
 obtain ⟨h1,h2,h3⟩:=hr
 dsimp only at h1 h2 h3 ⊢
 have hs:BH ts:=⟨by omega,fun t ht=>Nat.le_trans (h3 t ht) (by omega)⟩
 cases hp:mY rs ts with
 |false=>
  refine EvP.dK (yV (by omega) hs hp) (EvP.dK (yZ (by omega) hs hp) (EvP.yes rfl ?_))
  exact EvP.step (fun k=>bE.j0.eq_2 (k:=k) ..) (EvP.yes (by rw [toList_data];rfl) (EvP.ret (by simp)))
 |true=>
  obtain ⟨ms,e,hv,ha⟩:=aIa hp
  subst e
  refine EvP.dK (xR (by omega) hs hv hp) (EvP.dK (yB (by omega) hs hv hp) (EvP.yes rfl ?_))
  have hne:iB (pT rs ms)≠[]:=aDg (aGd hv) (fun t ht=>(CY hv t ht).1)
  refine EvP.step (fun k=>bE.j0.eq_2 (k:=k) ..) (EvP.no (by rw [pW];simpa using hne) ?_)
  refine EvP.dK (KL _ (fun t ht=>(CY hv t ht).1) (WZ hv)) ?_
  exact TD hv ms.length 0 0 0 0 (by omega) (by rw [List.drop_zero,Nat.zero_add]) (by rw [List.drop_zero,Nat.zero_add]) (by rw [List.drop_zero,Nat.zero_add]) (by omega) (by omega) (by omega)
end Go.Proofs.YtjamfkpgmkhbnaaGreatDoor.Pure

namespace Go.Proofs.YtjamfkpgmkhbnaaGreatDoor.LaidT
open Go.ChangeShapes Go.WideShapes Go.ChangeAt Go.RowKit Go.Proofs.YtjamfkpgmkhbnaaGreatDoor
set_option linter.unusedVariables false
abbrev NP:List (String × DataW Unit):=[("math/bits.deBruijn32tab",Rows.laid_math_bits_deBruijn32tab),("math/bits.deBruijn64tab",Rows.laid_math_bits_deBruijn64tab),("internal/strconv.uint64pow10",Rows.laid_internal_strconv_uint64pow10),("loop.example/cothreads/impl.opTexts",Rows.laid_loop_example_cothreads_impl_opTexts)]
theorem MB {H:Type} {enc:TypeId × Value→H} {P:Program} {w:World} {base:Nat} {sp:Nat→Bool} {held:Bool} {fuel:Nat} {t e:TypeId} {n:Nat} {cs:List Value} {bs:List (List UInt8)} {p:List MemPlace}
    (ht:P.underlying t=some (.array n e)) (he:P.underlying e=some .string) (hce:P.cellsOf e=1) (hct:P.cellsOf t=n)
    (h:DataW.trod enc P w base sp held fuel t cs=some (.agg (bs.map fun b=> .lit (.string b)),p)):cs=bs.map fun b=>Value.string ⟨b.toArray⟩:=by
  cases fuel with
  |zero=>simp [DataW.trod] at h
  |succ fuel=>
    simp only [DataW.trod,ht,hce,hct,Nat.mul_one] at h
    split at h
    · rename_i hl
      obtain ⟨xs,hm,hx⟩:=Option.map_eq_some_iff.1 h
      have hxs:xs.map (·.1)=bs.map fun b=>(DataW.lit (.string b):DataW H):=by
        have:=congrArg Prod.fst hx
        simpa using this
      have hxl:xs.length=n:=by simpa using Lib.mapM_length hm
      have hzl:bs.length=n:=by
        have:=congrArg List.length hxs
        simp at this
        omega
      apply List.ext_getElem?
      intro i
      by_cases hi:i < n
      · obtain ⟨b,hb,hf⟩:=Lib.mapM_at hm i i (by simp [hi])
        obtain ⟨s,hc,rfl,_⟩:=DataW.trod_string he hf
        have h1:cs[i]?=some (.string s):=by
          have:=congrArg (·[0]?) hc
          simpa [List.getElem?_take,List.getElem?_drop] using this
        have h2:(xs.map (·.1))[i]?=some (DataW.lit (.string s.data.toList):DataW H):=by simp [hb]
        rw [hxs] at h2
        simp only [List.getElem?_map,Option.map_eq_some_iff,DataW.lit.injEq,Lit.string.injEq] at h2
        obtain ⟨z',hz',e'⟩:=h2
        rw [h1,List.getElem?_map,hz',e']
        rfl
      · rw [List.getElem?_eq_none (by omega),List.getElem?_eq_none (by simp;omega)]
    · cases h
theorem PL {P:Program} {W:World} {name:String} {bs:List (List UInt8)} {rest:List (String × DataW Unit)} {g:Nat} {t e:TypeId} {n:Nat}
    (hg:P.globalNamed name=some g) (hty:(P.globals[g]?).map (·.type)=some t) (ht:P.underlying t=some (.array n e)) (he:P.underlying e=some .string) (hce:P.cellsOf e=1) (hct:P.cellsOf t=n)
    (h:laidMet P ((name, .agg (bs.map fun b=> .lit (.string b))) :: rest) W):W.var? P name=some (bs.map fun b=>Value.string ⟨b.toArray⟩).toArray:=by
  obtain ⟨ps,⟨g',t',cs,fuel,p,q,hg',ht',hvar,hd,_,_⟩,_⟩:=h
  obtain rfl:=Option.some.inj (hg.symm.trans hg')
  obtain rfl:=Option.some.inj (hty.symm.trans ht')
  rw [hvar,← MB ht he hce hct hd]
theorem aDb (os:Os) (args:Array Value):laidMetH Tryz.prog NP ((World.doorLaid Tryz.prog 29 os).forCall (fun _ _=>0) ⟨#[],args,[]⟩).memory:=
 laidMetH_of_parts3 (fuel:=8) (laidMet_of_run' 8 (by kernel_rfl) (by kernel_rfl)) (by kernel_rfl) (by kernel_rfl)
theorem aHz {W:World} (h0:laidMetH Tryz.prog NP W):PA.Tab W:=by
 have h:laidMet Tryz.prog NP W:=by rwa [MakeChecks.laidMetH_plain _ _ _ (by kernel_rfl)] at h0
 exact ⟨Lib.tabIs_of_head (g:=0) (t:=140) (e:=121) (n:=20) (by kernel_rfl) (by kernel_rfl) (by kernel_rfl) (by kernel_rfl) (by kernel_rfl) (by kernel_rfl) (laidMet.tail (laidMet.tail h)),
  (PL (g:=1) (t:=146) (e:=9) (n:=12) (bs:=[[124],[94],[38],[61,61],[60],[60,60],[62,62],[43],[45],[42],[47],[37]]) (by kernel_rfl) (by kernel_rfl) (by kernel_rfl) (by kernel_rfl) (by kernel_rfl) (by kernel_rfl) (laidMet.tail (laidMet.tail (laidMet.tail h)))).trans (by kernel_rfl)⟩
theorem vZ {P:Program} {w w':World} {nm:String} {a:Array Value} (h:w.var? P nm=some a) (hb:Below w.heap.size w w'):w'.var? P nm=some a:=PA.vZ h hb
theorem laidOut:laidOutB Tryz.prog=true:=by kernel_rfl
theorem var_stays {H:Type} {enc:TypeId × Value→H} {W W':World} {cs:Array Value} {d:DataW H} {p:List MemPlace} (hv:W.var? Tryz.prog "loop.example/cothreads/impl.opTexts" =some cs)
  (hd:∃ fuel,DataW.trod enc Tryz.prog W 0 (fun _=>true) true fuel 146 cs.toList=some (d,p)) (hb:Below W.heap.size W W'):
  ∃ p',DataW.TrodVars enc Tryz.prog W' (fun b=>decide (b < W.heap.size)) ["loop.example/cothreads/impl.opTexts"] [d] p':=by
 obtain ⟨fuel,hd⟩:=hd
 have hT:DataW.Trod enc Tryz.prog W 0 (fun _=>true) true 146 (.agg cs) d p:=⟨fuel,hd⟩
 obtain ⟨fuel',h2⟩:=Below.trod laidOut (by kernel_rfl) (of_decide_eq_true (by kernel_rfl)) hT hb (DataW.trod_lt fuel _ _ _ hd)
 exact ⟨_,trodVars_mk1 (g:=1) (t:=146) (by kernel_rfl) (by kernel_rfl) (PA.vZ hv hb) h2⟩
end Go.Proofs.YtjamfkpgmkhbnaaGreatDoor.LaidT

