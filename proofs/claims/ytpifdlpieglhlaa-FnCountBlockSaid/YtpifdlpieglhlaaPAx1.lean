-- made by a program of this session (wip/myprint.py over the kit's print)
import Derived.Test.YtpifdlpieglhlaaV
import Derived.Test.YtpifdlpieglhlaaPAx0
namespace Go.Proofs.Ytpifdlpieglhlaa.PA
open Go.RowKit Go.Proofs.YtpifdlpieglhlaaW.PrintWords Go.Proofs.YtpifdlpieglhlaaW.PrintLast Go.Proofs.YtpifdlpieglhlaaW.PrintMore
attribute [local go_sem] max2_int min2_int max_two min_two max_three min_three max_four min_four   -- for this text's walks alone
set_option linter.unusedVariables false
set_option linter.unusedSimpArgs false

-- FUNCTIONS
mutual
def laws_szExprS.l0 : Nat → List (S44) → Int → Int → Option (Int)
  | 0, _, _, _ => none
  | k + 1, x0, x1, x5 => if x5 < (x0.length : Int) then (if 0 ≤ x5 then ((laws_szExpr.f k ((rd_T44 x0 x5).f0) ((rd_T44 x0 x5).f1) ((rd_T44 x0 x5).f2) x1).bind fun t102 => (if t102 < 0 then (some (-1)) else (laws_szExprS.l0 k x0 t102 (wrap64 (x5 + 1))))) else (none)) else (some x1)
def laws_szExprS.f : Nat → List (S44) → Int → Option (Int)
  | 0, _, _ => none
  | k + 1, l0, a1 => if (wrap64 (a1 - (l0.length : Int))) < 0 then (some (-1)) else (laws_szExprS.l0 k l0 (wrap64 (a1 - (l0.length : Int))) 0)
def laws_szExpr.f : Nat → Int → Int → List (S44) → Int → Option (Int)
  | 0, _, _, _, _ => none
  | k + 1, a0_0, a0_1, l0_2, a1 => (laws_szExprS.f k l0_2 a1).bind fun t104 => (if t104 < 0 then (some (-1)) else (some t104))
end



mutual
def laws_szStmt.f : Nat → Int → Int → Int → Int → Int → List (S44) → List (S46) → List (S46) → Int → Option (Int)
  | 0, _, _, _, _, _, _, _, _, _ => none
  | k + 1, a0_0, a0_1, a0_2, a0_3, a0_4, l0_5, l0_6, l0_7, a1 => (laws_szExpr.f k a0_3 a0_4 l0_5 a1).bind fun t106 => (if t106 < 0 then (some (-1)) else ((laws_szStmtS.f k l0_6 t106).bind fun t107 => (if t107 < 0 then (some (-1)) else ((laws_szStmtS.f k l0_7 t107).bind fun t108 => (if t108 < 0 then (some (-1)) else (some t108))))))
def laws_szStmtS.l0 : Nat → List (S46) → Int → Int → Option (Int)
  | 0, _, _, _ => none
  | k + 1, x0, x1, x5 => if x5 < (x0.length : Int) then (if 0 ≤ x5 then ((laws_szStmt.f k ((rd_T46 x0 x5).f0) ((rd_T46 x0 x5).f1) ((rd_T46 x0 x5).f2) ((rd_T46 x0 x5).f3.f0) ((rd_T46 x0 x5).f3.f1) ((rd_T46 x0 x5).f3.f2) ((rd_T46 x0 x5).f4) ((rd_T46 x0 x5).f5) x1).bind fun t110 => (if t110 < 0 then (some (-1)) else (laws_szStmtS.l0 k x0 t110 (wrap64 (x5 + 1))))) else (none)) else (some x1)
def laws_szStmtS.f : Nat → List (S46) → Int → Option (Int)
  | 0, _, _ => none
  | k + 1, l0, a1 => if (wrap64 (a1 - (l0.length : Int))) < 0 then (some (-1)) else (laws_szStmtS.l0 k l0 (wrap64 (a1 - (l0.length : Int))) 0)
end



def spec_l6In.f (a0 : Int) (a1 : Int) (a2 : Int) : Option (Bool) := if a0 ≥ a1 then (some (decide (a0 ≤ a2))) else (some false)

def spec_l11Var.f (a0_0 : Int) (a0_1 : Int) (a0_2 : Int) (a0_3 : Int) (a0_4 : Int) (l0_5 : List (S34)) (l0_6 : List (S36)) (l0_7 : List (S36)) (a1 : Bool) : Option (Bool) := if a1 = true then ((spec_l6In.f a0_1 0 3).bind fun t112 => (some t112)) else (some (a0_1 == 0))

def spec_l11Box.f (a0_0 : Int) (a0_1 : Int) (a0_2 : Int) (a0_3 : Int) (a0_4 : Int) (l0_5 : List (S34)) (l0_6 : List (S36)) (l0_7 : List (S36)) (a1 : Bool) : Option (Bool) := if a1 = true then ((spec_l6In.f a0_2 0 2).bind fun t114 => (some t114)) else (some (a0_2 == 0))

def spec_OpValid.f (a0 : Int) : Option (Bool) := (spec_l6In.f a0 1 12).bind fun t115 => (some t115)

def spec_l4Ok.f : Nat → Int → Int → List (S34) → Int → Option (Bool)
  | 0, _, _, _, _ => none
  | k + 1, a0_0, a0_1, l0_2, a1 => if a1 < 1 then (some false) else (if a0_0 = 0 then ((spec_l6In.f a0_1 0 99999).bind fun t117 => (if t117 = true then (some ((l0_2.length : Int) == 0)) else (some false))) else (if a0_0 = 13 then ((spec_l6In.f a0_1 0 3).bind fun t118 => (if t118 = true then (some ((l0_2.length : Int) == 0)) else (some false))) else ((spec_OpValid.f a0_0).bind fun t119 => (if t119 = true then (if a0_1 = 0 then (if (l0_2.length : Int) = 2 then (if 0 < (l0_2.length : Int) then ((spec_l4Ok.f k ((rd_T34 l0_2 0).f0) ((rd_T34 l0_2 0).f1) ((rd_T34 l0_2 0).f2) (wrap64 (a1 - 1))).bind fun t121 => (if t121 = true then (if 1 < (l0_2.length : Int) then ((spec_l4Ok.f k ((rd_T34 l0_2 1).f0) ((rd_T34 l0_2 1).f1) ((rd_T34 l0_2 1).f2) (wrap64 (a1 - 1))).bind fun t123 => (some t123)) else (none)) else (some false))) else (none)) else (some false)) else (some false)) else (some false)))))

def spec_ExprValid.f (k : Nat) (a0_0 : Int) (a0_1 : Int) (l0_2 : List (S34)) : Option (Bool) := (spec_l4Ok.f k a0_0 a0_1 l0_2 5).bind fun t125 => (some t125)

def spec_l11Plain.f (a0_0 : Int) (a0_1 : Int) (l0_2 : List (S34)) : Option (Bool) := if a0_0 = 0 then (if a0_1 = 0 then (some ((l0_2.length : Int) == 0)) else (some false)) else (some false)

def spec_l11Simple.j0 : Nat → Bool → Int → Int → Int → Int → Int → List (S34) → List (S36) → List (S36) → Option (Bool)
  | 0, _, _, _, _, _, _, _, _, _ => none
  | k + 1, x12, x128000, x128001, x128002, x128003, x128004, x128005, x128006, x128007 => if x12 = true then (some false) else (if x128000 = 1 then ((spec_l11Var.f x128000 x128001 x128002 x128003 x128004 x128005 x128006 x128007 true).bind fun t128 => (if t128 = true then ((spec_l11Box.f x128000 x128001 x128002 x128003 x128004 x128005 x128006 x128007 false).bind fun t129 => (if t129 = true then ((spec_ExprValid.f k x128003 x128004 x128005).bind fun t130 => (some t130)) else (some false))) else (some false))) else (if x128000 = 4 then ((spec_l11Var.f x128000 x128001 x128002 x128003 x128004 x128005 x128006 x128007 false).bind fun t131 => (if t131 = true then ((spec_l11Box.f x128000 x128001 x128002 x128003 x128004 x128005 x128006 x128007 true).bind fun t132 => (if t132 = true then ((spec_ExprValid.f k x128003 x128004 x128005).bind fun t133 => (some t133)) else (some false))) else (some false))) else (if x128000 = 5 then ((spec_l11Var.f x128000 x128001 x128002 x128003 x128004 x128005 x128006 x128007 true).bind fun t134 => (if t134 = true then ((spec_l11Box.f x128000 x128001 x128002 x128003 x128004 x128005 x128006 x128007 true).bind fun t135 => (if t135 = true then ((spec_l11Plain.f x128003 x128004 x128005).bind fun t136 => (some t136)) else (some false))) else (some false))) else (if x128000 = 6 then ((spec_l11Var.f x128000 x128001 x128002 x128003 x128004 x128005 x128006 x128007 false).bind fun t137 => (if t137 = true then ((spec_l11Box.f x128000 x128001 x128002 x128003 x128004 x128005 x128006 x128007 false).bind fun t138 => (if t138 = true then ((spec_l11Plain.f x128003 x128004 x128005).bind fun t139 => (some t139)) else (some false))) else (some false))) else (if x128000 = 7 then ((spec_l11Var.f x128000 x128001 x128002 x128003 x128004 x128005 x128006 x128007 false).bind fun t140 => (if t140 = true then ((spec_l11Box.f x128000 x128001 x128002 x128003 x128004 x128005 x128006 x128007 false).bind fun t141 => (if t141 = true then ((spec_ExprValid.f k x128003 x128004 x128005).bind fun t142 => (some t142)) else (some false))) else (some false))) else (some false))))))
def spec_l11Simple.f (k : Nat) (a0_0 : Int) (a0_1 : Int) (a0_2 : Int) (a0_3 : Int) (a0_4 : Int) (l0_5 : List (S34)) (l0_6 : List (S36)) (l0_7 : List (S36)) : Option (Bool) := if (l0_6.length : Int) > 0 then (spec_l11Simple.j0 k true a0_0 a0_1 a0_2 a0_3 a0_4 l0_5 l0_6 l0_7) else (spec_l11Simple.j0 k (decide ((l0_7.length : Int) > 0)) a0_0 a0_1 a0_2 a0_3 a0_4 l0_5 l0_6 l0_7)

mutual
def spec_l11Ok.j0 : Nat → Int → Bool → Int → Int → Int → Int → Int → List (S34) → List (S36) → List (S36) → Option (Bool)
  | 0, _, _, _, _, _, _, _, _, _, _ => none
  | k + 1, x1, x12, x144000, x144001, x144002, x144003, x144004, x144005, x144006, x144007 => if x12 = true then ((spec_l11Simple.f k x144000 x144001 x144002 x144003 x144004 x144005 x144006 x144007).bind fun t144 => (some t144)) else (if x1 < 1 then (spec_l11Ok.j1 k x1 true x144000 x144001 x144002 x144003 x144004 x144005 x144006 x144007) else (if x144000 = 3 then (spec_l11Ok.j1 k x1 (decide ((x144007.length : Int) > 0)) x144000 x144001 x144002 x144003 x144004 x144005 x144006 x144007) else (spec_l11Ok.j1 k x1 false x144000 x144001 x144002 x144003 x144004 x144005 x144006 x144007)))
def spec_l11Ok.j1 : Nat → Int → Bool → Int → Int → Int → Int → Int → List (S34) → List (S36) → List (S36) → Option (Bool)
  | 0, _, _, _, _, _, _, _, _, _, _ => none
  | k + 1, x1, x27, x144000, x144001, x144002, x144003, x144004, x144005, x144006, x144007 => if x27 = true then (some false) else ((spec_l11Var.f x144000 x144001 x144002 x144003 x144004 x144005 x144006 x144007 false).bind fun t145 => (if t145 = true then ((spec_l11Box.f x144000 x144001 x144002 x144003 x144004 x144005 x144006 x144007 false).bind fun t146 => (if t146 = true then ((spec_ExprValid.f k x144003 x144004 x144005).bind fun t147 => (if t147 = true then ((spec_l11Blocks.f k x144006 (wrap64 (x1 - 1))).bind fun t148 => (if t148 = true then ((spec_l11Blocks.f k x144007 (wrap64 (x1 - 1))).bind fun t149 => (some t149)) else (some false))) else (some false))) else (some false))) else (some false)))
def spec_l11Ok.f : Nat → Int → Int → Int → Int → Int → List (S34) → List (S36) → List (S36) → Int → Option (Bool)
  | 0, _, _, _, _, _, _, _, _, _ => none
  | k + 1, a0_0, a0_1, a0_2, a0_3, a0_4, l0_5, l0_6, l0_7, a1 => if a0_0 = 2 then (spec_l11Ok.j0 k a1 false a0_0 a0_1 a0_2 a0_3 a0_4 l0_5 l0_6 l0_7) else (spec_l11Ok.j0 k a1 (a0_0 != 3) a0_0 a0_1 a0_2 a0_3 a0_4 l0_5 l0_6 l0_7)
def spec_l11Blocks.l0 : Nat → List (S36) → Int → Int → Option (Bool)
  | 0, _, _, _ => none
  | k + 1, x0, x1, x5 => if x5 < (x0.length : Int) then (if 0 ≤ x5 then ((spec_l11Ok.f k ((rd_T36 x0 x5).f0) ((rd_T36 x0 x5).f1) ((rd_T36 x0 x5).f2) ((rd_T36 x0 x5).f3.f0) ((rd_T36 x0 x5).f3.f1) ((rd_T36 x0 x5).f3.f2) ((rd_T36 x0 x5).f4) ((rd_T36 x0 x5).f5) x1).bind fun t151 => (if t151 = true then (spec_l11Blocks.l0 k x0 x1 (wrap64 (x5 + 1))) else (some false))) else (none)) else (some true)
def spec_l11Blocks.f : Nat → List (S36) → Int → Option (Bool)
  | 0, _, _ => none
  | k + 1, l0, a1 => spec_l11Blocks.l0 k l0 a1 0
end



mutual
def spec_l11Count.l0 : Nat → List (S36) → Int → Int → Option (Int)
  | 0, _, _, _ => none
  | k + 1, x0, x3, x4 => if x4 < (x0.length : Int) then (if 0 ≤ x4 then ((spec_l11Count.f k ((rd_T36 x0 x4).f4)).bind fun t153 => ((spec_l11Count.f k ((rd_T36 x0 x4).f5)).bind fun t155 => (spec_l11Count.l0 k x0 (wrap64 ((wrap64 ((wrap64 (x3 + 1)) + t153)) + t155)) (wrap64 (x4 + 1))))) else (none)) else (some x3)
def spec_l11Count.f : Nat → List (S36) → Option (Int)
  | 0, _ => none
  | k + 1, l0 => spec_l11Count.l0 k l0 0 0
end

def spec_StmtsValid.f (k : Nat) (l0 : List (S36)) : Option (Bool) := (spec_l11Blocks.f k l0 3).bind fun t156 => (if t156 = true then ((spec_l11Count.f k l0).bind fun t157 => (some (decide (t157 ≤ 16)))) else (some false))

mutual
def laws_toExprS.l0 : Nat → List (S44) → List (S34) → Int → Option ((List (S34)))
  | 0, _, _, _ => none
  | k + 1, x0, x3, x4 => if x4 < (x0.length : Int) then (if 0 ≤ x4 then ((laws_toExpr.f k ((rd_T44 x0 x4).f0) ((rd_T44 x0 x4).f1) ((rd_T44 x0 x4).f2)).bind fun bt162 => (if x4 < (x3.length : Int) then (laws_toExprS.l0 k x0 (x3.set (x4 : Int).toNat (⟨bt162.1, bt162.2.1, bt162.2.2⟩ : S34)) (wrap64 (x4 + 1))) else (none))) else (none)) else (some x3)
def laws_toExprS.f : Nat → List (S44) → Option ((List (S34)))
  | 0, _ => none
  | k + 1, l0 => if 0 ≤ (l0.length : Int) then (if ((l0.length : Int) : Int).toNat ≤ 7036874417766 then (laws_toExprS.l0 k l0 (List.replicate ((l0.length : Int) : Int).toNat z34) 0) else (none)) else (none)
def laws_toExpr.f : Nat → Int → Int → List (S44) → Option (Int × Int × (List (S34)))
  | 0, _, _, _ => none
  | k + 1, a0_0, a0_1, l0_2 => (laws_toExprS.f k l0_2).bind fun t171 => (some (a0_0, a0_1, t171))
end



mutual
def laws_toStmtS.l0 : Nat → List S46 → List S36 → Int → Option (List S36)
  | 0, _, _, _ => none
  | k + 1, x0, x3, x4 => if x4 < (x0.length : Int) then (if 0 ≤ x4 then ((laws_toStmt.f k (rd_T46 x0 x4)).bind fun s => (if x4 < (x3.length : Int) then laws_toStmtS.l0 k x0 (x3.set (x4 : Int).toNat s) (wrap64 (x4 + 1)) else none)) else none) else some x3
def laws_toStmtS.f : Nat → List S46 → Option (List S36)
  | 0, _ => none
  | k + 1, l0 => if l0.length ≤ 2513169434916 then laws_toStmtS.l0 k l0 (List.replicate l0.length z36) 0 else none
def laws_toStmt.f : Nat → S46 → Option S36
  | 0, _ => none
  | k + 1, s => (laws_toExpr.f k s.f3.f0 s.f3.f1 s.f3.f2).bind fun e => (laws_toStmtS.f k s.f4).bind fun b => (laws_toStmtS.f k s.f5).bind fun c => some ⟨s.f0, s.f1, s.f2, ⟨e.1, e.2.1, e.2.2⟩, b, c⟩
end

def impl_OpValid.f (a0 : Int) : Option (Bool) := if a0 ≥ 1 then (some (decide (a0 ≤ 12))) else (some false)

def impl_exprValid.f : Nat → Int → Int → List (S34) → Int → Option (Bool)
  | 0, _, _, _, _ => none
  | k + 1, a0_0, a0_1, l0_2, a1 => if a0_0 = 0 then (if a0_1 ≥ 0 then (if a0_1 ≤ 99999 then (if (l0_2.length : Int) = 0 then (some (decide (a1 > 0))) else (some false)) else (some false)) else (some false)) else (if a0_0 = 13 then (if a0_1 ≥ 0 then (if a0_1 < 4 then (if (l0_2.length : Int) = 0 then (some (decide (a1 > 0))) else (some false)) else (some false)) else (some false)) else ((impl_OpValid.f a0_0).bind fun t175 => (if t175 = true then (if a0_1 = 0 then (if (l0_2.length : Int) = 2 then (if a1 > 1 then (if 0 < (l0_2.length : Int) then ((impl_exprValid.f k ((rd_T34 l0_2 0).f0) ((rd_T34 l0_2 0).f1) ((rd_T34 l0_2 0).f2) (wrap64 (a1 - 1))).bind fun t177 => (if t177 = true then (if 1 < (l0_2.length : Int) then ((impl_exprValid.f k ((rd_T34 l0_2 1).f0) ((rd_T34 l0_2 1).f1) ((rd_T34 l0_2 1).f2) (wrap64 (a1 - 1))).bind fun t179 => (some t179)) else (none)) else (some false))) else (none)) else (some false)) else (some false)) else (some false)) else (some false))))

def impl_ExprValid.f (k : Nat) (a0_0 : Int) (a0_1 : Int) (l0_2 : List (S34)) : Option (Bool) := (impl_exprValid.f k a0_0 a0_1 l0_2 5).bind fun t181 => (some t181)

def inr (n limit : Int) (needed : Bool) : Bool := (n == 0) || (needed && (decide (n > 0) && decide (n < limit)))

def stv_rest (k : Nat) (nv nb ne nd no : Bool) (va bx op n : Int) (la : List S34) (lb le : Nat) (boxes : Int) : Option Bool :=
  if inr va 4 nv = true then (if inr bx boxes nb = true then (if nb = true ∧ boxes ≤ bx then some false else
    (if ne = true then ((impl_ExprValid.f k op n la).bind fun t => if t = true then some ((nd || lb == 0) && (no || le == 0)) else some false)
     else (if op = 0 then (if n = 0 then (if 0 < (la.length : Int) then some false else some ((nd || lb == 0) && (no || le == 0))) else some false) else some false))) else some false) else some false
def impl_stmtValid.f (k : Nat) (kd va bx op n : Int) (la : List S34) (lb le : Nat) (boxes : Int) : Option Bool :=
  if kd = 1 then stv_rest k true false true false false va bx op n la lb le boxes
  else if kd = 2 then stv_rest k false false true true true va bx op n la lb le boxes
  else if kd = 3 then stv_rest k false false true true false va bx op n la lb le boxes
  else if kd = 4 then stv_rest k false true true false false va bx op n la lb le boxes
  else if kd = 5 then stv_rest k true true false false false va bx op n la lb le boxes
  else if kd = 7 then stv_rest k false false true false false va bx op n la lb le boxes
  else if kd = 6 then stv_rest k false false false false false va bx op n la lb le boxes
  else some false

mutual
def impl_blockValid.f : Nat → List S36 → Int → Int → Int → Option (Bool × Int)
  | 0, _, _, _, _ => none
  | k + 1, l, boxes, blocks, cnt => if 16 < wrap64 (cnt + (l.length : Int)) then some (false, wrap64 (cnt + (l.length : Int))) else impl_blockValid.l0 k l boxes blocks 0 (wrap64 (cnt + (l.length : Int)))
def impl_blockValid.l0 : Nat → List S36 → Int → Int → Int → Int → Option (Bool × Int)
  | 0, _, _, _, _, _ => none
  | k + 1, l, boxes, blocks, i, cnt => if i < (l.length : Int) then (if 0 ≤ i then
      ((impl_stmtValid.f k (rd_T36 l i).f0 (rd_T36 l i).f1 (rd_T36 l i).f2 (rd_T36 l i).f3.f0 (rd_T36 l i).f3.f1 (rd_T36 l i).f3.f2 (rd_T36 l i).f4.length (rd_T36 l i).f5.length boxes).bind fun t =>
        if t = true then (if 3 < blocks then some (false, cnt) else
          (if (rd_T36 l i).f0 = 2 ∨ (rd_T36 l i).f0 = 3 then (if 3 ≤ blocks then some (false, cnt) else
            ((impl_blockValid.f k (rd_T36 l i).f4 boxes (wrap64 (blocks + 1)) cnt).bind fun p => if p.1 = true then
              ((impl_blockValid.f k (rd_T36 l i).f5 boxes (wrap64 (blocks + 1)) p.2).bind fun q => if q.1 = true then impl_blockValid.l0 k l boxes blocks (wrap64 (i + 1)) q.2 else some (false, q.2)) else some (false, p.2)))
          else impl_blockValid.l0 k l boxes blocks (wrap64 (i + 1)) cnt)) else some (false, cnt)) else none) else some (true, cnt)
end

def impl_stmtsValid.f (k : Nat) (l0 : List (S36)) (a1 : Int) : Option Bool := (impl_blockValid.f k l0 a1 0 0).bind fun p => some p.1

def impl_StmtsValid.f (k : Nat) (l0 : List (S36)) : Option (Bool) := (impl_stmtsValid.f k l0 3).bind fun t182 => (some t182)

mutual
def laws_eqExprS.l0 : Nat → List (S34) → List (S34) → Int → Option (Bool)
  | 0, _, _, _ => none
  | k + 1, x0, x1, x5 => if x5 < (x0.length : Int) then (if 0 ≤ x5 then (if x5 < (x1.length : Int) then ((laws_eqExpr.f k ((rd_T34 x0 x5).f0) ((rd_T34 x0 x5).f1) ((rd_T34 x0 x5).f2) ((rd_T34 x1 x5).f0) ((rd_T34 x1 x5).f1) ((rd_T34 x1 x5).f2)).bind fun t185 => (if t185 = true then (laws_eqExprS.l0 k x0 x1 (wrap64 (x5 + 1))) else (some false))) else (none)) else (none)) else (some true)
def laws_eqExprS.f : Nat → List (S34) → List (S34) → Option (Bool)
  | 0, _, _ => none
  | k + 1, l0, l1 => if (l0.length : Int) = (l1.length : Int) then (laws_eqExprS.l0 k l0 l1 0) else (some false)
def laws_eqExpr.f : Nat → Int → Int → List (S34) → Int → Int → List (S34) → Option (Bool)
  | 0, _, _, _, _, _, _ => none
  | k + 1, a0_0, a0_1, l0_2, a1_0, a1_1, l1_2 => if a0_0 = a1_0 then (if a0_1 = a1_1 then ((laws_eqExprS.f k l0_2 l1_2).bind fun t188 => (if t188 = true then (some true) else (some false))) else (some false)) else (some false)
end



mutual
def laws_eqStmt.f : Nat → Int → Int → Int → Int → Int → List (S34) → List (S36) → List (S36) → Int → Int → Int → Int → Int → List (S34) → List (S36) → List (S36) → Option (Bool)
  | 0, _, _, _, _, _, _, _, _, _, _, _, _, _, _, _, _ => none
  | k + 1, a0_0, a0_1, a0_2, a0_3, a0_4, l0_5, l0_6, l0_7, a1_0, a1_1, a1_2, a1_3, a1_4, l1_5, l1_6, l1_7 => if a0_0 = a1_0 then (if a0_1 = a1_1 then (if a0_2 = a1_2 then ((laws_eqExpr.f k a0_3 a0_4 l0_5 a1_3 a1_4 l1_5).bind fun t191 => (if t191 = true then ((laws_eqStmtS.f k l0_6 l1_6).bind fun t192 => (if t192 = true then ((laws_eqStmtS.f k l0_7 l1_7).bind fun t193 => (if t193 = true then (some true) else (some false))) else (some false))) else (some false))) else (some false)) else (some false)) else (some false)
def laws_eqStmtS.l0 : Nat → List (S36) → List (S36) → Int → Option (Bool)
  | 0, _, _, _ => none
  | k + 1, x0, x1, x5 => if x5 < (x0.length : Int) then (if 0 ≤ x5 then (if x5 < (x1.length : Int) then ((laws_eqStmt.f k ((rd_T36 x0 x5).f0) ((rd_T36 x0 x5).f1) ((rd_T36 x0 x5).f2) ((rd_T36 x0 x5).f3.f0) ((rd_T36 x0 x5).f3.f1) ((rd_T36 x0 x5).f3.f2) ((rd_T36 x0 x5).f4) ((rd_T36 x0 x5).f5) ((rd_T36 x1 x5).f0) ((rd_T36 x1 x5).f1) ((rd_T36 x1 x5).f2) ((rd_T36 x1 x5).f3.f0) ((rd_T36 x1 x5).f3.f1) ((rd_T36 x1 x5).f3.f2) ((rd_T36 x1 x5).f4) ((rd_T36 x1 x5).f5)).bind fun t196 => (if t196 = true then (laws_eqStmtS.l0 k x0 x1 (wrap64 (x5 + 1))) else (some false))) else (none)) else (none)) else (some true)
def laws_eqStmtS.f : Nat → List (S36) → List (S36) → Option (Bool)
  | 0, _, _ => none
  | k + 1, l0, l1 => if (l0.length : Int) = (l1.length : Int) then (laws_eqStmtS.l0 k l0 l1 0) else (some false)
end



def laws_FnExactStmtsValid.f (k : Nat) (l0 : List (S46)) : Option (Bool) := (laws_szStmtS.f k l0 1048576).bind fun t197 => (if t197 < 0 then (some true) else ((laws_toStmtS.f k l0).bind fun t198 => ((spec_StmtsValid.f k t198).bind fun t201 => ((laws_toStmtS.f k l0).bind fun t202 => ((impl_StmtsValid.f k t202).bind fun t205 => (if (t205 != t201) = true then (some false) else ((laws_toStmtS.f k l0).bind fun t206 => ((laws_eqStmtS.f k t202 t206).bind fun t209 => (if t209 = true then (some true) else (some false))))))))))

def spec_l6Open.f (l0 : List Int) : Option (List Int × Int) := if (l0.length : Int) > 2000 then (if 2000 ≤ (l0.length : Int) then (some (l0.take 2000, 0)) else (none)) else (some (l0, 0))

def spec_l6Rd_pick.j0 : Nat → Int → Bool → List Int → Int → Option (Int × Int)
  | 0, _, _, _, _ => none
  | k + 1, x1, x24, x1000, x1001 => if x24 = true then (some (0, x1001)) else (if (wrap64 (x1001 - 1)) < (x1000.length : Int) then (if 0 ≤ (wrap64 (x1001 - 1)) then (if x1 = 0 then (none) else (some (Int.tmod (wrap64 (rd x1000 (wrap64 (x1001 - 1)))) x1, x1001))) else (none)) else (if (x1000.length : Int) = 0 then (none) else (if 0 ≤ (Int.tmod (wrap64 (x1001 - 1)) (x1000.length : Int)) then (if (Int.tmod (wrap64 (x1001 - 1)) (x1000.length : Int)) < (x1000.length : Int) then (if 0 ≤ (Int.tmod (wrap64 ((wrap64 ((wrap64 (x1001 - 1)) * 7)) + 3)) (x1000.length : Int)) then (if (Int.tmod (wrap64 ((wrap64 ((wrap64 (x1001 - 1)) * 7)) + 3)) (x1000.length : Int)) < (x1000.length : Int) then (if x1 = 0 then (none) else (some (Int.tmod (Go.bits .xor .i64 (wrap64 ((wrap64 ((wrap64 ((wrap64 ((wrap64 (rd x1000 (Int.tmod (wrap64 (x1001 - 1)) (x1000.length : Int)))) * 131)) + (wrap64 ((wrap64 (rd x1000 (Int.tmod (wrap64 ((wrap64 ((wrap64 (x1001 - 1)) * 7)) + 3)) (x1000.length : Int)))) * 1117)))) + (wrap64 ((wrap64 (x1001 - 1)) * 29)))) + (wrap64 ((wrap64 (Int.tdiv (wrap64 (x1001 - 1)) (x1000.length : Int))) * 53)))) (wrap64 (Int.tdiv (wrap64 ((wrap64 ((wrap64 ((wrap64 ((wrap64 (rd x1000 (Int.tmod (wrap64 (x1001 - 1)) (x1000.length : Int)))) * 131)) + (wrap64 ((wrap64 (rd x1000 (Int.tmod (wrap64 ((wrap64 ((wrap64 (x1001 - 1)) * 7)) + 3)) (x1000.length : Int)))) * 1117)))) + (wrap64 ((wrap64 (x1001 - 1)) * 29)))) + (wrap64 ((wrap64 (Int.tdiv (wrap64 (x1001 - 1)) (x1000.length : Int))) * 53)))) 64))) x1, x1001))) else (none)) else (none)) else (none)) else (none))))
def spec_l6Rd_pick.f (k : Nat) (s0_0 : List Int) (s0_1 : Int) (a1 : Int) : Option (Int × Int) := if a1 < 1 then (spec_l6Rd_pick.j0 k a1 true s0_0 (wrap64 (s0_1 + 1))) else (spec_l6Rd_pick.j0 k a1 ((s0_0.length : Int) == 0) s0_0 (wrap64 (s0_1 + 1)))

def spec_l4Leaf.f (a0 : Int) (a1 : Int) : Option (Int × Int × (List (S34))) := some (a0, a1, (([] : List (S34))))

def spec_l91Leaf.f (k : Nat) (s0_0 : List Int) (s0_1 : Int) : Option (Int × Int × (List (S34)) × Int) := (spec_l6Rd_pick.f k s0_0 s0_1 4).bind fun bt221 => (if bt221.1 = 0 then ((spec_l6Rd_pick.f k s0_0 bt221.2 4).bind fun bt223 => ((spec_l4Leaf.f 0 bt223.1).bind fun bt225 => (some (bt225.1, bt225.2.1, bt225.2.2, bt223.2)))) else (if bt221.1 = 1 then ((some (([5, 31, 32, 100, 2047, 2048, 65536, 99999] : List Int) : List Int)).bind fun y230 => ((spec_l6Rd_pick.f k s0_0 bt221.2 8).bind fun bt233 => (if 0 ≤ bt233.1 then (if bt233.1 < (y230.length : Int) then ((spec_l4Leaf.f 0 (rd y230 bt233.1)).bind fun bt236 => (some (bt236.1, bt236.2.1, bt236.2.2, bt233.2))) else (none)) else (none)))) else ((spec_l6Rd_pick.f k s0_0 bt221.2 4).bind fun bt241 => ((spec_l4Leaf.f 13 bt241.1).bind fun bt243 => (some (bt243.1, bt243.2.1, bt243.2.2, bt241.2))))))

def spec_l91Op.f (k : Nat) (s0_0 : List Int) (s0_1 : Int) : Option (Int × Int) := (spec_l6Rd_pick.f k s0_0 s0_1 12).bind fun bt248 => (some (wrap64 (1 + bt248.1), bt248.2))

def spec_l4Both.f (a0 : Int) (a1_0 : Int) (a1_1 : Int) (l1_2 : List (S34)) (a2_0 : Int) (a2_1 : Int) (l2_2 : List (S34)) : Option (Int × Int × (List (S34))) := some (a0, 0, (([(⟨a1_0, a1_1, l1_2⟩ : S34), (⟨a2_0, a2_1, l2_2⟩ : S34)] : List (S34))))

mutual
def spec_l91Expr.j0 : Nat → Int → Bool → List Int → Int → Option (Int × Int × (List (S34)) × Int)
  | 0, _, _, _, _ => none
  | k + 1, x1, x13, x1000, x1001 => if x13 = true then ((spec_l91Leaf.f k x1000 x1001).bind fun bt259 => (some (bt259.1, bt259.2.1, bt259.2.2.1, bt259.2.2.2))) else ((spec_l91Op.f k x1000 x1001).bind fun bt265 => ((spec_l91Expr.f k x1000 bt265.2 (wrap64 (x1 - 1))).bind fun bt267 => ((spec_l91Expr.f k x1000 bt267.2.2.2 (wrap64 (x1 - 1))).bind fun bt274 => ((spec_l4Both.f bt265.1 bt267.1 bt267.2.1 bt267.2.2.1 bt274.1 bt274.2.1 bt274.2.2.1).bind fun bt280 => (some (bt280.1, bt280.2.1, bt280.2.2, bt274.2.2.2))))))
def spec_l91Expr.f : Nat → List Int → Int → Int → Option (Int × Int × (List (S34)) × Int)
  | 0, _, _, _ => none
  | k + 1, s0_0, s0_1, a1 => if a1 < 2 then (spec_l91Expr.j0 k a1 true s0_0 s0_1) else ((spec_l6Rd_pick.f k s0_0 s0_1 3).bind fun bt257 => (spec_l91Expr.j0 k a1 (bt257.1 == 0) s0_0 bt257.2))
end

def spec_l92Set.f (k : Nat) (s0_0 : List Int) (s0_1 : Int) : Option (Int × Int × Int × Int × Int × (List (S34)) × (List (S36)) × (List (S36)) × Int) := (spec_l6Rd_pick.f k s0_0 s0_1 3).bind fun bt286 => ((spec_l6Rd_pick.f k s0_0 bt286.2 3).bind fun bt288 => ((spec_l91Expr.f k s0_0 bt288.2 (wrap64 (1 + bt288.1))).bind fun bt290 => (some (1, bt286.1, 0, bt290.1, bt290.2.1, bt290.2.2.1, ([] : List (S36)), ([] : List (S36)), bt290.2.2.2))))

def spec_l92Talk.f (k : Nat) (s0_0 : List Int) (s0_1 : Int) (a1 : Int) : Option (Int × Int × Int × Int × Int × (List (S34)) × (List (S36)) × (List (S36)) × Int) := if a1 < 1 then ((spec_l92Set.f k s0_0 s0_1).bind fun bt297 => (some (bt297.1, bt297.2.1, bt297.2.2.1, bt297.2.2.2.1, bt297.2.2.2.2.1, bt297.2.2.2.2.2.1, bt297.2.2.2.2.2.2.1, bt297.2.2.2.2.2.2.2.1, bt297.2.2.2.2.2.2.2.2))) else ((spec_l6Rd_pick.f k s0_0 s0_1 a1).bind fun bt312 => ((spec_l6Rd_pick.f k s0_0 bt312.2 2).bind fun bt314 => (if bt314.1 = 0 then ((spec_l6Rd_pick.f k s0_0 bt314.2 3).bind fun bt316 => ((spec_l91Expr.f k s0_0 bt316.2 (wrap64 (1 + bt316.1))).bind fun bt318 => (some (4, 0, bt312.1, bt318.1, bt318.2.1, bt318.2.2.1, ([] : List (S36)), ([] : List (S36)), bt318.2.2.2)))) else ((spec_l6Rd_pick.f k s0_0 bt314.2 3).bind fun bt324 => (some (5, bt324.1, bt312.1, 0, 0, ([] : List (S34)), ([] : List (S36)), ([] : List (S36)), bt324.2))))))

mutual
def spec_l92If.f : Nat → List Int → Int → Int → Int → Bool → Option (Int × Int × Int × Int × Int × (List (S34)) × (List (S36)) × (List (S36)) × Int)
  | 0, _, _, _, _, _ => none
  | k + 1, s0_0, s0_1, a1, a2, a3 => (spec_l6Rd_pick.f k s0_0 s0_1 2).bind fun bt327 => ((spec_l91Expr.f k s0_0 bt327.2 (wrap64 (1 + bt327.1))).bind fun bt329 => ((spec_l6Rd_pick.f k s0_0 bt329.2.2.2 3).bind fun bt336 => ((spec_l92Block.f k s0_0 bt336.2 a1 (wrap64 (a2 - 1)) bt336.1 a3).bind fun bt338 => ((spec_l6Rd_pick.f k s0_0 bt338.2 3).bind fun bt342 => ((spec_l92Block.f k s0_0 bt342.2 a1 (wrap64 (a2 - 1)) bt342.1 a3).bind fun bt344 => (some (2, 0, 0, bt329.1, bt329.2.1, bt329.2.2.1, bt338.1, bt344.1, bt344.2)))))))
def spec_l92Loop.f : Nat → List Int → Int → Int → Int → Option ((List (S36)) × Int)
  | 0, _, _, _, _ => none
  | k + 1, s0_0, s0_1, a1, a2 => (spec_l6Rd_pick.f k s0_0 s0_1 3).bind fun bt348 => ((spec_l92Block.f k s0_0 bt348.2 a1 (wrap64 (a2 - 1)) bt348.1 false).bind fun bt350 => ((spec_l4Leaf.f 13 3).bind fun bt354 => ((spec_l4Leaf.f 0 1).bind fun bt359 => ((spec_l4Both.f 8 bt354.1 bt354.2.1 bt354.2.2 bt359.1 bt359.2.1 bt359.2.2).bind fun bt364 => ((spec_l4Leaf.f 13 3).bind fun bt370 => ((spec_l6Rd_pick.f k s0_0 bt350.2 3).bind fun bt375 => ((spec_l4Leaf.f 0 (wrap64 (1 + bt375.1))).bind fun bt377 => ((spec_l4Both.f 5 bt370.1 bt370.2.1 bt370.2.2 bt377.1 bt377.2.1 bt377.2.2).bind fun bt382 => ((some (([(⟨1, 3, 0, (⟨bt364.1, bt364.2.1, bt364.2.2⟩ : S34), ([] : List (S36)), ([] : List (S36))⟩ : S36)] : List (S36)) : List (S36))).bind fun y387 => (if bt350.1.length + y387.length < 1256584717458 then ((spec_l4Leaf.f 0 0).bind fun bt394 => (some ((([(⟨1, 3, 0, (⟨bt394.1, bt394.2.1, bt394.2.2⟩ : S34), ([] : List (S36)), ([] : List (S36))⟩ : S36), (⟨3, 0, 0, (⟨bt382.1, bt382.2.1, bt382.2.2⟩ : S34), (bt350.1 ++ y387), ([] : List (S36))⟩ : S36)] : List (S36))), bt375.2))) else (none)))))))))))
def spec_l92Stmt.j0 : Nat → Int → Int → Bool → Int → Bool → List Int → Int → Option ((List (S36)) × Int)
  | 0, _, _, _, _, _, _, _ => none
  | k + 1, x1, x2, x3, x10, x11, x1000, x1001 => if x11 = true then ((spec_l92Set.f k x1000 x1001).bind fun bt404 => (some ((([(⟨bt404.1, bt404.2.1, bt404.2.2.1, (⟨bt404.2.2.2.1, bt404.2.2.2.2.1, bt404.2.2.2.2.2.1⟩ : S34), bt404.2.2.2.2.2.2.1, bt404.2.2.2.2.2.2.2.1⟩ : S36)] : List (S36))), bt404.2.2.2.2.2.2.2.2))) else (if x10 = 2 then (if x2 > 0 then ((spec_l92If.f k x1000 x1001 x1 x2 x3).bind fun bt422 => (some ((([(⟨bt422.1, bt422.2.1, bt422.2.2.1, (⟨bt422.2.2.2.1, bt422.2.2.2.2.1, bt422.2.2.2.2.2.1⟩ : S34), bt422.2.2.2.2.2.2.1, bt422.2.2.2.2.2.2.2.1⟩ : S36)] : List (S36))), bt422.2.2.2.2.2.2.2.2))) else ((spec_l6Rd_pick.f k x1000 x1001 3).bind fun bt440 => ((spec_l91Expr.f k x1000 bt440.2 (wrap64 (1 + bt440.1))).bind fun bt442 => (some ((([(⟨7, 0, 0, (⟨bt442.1, bt442.2.1, bt442.2.2.1⟩ : S34), ([] : List (S36)), ([] : List (S36))⟩ : S36)] : List (S36))), bt442.2.2.2))))) else (if x10 = 3 then (if x2 > 0 then (spec_l92Stmt.j1 k x1 x2 x3 x1000 x1001) else (spec_l92Stmt.j1 k x1 x2 false x1000 x1001)) else (if x10 = 4 then (spec_l92Stmt.j2 k x1 x10 (x10 == 4) x1000 x1001) else (if x10 = 5 then (spec_l92Stmt.j2 k x1 x10 (x10 == 5) x1000 x1001) else (spec_l92Stmt.j2 k x1 x10 (x10 == 6) x1000 x1001)))))
def spec_l92Stmt.j1 : Nat → Int → Int → Bool → List Int → Int → Option ((List (S36)) × Int)
  | 0, _, _, _, _, _ => none
  | k + 1, x1, x2, x33, x1000, x1001 => if x33 = true then ((spec_l92Loop.f k x1000 x1001 x1 x2).bind fun bt451 => (some (bt451.1, bt451.2))) else ((spec_l6Rd_pick.f k x1000 x1001 3).bind fun bt455 => ((spec_l91Expr.f k x1000 bt455.2 (wrap64 (1 + bt455.1))).bind fun bt457 => (some ((([(⟨7, 0, 0, (⟨bt457.1, bt457.2.1, bt457.2.2.1⟩ : S34), ([] : List (S36)), ([] : List (S36))⟩ : S36)] : List (S36))), bt457.2.2.2))))
def spec_l92Stmt.j2 : Nat → Int → Int → Bool → List Int → Int → Option ((List (S36)) × Int)
  | 0, _, _, _, _, _ => none
  | k + 1, x1, x10, x38, x1000, x1001 => if x38 = true then ((spec_l92Talk.f k x1000 x1001 x1).bind fun bt466 => (some ((([(⟨bt466.1, bt466.2.1, bt466.2.2.1, (⟨bt466.2.2.2.1, bt466.2.2.2.2.1, bt466.2.2.2.2.2.1⟩ : S34), bt466.2.2.2.2.2.2.1, bt466.2.2.2.2.2.2.2.1⟩ : S36)] : List (S36))), bt466.2.2.2.2.2.2.2.2))) else (if x10 = 7 then (some ((([(⟨6, 0, 0, (⟨0, 0, ([] : List (S34))⟩ : S34), ([] : List (S36)), ([] : List (S36))⟩ : S36)] : List (S36))), x1001)) else ((spec_l6Rd_pick.f k x1000 x1001 3).bind fun bt487 => ((spec_l91Expr.f k x1000 bt487.2 (wrap64 (1 + bt487.1))).bind fun bt489 => (some ((([(⟨7, 0, 0, (⟨bt489.1, bt489.2.1, bt489.2.2.1⟩ : S34), ([] : List (S36)), ([] : List (S36))⟩ : S36)] : List (S36))), bt489.2.2.2)))))
def spec_l92Stmt.f : Nat → List Int → Int → Int → Int → Bool → Option ((List (S36)) × Int)
  | 0, _, _, _, _, _ => none
  | k + 1, s0_0, s0_1, a1, a2, a3 => (spec_l6Rd_pick.f k s0_0 s0_1 10).bind fun bt402 => (if bt402.1 = 0 then (spec_l92Stmt.j0 k a1 a2 a3 bt402.1 (bt402.1 == 0) s0_0 bt402.2) else (spec_l92Stmt.j0 k a1 a2 a3 bt402.1 (bt402.1 == 1) s0_0 bt402.2))
def spec_l92Block.l0 : Nat → Int → Int → Int → Bool → List (S36) → Int → List Int → Int → Option ((List (S36)) × Int)
  | 0, _, _, _, _, _, _, _, _ => none
  | k + 1, x1, x2, x3, x4, x11, x12, x1000, x1001 => if x12 < x3 then ((spec_l92Stmt.f k x1000 x1001 x1 x2 x4).bind fun bt501 => (if x11.length + bt501.1.length < 1256584717458 then (spec_l92Block.l0 k x1 x2 x3 x4 (x11 ++ bt501.1) (wrap64 (x12 + 1)) x1000 bt501.2) else (none))) else (some (x11, x1001))
def spec_l92Block.f : Nat → List Int → Int → Int → Int → Int → Bool → Option ((List (S36)) × Int)
  | 0, _, _, _, _, _, _ => none
  | k + 1, s0_0, s0_1, a1, a2, a3, a4 => spec_l92Block.l0 k a1 a2 a3 a4 (([] : List (S36))) 0 s0_0 s0_1
end





def spec_l92Stmts.l0 : Nat → List (S36) → List Int → Int → Option ((List (S36)) × Int)
  | 0, _, _, _ => none
  | k + 1, x5, x1000, x1001 => (spec_l11Count.f k x5).bind fun t514 => (if t514 > 16 then (if 0 ≤ (wrap64 ((x5.length : Int) - 1)) then (if (wrap64 ((x5.length : Int) - 1)) ≤ (x5.length : Int) then (spec_l92Stmts.l0 k (x5.take ((wrap64 ((x5.length : Int) - 1)) : Int).toNat) x1000 x1001) else (none)) else (none)) else (some (x5, x1001)))
def spec_l92Stmts.f (k : Nat) (s0_0 : List Int) (s0_1 : Int) (a1 : Int) : Option ((List (S36)) × Int) := (spec_l6Rd_pick.f k s0_0 s0_1 6).bind fun bt508 => ((spec_l92Block.f k s0_0 bt508.2 a1 3 (wrap64 (1 + bt508.1)) true).bind fun bt510 => (spec_l92Stmts.l0 k bt510.1 s0_0 bt510.2))

def spec_l92Endless.f (k : Nat) (s0_0 : List Int) (s0_1 : Int) : Option (Int × Int × Int × Int × Int × (List (S34)) × (List (S36)) × (List (S36)) × Int) := (spec_l4Leaf.f 0 1).bind fun bt519 => ((spec_l6Rd_pick.f k s0_0 s0_1 2).bind fun bt524 => ((spec_l92Block.f k s0_0 bt524.2 0 1 bt524.1 false).bind fun bt526 => (some (3, 0, 0, bt519.1, bt519.2.1, bt519.2.2, bt526.1, ([] : List (S36)), bt526.2))))

def spec_l92Some.f (k : Nat) (s0_0 : List Int) (s0_1 : Int) : Option ((List (S36)) × Int) := (spec_l92Stmts.f k s0_0 s0_1 3).bind fun bt530 => ((spec_l6Rd_pick.f k s0_0 bt530.2 24).bind fun bt534 => (if bt534.1 = 0 then ((spec_l92Endless.f k s0_0 bt534.2).bind fun bt536 => (if bt530.1.length < 1256584717458 then (some ((bt530.1 ++ [(⟨bt536.1, bt536.2.1, bt536.2.2.1, (⟨bt536.2.2.2.1, bt536.2.2.2.2.1, bt536.2.2.2.2.2.1⟩ : S34), bt536.2.2.2.2.2.2.1, bt536.2.2.2.2.2.2.2.1⟩ : S36)]), bt536.2.2.2.2.2.2.2.2)) else (none))) else (if bt534.1 = 1 then ((some (([0, 8] : List Int) : List Int)).bind fun y554 => ((spec_l6Rd_pick.f k s0_0 bt534.2 2).bind fun bt557 => (if 0 ≤ bt557.1 then (if bt557.1 < (y554.length : Int) then (if bt530.1.length < 1256584717458 then (some ((bt530.1 ++ [(⟨rd y554 bt557.1, 0, 0, (⟨0, 0, ([] : List (S34))⟩ : S34), ([] : List (S36)), ([] : List (S36))⟩ : S36)]), bt557.2)) else (none)) else (none)) else (none)))) else (if bt534.1 = 2 then ((spec_l91Leaf.f k s0_0 bt534.2).bind fun bt563 => (if bt530.1.length < 1256584717458 then (some ((bt530.1 ++ [(⟨4, 0, 3, (⟨bt563.1, bt563.2.1, bt563.2.2.1⟩ : S34), ([] : List (S36)), ([] : List (S36))⟩ : S36)]), bt563.2.2.2)) else (none))) else (if bt534.1 = 3 then (if bt530.1.length < 1256584717458 then (some ((bt530.1 ++ [(⟨6, 1, 0, (⟨0, 0, ([] : List (S34))⟩ : S34), ([] : List (S36)), ([] : List (S36))⟩ : S36)]), bt534.2)) else (none)) else (if bt534.1 = 4 then ((spec_l92If.f k s0_0 bt534.2 1 1 false).bind fun bt575 => (if bt530.1.length < 1256584717458 then (some ((bt530.1 ++ [(⟨bt575.1, bt575.2.1, bt575.2.2.1, (⟨bt575.2.2.2.1, bt575.2.2.2.2.1, bt575.2.2.2.2.2.1⟩ : S34), (([(⟨2, 0, 0, (⟨0, 0, ([] : List (S34))⟩ : S34), (([(⟨2, 0, 0, (⟨0, 0, ([] : List (S34))⟩ : S34), (([(⟨2, 0, 0, (⟨0, 0, ([] : List (S34))⟩ : S34), ([] : List (S36)), ([] : List (S36))⟩ : S36)] : List (S36))), ([] : List (S36))⟩ : S36)] : List (S36))), ([] : List (S36))⟩ : S36)] : List (S36))), bt575.2.2.2.2.2.2.2.1⟩ : S36)]), bt575.2.2.2.2.2.2.2.2)) else (none))) else (if bt534.1 = 5 then ((spec_l91Leaf.f k s0_0 bt534.2).bind fun bt603 => (if bt530.1.length < 1256584717458 then (some ((bt530.1 ++ [(⟨3, 0, 0, (⟨bt603.1, bt603.2.1, bt603.2.2.1⟩ : S34), ([] : List (S36)), (([(⟨6, 0, 0, (⟨0, 0, ([] : List (S34))⟩ : S34), ([] : List (S36)), ([] : List (S36))⟩ : S36)] : List (S36)))⟩ : S36)]), bt603.2.2.2)) else (none))) else (some (bt530.1, bt534.2)))))))))

def spec_DrawStmtsValid.l0 : Nat → List (S36) → List Int → Int → Option ((List (S36)))
  | 0, _, _, _ => none
  | k + 1, x4, x618000, x618001 => (spec_l6Rd_pick.f k x618000 x618001 8).bind fun bt622 => (if bt622.1 = 7 then (if (x4.length : Int) < 20 then ((some (([(⟨6, 0, 0, (⟨0, 0, ([] : List (S34))⟩ : S34), ([] : List (S36)), ([] : List (S36))⟩ : S36), (⟨6, 0, 0, (⟨0, 0, ([] : List (S34))⟩ : S34), ([] : List (S36)), ([] : List (S36))⟩ : S36), (⟨6, 0, 0, (⟨0, 0, ([] : List (S34))⟩ : S34), ([] : List (S36)), ([] : List (S36))⟩ : S36)] : List (S36)) : List (S36))).bind fun y624 => (if x4.length + y624.length < 1256584717458 then (spec_DrawStmtsValid.l0 k (x4 ++ y624) x618000 bt622.2) else (none))) else (some x4)) else (some x4))
def spec_DrawStmtsValid.f (k : Nat) (l0 : List Int) : Option ((List (S36))) := (spec_l6Open.f l0).bind fun bt615 => ((spec_l92Some.f k bt615.1 bt615.2).bind fun bt618 => (spec_DrawStmtsValid.l0 k bt618.1 bt615.1 bt618.2))

mutual
def laws_FnStmts.j0 : Nat → List Int → List Int → Bool → Option (Bool)
  | 0, _, _, _ => none
  | k + 1, x0, x1, x16 => if x16 = true then (some true) else ((spec_DrawStmtsValid.f k x0).bind fun t630 => ((impl_StmtsValid.f k t630).bind fun t633 => ((spec_StmtsValid.f k t630).bind fun t634 => (if (t633 != t634) = true then (laws_FnStmts.j1 k x1 t630 t633 t634 true) else (laws_FnStmts.j1 k x1 t630 t633 t634 (!t633))))))
def laws_FnStmts.j1 : Nat → List Int → List (S36) → Bool → Bool → Bool → Option (Bool)
  | 0, _, _, _, _, _ => none
  | k + 1, x1, x5, x6, x7, x29 => if x29 = true then (some (x6 == x7)) else (if (wrap64 ((x5.length : Int) + 1)) = 0 then (none) else (if 0 ≤ ((x1.length : Int) % (wrap64 ((x5.length : Int) + 1))) then (if ((x1.length : Int) % (wrap64 ((x5.length : Int) + 1))) ≤ (x5.length : Int) then ((impl_StmtsValid.f k (x5.take (((x1.length : Int) % (wrap64 ((x5.length : Int) + 1))) : Int).toNat)).bind fun t640 => (if t640 = true then ((impl_StmtsValid.f k (x5.drop (((x1.length : Int) % (wrap64 ((x5.length : Int) + 1))) : Int).toNat)).bind fun t646 => (some t646)) else (some false))) else (none)) else (none)))
end
def laws_FnStmts.f (k : Nat) (l0 : List Int) (l1 : List Int) : Option (Bool) := if (l0.length : Int) > 1048576 then (laws_FnStmts.j0 k l0 l1 true) else (laws_FnStmts.j0 k l0 l1 (decide ((l1.length : Int) > 1048576)))

mutual
def laws_FnStmtsBlocks.j0 : Nat → List (S36) → Bool → Bool → Bool → Option (Bool)
  | 0, _, _, _, _ => none
  | k + 1, x3, x4, x5, x22 => if x22 = true then (some (x4 == x5)) else (laws_FnStmtsBlocks.l0 k x3 0)
def laws_FnStmtsBlocks.l0 : Nat → List (S36) → Int → Option (Bool)
  | 0, _, _ => none
  | k + 1, x3, x6 => if x6 < (x3.length : Int) then (if 0 ≤ x6 then ((impl_StmtsValid.f k ((rd_T36 x3 x6).f4)).bind fun t653 => (if t653 = true then ((impl_StmtsValid.f k ((rd_T36 x3 x6).f5)).bind fun t655 => (if t655 = true then (laws_FnStmtsBlocks.l0 k x3 (wrap64 (x6 + 1))) else (some false))) else (some false))) else (none)) else (some true)
end
def laws_FnStmtsBlocks.f (k : Nat) (l0 : List Int) : Option (Bool) := if (l0.length : Int) > 1048576 then (some true) else ((spec_DrawStmtsValid.f k l0).bind fun t647 => ((impl_StmtsValid.f k t647).bind fun t650 => ((spec_StmtsValid.f k t647).bind fun t651 => (if (t650 != t651) = true then (laws_FnStmtsBlocks.j0 k t647 t650 t651 true) else (laws_FnStmtsBlocks.j0 k t647 t650 t651 (!t650))))))

def laws_yields.l0 : Nat → Int → List (S36) → Int → Option ((List (S36)))
  | 0, _, _, _ => none
  | k + 1, x0, x3, x4 => if x4 < x0 then (if x3.length < 1256584717458 then (laws_yields.l0 k x0 (x3 ++ [(⟨6, 0, 0, (⟨0, 0, ([] : List (S34))⟩ : S34), ([] : List (S36)), ([] : List (S36))⟩ : S36)]) (wrap64 (x4 + 1))) else (none)) else (some x3)
def laws_yields.f (k : Nat) (a0 : Int) : Option ((List (S36))) := laws_yields.l0 k a0 (([] : List (S36))) 0

def laws_FnStmtsMany.j0 : Nat → List (S36) → Bool → Bool → Bool → Option (Bool)
  | 0, _, _, _, _ => none
  | k + 1, x3, x4, x5, x23 => if x23 = true then (some (x4 == x5)) else ((some (([] : List (S36)) : List (S36))).bind fun y667 => (if y667.length + x3.length < 1256584717458 then ((some (y667 ++ x3 : List (S36))).bind fun y670 => ((laws_yields.f k 17).bind fun t673 => (if y670.length + t673.length < 1256584717458 then ((some (([] : List (S36)) : List (S36))).bind fun y679 => (if y679.length + x3.length < 1256584717458 then ((some (y679 ++ x3 : List (S36))).bind fun y682 => (if y682.length < 1256584717458 then ((impl_StmtsValid.f k (y670 ++ t673)).bind fun t688 => (if t688 = true then (some false) else ((impl_StmtsValid.f k (y682 ++ [(⟨0, 0, 0, (⟨0, 0, ([] : List (S34))⟩ : S34), ([] : List (S36)), ([] : List (S36))⟩ : S36)])).bind fun t689 => (some (!t689))))) else (none))) else (none))) else (none)))) else (none)))
def laws_FnStmtsMany.f (k : Nat) (l0 : List Int) : Option (Bool) := if (l0.length : Int) > 1048576 then (some true) else ((spec_DrawStmtsValid.f k l0).bind fun t662 => ((impl_StmtsValid.f k t662).bind fun t665 => ((spec_StmtsValid.f k t662).bind fun t666 => (if (t665 != t666) = true then (laws_FnStmtsMany.j0 k t662 t665 t666 true) else (laws_FnStmtsMany.j0 k t662 t665 t666 (!t665))))))

def spec_DrawStmtsCount.f (k : Nat) (l0 : List Int) : Option ((List (S36))) := (spec_l6Open.f l0).bind fun bt690 => ((spec_l92Some.f k bt690.1 bt690.2).bind fun bt693 => (some bt693.1))

mutual
def impl_stmtsCount.l0 : Nat → Int → List (S36) → Int → Int → Option (Int)
  | 0, _, _, _, _ => none
  | k + 1, x3, x8, x9, x10 => if x10 < x9 then (if 0 ≤ x10 then (if x10 < (x8.length : Int) then ((impl_stmtsCount.f k ((rd_T36 x8 x10).f4)).bind fun t699 => ((impl_stmtsCount.f k ((rd_T36 x8 x10).f5)).bind fun t700 => (impl_stmtsCount.l0 k (wrap64 (x3 + (wrap64 (t699 + t700)))) x8 x9 (wrap64 (x10 + 1))))) else (none)) else (none)) else (some x3)
def impl_stmtsCount.f : Nat → List (S36) → Option (Int)
  | 0, _ => none
  | k + 1, l0 => impl_stmtsCount.l0 k (l0.length : Int) l0 (l0.length : Int) 0
end

def impl_StmtsCount.f (k : Nat) (l0 : List (S36)) : Option (Int) := (impl_StmtsValid.f k l0).bind fun t701 => (if t701 = true then ((impl_stmtsCount.f k l0).bind fun t702 => (some t702)) else (some (-1)))

def spec_StmtsCount.f (k : Nat) (l0 : List (S36)) : Option (Int) := (spec_StmtsValid.f k l0).bind fun t703 => (if t703 = true then ((spec_l11Count.f k l0).bind fun t704 => (some t704)) else (some (-1)))

mutual
def laws_FnCountJoin.j0 : Nat → List Int → List Int → Bool → Option (Bool)
  | 0, _, _, _ => none
  | k + 1, x0, x1, x18 => if x18 = true then (some true) else ((spec_DrawStmtsCount.f k x0).bind fun t705 => ((impl_StmtsCount.f k t705).bind fun t708 => ((spec_StmtsCount.f k t705).bind fun t709 => (if t708 = t709 then (laws_FnCountJoin.j1 k x1 t705 t708 t709 (decide (t708 < 0))) else (laws_FnCountJoin.j1 k x1 t705 t708 t709 true)))))
def laws_FnCountJoin.j1 : Nat → List Int → List (S36) → Int → Int → Bool → Option (Bool)
  | 0, _, _, _, _, _ => none
  | k + 1, x1, x5, x6, x7, x31 => if x31 = true then (some (x6 == x7)) else ((spec_DrawStmtsCount.f k x1).bind fun t710 => ((impl_StmtsCount.f k t710).bind fun t713 => ((some (([] : List (S36)) : List (S36))).bind fun y714 => (if y714.length + x5.length < 1256584717458 then ((some (y714 ++ x5 : List (S36))).bind fun y717 => (if y717.length + t710.length < 1256584717458 then ((some (y717 ++ t710 : List (S36))).bind fun y720 => (if t713 < 0 then ((impl_StmtsValid.f k y720).bind fun t723 => (some (!t723))) else ((impl_StmtsValid.f k y720).bind fun t724 => (some (t724 == (decide ((wrap64 (x6 + t713)) ≤ 16))))))) else (none))) else (none)))))
end
def laws_FnCountJoin.f (k : Nat) (l0 : List Int) (l1 : List Int) : Option (Bool) := if (l0.length : Int) > 1048576 then (laws_FnCountJoin.j0 k l0 l1 true) else (laws_FnCountJoin.j0 k l0 l1 (decide ((l1.length : Int) > 1048576)))

mutual
def laws_FnCountParts.j0 : Nat → List Int → List Int → Bool → Option (Bool)
  | 0, _, _, _ => none
  | k + 1, x0, x1, x16 => if x16 = true then (some true) else ((spec_DrawStmtsCount.f k x0).bind fun t725 => ((impl_StmtsCount.f k t725).bind fun t728 => ((spec_StmtsCount.f k t725).bind fun t729 => (if t728 = t729 then (laws_FnCountParts.j1 k x1 t725 t728 t729 (decide (t728 < 0))) else (laws_FnCountParts.j1 k x1 t725 t728 t729 true)))))
def laws_FnCountParts.j1 : Nat → List Int → List (S36) → Int → Int → Bool → Option (Bool)
  | 0, _, _, _, _, _ => none
  | k + 1, x1, x5, x6, x7, x29 => if x29 = true then (some (x6 == x7)) else (if (wrap64 ((x5.length : Int) + 1)) = 0 then (none) else (if 0 ≤ ((x1.length : Int) % (wrap64 ((x5.length : Int) + 1))) then (if ((x1.length : Int) % (wrap64 ((x5.length : Int) + 1))) ≤ (x5.length : Int) then ((impl_StmtsCount.f k (x5.take (((x1.length : Int) % (wrap64 ((x5.length : Int) + 1))) : Int).toNat)).bind fun t735 => ((impl_StmtsCount.f k (x5.drop (((x1.length : Int) % (wrap64 ((x5.length : Int) + 1))) : Int).toNat)).bind fun t741 => (if x6 = (wrap64 (t735 + t741)) then (if x6 ≥ (x5.length : Int) then (some (decide (x6 ≤ 16))) else (some false)) else (some false)))) else (none)) else (none)))
end
def laws_FnCountParts.f (k : Nat) (l0 : List Int) (l1 : List Int) : Option (Bool) := if (l0.length : Int) > 1048576 then (laws_FnCountParts.j0 k l0 l1 true) else (laws_FnCountParts.j0 k l0 l1 (decide ((l1.length : Int) > 1048576)))

def laws_number.f (a0 : Int) : Option (Int × Int × (List (S34))) := some (0, a0, ([] : List (S34)))

def laws_FnCountBlock.f (k : Nat) (l0 : List Int) : Option Bool := if (l0.length : Int) > 1048576 then some true else ((spec_DrawStmtsCount.f k l0).bind fun t => (impl_StmtsCount.f k t).bind fun a => (spec_StmtsCount.f k t).bind fun b => if (a != b || decide (a < 0)) = true then some (a == b) else ((impl_StmtsCount.f k [⟨2, 0, 0, ⟨0, 1, []⟩, t, []⟩]).bind fun n => (impl_StmtsCount.f k [⟨3, 0, 0, ⟨0, 1, []⟩, t, []⟩]).bind fun m => some (n == m && (n == -1 || n == wrap64 (a + 1)))))

def laws_FnExactStmtsCount.f (k : Nat) (l0 : List (S46)) : Option (Bool) := (laws_szStmtS.f k l0 1048576).bind fun t743 => (if t743 < 0 then (some true) else ((laws_toStmtS.f k l0).bind fun t744 => ((spec_StmtsCount.f k t744).bind fun t747 => ((laws_toStmtS.f k l0).bind fun t748 => ((impl_StmtsCount.f k t748).bind fun t751 => (if t751 = t747 then ((laws_toStmtS.f k l0).bind fun t752 => ((laws_eqStmtS.f k t748 t752).bind fun t755 => (if t755 = true then (some true) else (some false)))) else (some false)))))))

end Go.Proofs.Ytpifdlpieglhlaa.PA
