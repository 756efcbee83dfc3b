-- made by a program of this session (wip/myprint.py over the kit's print)
import Derived.Test.YtpcbfcaacilghaaV
import Derived.Test.YtpcbfcaacilghaaPAx0
namespace Go.Proofs.Ytpcbfcaacilghaa.PA
open Go.RowKit Go.Proofs.YtpcbfcaacilghaaW.PrintWords Go.Proofs.YtpcbfcaacilghaaW.PrintLast Go.Proofs.YtpcbfcaacilghaaW.PrintMore
attribute [local go_sem] max2_int min2_int max_two min_two max_three min_three max_four min_four   -- for this text's walks alone
set_option linter.unusedVariables false
set_option linter.unusedSimpArgs false

-- FUNCTIONS
def impl_roomsValid.l0 : Nat → List Int → List Int → Int → Int → Option (Bool)
  | 0, _, _, _, _ => none
  | k + 1, x0, x5, x6, x7 => if x7 < x6 then (if 0 ≤ x7 then (if x7 < (x5.length : Int) then (if (rd x5 x7) < 1 then (some false) else (if (rd x5 x7) > 4 then (some false) else (impl_roomsValid.l0 k x0 x5 x6 (wrap64 (x7 + 1))))) else (none)) else (none)) else (some (decide ((x0.length : Int) ≤ 3)))
def impl_roomsValid.f (k : Nat) (l0 : List Int) : Option (Bool) := impl_roomsValid.l0 k l0 l0 (l0.length : Int) 0

def impl_OpValid.f (a0 : Int) : Option (Bool) := if a0 ≥ 1 then (some (decide (a0 ≤ 12))) else (some false)

def impl_exprValid.f : Nat → Int → Int → List (S34) → Int → Option (Bool)
  | 0, _, _, _, _ => none
  | k + 1, a0_0, a0_1, l0_2, a1 => if a0_0 = 0 then (if a0_1 ≥ 0 then (if a0_1 ≤ 99999 then (if (l0_2.length : Int) = 0 then (some (decide (a1 > 0))) else (some false)) else (some false)) else (some false)) else (if a0_0 = 13 then (if a0_1 ≥ 0 then (if a0_1 < 4 then (if (l0_2.length : Int) = 0 then (some (decide (a1 > 0))) else (some false)) else (some false)) else (some false)) else ((impl_OpValid.f a0_0).bind fun t103 => (if t103 = true then (if a0_1 = 0 then (if (l0_2.length : Int) = 2 then (if a1 > 1 then (if 0 < (l0_2.length : Int) then ((impl_exprValid.f k ((rd_T34 l0_2 0).f0) ((rd_T34 l0_2 0).f1) ((rd_T34 l0_2 0).f2) (wrap64 (a1 - 1))).bind fun t105 => (if t105 = true then (if 1 < (l0_2.length : Int) then ((impl_exprValid.f k ((rd_T34 l0_2 1).f0) ((rd_T34 l0_2 1).f1) ((rd_T34 l0_2 1).f2) (wrap64 (a1 - 1))).bind fun t107 => (some t107)) else (none)) else (some false))) else (none)) else (some false)) else (some false)) else (some false)) else (some false))))

def impl_ExprValid.f (k : Nat) (a0_0 : Int) (a0_1 : Int) (l0_2 : List (S34)) : Option (Bool) := (impl_exprValid.f k a0_0 a0_1 l0_2 5).bind fun t109 => (some t109)

def inr (n limit : Int) (needed : Bool) : Bool := (n == 0) || (needed && (decide (n > 0) && decide (n < limit)))

def stv_rest (k : Nat) (nv nb ne nd no : Bool) (va bx op n : Int) (la : List S34) (lb le : Nat) (boxes : Int) : Option Bool :=
  if inr va 4 nv = true then (if inr bx boxes nb = true then (if nb = true ∧ boxes ≤ bx then some false else
    (if ne = true then ((impl_ExprValid.f k op n la).bind fun t => if t = true then some ((nd || lb == 0) && (no || le == 0)) else some false)
     else (if op = 0 then (if n = 0 then (if 0 < (la.length : Int) then some false else some ((nd || lb == 0) && (no || le == 0))) else some false) else some false))) else some false) else some false
def impl_stmtValid.f (k : Nat) (kd va bx op n : Int) (la : List S34) (lb le : Nat) (boxes : Int) : Option Bool :=
  if kd = 1 then stv_rest k true false true false false va bx op n la lb le boxes
  else if kd = 2 then stv_rest k false false true true true va bx op n la lb le boxes
  else if kd = 3 then stv_rest k false false true true false va bx op n la lb le boxes
  else if kd = 4 then stv_rest k false true true false false va bx op n la lb le boxes
  else if kd = 5 then stv_rest k true true false false false va bx op n la lb le boxes
  else if kd = 7 then stv_rest k false false true false false va bx op n la lb le boxes
  else if kd = 6 then stv_rest k false false false false false va bx op n la lb le boxes
  else some false

mutual
def impl_blockValid.f : Nat → List S37 → Int → Int → Int → Option (Bool × Int)
  | 0, _, _, _, _ => none
  | k + 1, l, boxes, blocks, cnt => if 16 < wrap64 (cnt + (l.length : Int)) then some (false, wrap64 (cnt + (l.length : Int))) else impl_blockValid.l0 k l boxes blocks 0 (wrap64 (cnt + (l.length : Int)))
def impl_blockValid.l0 : Nat → List S37 → Int → Int → Int → Int → Option (Bool × Int)
  | 0, _, _, _, _, _ => none
  | k + 1, l, boxes, blocks, i, cnt => if i < (l.length : Int) then (if 0 ≤ i then
      ((impl_stmtValid.f k (rd_T37 l i).f0 (rd_T37 l i).f1 (rd_T37 l i).f2 (rd_T37 l i).f3.f0 (rd_T37 l i).f3.f1 (rd_T37 l i).f3.f2 (rd_T37 l i).f4.length (rd_T37 l i).f5.length boxes).bind fun t =>
        if t = true then (if 3 < blocks then some (false, cnt) else
          (if (rd_T37 l i).f0 = 2 ∨ (rd_T37 l i).f0 = 3 then (if 3 ≤ blocks then some (false, cnt) else
            ((impl_blockValid.f k (rd_T37 l i).f4 boxes (wrap64 (blocks + 1)) cnt).bind fun p => if p.1 = true then
              ((impl_blockValid.f k (rd_T37 l i).f5 boxes (wrap64 (blocks + 1)) p.2).bind fun q => if q.1 = true then impl_blockValid.l0 k l boxes blocks (wrap64 (i + 1)) q.2 else some (false, q.2)) else some (false, p.2)))
          else impl_blockValid.l0 k l boxes blocks (wrap64 (i + 1)) cnt)) else some (false, cnt)) else none) else some (true, cnt)
end

def impl_stmtsValid.f (k : Nat) (l0 : List (S37)) (a1 : Int) : Option Bool := (impl_blockValid.f k l0 a1 0 0).bind fun p => some p.1

mutual
def impl_ProgramValid.j0 : Nat → Bool → List Int → List (List (S37)) → Option (Bool)
  | 0, _, _, _ => none
  | k + 1, x20, x111000, x111001 => if x20 = true then (some false) else (impl_ProgramValid.l0 k x111001 (x111001.length : Int) 0 x111000 x111001)
def impl_ProgramValid.l0 : Nat → List (List (S37)) → Int → Int → List Int → List (List (S37)) → Option (Bool)
  | 0, _, _, _, _, _ => none
  | k + 1, x22, x23, x24, x111000, x111001 => if x24 < x23 then (if 0 ≤ x24 then (if x24 < (x22.length : Int) then ((impl_stmtsValid.f k (rd_L3 x22 x24) (x111000.length : Int)).bind fun t113 => (if t113 = true then (impl_ProgramValid.l0 k x22 x23 (wrap64 (x24 + 1)) x111000 x111001) else (some false))) else (none)) else (none)) else (some true)
end
def impl_ProgramValid.f (k : Nat) (l0_0 : List Int) (l0_1 : List (List (S37))) : Option (Bool) := (impl_roomsValid.f k l0_0).bind fun t111 => (if t111 = true then (if (l0_1.length : Int) < 1 then (impl_ProgramValid.j0 k true l0_0 l0_1) else (impl_ProgramValid.j0 k (decide ((l0_1.length : Int) > 3)) l0_0 l0_1)) else (impl_ProgramValid.j0 k true l0_0 l0_1))

mutual
def impl_hasLoop.l0 : Nat → List S37 → Int → Option Bool
  | 0, _, _ => none
  | k + 1, x, i => if i < (x.length : Int) then (if 0 ≤ i then ((impl_hasLoop.one k (rd_T37 x i)).bind fun b => if b = true then some true else impl_hasLoop.l0 k x (wrap64 (i + 1))) else none) else some false
def impl_hasLoop.one : Nat → S37 → Option Bool
  | 0, _ => none
  | k + 1, s => if s.f0 = 3 then some true else ((impl_hasLoop.f k s.f4).bind fun b => if b = true then some true else impl_hasLoop.f k s.f5)
def impl_hasLoop.f : Nat → List S37 → Option Bool
  | 0, _ => none
  | k + 1, l => impl_hasLoop.l0 k l 0
end
def impl_anyLoop.l0 : Nat → List (List S37) → Int → Option Bool
  | 0, _, _ => none
  | k + 1, x, i => if i < (x.length : Int) then (if 0 ≤ i then ((impl_hasLoop.f k (rd_L3 x i)).bind fun b => if b = true then some true else impl_anyLoop.l0 k x (wrap64 (i + 1))) else none) else some false

def impl_ProgramPlain.f (k : Nat) (l0_0 : List Int) (l0_1 : List (List S37)) : Option Bool := (impl_ProgramValid.f k l0_0 l0_1).bind fun v => if v = true then ((impl_anyLoop.l0 k l0_1 0).bind fun b => some (!b)) else some false

def spec_l6In.f (a0 : Int) (a1 : Int) (a2 : Int) : Option (Bool) := if a0 ≥ a1 then (some (decide (a0 ≤ a2))) else (some false)

def spec_l12Rooms.l0 : Nat → List Int → Int → Option (Bool)
  | 0, _, _ => none
  | k + 1, x0, x3 => if x3 < (x0.length : Int) then (if 0 ≤ x3 then ((spec_l6In.f (rd x0 x3) 1 4).bind fun t115 => (if t115 = true then (spec_l12Rooms.l0 k x0 (wrap64 (x3 + 1))) else (some false))) else (none)) else (some (decide ((x0.length : Int) ≤ 3)))
def spec_l12Rooms.f (k : Nat) (l0 : List Int) : Option (Bool) := spec_l12Rooms.l0 k l0 0

mutual
def spec_l11Count.l0 : Nat → List (S37) → Int → Int → Option (Int)
  | 0, _, _, _ => none
  | k + 1, x0, x3, x4 => if x4 < (x0.length : Int) then (if 0 ≤ x4 then ((spec_l11Count.f k ((rd_T37 x0 x4).f4)).bind fun t117 => ((spec_l11Count.f k ((rd_T37 x0 x4).f5)).bind fun t119 => (spec_l11Count.l0 k x0 (wrap64 ((wrap64 ((wrap64 (x3 + 1)) + t117)) + t119)) (wrap64 (x4 + 1))))) else (none)) else (some x3)
def spec_l11Count.f : Nat → List (S37) → Option (Int)
  | 0, _ => none
  | k + 1, l0 => spec_l11Count.l0 k l0 0 0
end

def spec_l11Var.f (a0_0 : Int) (a0_1 : Int) (a0_2 : Int) (a0_3 : Int) (a0_4 : Int) (l0_5 : List (S34)) (l0_6 : List (S37)) (l0_7 : List (S37)) (a1 : Bool) : Option (Bool) := if a1 = true then ((spec_l6In.f a0_1 0 3).bind fun t121 => (some t121)) else (some (a0_1 == 0))

def spec_l11Box.f (a0_0 : Int) (a0_1 : Int) (a0_2 : Int) (a0_3 : Int) (a0_4 : Int) (l0_5 : List (S34)) (l0_6 : List (S37)) (l0_7 : List (S37)) (a1 : Bool) : Option (Bool) := if a1 = true then ((spec_l6In.f a0_2 0 2).bind fun t123 => (some t123)) else (some (a0_2 == 0))

def spec_OpValid.f (a0 : Int) : Option (Bool) := (spec_l6In.f a0 1 12).bind fun t124 => (some t124)

def spec_l4Ok.f : Nat → Int → Int → List (S34) → Int → Option (Bool)
  | 0, _, _, _, _ => none
  | k + 1, a0_0, a0_1, l0_2, a1 => if a1 < 1 then (some false) else (if a0_0 = 0 then ((spec_l6In.f a0_1 0 99999).bind fun t126 => (if t126 = true then (some ((l0_2.length : Int) == 0)) else (some false))) else (if a0_0 = 13 then ((spec_l6In.f a0_1 0 3).bind fun t127 => (if t127 = true then (some ((l0_2.length : Int) == 0)) else (some false))) else ((spec_OpValid.f a0_0).bind fun t128 => (if t128 = true then (if a0_1 = 0 then (if (l0_2.length : Int) = 2 then (if 0 < (l0_2.length : Int) then ((spec_l4Ok.f k ((rd_T34 l0_2 0).f0) ((rd_T34 l0_2 0).f1) ((rd_T34 l0_2 0).f2) (wrap64 (a1 - 1))).bind fun t130 => (if t130 = true then (if 1 < (l0_2.length : Int) then ((spec_l4Ok.f k ((rd_T34 l0_2 1).f0) ((rd_T34 l0_2 1).f1) ((rd_T34 l0_2 1).f2) (wrap64 (a1 - 1))).bind fun t132 => (some t132)) else (none)) else (some false))) else (none)) else (some false)) else (some false)) else (some false)))))

def spec_ExprValid.f (k : Nat) (a0_0 : Int) (a0_1 : Int) (l0_2 : List (S34)) : Option (Bool) := (spec_l4Ok.f k a0_0 a0_1 l0_2 5).bind fun t134 => (some t134)

def spec_l11Plain.f (a0_0 : Int) (a0_1 : Int) (l0_2 : List (S34)) : Option (Bool) := if a0_0 = 0 then (if a0_1 = 0 then (some ((l0_2.length : Int) == 0)) else (some false)) else (some false)

def spec_l11Simple.j0 : Nat → Bool → Int → Int → Int → Int → Int → List (S34) → List (S37) → List (S37) → Option (Bool)
  | 0, _, _, _, _, _, _, _, _, _ => none
  | k + 1, x12, x137000, x137001, x137002, x137003, x137004, x137005, x137006, x137007 => if x12 = true then (some false) else (if x137000 = 1 then ((spec_l11Var.f x137000 x137001 x137002 x137003 x137004 x137005 x137006 x137007 true).bind fun t137 => (if t137 = true then ((spec_l11Box.f x137000 x137001 x137002 x137003 x137004 x137005 x137006 x137007 false).bind fun t138 => (if t138 = true then ((spec_ExprValid.f k x137003 x137004 x137005).bind fun t139 => (some t139)) else (some false))) else (some false))) else (if x137000 = 4 then ((spec_l11Var.f x137000 x137001 x137002 x137003 x137004 x137005 x137006 x137007 false).bind fun t140 => (if t140 = true then ((spec_l11Box.f x137000 x137001 x137002 x137003 x137004 x137005 x137006 x137007 true).bind fun t141 => (if t141 = true then ((spec_ExprValid.f k x137003 x137004 x137005).bind fun t142 => (some t142)) else (some false))) else (some false))) else (if x137000 = 5 then ((spec_l11Var.f x137000 x137001 x137002 x137003 x137004 x137005 x137006 x137007 true).bind fun t143 => (if t143 = true then ((spec_l11Box.f x137000 x137001 x137002 x137003 x137004 x137005 x137006 x137007 true).bind fun t144 => (if t144 = true then ((spec_l11Plain.f x137003 x137004 x137005).bind fun t145 => (some t145)) else (some false))) else (some false))) else (if x137000 = 6 then ((spec_l11Var.f x137000 x137001 x137002 x137003 x137004 x137005 x137006 x137007 false).bind fun t146 => (if t146 = true then ((spec_l11Box.f x137000 x137001 x137002 x137003 x137004 x137005 x137006 x137007 false).bind fun t147 => (if t147 = true then ((spec_l11Plain.f x137003 x137004 x137005).bind fun t148 => (some t148)) else (some false))) else (some false))) else (if x137000 = 7 then ((spec_l11Var.f x137000 x137001 x137002 x137003 x137004 x137005 x137006 x137007 false).bind fun t149 => (if t149 = true then ((spec_l11Box.f x137000 x137001 x137002 x137003 x137004 x137005 x137006 x137007 false).bind fun t150 => (if t150 = true then ((spec_ExprValid.f k x137003 x137004 x137005).bind fun t151 => (some t151)) else (some false))) else (some false))) else (some false))))))
def spec_l11Simple.f (k : Nat) (a0_0 : Int) (a0_1 : Int) (a0_2 : Int) (a0_3 : Int) (a0_4 : Int) (l0_5 : List (S34)) (l0_6 : List (S37)) (l0_7 : List (S37)) : Option (Bool) := if (l0_6.length : Int) > 0 then (spec_l11Simple.j0 k true a0_0 a0_1 a0_2 a0_3 a0_4 l0_5 l0_6 l0_7) else (spec_l11Simple.j0 k (decide ((l0_7.length : Int) > 0)) a0_0 a0_1 a0_2 a0_3 a0_4 l0_5 l0_6 l0_7)

mutual
def spec_l11Ok.j0 : Nat → Int → Bool → Int → Int → Int → Int → Int → List (S34) → List (S37) → List (S37) → Option (Bool)
  | 0, _, _, _, _, _, _, _, _, _, _ => none
  | k + 1, x1, x12, x153000, x153001, x153002, x153003, x153004, x153005, x153006, x153007 => if x12 = true then ((spec_l11Simple.f k x153000 x153001 x153002 x153003 x153004 x153005 x153006 x153007).bind fun t153 => (some t153)) else (if x1 < 1 then (spec_l11Ok.j1 k x1 true x153000 x153001 x153002 x153003 x153004 x153005 x153006 x153007) else (if x153000 = 3 then (spec_l11Ok.j1 k x1 (decide ((x153007.length : Int) > 0)) x153000 x153001 x153002 x153003 x153004 x153005 x153006 x153007) else (spec_l11Ok.j1 k x1 false x153000 x153001 x153002 x153003 x153004 x153005 x153006 x153007)))
def spec_l11Ok.j1 : Nat → Int → Bool → Int → Int → Int → Int → Int → List (S34) → List (S37) → List (S37) → Option (Bool)
  | 0, _, _, _, _, _, _, _, _, _, _ => none
  | k + 1, x1, x27, x153000, x153001, x153002, x153003, x153004, x153005, x153006, x153007 => if x27 = true then (some false) else ((spec_l11Var.f x153000 x153001 x153002 x153003 x153004 x153005 x153006 x153007 false).bind fun t154 => (if t154 = true then ((spec_l11Box.f x153000 x153001 x153002 x153003 x153004 x153005 x153006 x153007 false).bind fun t155 => (if t155 = true then ((spec_ExprValid.f k x153003 x153004 x153005).bind fun t156 => (if t156 = true then ((spec_l11Blocks.f k x153006 (wrap64 (x1 - 1))).bind fun t157 => (if t157 = true then ((spec_l11Blocks.f k x153007 (wrap64 (x1 - 1))).bind fun t158 => (some t158)) else (some false))) else (some false))) else (some false))) else (some false)))
def spec_l11Ok.f : Nat → Int → Int → Int → Int → Int → List (S34) → List (S37) → List (S37) → Int → Option (Bool)
  | 0, _, _, _, _, _, _, _, _, _ => none
  | k + 1, a0_0, a0_1, a0_2, a0_3, a0_4, l0_5, l0_6, l0_7, a1 => if a0_0 = 2 then (spec_l11Ok.j0 k a1 false a0_0 a0_1 a0_2 a0_3 a0_4 l0_5 l0_6 l0_7) else (spec_l11Ok.j0 k a1 (a0_0 != 3) a0_0 a0_1 a0_2 a0_3 a0_4 l0_5 l0_6 l0_7)
def spec_l11Blocks.l0 : Nat → List (S37) → Int → Int → Option (Bool)
  | 0, _, _, _ => none
  | k + 1, x0, x1, x5 => if x5 < (x0.length : Int) then (if 0 ≤ x5 then ((spec_l11Ok.f k ((rd_T37 x0 x5).f0) ((rd_T37 x0 x5).f1) ((rd_T37 x0 x5).f2) ((rd_T37 x0 x5).f3.f0) ((rd_T37 x0 x5).f3.f1) ((rd_T37 x0 x5).f3.f2) ((rd_T37 x0 x5).f4) ((rd_T37 x0 x5).f5) x1).bind fun t160 => (if t160 = true then (spec_l11Blocks.l0 k x0 x1 (wrap64 (x5 + 1))) else (some false))) else (none)) else (some true)
def spec_l11Blocks.f : Nat → List (S37) → Int → Option (Bool)
  | 0, _, _ => none
  | k + 1, l0, a1 => spec_l11Blocks.l0 k l0 a1 0
end



def spec_StmtsValid.f (k : Nat) (l0 : List (S37)) : Option (Bool) := (spec_l11Blocks.f k l0 3).bind fun t161 => (if t161 = true then ((spec_l11Count.f k l0).bind fun t162 => (some (decide (t162 ≤ 16)))) else (some false))

mutual
def spec_l12Boxes.l0 : Nat → List (S37) → Int → Int → Option (Bool)
  | 0, _, _, _ => none
  | k + 1, x0, x1, x5 => if x5 < (x0.length : Int) then (if 0 ≤ x5 then (if ((rd_T37 x0 x5).f0) = 4 then (spec_l12Boxes.j1 k x0 x1 x5 (decide (((rd_T37 x0 x5).f2) ≥ x1)) ((rd_T37 x0 x5).f0) ((rd_T37 x0 x5).f1) ((rd_T37 x0 x5).f2) ((rd_T37 x0 x5).f3.f0) ((rd_T37 x0 x5).f3.f1) ((rd_T37 x0 x5).f3.f2) ((rd_T37 x0 x5).f4) ((rd_T37 x0 x5).f5)) else (if ((rd_T37 x0 x5).f0) = 5 then (spec_l12Boxes.j1 k x0 x1 x5 (decide (((rd_T37 x0 x5).f2) ≥ x1)) ((rd_T37 x0 x5).f0) ((rd_T37 x0 x5).f1) ((rd_T37 x0 x5).f2) ((rd_T37 x0 x5).f3.f0) ((rd_T37 x0 x5).f3.f1) ((rd_T37 x0 x5).f3.f2) ((rd_T37 x0 x5).f4) ((rd_T37 x0 x5).f5)) else (spec_l12Boxes.j1 k x0 x1 x5 false ((rd_T37 x0 x5).f0) ((rd_T37 x0 x5).f1) ((rd_T37 x0 x5).f2) ((rd_T37 x0 x5).f3.f0) ((rd_T37 x0 x5).f3.f1) ((rd_T37 x0 x5).f3.f2) ((rd_T37 x0 x5).f4) ((rd_T37 x0 x5).f5)))) else (none)) else (some true)
def spec_l12Boxes.j1 : Nat → List (S37) → Int → Int → Bool → Int → Int → Int → Int → Int → List (S34) → List (S37) → List (S37) → Option (Bool)
  | 0, _, _, _, _, _, _, _, _, _, _, _, _ => none
  | k + 1, x0, x1, x5, x30, x165000, x165001, x165002, x165003, x165004, x165005, x165006, x165007 => if x30 = true then (some false) else ((spec_l12Boxes.f k x165006 x1).bind fun t165 => (if t165 = true then ((spec_l12Boxes.f k x165007 x1).bind fun t166 => (if t166 = true then (spec_l12Boxes.l0 k x0 x1 (wrap64 (x5 + 1))) else (some false))) else (some false)))
def spec_l12Boxes.f : Nat → List (S37) → Int → Option (Bool)
  | 0, _, _ => none
  | k + 1, l0, a1 => spec_l12Boxes.l0 k l0 a1 0
end

mutual
def spec_ProgramValid.j0 : Nat → Bool → List Int → List (List (S37)) → Option (Bool)
  | 0, _, _, _ => none
  | k + 1, x14, x168000, x168001 => if x14 = true then (some false) else (spec_ProgramValid.l0 k 0 x168000 x168001)
def spec_ProgramValid.l0 : Nat → Int → List Int → List (List (S37)) → Option (Bool)
  | 0, _, _, _ => none
  | k + 1, x3, x168000, x168001 => if x3 < (x168001.length : Int) then (if 0 ≤ x3 then ((spec_StmtsValid.f k (rd_L3 x168001 x3)).bind fun t171 => (if t171 = true then ((spec_l12Boxes.f k (rd_L3 x168001 x3) (x168000.length : Int)).bind fun t173 => (if t173 = true then (spec_ProgramValid.l0 k (wrap64 (x3 + 1)) x168000 x168001) else (some false))) else (some false))) else (none)) else (some true)
end
def spec_ProgramValid.f (k : Nat) (l0_0 : List Int) (l0_1 : List (List (S37))) : Option (Bool) := (spec_l12Rooms.f k l0_0).bind fun t168 => (if t168 = true then ((spec_l6In.f (l0_1.length : Int) 1 3).bind fun t169 => (spec_ProgramValid.j0 k (!t169) l0_0 l0_1)) else (spec_ProgramValid.j0 k true l0_0 l0_1))

mutual
def spec_l12Plain.l0 : Nat → List (S37) → Int → Option (Bool)
  | 0, _, _ => none
  | k + 1, x0, x3 => if x3 < (x0.length : Int) then (if 0 ≤ x3 then (if ((rd_T37 x0 x3).f0) = 3 then (some false) else ((spec_l12Plain.f k ((rd_T37 x0 x3).f4)).bind fun t176 => (if t176 = true then ((spec_l12Plain.f k ((rd_T37 x0 x3).f5)).bind fun t178 => (if t178 = true then (spec_l12Plain.l0 k x0 (wrap64 (x3 + 1))) else (some false))) else (some false)))) else (none)) else (some true)
def spec_l12Plain.f : Nat → List (S37) → Option (Bool)
  | 0, _ => none
  | k + 1, l0 => spec_l12Plain.l0 k l0 0
end

def spec_ProgramPlain.l0 : Nat → Int → List Int → List (List (S37)) → Option (Bool)
  | 0, _, _, _ => none
  | k + 1, x3, x180000, x180001 => if x3 < (x180001.length : Int) then (if 0 ≤ x3 then ((spec_l12Plain.f k (rd_L3 x180001 x3)).bind fun t182 => (if t182 = true then (spec_ProgramPlain.l0 k (wrap64 (x3 + 1)) x180000 x180001) else (some false))) else (none)) else (some true)
def spec_ProgramPlain.f (k : Nat) (l0_0 : List Int) (l0_1 : List (List (S37))) : Option (Bool) := (spec_ProgramValid.f k l0_0 l0_1).bind fun t180 => (if t180 = true then (spec_ProgramPlain.l0 k 0 l0_0 l0_1) else (some false))

def laws_szIntS.f (l0 : List Int) (a1 : Int) : Option (Int) := if (wrap64 (a1 - (l0.length : Int))) < 0 then (some (-1)) else (some (wrap64 (a1 - (l0.length : Int))))

mutual
def laws_szExprS.l0 : Nat → List (S87) → Int → Int → Option (Int)
  | 0, _, _, _ => none
  | k + 1, x0, x1, x5 => if x5 < (x0.length : Int) then (if 0 ≤ x5 then ((laws_szExpr.f k ((rd_T87 x0 x5).f0) ((rd_T87 x0 x5).f1) ((rd_T87 x0 x5).f2) x1).bind fun t184 => (if t184 < 0 then (some (-1)) else (laws_szExprS.l0 k x0 t184 (wrap64 (x5 + 1))))) else (none)) else (some x1)
def laws_szExprS.f : Nat → List (S87) → Int → Option (Int)
  | 0, _, _ => none
  | k + 1, l0, a1 => if (wrap64 (a1 - (l0.length : Int))) < 0 then (some (-1)) else (laws_szExprS.l0 k l0 (wrap64 (a1 - (l0.length : Int))) 0)
def laws_szExpr.f : Nat → Int → Int → List (S87) → Int → Option (Int)
  | 0, _, _, _, _ => none
  | k + 1, a0_0, a0_1, l0_2, a1 => (laws_szExprS.f k l0_2 a1).bind fun t186 => (if t186 < 0 then (some (-1)) else (some t186))
end



mutual
def laws_szStmt.f : Nat → Int → Int → Int → Int → Int → List (S87) → List (S89) → List (S89) → Int → Option (Int)
  | 0, _, _, _, _, _, _, _, _, _ => none
  | k + 1, a0_0, a0_1, a0_2, a0_3, a0_4, l0_5, l0_6, l0_7, a1 => (laws_szExpr.f k a0_3 a0_4 l0_5 a1).bind fun t188 => (if t188 < 0 then (some (-1)) else ((laws_szStmtS.f k l0_6 t188).bind fun t189 => (if t189 < 0 then (some (-1)) else ((laws_szStmtS.f k l0_7 t189).bind fun t190 => (if t190 < 0 then (some (-1)) else (some t190))))))
def laws_szStmtS.l0 : Nat → List (S89) → Int → Int → Option (Int)
  | 0, _, _, _ => none
  | k + 1, x0, x1, x5 => if x5 < (x0.length : Int) then (if 0 ≤ x5 then ((laws_szStmt.f k ((rd_T89 x0 x5).f0) ((rd_T89 x0 x5).f1) ((rd_T89 x0 x5).f2) ((rd_T89 x0 x5).f3.f0) ((rd_T89 x0 x5).f3.f1) ((rd_T89 x0 x5).f3.f2) ((rd_T89 x0 x5).f4) ((rd_T89 x0 x5).f5) x1).bind fun t192 => (if t192 < 0 then (some (-1)) else (laws_szStmtS.l0 k x0 t192 (wrap64 (x5 + 1))))) else (none)) else (some x1)
def laws_szStmtS.f : Nat → List (S89) → Int → Option (Int)
  | 0, _, _ => none
  | k + 1, l0, a1 => if (wrap64 (a1 - (l0.length : Int))) < 0 then (some (-1)) else (laws_szStmtS.l0 k l0 (wrap64 (a1 - (l0.length : Int))) 0)
end



def laws_szStmtSS.l0 : Nat → List (List (S89)) → Int → Int → Option (Int)
  | 0, _, _, _ => none
  | k + 1, x0, x1, x5 => if x5 < (x0.length : Int) then (if 0 ≤ x5 then ((laws_szStmtS.f k (rd_L7 x0 x5) x1).bind fun t194 => (if t194 < 0 then (some (-1)) else (laws_szStmtSS.l0 k x0 t194 (wrap64 (x5 + 1))))) else (none)) else (some x1)
def laws_szStmtSS.f (k : Nat) (l0 : List (List (S89))) (a1 : Int) : Option (Int) := if (wrap64 (a1 - (l0.length : Int))) < 0 then (some (-1)) else (laws_szStmtSS.l0 k l0 (wrap64 (a1 - (l0.length : Int))) 0)

def laws_szProgram.f (k : Nat) (l0_0 : List Int) (l0_1 : List (List (S89))) (a1 : Int) : Option (Int) := (laws_szIntS.f l0_0 a1).bind fun t196 => (if t196 < 0 then (some (-1)) else ((laws_szStmtSS.f k l0_1 t196).bind fun t197 => (if t197 < 0 then (some (-1)) else (some t197))))

def laws_toIntS.l0 : Nat → List Int → List Int → Int → Option (List Int)
  | 0, _, _, _ => none
  | k + 1, x0, x3, x4 => if x4 < (x0.length : Int) then (if 0 ≤ x4 then (if x4 < (x3.length : Int) then (laws_toIntS.l0 k x0 (x3.set (x4 : Int).toNat (rd x0 x4)) (wrap64 (x4 + 1))) else (none)) else (none)) else (some x3)
def laws_toIntS.f (k : Nat) (l0 : List Int) : Option (List Int) := if 0 ≤ (l0.length : Int) then (if ((l0.length : Int) : Int).toNat ≤ 35184372088832 then (laws_toIntS.l0 k l0 (List.replicate ((l0.length : Int) : Int).toNat 0) 0) else (none)) else (none)

mutual
def laws_toExprS.l0 : Nat → List (S87) → List (S34) → Int → Option ((List (S34)))
  | 0, _, _, _ => none
  | k + 1, x0, x3, x4 => if x4 < (x0.length : Int) then (if 0 ≤ x4 then ((laws_toExpr.f k ((rd_T87 x0 x4).f0) ((rd_T87 x0 x4).f1) ((rd_T87 x0 x4).f2)).bind fun bt207 => (if x4 < (x3.length : Int) then (laws_toExprS.l0 k x0 (x3.set (x4 : Int).toNat (⟨bt207.1, bt207.2.1, bt207.2.2⟩ : S34)) (wrap64 (x4 + 1))) else (none))) else (none)) else (some x3)
def laws_toExprS.f : Nat → List (S87) → Option ((List (S34)))
  | 0, _ => none
  | k + 1, l0 => if 0 ≤ (l0.length : Int) then (if ((l0.length : Int) : Int).toNat ≤ 7036874417766 then (laws_toExprS.l0 k l0 (List.replicate ((l0.length : Int) : Int).toNat z34) 0) else (none)) else (none)
def laws_toExpr.f : Nat → Int → Int → List (S87) → Option (Int × Int × (List (S34)))
  | 0, _, _, _ => none
  | k + 1, a0_0, a0_1, l0_2 => (laws_toExprS.f k l0_2).bind fun t216 => (some (a0_0, a0_1, t216))
end



mutual
def laws_toStmtS.l0 : Nat → List S89 → List S37 → Int → Option (List S37)
  | 0, _, _, _ => none
  | k + 1, x0, x3, x4 => if x4 < (x0.length : Int) then (if 0 ≤ x4 then ((laws_toStmt.f k (rd_T89 x0 x4)).bind fun s => (if x4 < (x3.length : Int) then laws_toStmtS.l0 k x0 (x3.set (x4 : Int).toNat s) (wrap64 (x4 + 1)) else none)) else none) else some x3
def laws_toStmtS.f : Nat → List S89 → Option (List S37)
  | 0, _ => none
  | k + 1, l0 => if l0.length ≤ 2513169434916 then laws_toStmtS.l0 k l0 (List.replicate l0.length z37) 0 else none
def laws_toStmt.f : Nat → S89 → Option S37
  | 0, _ => none
  | k + 1, s => (laws_toExpr.f k s.f3.f0 s.f3.f1 s.f3.f2).bind fun e => (laws_toStmtS.f k s.f4).bind fun b => (laws_toStmtS.f k s.f5).bind fun c => some ⟨s.f0, s.f1, s.f2, ⟨e.1, e.2.1, e.2.2⟩, b, c⟩
end

def laws_toStmtSS.l0 : Nat → List (List (S89)) → List (List (S37)) → Int → Option ((List (List (S37))))
  | 0, _, _, _ => none
  | k + 1, x0, x3, x4 => if x4 < (x0.length : Int) then (if 0 ≤ x4 then ((laws_toStmtS.f k (rd_L7 x0 x4)).bind fun t223 => (if x4 < (x3.length : Int) then (laws_toStmtSS.l0 k x0 (x3.set (x4 : Int).toNat t223) (wrap64 (x4 + 1))) else (none))) else (none)) else (some x3)
def laws_toStmtSS.f (k : Nat) (l0 : List (List (S89))) : Option ((List (List (S37)))) := if 0 ≤ (l0.length : Int) then (if ((l0.length : Int) : Int).toNat ≤ 11728124029610 then (laws_toStmtSS.l0 k l0 (List.replicate ((l0.length : Int) : Int).toNat []) 0) else (none)) else (none)

def laws_toProgram.f (k : Nat) (l0_0 : List Int) (l0_1 : List (List (S89))) : Option (List Int × (List (List (S37)))) := (laws_toIntS.f k l0_0).bind fun t230 => ((laws_toStmtSS.f k l0_1).bind fun t233 => (some (t230, t233)))

def laws_eqIntS.l0 : Nat → List Int → List Int → Int → Option (Bool)
  | 0, _, _, _ => none
  | k + 1, x0, x1, x5 => if x5 < (x0.length : Int) then (if 0 ≤ x5 then (if x5 < (x1.length : Int) then (if (rd x0 x5) = (rd x1 x5) then (laws_eqIntS.l0 k x0 x1 (wrap64 (x5 + 1))) else (some false)) else (none)) else (none)) else (some true)
def laws_eqIntS.f (k : Nat) (l0 : List Int) (l1 : List Int) : Option (Bool) := if (l0.length : Int) = (l1.length : Int) then (laws_eqIntS.l0 k l0 l1 0) else (some false)

mutual
def laws_eqExprS.l0 : Nat → List (S34) → List (S34) → Int → Option (Bool)
  | 0, _, _, _ => none
  | k + 1, x0, x1, x5 => if x5 < (x0.length : Int) then (if 0 ≤ x5 then (if x5 < (x1.length : Int) then ((laws_eqExpr.f k ((rd_T34 x0 x5).f0) ((rd_T34 x0 x5).f1) ((rd_T34 x0 x5).f2) ((rd_T34 x1 x5).f0) ((rd_T34 x1 x5).f1) ((rd_T34 x1 x5).f2)).bind fun t240 => (if t240 = true then (laws_eqExprS.l0 k x0 x1 (wrap64 (x5 + 1))) else (some false))) else (none)) else (none)) else (some true)
def laws_eqExprS.f : Nat → List (S34) → List (S34) → Option (Bool)
  | 0, _, _ => none
  | k + 1, l0, l1 => if (l0.length : Int) = (l1.length : Int) then (laws_eqExprS.l0 k l0 l1 0) else (some false)
def laws_eqExpr.f : Nat → Int → Int → List (S34) → Int → Int → List (S34) → Option (Bool)
  | 0, _, _, _, _, _, _ => none
  | k + 1, a0_0, a0_1, l0_2, a1_0, a1_1, l1_2 => if a0_0 = a1_0 then (if a0_1 = a1_1 then ((laws_eqExprS.f k l0_2 l1_2).bind fun t243 => (if t243 = true then (some true) else (some false))) else (some false)) else (some false)
end



mutual
def laws_eqStmt.f : Nat → Int → Int → Int → Int → Int → List (S34) → List (S37) → List (S37) → Int → Int → Int → Int → Int → List (S34) → List (S37) → List (S37) → Option (Bool)
  | 0, _, _, _, _, _, _, _, _, _, _, _, _, _, _, _, _ => none
  | k + 1, a0_0, a0_1, a0_2, a0_3, a0_4, l0_5, l0_6, l0_7, a1_0, a1_1, a1_2, a1_3, a1_4, l1_5, l1_6, l1_7 => if a0_0 = a1_0 then (if a0_1 = a1_1 then (if a0_2 = a1_2 then ((laws_eqExpr.f k a0_3 a0_4 l0_5 a1_3 a1_4 l1_5).bind fun t246 => (if t246 = true then ((laws_eqStmtS.f k l0_6 l1_6).bind fun t247 => (if t247 = true then ((laws_eqStmtS.f k l0_7 l1_7).bind fun t248 => (if t248 = true then (some true) else (some false))) else (some false))) else (some false))) else (some false)) else (some false)) else (some false)
def laws_eqStmtS.l0 : Nat → List (S37) → List (S37) → Int → Option (Bool)
  | 0, _, _, _ => none
  | k + 1, x0, x1, x5 => if x5 < (x0.length : Int) then (if 0 ≤ x5 then (if x5 < (x1.length : Int) then ((laws_eqStmt.f k ((rd_T37 x0 x5).f0) ((rd_T37 x0 x5).f1) ((rd_T37 x0 x5).f2) ((rd_T37 x0 x5).f3.f0) ((rd_T37 x0 x5).f3.f1) ((rd_T37 x0 x5).f3.f2) ((rd_T37 x0 x5).f4) ((rd_T37 x0 x5).f5) ((rd_T37 x1 x5).f0) ((rd_T37 x1 x5).f1) ((rd_T37 x1 x5).f2) ((rd_T37 x1 x5).f3.f0) ((rd_T37 x1 x5).f3.f1) ((rd_T37 x1 x5).f3.f2) ((rd_T37 x1 x5).f4) ((rd_T37 x1 x5).f5)).bind fun t251 => (if t251 = true then (laws_eqStmtS.l0 k x0 x1 (wrap64 (x5 + 1))) else (some false))) else (none)) else (none)) else (some true)
def laws_eqStmtS.f : Nat → List (S37) → List (S37) → Option (Bool)
  | 0, _, _ => none
  | k + 1, l0, l1 => if (l0.length : Int) = (l1.length : Int) then (laws_eqStmtS.l0 k l0 l1 0) else (some false)
end



def laws_eqStmtSS.l0 : Nat → List (List (S37)) → List (List (S37)) → Int → Option (Bool)
  | 0, _, _, _ => none
  | k + 1, x0, x1, x5 => if x5 < (x0.length : Int) then (if 0 ≤ x5 then (if x5 < (x1.length : Int) then ((laws_eqStmtS.f k (rd_L3 x0 x5) (rd_L3 x1 x5)).bind fun t254 => (if t254 = true then (laws_eqStmtSS.l0 k x0 x1 (wrap64 (x5 + 1))) else (some false))) else (none)) else (none)) else (some true)
def laws_eqStmtSS.f (k : Nat) (l0 : List (List (S37))) (l1 : List (List (S37))) : Option (Bool) := if (l0.length : Int) = (l1.length : Int) then (laws_eqStmtSS.l0 k l0 l1 0) else (some false)

def laws_eqProgram.f (k : Nat) (l0_0 : List Int) (l0_1 : List (List (S37))) (l1_0 : List Int) (l1_1 : List (List (S37))) : Option (Bool) := (laws_eqIntS.f k l0_0 l1_0).bind fun t257 => (if t257 = true then ((laws_eqStmtSS.f k l0_1 l1_1).bind fun t258 => (if t258 = true then (some true) else (some false))) else (some false))

def laws_FnExactProgramPlain.f (k : Nat) (l0_0 : List Int) (l0_1 : List (List (S89))) : Option (Bool) := (laws_szProgram.f k l0_0 l0_1 1048576).bind fun t260 => (if t260 < 0 then (some true) else ((laws_toProgram.f k l0_0 l0_1).bind fun bt261 => ((spec_ProgramPlain.f k bt261.1 bt261.2).bind fun t267 => ((laws_toProgram.f k l0_0 l0_1).bind fun bt268 => ((impl_ProgramPlain.f k bt268.1 bt268.2).bind fun t275 => (if (t275 != t267) = true then (some false) else ((laws_toProgram.f k l0_0 l0_1).bind fun bt276 => ((laws_eqProgram.f k bt268.1 bt268.2 bt276.1 bt276.2).bind fun t282 => (if t282 = true then (some true) else (some false))))))))))

end Go.Proofs.Ytpcbfcaacilghaa.PA
