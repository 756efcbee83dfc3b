-- made by a program of this session (wip/myprint.py over the kit's print)
import Derived.Test.YtajifknepdikbaaV
import Derived.Test.YtajifknepdikbaaPAx0
namespace Go.Proofs.Ytajifknepdikbaa.PA
open Go.RowKit Go.Proofs.YtajifknepdikbaaW.PrintWords Go.Proofs.YtajifknepdikbaaW.PrintLast Go.Proofs.YtajifknepdikbaaW.PrintMore
attribute [local go_sem] max2_int min2_int max_two min_two max_three min_three max_four min_four   -- for this text's walks alone
set_option linter.unusedVariables false
set_option linter.unusedSimpArgs false

-- FUNCTIONS
def impl_OpValid.f (a0 : Int) : Option (Bool) := if a0 ≥ 1 then (some (decide (a0 ≤ 12))) else (some false)

def impl_exprValid.f : Nat → Int → Int → List (S25) → Int → Option (Bool)
  | 0, _, _, _, _ => none
  | k + 1, a0_0, a0_1, l0_2, a1 => if a0_0 = 0 then (if a0_1 ≥ 0 then (if a0_1 ≤ 99999 then (if (l0_2.length : Int) = 0 then (some (decide (a1 > 0))) else (some false)) else (some false)) else (some false)) else (if a0_0 = 13 then (if a0_1 ≥ 0 then (if a0_1 < 4 then (if (l0_2.length : Int) = 0 then (some (decide (a1 > 0))) else (some false)) else (some false)) else (some false)) else ((impl_OpValid.f a0_0).bind fun t102 => (if t102 = true then (if a0_1 = 0 then (if (l0_2.length : Int) = 2 then (if a1 > 1 then (if 0 < (l0_2.length : Int) then ((impl_exprValid.f k ((rd_T25 l0_2 0).f0) ((rd_T25 l0_2 0).f1) ((rd_T25 l0_2 0).f2) (wrap64 (a1 - 1))).bind fun t104 => (if t104 = true then (if 1 < (l0_2.length : Int) then ((impl_exprValid.f k ((rd_T25 l0_2 1).f0) ((rd_T25 l0_2 1).f1) ((rd_T25 l0_2 1).f2) (wrap64 (a1 - 1))).bind fun t106 => (some t106)) else (none)) else (some false))) else (none)) else (some false)) else (some false)) else (some false)) else (some false))))

def impl_ExprValid.f (k : Nat) (a0_0 : Int) (a0_1 : Int) (l0_2 : List (S25)) : Option (Bool) := (impl_exprValid.f k a0_0 a0_1 l0_2 5).bind fun t108 => (some t108)

mutual
def impl_exprDepth.l0 : Nat → Int → List (S25) → Int → Int → Option (Int)
  | 0, _, _, _, _ => none
  | k + 1, x3, x7, x8, x9 => if x9 < x8 then (if 0 ≤ x9 then (if x9 < (x7.length : Int) then ((impl_exprDepth.f k ((rd_T25 x7 x9).f0) ((rd_T25 x7 x9).f1) ((rd_T25 x7 x9).f2)).bind fun t112 => (impl_exprDepth.l0 k (mx x3 t112) x7 x8 (wrap64 (x9 + 1)))) else (none)) else (none)) else (some (wrap64 (x3 + 1)))
def impl_exprDepth.f : Nat → Int → Int → List (S25) → Option (Int)
  | 0, _, _, _ => none
  | k + 1, a0_0, a0_1, l0_2 => impl_exprDepth.l0 k 0 l0_2 (l0_2.length : Int) 0
end

def impl_ExprDepth.f (k : Nat) (a0_0 : Int) (a0_1 : Int) (l0_2 : List (S25)) : Option (Int) := (impl_ExprValid.f k a0_0 a0_1 l0_2).bind fun t114 => (if t114 = true then ((impl_exprDepth.f k a0_0 a0_1 l0_2).bind fun t115 => (some t115)) else (some 0))

def spec_l6In.f (a0 : Int) (a1 : Int) (a2 : Int) : Option (Bool) := if a0 ≥ a1 then (some (decide (a0 ≤ a2))) else (some false)

def spec_OpValid.f (a0 : Int) : Option (Bool) := (spec_l6In.f a0 1 12).bind fun t116 => (some t116)

def spec_l4Ok.f : Nat → Int → Int → List (S25) → Int → Option (Bool)
  | 0, _, _, _, _ => none
  | k + 1, a0_0, a0_1, l0_2, a1 => if a1 < 1 then (some false) else (if a0_0 = 0 then ((spec_l6In.f a0_1 0 99999).bind fun t118 => (if t118 = true then (some ((l0_2.length : Int) == 0)) else (some false))) else (if a0_0 = 13 then ((spec_l6In.f a0_1 0 3).bind fun t119 => (if t119 = true then (some ((l0_2.length : Int) == 0)) else (some false))) else ((spec_OpValid.f a0_0).bind fun t120 => (if t120 = true then (if a0_1 = 0 then (if (l0_2.length : Int) = 2 then (if 0 < (l0_2.length : Int) then ((spec_l4Ok.f k ((rd_T25 l0_2 0).f0) ((rd_T25 l0_2 0).f1) ((rd_T25 l0_2 0).f2) (wrap64 (a1 - 1))).bind fun t122 => (if t122 = true then (if 1 < (l0_2.length : Int) then ((spec_l4Ok.f k ((rd_T25 l0_2 1).f0) ((rd_T25 l0_2 1).f1) ((rd_T25 l0_2 1).f2) (wrap64 (a1 - 1))).bind fun t124 => (some t124)) else (none)) else (some false))) else (none)) else (some false)) else (some false)) else (some false)))))

def spec_ExprValid.f (k : Nat) (a0_0 : Int) (a0_1 : Int) (l0_2 : List (S25)) : Option (Bool) := (spec_l4Ok.f k a0_0 a0_1 l0_2 5).bind fun t126 => (some t126)

def spec_l4Both.f (a0 : Int) (a1_0 : Int) (a1_1 : Int) (l1_2 : List (S25)) (a2_0 : Int) (a2_1 : Int) (l2_2 : List (S25)) : Option (Int × Int × (List (S25))) := some (a0, 0, (([(⟨a1_0, a1_1, l1_2⟩ : S25), (⟨a2_0, a2_1, l2_2⟩ : S25)] : List (S25))))

def spec_l4Leaf.f (a0 : Int) (a1 : Int) : Option (Int × Int × (List (S25))) := some (a0, a1, (([] : List (S25))))

def spec_WordValid.f (a0 : Int) : Option (Bool) := (spec_l6In.f a0 (-2147483648) 2147483647).bind fun t137 => (some t137)

def spec_l2Flag.f (a0 : Bool) : Option (Int) := if a0 = true then (some 1) else (some 0)

def spec_Wrap.f (a0 : Int) : Option (Int) := if (Int.tmod a0 4294967296) > 2147483647 then (some (wrap64 ((Int.tmod a0 4294967296) - 4294967296))) else (if (Int.tmod a0 4294967296) < (-2147483648) then (some (wrap64 ((Int.tmod a0 4294967296) + 4294967296))) else (some (Int.tmod a0 4294967296)))

def spec_l2Shift.f (a0 : Int) (a1 : Int) (a2 : Bool) : Option (Int) := if a2 = true then (if 0 ≤ (Go.bits .and .i64 a1 31) then (some (shr .i64 a0 (Go.bits .and .i64 a1 31))) else (none)) else (if 0 ≤ (Go.bits .and .i64 a1 31) then ((spec_Wrap.f (shl .i64 a0 (Go.bits .and .i64 a1 31))).bind fun t138 => (some t138)) else (none))

def spec_l2Divide.f (a0 : Int) (a1 : Int) : Option (Int) := if a1 = 0 then (some (-1)) else ((spec_Wrap.f (wrap64 (Int.tdiv a0 a1))).bind fun t139 => (some t139))

def spec_l2Remain.f (a0 : Int) (a1 : Int) : Option (Int) := if a1 = 0 then (some a0) else (some (Int.tmod a0 a1))

def spec_Apply.j0 : Nat → Int → Int → Int → Bool → Option (Int × Bool)
  | 0, _, _, _, _ => none
  | k + 1, x0, x1, x2, x20 => if x20 = true then (some (0, false)) else (if x0 = 1 then (some (Go.bits .or .i64 x1 x2, true)) else (if x0 = 2 then (some (Go.bits .xor .i64 x1 x2, true)) else (if x0 = 3 then (some (Go.bits .and .i64 x1 x2, true)) else (if x0 = 4 then ((spec_l2Flag.f (x1 == x2)).bind fun t143 => (some (t143, true))) else (if x0 = 5 then ((spec_l2Flag.f (decide (x1 < x2))).bind fun t144 => (some (t144, true))) else (if x0 = 6 then ((spec_l2Shift.f x1 x2 false).bind fun t145 => (some (t145, true))) else (if x0 = 7 then ((spec_l2Shift.f x1 x2 true).bind fun t146 => (some (t146, true))) else (if x0 = 8 then ((spec_Wrap.f (wrap64 (x1 + x2))).bind fun t147 => (some (t147, true))) else (if x0 = 9 then ((spec_Wrap.f (wrap64 (x1 - x2))).bind fun t148 => (some (t148, true))) else (if x0 = 10 then ((spec_Wrap.f (wrap64 (x1 * x2))).bind fun t149 => (some (t149, true))) else (if x0 = 11 then ((spec_l2Divide.f x1 x2).bind fun t150 => (some (t150, true))) else ((spec_l2Remain.f x1 x2).bind fun t151 => (some (t151, true))))))))))))))
def spec_Apply.f (k : Nat) (a0 : Int) (a1 : Int) (a2 : Int) : Option (Int × Bool) := (spec_OpValid.f a0).bind fun t140 => (if t140 = true then ((spec_WordValid.f a1).bind fun t141 => (if t141 = true then ((spec_WordValid.f a2).bind fun t142 => (spec_Apply.j0 k a0 a1 a2 (!t142))) else (spec_Apply.j0 k a0 a1 a2 true))) else (spec_Apply.j0 k a0 a1 a2 true))

mutual
def spec_l4Fold.j0 : Nat → Bool → Int → Int → List (S25) → Int → Int → List (S25) → Int → Int → List (S25) → Option (Int × Int × (List (S25)))
  | 0, _, _, _, _, _, _, _, _, _, _ => none
  | k + 1, x33, x153000, x153001, x153002, x166000, x166001, x166002, x173000, x173001, x173002 => if x33 = true then ((spec_Apply.f k x153000 x166001 x173001).bind fun bt173 => ((spec_l6In.f bt173.1 0 99999).bind fun t175 => (if t175 = true then ((spec_l4Leaf.f 0 bt173.1).bind fun bt176 => (some (bt176.1, bt176.2.1, bt176.2.2))) else ((spec_l4Both.f x153000 x166000 x166001 x166002 x173000 x173001 x173002).bind fun bt181 => (some (bt181.1, bt181.2.1, bt181.2.2)))))) else ((spec_l4Both.f x153000 x166000 x166001 x166002 x173000 x173001 x173002).bind fun bt186 => (some (bt186.1, bt186.2.1, bt186.2.2)))
def spec_l4Fold.f : Nat → Int → Int → List (S25) → Option (Int × Int × (List (S25)))
  | 0, _, _, _ => none
  | k + 1, a0_0, a0_1, l0_2 => if (l0_2.length : Int) = 0 then ((spec_l4Leaf.f a0_0 a0_1).bind fun bt154 => (some (bt154.1, bt154.2.1, bt154.2.2))) else (if 0 < (l0_2.length : Int) then ((spec_l4Fold.f k ((rd_T25 l0_2 0).f0) ((rd_T25 l0_2 0).f1) ((rd_T25 l0_2 0).f2)).bind fun bt160 => (if 1 < (l0_2.length : Int) then ((spec_l4Fold.f k ((rd_T25 l0_2 1).f0) ((rd_T25 l0_2 1).f1) ((rd_T25 l0_2 1).f2)).bind fun bt167 => (if bt160.1 = 0 then (spec_l4Fold.j0 k (bt167.1 == 0) a0_0 a0_1 l0_2 bt160.1 bt160.2.1 bt160.2.2 bt167.1 bt167.2.1 bt167.2.2) else (spec_l4Fold.j0 k false a0_0 a0_1 l0_2 bt160.1 bt160.2.1 bt160.2.2 bt167.1 bt167.2.1 bt167.2.2))) else (none))) else (none))
end

def spec_ExprFold.f (k : Nat) (a0_0 : Int) (a0_1 : Int) (l0_2 : List (S25)) : Option (Int × Int × (List (S25)) × Bool) := (spec_ExprValid.f k a0_0 a0_1 l0_2).bind fun t193 => (if t193 = true then ((spec_l4Fold.f k a0_0 a0_1 l0_2).bind fun bt194 => (some (bt194.1, bt194.2.1, bt194.2.2, true))) else (some (0, 0, ([] : List (S25)), false)))

def impl_Wrap.f (a0 : Int) : Option (Int) := some (wrap64 (wrap32 (a0)))

def impl_truth.f (a0 : Bool) : Option (Int) := if a0 = true then (some 1) else (some 0)

def impl_apply.f (a0 : Int) (a1 : Int) (a2 : Int) : Option (Int) := if a0 = 1 then (some (Go.bits .or .i64 a1 a2)) else (if a0 = 2 then (some (Go.bits .xor .i64 a1 a2)) else (if a0 = 3 then (some (Go.bits .and .i64 a1 a2)) else (if a0 = 4 then ((impl_truth.f (a1 == a2)).bind fun t199 => (some t199)) else (if a0 = 5 then ((impl_truth.f (decide (a1 < a2))).bind fun t200 => (some t200)) else (if a0 = 6 then (if 0 ≤ (Go.bits .and .i64 a2 31) then ((impl_Wrap.f (shl .i64 a1 (Go.bits .and .i64 a2 31))).bind fun t201 => (some t201)) else (none)) else (if a0 = 7 then (if 0 ≤ (Go.bits .and .i64 a2 31) then (some (shr .i64 a1 (Go.bits .and .i64 a2 31))) else (none)) else (if a0 = 8 then ((impl_Wrap.f (wrap64 (a1 + a2))).bind fun t202 => (some t202)) else (if a0 = 9 then ((impl_Wrap.f (wrap64 (a1 - a2))).bind fun t203 => (some t203)) else (if a0 = 10 then ((impl_Wrap.f (wrap64 (a1 * a2))).bind fun t204 => (some t204)) else (if a0 = 11 then (if a2 = 0 then (some (-1)) else ((impl_Wrap.f (wrap64 (Int.tdiv a1 a2))).bind fun t205 => (some t205))) else (if a2 = 0 then (some a1) else (some (Int.tmod a1 a2)))))))))))))

mutual
def impl_exprFold.j0 : Nat → Bool → Int → Int → List (S25) → Int → Int → List (S25) → Int → Int → List (S25) → Option (Int × Int × (List (S25)))
  | 0, _, _, _, _, _, _, _, _, _, _ => none
  | k + 1, x32, x207000, x207001, x207002, x221000, x221001, x221002, x222000, x222001, x222002 => if x32 = true then ((impl_apply.f x207000 x221001 x222001).bind fun t222 => (if t222 ≥ 0 then (if t222 ≤ 99999 then (some (0, t222, ([] : List (S25)))) else (some (x207000, 0, (([(⟨x221000, x221001, x221002⟩ : S25), (⟨x222000, x222001, x222002⟩ : S25)] : List (S25)))))) else (some (x207000, 0, (([(⟨x221000, x221001, x221002⟩ : S25), (⟨x222000, x222001, x222002⟩ : S25)] : List (S25))))))) else (some (x207000, 0, (([(⟨x221000, x221001, x221002⟩ : S25), (⟨x222000, x222001, x222002⟩ : S25)] : List (S25)))))
def impl_exprFold.f : Nat → Int → Int → List (S25) → Option (Int × Int × (List (S25)))
  | 0, _, _, _ => none
  | k + 1, a0_0, a0_1, l0_2 => if (l0_2.length : Int) = 0 then (some (a0_0, a0_1, ([] : List (S25)))) else (if 0 < (l0_2.length : Int) then ((impl_exprFold.f k ((rd_T25 l0_2 0).f0) ((rd_T25 l0_2 0).f1) ((rd_T25 l0_2 0).f2)).bind fun bt209 => (if 1 < (l0_2.length : Int) then ((impl_exprFold.f k ((rd_T25 l0_2 1).f0) ((rd_T25 l0_2 1).f1) ((rd_T25 l0_2 1).f2)).bind fun bt215 => (if bt209.1 = 0 then (impl_exprFold.j0 k (bt215.1 == 0) a0_0 a0_1 l0_2 bt209.1 bt209.2.1 bt209.2.2 bt215.1 bt215.2.1 bt215.2.2) else (impl_exprFold.j0 k false a0_0 a0_1 l0_2 bt209.1 bt209.2.1 bt209.2.2 bt215.1 bt215.2.1 bt215.2.2))) else (none))) else (none))
end

def impl_ExprFold.f (k : Nat) (a0_0 : Int) (a0_1 : Int) (l0_2 : List (S25)) : Option (Int × Int × (List (S25)) × Bool) := (impl_ExprValid.f k a0_0 a0_1 l0_2).bind fun t234 => (if t234 = true then ((impl_exprFold.f k a0_0 a0_1 l0_2).bind fun bt235 => (some (bt235.1, bt235.2.1, bt235.2.2, true))) else (some (0, 0, ([] : List (S25)), false)))

mutual
def impl_exprUses.l0 : Nat → Int → List (S25) → Int → Int → Option (Bool)
  | 0, _, _, _, _ => none
  | k + 1, x1, x15, x16, x17 => if x17 < x16 then (if 0 ≤ x17 then (if x17 < (x15.length : Int) then ((impl_exprUses.f k ((rd_T25 x15 x17).f0) ((rd_T25 x15 x17).f1) ((rd_T25 x15 x17).f2) x1).bind fun t243 => (if t243 = true then (some true) else (impl_exprUses.l0 k x1 x15 x16 (wrap64 (x17 + 1))))) else (none)) else (none)) else (some false)
def impl_exprUses.f : Nat → Int → Int → List (S25) → Int → Option (Bool)
  | 0, _, _, _, _ => none
  | k + 1, a0_0, a0_1, l0_2, a1 => if a0_0 = 13 then (some (a0_1 == a1)) else (impl_exprUses.l0 k a1 l0_2 (l0_2.length : Int) 0)
end

def impl_ExprUses.f (k : Nat) (a0_0 : Int) (a0_1 : Int) (l0_2 : List (S25)) (a1 : Int) : Option (Bool) := (impl_ExprValid.f k a0_0 a0_1 l0_2).bind fun t245 => (if t245 = true then ((impl_exprUses.f k a0_0 a0_1 l0_2 a1).bind fun t246 => (some t246)) else (some false))

def spec_l6Open.f (l0 : List Int) : Option (List Int × Int) := if (l0.length : Int) > 2000 then (if 2000 ≤ (l0.length : Int) then (some (l0.take 2000, 0)) else (none)) else (some (l0, 0))

def spec_l6Rd_pick.j0 : Nat → Int → Bool → List Int → Int → Option (Int × Int)
  | 0, _, _, _, _ => none
  | k + 1, x1, x24, x1000, x1001 => if x24 = true then (some (0, x1001)) else (if (wrap64 (x1001 - 1)) < (x1000.length : Int) then (if 0 ≤ (wrap64 (x1001 - 1)) then (if x1 = 0 then (none) else (some (Int.tmod (wrap64 (rd x1000 (wrap64 (x1001 - 1)))) x1, x1001))) else (none)) else (if (x1000.length : Int) = 0 then (none) else (if 0 ≤ (Int.tmod (wrap64 (x1001 - 1)) (x1000.length : Int)) then (if (Int.tmod (wrap64 (x1001 - 1)) (x1000.length : Int)) < (x1000.length : Int) then (if 0 ≤ (Int.tmod (wrap64 ((wrap64 ((wrap64 (x1001 - 1)) * 7)) + 3)) (x1000.length : Int)) then (if (Int.tmod (wrap64 ((wrap64 ((wrap64 (x1001 - 1)) * 7)) + 3)) (x1000.length : Int)) < (x1000.length : Int) then (if x1 = 0 then (none) else (some (Int.tmod (Go.bits .xor .i64 (wrap64 ((wrap64 ((wrap64 ((wrap64 ((wrap64 (rd x1000 (Int.tmod (wrap64 (x1001 - 1)) (x1000.length : Int)))) * 131)) + (wrap64 ((wrap64 (rd x1000 (Int.tmod (wrap64 ((wrap64 ((wrap64 (x1001 - 1)) * 7)) + 3)) (x1000.length : Int)))) * 1117)))) + (wrap64 ((wrap64 (x1001 - 1)) * 29)))) + (wrap64 ((wrap64 (Int.tdiv (wrap64 (x1001 - 1)) (x1000.length : Int))) * 53)))) (wrap64 (Int.tdiv (wrap64 ((wrap64 ((wrap64 ((wrap64 ((wrap64 (rd x1000 (Int.tmod (wrap64 (x1001 - 1)) (x1000.length : Int)))) * 131)) + (wrap64 ((wrap64 (rd x1000 (Int.tmod (wrap64 ((wrap64 ((wrap64 (x1001 - 1)) * 7)) + 3)) (x1000.length : Int)))) * 1117)))) + (wrap64 ((wrap64 (x1001 - 1)) * 29)))) + (wrap64 ((wrap64 (Int.tdiv (wrap64 (x1001 - 1)) (x1000.length : Int))) * 53)))) 64))) x1, x1001))) else (none)) else (none)) else (none)) else (none))))
def spec_l6Rd_pick.f (k : Nat) (s0_0 : List Int) (s0_1 : Int) (a1 : Int) : Option (Int × Int) := if a1 < 1 then (spec_l6Rd_pick.j0 k a1 true s0_0 (wrap64 (s0_1 + 1))) else (spec_l6Rd_pick.j0 k a1 ((s0_0.length : Int) == 0) s0_0 (wrap64 (s0_1 + 1)))

def spec_l91Leaf.f (k : Nat) (s0_0 : List Int) (s0_1 : Int) : Option (Int × Int × (List (S25)) × Int) := (spec_l6Rd_pick.f k s0_0 s0_1 4).bind fun bt254 => (if bt254.1 = 0 then ((spec_l6Rd_pick.f k s0_0 bt254.2 4).bind fun bt256 => ((spec_l4Leaf.f 0 bt256.1).bind fun bt258 => (some (bt258.1, bt258.2.1, bt258.2.2, bt256.2)))) else (if bt254.1 = 1 then ((some (([5, 31, 32, 100, 2047, 2048, 65536, 99999] : List Int) : List Int)).bind fun y263 => ((spec_l6Rd_pick.f k s0_0 bt254.2 8).bind fun bt266 => (if 0 ≤ bt266.1 then (if bt266.1 < (y263.length : Int) then ((spec_l4Leaf.f 0 (rd y263 bt266.1)).bind fun bt269 => (some (bt269.1, bt269.2.1, bt269.2.2, bt266.2))) else (none)) else (none)))) else ((spec_l6Rd_pick.f k s0_0 bt254.2 4).bind fun bt274 => ((spec_l4Leaf.f 13 bt274.1).bind fun bt276 => (some (bt276.1, bt276.2.1, bt276.2.2, bt274.2))))))

def spec_l91Op.f (k : Nat) (s0_0 : List Int) (s0_1 : Int) : Option (Int × Int) := (spec_l6Rd_pick.f k s0_0 s0_1 12).bind fun bt281 => (some (wrap64 (1 + bt281.1), bt281.2))

mutual
def spec_l91Expr.j0 : Nat → Int → Bool → List Int → Int → Option (Int × Int × (List (S25)) × Int)
  | 0, _, _, _, _ => none
  | k + 1, x1, x13, x1000, x1001 => if x13 = true then ((spec_l91Leaf.f k x1000 x1001).bind fun bt286 => (some (bt286.1, bt286.2.1, bt286.2.2.1, bt286.2.2.2))) else ((spec_l91Op.f k x1000 x1001).bind fun bt292 => ((spec_l91Expr.f k x1000 bt292.2 (wrap64 (x1 - 1))).bind fun bt294 => ((spec_l91Expr.f k x1000 bt294.2.2.2 (wrap64 (x1 - 1))).bind fun bt301 => ((spec_l4Both.f bt292.1 bt294.1 bt294.2.1 bt294.2.2.1 bt301.1 bt301.2.1 bt301.2.2.1).bind fun bt307 => (some (bt307.1, bt307.2.1, bt307.2.2, bt301.2.2.2))))))
def spec_l91Expr.f : Nat → List Int → Int → Int → Option (Int × Int × (List (S25)) × Int)
  | 0, _, _, _ => none
  | k + 1, s0_0, s0_1, a1 => if a1 < 2 then (spec_l91Expr.j0 k a1 true s0_0 s0_1) else ((spec_l6Rd_pick.f k s0_0 s0_1 3).bind fun bt284 => (spec_l91Expr.j0 k a1 (bt284.1 == 0) s0_0 bt284.2))
end

def spec_l91Spoilt.f (k : Nat) (s0_0 : List Int) (s0_1 : Int) : Option (Int × Int × (List (S25)) × Int) := (spec_l6Rd_pick.f k s0_0 s0_1 4).bind fun bt313 => ((spec_l91Expr.f k s0_0 bt313.2 (wrap64 (2 + bt313.1))).bind fun bt315 => ((spec_l6Rd_pick.f k s0_0 bt315.2.2.2 40).bind fun bt322 => (if bt322.1 = 0 then ((some (([(-1), 100000] : List Int) : List Int)).bind fun y324 => ((spec_l6Rd_pick.f k s0_0 bt322.2 2).bind fun bt327 => (if 0 ≤ bt327.1 then (if bt327.1 < (y324.length : Int) then (some (bt315.1, rd y324 bt327.1, bt315.2.2.1, bt327.2)) else (none)) else (none)))) else (if bt322.1 = 1 then ((some (([(-1), 14] : List Int) : List Int)).bind fun y330 => ((spec_l6Rd_pick.f k s0_0 bt322.2 2).bind fun bt333 => (if 0 ≤ bt333.1 then (if bt333.1 < (y330.length : Int) then (some (rd y330 bt333.1, bt315.2.1, bt315.2.2.1, bt333.2)) else (none)) else (none)))) else (if bt322.1 = 2 then ((spec_l91Leaf.f k s0_0 bt322.2).bind fun bt336 => (if bt315.2.2.1.length < 3518437208883 then (some (bt315.1, bt315.2.1, (bt315.2.2.1 ++ [(⟨bt336.1, bt336.2.1, bt336.2.2.1⟩ : S25)]), bt336.2.2.2)) else (none))) else (if bt322.1 = 3 then ((spec_l91Leaf.f k s0_0 bt322.2).bind fun bt345 => ((spec_l4Both.f 8 bt315.1 bt315.2.1 bt315.2.2.1 bt345.1 bt345.2.1 bt345.2.2.1).bind fun bt351 => ((spec_l91Expr.f k s0_0 bt345.2.2.2 5).bind fun bt356 => ((spec_l4Both.f 8 bt351.1 bt351.2.1 bt351.2.2 bt356.1 bt356.2.1 bt356.2.2.1).bind fun bt362 => (some (bt362.1, bt362.2.1, bt362.2.2, bt356.2.2.2)))))) else (if bt322.1 = 4 then ((spec_l91Op.f k s0_0 bt322.2).bind fun bt367 => ((spec_l91Expr.f k s0_0 bt367.2 4).bind fun bt369 => ((spec_l4Leaf.f 13 4).bind fun bt375 => ((spec_l4Both.f bt367.1 bt369.1 bt369.2.1 bt369.2.2.1 bt375.1 bt375.2.1 bt375.2.2).bind fun bt380 => (some (bt380.1, bt380.2.1, bt380.2.2, bt369.2.2.2)))))) else (some (bt315.1, bt315.2.1, bt315.2.2.1, bt322.2)))))))))

def spec_DrawExprFold.f (k : Nat) (l0 : List Int) : Option (Int × Int × (List (S25))) := (spec_l6Open.f l0).bind fun bt386 => ((spec_l6Rd_pick.f k bt386.1 bt386.2 3).bind fun bt389 => (if bt389.1 = 0 then ((spec_l91Op.f k bt386.1 bt389.2).bind fun bt391 => ((spec_l91Op.f k bt386.1 bt391.2).bind fun bt393 => ((spec_l6Rd_pick.f k bt386.1 bt393.2 9).bind fun bt395 => ((spec_l4Leaf.f 0 bt395.1).bind fun bt397 => ((spec_l6Rd_pick.f k bt386.1 bt395.2 9).bind fun bt402 => ((spec_l4Leaf.f 0 bt402.1).bind fun bt404 => ((spec_l4Both.f bt393.1 bt397.1 bt397.2.1 bt397.2.2 bt404.1 bt404.2.1 bt404.2.2).bind fun bt409 => ((spec_l91Leaf.f k bt386.1 bt402.2).bind fun bt414 => ((spec_l4Both.f bt391.1 bt409.1 bt409.2.1 bt409.2.2 bt414.1 bt414.2.1 bt414.2.2.1).bind fun bt420 => (some (bt420.1, bt420.2.1, bt420.2.2))))))))))) else ((spec_l91Spoilt.f k bt386.1 bt389.2).bind fun bt425 => (some (bt425.1, bt425.2.1, bt425.2.2.1)))))

mutual
def laws_sameExpr.j0 : Nat → Bool → Int → Int → List (S25) → Int → Int → List (S25) → Option (Bool)
  | 0, _, _, _, _, _, _, _ => none
  | k + 1, x26, x432000, x432001, x432002, x433000, x433001, x433002 => if x26 = true then (some false) else (laws_sameExpr.l0 k 0 x432000 x432001 x432002 x433000 x433001 x433002)
def laws_sameExpr.l0 : Nat → Int → Int → Int → List (S25) → Int → Int → List (S25) → Option (Bool)
  | 0, _, _, _, _, _, _, _ => none
  | k + 1, x5, x432000, x432001, x432002, x433000, x433001, x433002 => if x5 < (x432002.length : Int) then (if 0 ≤ x5 then (if x5 < (x433002.length : Int) then ((laws_sameExpr.f k ((rd_T25 x432002 x5).f0) ((rd_T25 x432002 x5).f1) ((rd_T25 x432002 x5).f2) ((rd_T25 x433002 x5).f0) ((rd_T25 x433002 x5).f1) ((rd_T25 x433002 x5).f2)).bind fun t435 => (if t435 = true then (laws_sameExpr.l0 k (wrap64 (x5 + 1)) x432000 x432001 x432002 x433000 x433001 x433002) else (some false))) else (none)) else (none)) else (some true)
def laws_sameExpr.f : Nat → Int → Int → List (S25) → Int → Int → List (S25) → Option (Bool)
  | 0, _, _, _, _, _, _ => none
  | k + 1, a0_0, a0_1, l0_2, a1_0, a1_1, l1_2 => if a0_0 = a1_0 then (if a0_1 = a1_1 then (laws_sameExpr.j0 k ((l0_2.length : Int) != (l1_2.length : Int)) a0_0 a0_1 l0_2 a1_0 a1_1 l1_2) else (laws_sameExpr.j0 k true a0_0 a0_1 l0_2 a1_0 a1_1 l1_2)) else (laws_sameExpr.j0 k true a0_0 a0_1 l0_2 a1_0 a1_1 l1_2)
end

mutual
def impl_exprSize.l0 : Nat → Int → List (S25) → Int → Int → Option (Int)
  | 0, _, _, _, _ => none
  | k + 1, x3, x7, x8, x9 => if x9 < x8 then (if 0 ≤ x9 then (if x9 < (x7.length : Int) then ((impl_exprSize.f k ((rd_T25 x7 x9).f0) ((rd_T25 x7 x9).f1) ((rd_T25 x7 x9).f2)).bind fun t439 => (impl_exprSize.l0 k (wrap64 (x3 + t439)) x7 x8 (wrap64 (x9 + 1)))) else (none)) else (none)) else (some x3)
def impl_exprSize.f : Nat → Int → Int → List (S25) → Option (Int)
  | 0, _, _, _ => none
  | k + 1, a0_0, a0_1, l0_2 => impl_exprSize.l0 k 1 l0_2 (l0_2.length : Int) 0
end

def impl_ExprSize.f (k : Nat) (a0_0 : Int) (a0_1 : Int) (l0_2 : List (S25)) : Option (Int) := (impl_ExprValid.f k a0_0 a0_1 l0_2).bind fun t441 => (if t441 = true then ((impl_exprSize.f k a0_0 a0_1 l0_2).bind fun t442 => (some t442)) else (some 0))

mutual
def laws_FnFoldSmaller.j0 : Nat → Bool → Bool → Bool → Int → Int → List (S25) → Int → Int → List (S25) → Int → Int → List (S25) → Option (Bool)
  | 0, _, _, _, _, _, _, _, _, _, _, _, _ => none
  | k + 1, x5, x7, x36, x449000, x449001, x449002, x456000, x456001, x456002, x463000, x463001, x463002 => if x36 = true then (if (x5 == x7) = true then ((laws_sameExpr.f k x456000 x456001 x456002 x463000 x463001 x463002).bind fun t464 => (some t464)) else (some false)) else (laws_FnFoldSmaller.l0 k 0 x449000 x449001 x449002 x456000 x456001 x456002)
def laws_FnFoldSmaller.l0 : Nat → Int → Int → Int → List (S25) → Int → Int → List (S25) → Option (Bool)
  | 0, _, _, _, _, _, _, _ => none
  | k + 1, x8, x449000, x449001, x449002, x456000, x456001, x456002 => if x8 < 4 then ((impl_ExprUses.f k x456000 x456001 x456002 x8).bind fun t465 => (if t465 = true then ((impl_ExprUses.f k x449000 x449001 x449002 x8).bind fun t466 => (if t466 = true then (laws_FnFoldSmaller.l0 k (wrap64 (x8 + 1)) x449000 x449001 x449002 x456000 x456001 x456002) else (some false))) else (laws_FnFoldSmaller.l0 k (wrap64 (x8 + 1)) x449000 x449001 x449002 x456000 x456001 x456002))) else ((impl_ExprSize.f k x456000 x456001 x456002).bind fun t467 => (if t467 ≥ 1 then ((impl_ExprSize.f k x456000 x456001 x456002).bind fun t468 => ((impl_ExprSize.f k x449000 x449001 x449002).bind fun t469 => (if t468 ≤ t469 then ((impl_ExprDepth.f k x456000 x456001 x456002).bind fun t470 => ((impl_ExprDepth.f k x449000 x449001 x449002).bind fun t471 => (some (decide (t470 ≤ t471))))) else (some false)))) else (some false)))
end
def laws_FnFoldSmaller.f (k : Nat) (l0 : List Int) : Option (Bool) := if (l0.length : Int) > 1048576 then (some true) else ((spec_DrawExprFold.f k l0).bind fun bt443 => ((impl_ExprFold.f k bt443.1 bt443.2.1 bt443.2.2).bind fun bt449 => ((spec_ExprFold.f k bt443.1 bt443.2.1 bt443.2.2).bind fun bt456 => (if (bt449.2.2.2 != bt456.2.2.2) = true then (laws_FnFoldSmaller.j0 k bt449.2.2.2 bt456.2.2.2 true bt443.1 bt443.2.1 bt443.2.2 bt449.1 bt449.2.1 bt449.2.2.1 bt456.1 bt456.2.1 bt456.2.2.1) else ((laws_sameExpr.f k bt449.1 bt449.2.1 bt449.2.2.1 bt456.1 bt456.2.1 bt456.2.2.1).bind fun t463 => (if t463 = true then (laws_FnFoldSmaller.j0 k bt449.2.2.2 bt456.2.2.2 (!bt449.2.2.2) bt443.1 bt443.2.1 bt443.2.2 bt449.1 bt449.2.1 bt449.2.2.1 bt456.1 bt456.2.1 bt456.2.2.1) else (laws_FnFoldSmaller.j0 k bt449.2.2.2 bt456.2.2.2 true bt443.1 bt443.2.1 bt443.2.2 bt449.1 bt449.2.1 bt449.2.2.1 bt456.1 bt456.2.1 bt456.2.2.1)))))))

def impl_WordValid.f (a0 : Int) : Option (Bool) := if a0 ≥ (-2147483648) then (some (decide (a0 ≤ 2147483647))) else (some false)

def impl_areWords.l0 : Nat → List Int → Int → Int → Option (Bool)
  | 0, _, _, _ => none
  | k + 1, x5, x6, x7 => if x7 < x6 then (if 0 ≤ x7 then (if x7 < (x5.length : Int) then ((impl_WordValid.f (rd x5 x7)).bind fun t473 => (if t473 = true then (impl_areWords.l0 k x5 x6 (wrap64 (x7 + 1))) else (some false))) else (none)) else (none)) else (some true)
def impl_areWords.f (k : Nat) (l0 : List Int) : Option (Bool) := impl_areWords.l0 k l0 (l0.length : Int) 0

def impl_exprEval.f : Nat → Int → Int → List (S25) → List Int → Option (Int)
  | 0, _, _, _, _ => none
  | k + 1, a0_0, a0_1, l0_2, l1 => if a0_0 = 0 then (some a0_1) else (if a0_0 = 13 then (if 0 ≤ a0_1 then (if a0_1 < (l1.length : Int) then (some (rd l1 a0_1)) else (none)) else (none)) else (if 0 < (l0_2.length : Int) then ((impl_exprEval.f k ((rd_T25 l0_2 0).f0) ((rd_T25 l0_2 0).f1) ((rd_T25 l0_2 0).f2) l1).bind fun x => (if 1 < (l0_2.length : Int) then ((impl_exprEval.f k ((rd_T25 l0_2 1).f0) ((rd_T25 l0_2 1).f1) ((rd_T25 l0_2 1).f2) l1).bind fun y => (impl_apply.f a0_0 x y)) else (none))) else (none)))

def impl_ExprEval.f (k : Nat) (a0_0 : Int) (a0_1 : Int) (l0_2 : List (S25)) (l1 : List Int) : Option (Int × Bool) := (impl_ExprValid.f k a0_0 a0_1 l0_2).bind fun t475 => (if t475 = true then (if (l1.length : Int) = 4 then ((impl_areWords.f k l1).bind fun t476 => (if t476 = true then ((impl_exprEval.f k a0_0 a0_1 l0_2 l1).bind fun t477 => (some (t477, true))) else (some (0, false)))) else (some (0, false))) else (some (0, false)))

def spec_l91Word.f (k : Nat) (s0_0 : List Int) (s0_1 : Int) : Option (Int × Int) := (spec_l6Rd_pick.f k s0_0 s0_1 6).bind fun bt478 => (if bt478.1 = 0 then ((some (([(-2147483648), 2147483647, (-1), 0, 1, (-2147483647), 65536, (-65536)] : List Int) : List Int)).bind fun y480 => ((spec_l6Rd_pick.f k s0_0 bt478.2 8).bind fun bt483 => (if 0 ≤ bt483.1 then (if bt483.1 < (y480.length : Int) then (some (rd y480 bt483.1, bt483.2)) else (none)) else (none)))) else (if bt478.1 = 1 then ((spec_l6Rd_pick.f k s0_0 bt478.2 256).bind fun bt486 => ((spec_l6Rd_pick.f k s0_0 bt486.2 256).bind fun bt488 => ((spec_l6Rd_pick.f k s0_0 bt488.2 256).bind fun bt490 => ((spec_l6Rd_pick.f k s0_0 bt490.2 200).bind fun bt492 => ((spec_Wrap.f (wrap64 ((wrap64 ((wrap64 ((wrap64 (bt486.1 * 65536)) + (wrap64 (bt488.1 * 256)))) + bt490.1)) * (wrap64 (1 + bt492.1))))).bind fun t494 => (some (t494, bt492.2))))))) else (if bt478.1 = 2 then ((spec_l6Rd_pick.f k s0_0 bt478.2 200).bind fun bt495 => (some (wrap64 (-bt495.1), bt495.2))) else ((spec_l6Rd_pick.f k s0_0 bt478.2 20).bind fun bt497 => (some (bt497.1, bt497.2))))))

def spec_l91Vars.l0 : Nat → List Int → Int → List Int → Int → Option (List Int × Int)
  | 0, _, _, _, _ => none
  | k + 1, x3, x4, x1000, x1001 => if x4 < 4 then ((spec_l91Word.f k x1000 x1001).bind fun bt502 => (if x3.length < 17592186044416 then (spec_l91Vars.l0 k (x3 ++ [bt502.1]) (wrap64 (x4 + 1)) x1000 bt502.2) else (none))) else ((spec_l6Rd_pick.f k x1000 x1001 40).bind fun bt507 => (if bt507.1 = 0 then (if x3.length < 17592186044416 then (some ((x3 ++ [1]), bt507.2)) else (none)) else (if bt507.1 = 1 then (if 0 < (x3.length : Int) then (some ((x3.set (0 : Int).toNat 2147483648), bt507.2)) else (none)) else (some (x3, bt507.2)))))
def spec_l91Vars.f (k : Nat) (s0_0 : List Int) (s0_1 : Int) : Option (List Int × Int) := spec_l91Vars.l0 k (([] : List Int)) 0 s0_0 s0_1

def spec_DrawExprEval.f (k : Nat) (l0 : List Int) : Option (Int × Int × (List (S25)) × List Int) := (spec_l6Open.f l0).bind fun bt514 => ((spec_l91Spoilt.f k bt514.1 bt514.2).bind fun bt517 => ((spec_l91Vars.f k bt514.1 bt517.2.2.2).bind fun bt524 => (some (bt517.1, bt517.2.1, bt517.2.2.1, bt524.1))))

mutual
def laws_FnFoldEval.j0 : Nat → List Int → List Int → Bool → Option (Bool)
  | 0, _, _, _ => none
  | k + 1, x0, x1, x23 => if x23 = true then (some true) else ((spec_DrawExprFold.f k x0).bind fun bt528 => ((impl_ExprFold.f k bt528.1 bt528.2.1 bt528.2.2).bind fun bt534 => ((spec_ExprFold.f k bt528.1 bt528.2.1 bt528.2.2).bind fun bt541 => (if (bt534.2.2.2 != bt541.2.2.2) = true then (laws_FnFoldEval.j1 k x1 bt534.2.2.2 bt541.2.2.2 true bt528.1 bt528.2.1 bt528.2.2 bt534.1 bt534.2.1 bt534.2.2.1 bt541.1 bt541.2.1 bt541.2.2.1) else ((laws_sameExpr.f k bt534.1 bt534.2.1 bt534.2.2.1 bt541.1 bt541.2.1 bt541.2.2.1).bind fun t548 => (if t548 = true then (laws_FnFoldEval.j1 k x1 bt534.2.2.2 bt541.2.2.2 (!bt534.2.2.2) bt528.1 bt528.2.1 bt528.2.2 bt534.1 bt534.2.1 bt534.2.2.1 bt541.1 bt541.2.1 bt541.2.2.1) else (laws_FnFoldEval.j1 k x1 bt534.2.2.2 bt541.2.2.2 true bt528.1 bt528.2.1 bt528.2.2 bt534.1 bt534.2.1 bt534.2.2.1 bt541.1 bt541.2.1 bt541.2.2.1)))))))
def laws_FnFoldEval.j1 : Nat → List Int → Bool → Bool → Bool → Int → Int → List (S25) → Int → Int → List (S25) → Int → Int → List (S25) → Option (Bool)
  | 0, _, _, _, _, _, _, _, _, _, _, _, _, _ => none
  | k + 1, x1, x7, x9, x48, x534000, x534001, x534002, x541000, x541001, x541002, x548000, x548001, x548002 => if x48 = true then (if (x7 == x9) = true then ((laws_sameExpr.f k x541000 x541001 x541002 x548000 x548001 x548002).bind fun t549 => (some t549)) else (some false)) else ((spec_DrawExprEval.f k x1).bind fun bt550 => ((impl_ExprEval.f k x534000 x534001 x534002 bt550.2.2.2).bind fun bt559 => ((impl_ExprEval.f k x541000 x541001 x541002 bt550.2.2.2).bind fun bt561 => (if (bt559.2 == bt561.2) = true then (some (bt559.1 == bt561.1)) else (some false)))))
end
def laws_FnFoldEval.f (k : Nat) (l0 : List Int) (l1 : List Int) : Option (Bool) := if (l0.length : Int) > 1048576 then (laws_FnFoldEval.j0 k l0 l1 true) else (laws_FnFoldEval.j0 k l0 l1 (decide ((l1.length : Int) > 1048576)))

end Go.Proofs.Ytajifknepdikbaa.PA
