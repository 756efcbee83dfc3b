-- made by a program of this session (wip/myprint.py over the kit's print)
import Derived.Test.YtajifknepdikbaaV
import Derived.Test.YtajifknepdikbaaPAx0
namespace Go.Proofs.Ytajifknepdikbaa.PA
open Go.RowKit Go.Proofs.YtajifknepdikbaaW.PrintWords Go.Proofs.YtajifknepdikbaaW.PrintLast Go.Proofs.YtajifknepdikbaaW.PrintMore
attribute [local go_sem] max2_int min2_int max_two min_two max_three min_three max_four min_four   -- for this text's walks alone
set_option linter.unusedVariables false
set_option linter.unusedSimpArgs false

-- FUNCTIONS
def spec_l6Open.f (l0 : List Int) : Option (List Int × Int) := if (l0.length : Int) > 2000 then (if 2000 ≤ (l0.length : Int) then (some (l0.take 2000, 0)) else (none)) else (some (l0, 0))

def spec_l6Rd_pick.j0 : Nat → Int → Bool → List Int → Int → Option (Int × Int)
  | 0, _, _, _, _ => none
  | k + 1, x1, x24, x1000, x1001 => if x24 = true then (some (0, x1001)) else (if (wrap64 (x1001 - 1)) < (x1000.length : Int) then (if 0 ≤ (wrap64 (x1001 - 1)) then (if x1 = 0 then (none) else (some (Int.tmod (wrap64 (rd x1000 (wrap64 (x1001 - 1)))) x1, x1001))) else (none)) else (if (x1000.length : Int) = 0 then (none) else (if 0 ≤ (Int.tmod (wrap64 (x1001 - 1)) (x1000.length : Int)) then (if (Int.tmod (wrap64 (x1001 - 1)) (x1000.length : Int)) < (x1000.length : Int) then (if 0 ≤ (Int.tmod (wrap64 ((wrap64 ((wrap64 (x1001 - 1)) * 7)) + 3)) (x1000.length : Int)) then (if (Int.tmod (wrap64 ((wrap64 ((wrap64 (x1001 - 1)) * 7)) + 3)) (x1000.length : Int)) < (x1000.length : Int) then (if x1 = 0 then (none) else (some (Int.tmod (Go.bits .xor .i64 (wrap64 ((wrap64 ((wrap64 ((wrap64 ((wrap64 (rd x1000 (Int.tmod (wrap64 (x1001 - 1)) (x1000.length : Int)))) * 131)) + (wrap64 ((wrap64 (rd x1000 (Int.tmod (wrap64 ((wrap64 ((wrap64 (x1001 - 1)) * 7)) + 3)) (x1000.length : Int)))) * 1117)))) + (wrap64 ((wrap64 (x1001 - 1)) * 29)))) + (wrap64 ((wrap64 (Int.tdiv (wrap64 (x1001 - 1)) (x1000.length : Int))) * 53)))) (wrap64 (Int.tdiv (wrap64 ((wrap64 ((wrap64 ((wrap64 ((wrap64 (rd x1000 (Int.tmod (wrap64 (x1001 - 1)) (x1000.length : Int)))) * 131)) + (wrap64 ((wrap64 (rd x1000 (Int.tmod (wrap64 ((wrap64 ((wrap64 (x1001 - 1)) * 7)) + 3)) (x1000.length : Int)))) * 1117)))) + (wrap64 ((wrap64 (x1001 - 1)) * 29)))) + (wrap64 ((wrap64 (Int.tdiv (wrap64 (x1001 - 1)) (x1000.length : Int))) * 53)))) 64))) x1, x1001))) else (none)) else (none)) else (none)) else (none))))
def spec_l6Rd_pick.f (k : Nat) (s0_0 : List Int) (s0_1 : Int) (a1 : Int) : Option (Int × Int) := if a1 < 1 then (spec_l6Rd_pick.j0 k a1 true s0_0 (wrap64 (s0_1 + 1))) else (spec_l6Rd_pick.j0 k a1 ((s0_0.length : Int) == 0) s0_0 (wrap64 (s0_1 + 1)))

def spec_l4Both.f (a0 : Int) (a1_0 : Int) (a1_1 : Int) (l1_2 : List (S25)) (a2_0 : Int) (a2_1 : Int) (l2_2 : List (S25)) : Option (Int × Int × (List (S25))) := some (a0, 0, (([(⟨a1_0, a1_1, l1_2⟩ : S25), (⟨a2_0, a2_1, l2_2⟩ : S25)] : List (S25))))

def spec_l4Leaf.f (a0 : Int) (a1 : Int) : Option (Int × Int × (List (S25))) := some (a0, a1, (([] : List (S25))))

def spec_l91Leaf.f (k : Nat) (s0_0 : List Int) (s0_1 : Int) : Option (Int × Int × (List (S25)) × Int) := (spec_l6Rd_pick.f k s0_0 s0_1 4).bind fun bt118 => (if bt118.1 = 0 then ((spec_l6Rd_pick.f k s0_0 bt118.2 4).bind fun bt120 => ((spec_l4Leaf.f 0 bt120.1).bind fun bt122 => (some (bt122.1, bt122.2.1, bt122.2.2, bt120.2)))) else (if bt118.1 = 1 then ((some (([5, 31, 32, 100, 2047, 2048, 65536, 99999] : List Int) : List Int)).bind fun y127 => ((spec_l6Rd_pick.f k s0_0 bt118.2 8).bind fun bt130 => (if 0 ≤ bt130.1 then (if bt130.1 < (y127.length : Int) then ((spec_l4Leaf.f 0 (rd y127 bt130.1)).bind fun bt133 => (some (bt133.1, bt133.2.1, bt133.2.2, bt130.2))) else (none)) else (none)))) else ((spec_l6Rd_pick.f k s0_0 bt118.2 4).bind fun bt138 => ((spec_l4Leaf.f 13 bt138.1).bind fun bt140 => (some (bt140.1, bt140.2.1, bt140.2.2, bt138.2))))))

def spec_l91Op.f (k : Nat) (s0_0 : List Int) (s0_1 : Int) : Option (Int × Int) := (spec_l6Rd_pick.f k s0_0 s0_1 12).bind fun bt145 => (some (wrap64 (1 + bt145.1), bt145.2))

mutual
def spec_l91Expr.j0 : Nat → Int → Bool → List Int → Int → Option (Int × Int × (List (S25)) × Int)
  | 0, _, _, _, _ => none
  | k + 1, x1, x13, x1000, x1001 => if x13 = true then ((spec_l91Leaf.f k x1000 x1001).bind fun bt150 => (some (bt150.1, bt150.2.1, bt150.2.2.1, bt150.2.2.2))) else ((spec_l91Op.f k x1000 x1001).bind fun bt156 => ((spec_l91Expr.f k x1000 bt156.2 (wrap64 (x1 - 1))).bind fun bt158 => ((spec_l91Expr.f k x1000 bt158.2.2.2 (wrap64 (x1 - 1))).bind fun bt165 => ((spec_l4Both.f bt156.1 bt158.1 bt158.2.1 bt158.2.2.1 bt165.1 bt165.2.1 bt165.2.2.1).bind fun bt171 => (some (bt171.1, bt171.2.1, bt171.2.2, bt165.2.2.2))))))
def spec_l91Expr.f : Nat → List Int → Int → Int → Option (Int × Int × (List (S25)) × Int)
  | 0, _, _, _ => none
  | k + 1, s0_0, s0_1, a1 => if a1 < 2 then (spec_l91Expr.j0 k a1 true s0_0 s0_1) else ((spec_l6Rd_pick.f k s0_0 s0_1 3).bind fun bt148 => (spec_l91Expr.j0 k a1 (bt148.1 == 0) s0_0 bt148.2))
end

def spec_l91Spoilt.f (k : Nat) (s0_0 : List Int) (s0_1 : Int) : Option (Int × Int × (List (S25)) × Int) := (spec_l6Rd_pick.f k s0_0 s0_1 4).bind fun bt177 => ((spec_l91Expr.f k s0_0 bt177.2 (wrap64 (2 + bt177.1))).bind fun bt179 => ((spec_l6Rd_pick.f k s0_0 bt179.2.2.2 40).bind fun bt186 => (if bt186.1 = 0 then ((some (([(-1), 100000] : List Int) : List Int)).bind fun y188 => ((spec_l6Rd_pick.f k s0_0 bt186.2 2).bind fun bt191 => (if 0 ≤ bt191.1 then (if bt191.1 < (y188.length : Int) then (some (bt179.1, rd y188 bt191.1, bt179.2.2.1, bt191.2)) else (none)) else (none)))) else (if bt186.1 = 1 then ((some (([(-1), 14] : List Int) : List Int)).bind fun y194 => ((spec_l6Rd_pick.f k s0_0 bt186.2 2).bind fun bt197 => (if 0 ≤ bt197.1 then (if bt197.1 < (y194.length : Int) then (some (rd y194 bt197.1, bt179.2.1, bt179.2.2.1, bt197.2)) else (none)) else (none)))) else (if bt186.1 = 2 then ((spec_l91Leaf.f k s0_0 bt186.2).bind fun bt200 => (if bt179.2.2.1.length < 3518437208883 then (some (bt179.1, bt179.2.1, (bt179.2.2.1 ++ [(⟨bt200.1, bt200.2.1, bt200.2.2.1⟩ : S25)]), bt200.2.2.2)) else (none))) else (if bt186.1 = 3 then ((spec_l91Leaf.f k s0_0 bt186.2).bind fun bt209 => ((spec_l4Both.f 8 bt179.1 bt179.2.1 bt179.2.2.1 bt209.1 bt209.2.1 bt209.2.2.1).bind fun bt215 => ((spec_l91Expr.f k s0_0 bt209.2.2.2 5).bind fun bt220 => ((spec_l4Both.f 8 bt215.1 bt215.2.1 bt215.2.2 bt220.1 bt220.2.1 bt220.2.2.1).bind fun bt226 => (some (bt226.1, bt226.2.1, bt226.2.2, bt220.2.2.2)))))) else (if bt186.1 = 4 then ((spec_l91Op.f k s0_0 bt186.2).bind fun bt231 => ((spec_l91Expr.f k s0_0 bt231.2 4).bind fun bt233 => ((spec_l4Leaf.f 13 4).bind fun bt239 => ((spec_l4Both.f bt231.1 bt233.1 bt233.2.1 bt233.2.2.1 bt239.1 bt239.2.1 bt239.2.2).bind fun bt244 => (some (bt244.1, bt244.2.1, bt244.2.2, bt233.2.2.2)))))) else (some (bt179.1, bt179.2.1, bt179.2.2.1, bt186.2)))))))))

def spec_DrawExprValid.f (k : Nat) (l0 : List Int) : Option (Int × Int × (List (S25))) := (spec_l6Open.f l0).bind fun bt250 => ((spec_l6Rd_pick.f k bt250.1 bt250.2 6).bind fun bt253 => (if bt253.1 = 0 then ((spec_l91Expr.f k bt250.1 bt253.2 5).bind fun bt255 => ((spec_l91Leaf.f k bt250.1 bt255.2.2.2).bind fun bt261 => ((spec_l4Both.f 10 bt255.1 bt255.2.1 bt255.2.2.1 bt261.1 bt261.2.1 bt261.2.2.1).bind fun bt267 => (some (bt267.1, bt267.2.1, bt267.2.2))))) else ((spec_l91Spoilt.f k bt250.1 bt253.2).bind fun bt272 => (some (bt272.1, bt272.2.1, bt272.2.2.1)))))

def impl_OpValid.f (a0 : Int) : Option (Bool) := if a0 ≥ 1 then (some (decide (a0 ≤ 12))) else (some false)

def impl_exprValid.f : Nat → Int → Int → List (S25) → Int → Option (Bool)
  | 0, _, _, _, _ => none
  | k + 1, a0_0, a0_1, l0_2, a1 => if a0_0 = 0 then (if a0_1 ≥ 0 then (if a0_1 ≤ 99999 then (if (l0_2.length : Int) = 0 then (some (decide (a1 > 0))) else (some false)) else (some false)) else (some false)) else (if a0_0 = 13 then (if a0_1 ≥ 0 then (if a0_1 < 4 then (if (l0_2.length : Int) = 0 then (some (decide (a1 > 0))) else (some false)) else (some false)) else (some false)) else ((impl_OpValid.f a0_0).bind fun t279 => (if t279 = true then (if a0_1 = 0 then (if (l0_2.length : Int) = 2 then (if a1 > 1 then (if 0 < (l0_2.length : Int) then ((impl_exprValid.f k ((rd_T25 l0_2 0).f0) ((rd_T25 l0_2 0).f1) ((rd_T25 l0_2 0).f2) (wrap64 (a1 - 1))).bind fun t281 => (if t281 = true then (if 1 < (l0_2.length : Int) then ((impl_exprValid.f k ((rd_T25 l0_2 1).f0) ((rd_T25 l0_2 1).f1) ((rd_T25 l0_2 1).f2) (wrap64 (a1 - 1))).bind fun t283 => (some t283)) else (none)) else (some false))) else (none)) else (some false)) else (some false)) else (some false)) else (some false))))

def impl_ExprValid.f (k : Nat) (a0_0 : Int) (a0_1 : Int) (l0_2 : List (S25)) : Option (Bool) := (impl_exprValid.f k a0_0 a0_1 l0_2 5).bind fun t285 => (some t285)

def spec_l6In.f (a0 : Int) (a1 : Int) (a2 : Int) : Option (Bool) := if a0 ≥ a1 then (some (decide (a0 ≤ a2))) else (some false)

def spec_OpValid.f (a0 : Int) : Option (Bool) := (spec_l6In.f a0 1 12).bind fun t286 => (some t286)

def spec_l4Ok.f : Nat → Int → Int → List (S25) → Int → Option (Bool)
  | 0, _, _, _, _ => none
  | k + 1, a0_0, a0_1, l0_2, a1 => if a1 < 1 then (some false) else (if a0_0 = 0 then ((spec_l6In.f a0_1 0 99999).bind fun t288 => (if t288 = true then (some ((l0_2.length : Int) == 0)) else (some false))) else (if a0_0 = 13 then ((spec_l6In.f a0_1 0 3).bind fun t289 => (if t289 = true then (some ((l0_2.length : Int) == 0)) else (some false))) else ((spec_OpValid.f a0_0).bind fun t290 => (if t290 = true then (if a0_1 = 0 then (if (l0_2.length : Int) = 2 then (if 0 < (l0_2.length : Int) then ((spec_l4Ok.f k ((rd_T25 l0_2 0).f0) ((rd_T25 l0_2 0).f1) ((rd_T25 l0_2 0).f2) (wrap64 (a1 - 1))).bind fun t292 => (if t292 = true then (if 1 < (l0_2.length : Int) then ((spec_l4Ok.f k ((rd_T25 l0_2 1).f0) ((rd_T25 l0_2 1).f1) ((rd_T25 l0_2 1).f2) (wrap64 (a1 - 1))).bind fun t294 => (some t294)) else (none)) else (some false))) else (none)) else (some false)) else (some false)) else (some false)))))

def spec_ExprValid.f (k : Nat) (a0_0 : Int) (a0_1 : Int) (l0_2 : List (S25)) : Option (Bool) := (spec_l4Ok.f k a0_0 a0_1 l0_2 5).bind fun t296 => (some t296)

def laws_number.f (a0 : Int) : Option (Int × Int × (List (S25))) := some (0, a0, ([] : List (S25)))

def laws_FnExpr.f (k : Nat) (l0 : List Int) : Option Bool := if (l0.length : Int) > 1048576 then some true else ((spec_DrawExprValid.f k l0).bind fun d => (impl_ExprValid.f k d.1 d.2.1 d.2.2).bind fun a => (spec_ExprValid.f k d.1 d.2.1 d.2.2).bind fun b => if (a != b || !a) = true then some (a == b) else if d.2.2.length + 1 ≤ 1000000 then ((impl_ExprValid.f k d.1 d.2.1 (d.2.2 ++ [(⟨0, 1, []⟩ : S25)])).bind fun x => if d.2.2.length = 0 then some (!x) else if 1 < d.2.2.length then ((impl_ExprValid.f k (rd_T25 d.2.2 0).f0 (rd_T25 d.2.2 0).f1 (rd_T25 d.2.2 0).f2).bind fun p => if p = true then ((impl_ExprValid.f k (rd_T25 d.2.2 1).f0 (rd_T25 d.2.2 1).f1 (rd_T25 d.2.2 1).f2).bind fun q => if q = true then some (!x) else some false) else some false) else none) else none)

end Go.Proofs.Ytajifknepdikbaa.PA
