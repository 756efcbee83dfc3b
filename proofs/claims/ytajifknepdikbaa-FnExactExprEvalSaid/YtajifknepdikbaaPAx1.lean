-- made by a program of this session (wip/myprint.py over the kit's print)
import Derived.Test.YtajifknepdikbaaV
import Derived.Test.YtajifknepdikbaaPAx0
namespace Go.Proofs.Ytajifknepdikbaa.PA
open Go.RowKit Go.Proofs.YtajifknepdikbaaW.PrintWords Go.Proofs.YtajifknepdikbaaW.PrintLast Go.Proofs.YtajifknepdikbaaW.PrintMore
attribute [local go_sem] max2_int min2_int max_two min_two max_three min_three max_four min_four   -- for this text's walks alone
set_option linter.unusedVariables false
set_option linter.unusedSimpArgs false

-- FUNCTIONS
def spec_l6Open.f (l0 : List Int) : Option (List Int × Int) := if (l0.length : Int) > 2000 then (if 2000 ≤ (l0.length : Int) then (some (l0.take 2000, 0)) else (none)) else (some (l0, 0))

def spec_l6Rd_pick.j0 : Nat → Int → Bool → List Int → Int → Option (Int × Int)
  | 0, _, _, _, _ => none
  | k + 1, x1, x24, x1000, x1001 => if x24 = true then (some (0, x1001)) else (if (wrap64 (x1001 - 1)) < (x1000.length : Int) then (if 0 ≤ (wrap64 (x1001 - 1)) then (if x1 = 0 then (none) else (some (Int.tmod (wrap64 (rd x1000 (wrap64 (x1001 - 1)))) x1, x1001))) else (none)) else (if (x1000.length : Int) = 0 then (none) else (if 0 ≤ (Int.tmod (wrap64 (x1001 - 1)) (x1000.length : Int)) then (if (Int.tmod (wrap64 (x1001 - 1)) (x1000.length : Int)) < (x1000.length : Int) then (if 0 ≤ (Int.tmod (wrap64 ((wrap64 ((wrap64 (x1001 - 1)) * 7)) + 3)) (x1000.length : Int)) then (if (Int.tmod (wrap64 ((wrap64 ((wrap64 (x1001 - 1)) * 7)) + 3)) (x1000.length : Int)) < (x1000.length : Int) then (if x1 = 0 then (none) else (some (Int.tmod (Go.bits .xor .i64 (wrap64 ((wrap64 ((wrap64 ((wrap64 ((wrap64 (rd x1000 (Int.tmod (wrap64 (x1001 - 1)) (x1000.length : Int)))) * 131)) + (wrap64 ((wrap64 (rd x1000 (Int.tmod (wrap64 ((wrap64 ((wrap64 (x1001 - 1)) * 7)) + 3)) (x1000.length : Int)))) * 1117)))) + (wrap64 ((wrap64 (x1001 - 1)) * 29)))) + (wrap64 ((wrap64 (Int.tdiv (wrap64 (x1001 - 1)) (x1000.length : Int))) * 53)))) (wrap64 (Int.tdiv (wrap64 ((wrap64 ((wrap64 ((wrap64 ((wrap64 (rd x1000 (Int.tmod (wrap64 (x1001 - 1)) (x1000.length : Int)))) * 131)) + (wrap64 ((wrap64 (rd x1000 (Int.tmod (wrap64 ((wrap64 ((wrap64 (x1001 - 1)) * 7)) + 3)) (x1000.length : Int)))) * 1117)))) + (wrap64 ((wrap64 (x1001 - 1)) * 29)))) + (wrap64 ((wrap64 (Int.tdiv (wrap64 (x1001 - 1)) (x1000.length : Int))) * 53)))) 64))) x1, x1001))) else (none)) else (none)) else (none)) else (none))))
def spec_l6Rd_pick.f (k : Nat) (s0_0 : List Int) (s0_1 : Int) (a1 : Int) : Option (Int × Int) := if a1 < 1 then (spec_l6Rd_pick.j0 k a1 true s0_0 (wrap64 (s0_1 + 1))) else (spec_l6Rd_pick.j0 k a1 ((s0_0.length : Int) == 0) s0_0 (wrap64 (s0_1 + 1)))

def spec_l4Both.f (a0 : Int) (a1_0 : Int) (a1_1 : Int) (l1_2 : List (S25)) (a2_0 : Int) (a2_1 : Int) (l2_2 : List (S25)) : Option (Int × Int × (List (S25))) := some (a0, 0, (([(⟨a1_0, a1_1, l1_2⟩ : S25), (⟨a2_0, a2_1, l2_2⟩ : S25)] : List (S25))))

def spec_l4Leaf.f (a0 : Int) (a1 : Int) : Option (Int × Int × (List (S25))) := some (a0, a1, (([] : List (S25))))

def spec_l91Leaf.f (k : Nat) (s0_0 : List Int) (s0_1 : Int) : Option (Int × Int × (List (S25)) × Int) := (spec_l6Rd_pick.f k s0_0 s0_1 4).bind fun bt118 => (if bt118.1 = 0 then ((spec_l6Rd_pick.f k s0_0 bt118.2 4).bind fun bt120 => ((spec_l4Leaf.f 0 bt120.1).bind fun bt122 => (some (bt122.1, bt122.2.1, bt122.2.2, bt120.2)))) else (if bt118.1 = 1 then ((some (([5, 31, 32, 100, 2047, 2048, 65536, 99999] : List Int) : List Int)).bind fun y127 => ((spec_l6Rd_pick.f k s0_0 bt118.2 8).bind fun bt130 => (if 0 ≤ bt130.1 then (if bt130.1 < (y127.length : Int) then ((spec_l4Leaf.f 0 (rd y127 bt130.1)).bind fun bt133 => (some (bt133.1, bt133.2.1, bt133.2.2, bt130.2))) else (none)) else (none)))) else ((spec_l6Rd_pick.f k s0_0 bt118.2 4).bind fun bt138 => ((spec_l4Leaf.f 13 bt138.1).bind fun bt140 => (some (bt140.1, bt140.2.1, bt140.2.2, bt138.2))))))

def spec_l91Op.f (k : Nat) (s0_0 : List Int) (s0_1 : Int) : Option (Int × Int) := (spec_l6Rd_pick.f k s0_0 s0_1 12).bind fun bt145 => (some (wrap64 (1 + bt145.1), bt145.2))

mutual
def spec_l91Expr.j0 : Nat → Int → Bool → List Int → Int → Option (Int × Int × (List (S25)) × Int)
  | 0, _, _, _, _ => none
  | k + 1, x1, x13, x1000, x1001 => if x13 = true then ((spec_l91Leaf.f k x1000 x1001).bind fun bt150 => (some (bt150.1, bt150.2.1, bt150.2.2.1, bt150.2.2.2))) else ((spec_l91Op.f k x1000 x1001).bind fun bt156 => ((spec_l91Expr.f k x1000 bt156.2 (wrap64 (x1 - 1))).bind fun bt158 => ((spec_l91Expr.f k x1000 bt158.2.2.2 (wrap64 (x1 - 1))).bind fun bt165 => ((spec_l4Both.f bt156.1 bt158.1 bt158.2.1 bt158.2.2.1 bt165.1 bt165.2.1 bt165.2.2.1).bind fun bt171 => (some (bt171.1, bt171.2.1, bt171.2.2, bt165.2.2.2))))))
def spec_l91Expr.f : Nat → List Int → Int → Int → Option (Int × Int × (List (S25)) × Int)
  | 0, _, _, _ => none
  | k + 1, s0_0, s0_1, a1 => if a1 < 2 then (spec_l91Expr.j0 k a1 true s0_0 s0_1) else ((spec_l6Rd_pick.f k s0_0 s0_1 3).bind fun bt148 => (spec_l91Expr.j0 k a1 (bt148.1 == 0) s0_0 bt148.2))
end

def spec_l91Spoilt.f (k : Nat) (s0_0 : List Int) (s0_1 : Int) : Option (Int × Int × (List (S25)) × Int) := (spec_l6Rd_pick.f k s0_0 s0_1 4).bind fun bt177 => ((spec_l91Expr.f k s0_0 bt177.2 (wrap64 (2 + bt177.1))).bind fun bt179 => ((spec_l6Rd_pick.f k s0_0 bt179.2.2.2 40).bind fun bt186 => (if bt186.1 = 0 then ((some (([(-1), 100000] : List Int) : List Int)).bind fun y188 => ((spec_l6Rd_pick.f k s0_0 bt186.2 2).bind fun bt191 => (if 0 ≤ bt191.1 then (if bt191.1 < (y188.length : Int) then (some (bt179.1, rd y188 bt191.1, bt179.2.2.1, bt191.2)) else (none)) else (none)))) else (if bt186.1 = 1 then ((some (([(-1), 14] : List Int) : List Int)).bind fun y194 => ((spec_l6Rd_pick.f k s0_0 bt186.2 2).bind fun bt197 => (if 0 ≤ bt197.1 then (if bt197.1 < (y194.length : Int) then (some (rd y194 bt197.1, bt179.2.1, bt179.2.2.1, bt197.2)) else (none)) else (none)))) else (if bt186.1 = 2 then ((spec_l91Leaf.f k s0_0 bt186.2).bind fun bt200 => (if bt179.2.2.1.length < 3518437208883 then (some (bt179.1, bt179.2.1, (bt179.2.2.1 ++ [(⟨bt200.1, bt200.2.1, bt200.2.2.1⟩ : S25)]), bt200.2.2.2)) else (none))) else (if bt186.1 = 3 then ((spec_l91Leaf.f k s0_0 bt186.2).bind fun bt209 => ((spec_l4Both.f 8 bt179.1 bt179.2.1 bt179.2.2.1 bt209.1 bt209.2.1 bt209.2.2.1).bind fun bt215 => ((spec_l91Expr.f k s0_0 bt209.2.2.2 5).bind fun bt220 => ((spec_l4Both.f 8 bt215.1 bt215.2.1 bt215.2.2 bt220.1 bt220.2.1 bt220.2.2.1).bind fun bt226 => (some (bt226.1, bt226.2.1, bt226.2.2, bt220.2.2.2)))))) else (if bt186.1 = 4 then ((spec_l91Op.f k s0_0 bt186.2).bind fun bt231 => ((spec_l91Expr.f k s0_0 bt231.2 4).bind fun bt233 => ((spec_l4Leaf.f 13 4).bind fun bt239 => ((spec_l4Both.f bt231.1 bt233.1 bt233.2.1 bt233.2.2.1 bt239.1 bt239.2.1 bt239.2.2).bind fun bt244 => (some (bt244.1, bt244.2.1, bt244.2.2, bt233.2.2.2)))))) else (some (bt179.1, bt179.2.1, bt179.2.2.1, bt186.2)))))))))

def spec_DrawExprValid.f (k : Nat) (l0 : List Int) : Option (Int × Int × (List (S25))) := (spec_l6Open.f l0).bind fun bt250 => ((spec_l6Rd_pick.f k bt250.1 bt250.2 6).bind fun bt253 => (if bt253.1 = 0 then ((spec_l91Expr.f k bt250.1 bt253.2 5).bind fun bt255 => ((spec_l91Leaf.f k bt250.1 bt255.2.2.2).bind fun bt261 => ((spec_l4Both.f 10 bt255.1 bt255.2.1 bt255.2.2.1 bt261.1 bt261.2.1 bt261.2.2.1).bind fun bt267 => (some (bt267.1, bt267.2.1, bt267.2.2))))) else ((spec_l91Spoilt.f k bt250.1 bt253.2).bind fun bt272 => (some (bt272.1, bt272.2.1, bt272.2.2.1)))))

def impl_OpValid.f (a0 : Int) : Option (Bool) := if a0 ≥ 1 then (some (decide (a0 ≤ 12))) else (some false)

def impl_exprValid.f : Nat → Int → Int → List (S25) → Int → Option (Bool)
  | 0, _, _, _, _ => none
  | k + 1, a0_0, a0_1, l0_2, a1 => if a0_0 = 0 then (if a0_1 ≥ 0 then (if a0_1 ≤ 99999 then (if (l0_2.length : Int) = 0 then (some (decide (a1 > 0))) else (some false)) else (some false)) else (some false)) else (if a0_0 = 13 then (if a0_1 ≥ 0 then (if a0_1 < 4 then (if (l0_2.length : Int) = 0 then (some (decide (a1 > 0))) else (some false)) else (some false)) else (some false)) else ((impl_OpValid.f a0_0).bind fun t279 => (if t279 = true then (if a0_1 = 0 then (if (l0_2.length : Int) = 2 then (if a1 > 1 then (if 0 < (l0_2.length : Int) then ((impl_exprValid.f k ((rd_T25 l0_2 0).f0) ((rd_T25 l0_2 0).f1) ((rd_T25 l0_2 0).f2) (wrap64 (a1 - 1))).bind fun t281 => (if t281 = true then (if 1 < (l0_2.length : Int) then ((impl_exprValid.f k ((rd_T25 l0_2 1).f0) ((rd_T25 l0_2 1).f1) ((rd_T25 l0_2 1).f2) (wrap64 (a1 - 1))).bind fun t283 => (some t283)) else (none)) else (some false))) else (none)) else (some false)) else (some false)) else (some false)) else (some false))))

def impl_ExprValid.f (k : Nat) (a0_0 : Int) (a0_1 : Int) (l0_2 : List (S25)) : Option (Bool) := (impl_exprValid.f k a0_0 a0_1 l0_2 5).bind fun t285 => (some t285)

def spec_l6In.f (a0 : Int) (a1 : Int) (a2 : Int) : Option (Bool) := if a0 ≥ a1 then (some (decide (a0 ≤ a2))) else (some false)

def spec_OpValid.f (a0 : Int) : Option (Bool) := (spec_l6In.f a0 1 12).bind fun t286 => (some t286)

def spec_l4Ok.f : Nat → Int → Int → List (S25) → Int → Option (Bool)
  | 0, _, _, _, _ => none
  | k + 1, a0_0, a0_1, l0_2, a1 => if a1 < 1 then (some false) else (if a0_0 = 0 then ((spec_l6In.f a0_1 0 99999).bind fun t288 => (if t288 = true then (some ((l0_2.length : Int) == 0)) else (some false))) else (if a0_0 = 13 then ((spec_l6In.f a0_1 0 3).bind fun t289 => (if t289 = true then (some ((l0_2.length : Int) == 0)) else (some false))) else ((spec_OpValid.f a0_0).bind fun t290 => (if t290 = true then (if a0_1 = 0 then (if (l0_2.length : Int) = 2 then (if 0 < (l0_2.length : Int) then ((spec_l4Ok.f k ((rd_T25 l0_2 0).f0) ((rd_T25 l0_2 0).f1) ((rd_T25 l0_2 0).f2) (wrap64 (a1 - 1))).bind fun t292 => (if t292 = true then (if 1 < (l0_2.length : Int) then ((spec_l4Ok.f k ((rd_T25 l0_2 1).f0) ((rd_T25 l0_2 1).f1) ((rd_T25 l0_2 1).f2) (wrap64 (a1 - 1))).bind fun t294 => (some t294)) else (none)) else (some false))) else (none)) else (some false)) else (some false)) else (some false)))))

def spec_ExprValid.f (k : Nat) (a0_0 : Int) (a0_1 : Int) (l0_2 : List (S25)) : Option (Bool) := (spec_l4Ok.f k a0_0 a0_1 l0_2 5).bind fun t296 => (some t296)

def laws_number.f (a0 : Int) : Option (Int × Int × (List (S25))) := some (0, a0, ([] : List (S25)))

def laws_FnExpr.j0 : Nat → Bool → Bool → Bool → Int → Int → List (S25) → Option (Bool)
  | 0, _, _, _, _, _, _ => none
  | k + 1, x4, x5, x22, x304000, x304001, x304002 => if x22 = true then (some (x4 == x5)) else ((some (([] : List (S25)) : List (S25))).bind fun y306 => (if y306.length + x304002.length < 3518437208883 then ((some (y306 ++ x304002 : List (S25))).bind fun y309 => ((laws_number.f 1).bind fun bt312 => ((some (([(⟨bt312.1, bt312.2.1, bt312.2.2⟩ : S25)] : List (S25)) : List (S25))).bind fun y317 => (if y309.length + y317.length < 3518437208883 then ((some (y309 ++ y317 : List (S25))).bind fun y320 => (if (x304002.length : Int) = 0 then ((impl_ExprValid.f k x304000 x304001 y320).bind fun t324 => (some (!t324))) else (if 0 < (x304002.length : Int) then ((impl_ExprValid.f k ((rd_T25 x304002 0).f0) ((rd_T25 x304002 0).f1) ((rd_T25 x304002 0).f2)).bind fun t326 => (if t326 = true then (if 1 < (x304002.length : Int) then ((impl_ExprValid.f k ((rd_T25 x304002 1).f0) ((rd_T25 x304002 1).f1) ((rd_T25 x304002 1).f2)).bind fun t328 => (if t328 = true then ((impl_ExprValid.f k x304000 x304001 y320).bind fun t329 => (some (!t329))) else (some false))) else (none)) else (some false))) else (none)))) else (none))))) else (none)))
def laws_FnExpr.f (k : Nat) (l0 : List Int) : Option (Bool) := if (l0.length : Int) > 1048576 then (some true) else ((spec_DrawExprValid.f k l0).bind fun bt298 => ((impl_ExprValid.f k bt298.1 bt298.2.1 bt298.2.2).bind fun t304 => ((spec_ExprValid.f k bt298.1 bt298.2.1 bt298.2.2).bind fun t305 => (if (t304 != t305) = true then (laws_FnExpr.j0 k t304 t305 true bt298.1 bt298.2.1 bt298.2.2) else (laws_FnExpr.j0 k t304 t305 (!t304) bt298.1 bt298.2.1 bt298.2.2)))))

mutual
def impl_exprDepth.l0 : Nat → Int → List (S25) → Int → Int → Option (Int)
  | 0, _, _, _, _ => none
  | k + 1, x3, x7, x8, x9 => if x9 < x8 then (if 0 ≤ x9 then (if x9 < (x7.length : Int) then ((impl_exprDepth.f k ((rd_T25 x7 x9).f0) ((rd_T25 x7 x9).f1) ((rd_T25 x7 x9).f2)).bind fun t333 => (impl_exprDepth.l0 k (mx x3 t333) x7 x8 (wrap64 (x9 + 1)))) else (none)) else (none)) else (some (wrap64 (x3 + 1)))
def impl_exprDepth.f : Nat → Int → Int → List (S25) → Option (Int)
  | 0, _, _, _ => none
  | k + 1, a0_0, a0_1, l0_2 => impl_exprDepth.l0 k 0 l0_2 (l0_2.length : Int) 0
end

def impl_ExprDepth.f (k : Nat) (a0_0 : Int) (a0_1 : Int) (l0_2 : List (S25)) : Option (Int) := (impl_ExprValid.f k a0_0 a0_1 l0_2).bind fun t335 => (if t335 = true then ((impl_exprDepth.f k a0_0 a0_1 l0_2).bind fun t336 => (some t336)) else (some 0))

def laws_both.f (a0 : Int) (a1_0 : Int) (a1_1 : Int) (l1_2 : List (S25)) (a2_0 : Int) (a2_1 : Int) (l2_2 : List (S25)) : Option (Int × Int × (List (S25))) := some (a0, 0, (([(⟨a1_0, a1_1, l1_2⟩ : S25), (⟨a2_0, a2_1, l2_2⟩ : S25)] : List (S25))))

def laws_FnExprDeeper.j0 : Nat → Bool → Bool → Bool → Int → Int → List (S25) → Option (Bool)
  | 0, _, _, _, _, _, _ => none
  | k + 1, x4, x5, x22, x349000, x349001, x349002 => if x22 = true then (some (x4 == x5)) else ((impl_ExprDepth.f k x349000 x349001 x349002).bind fun t351 => ((laws_number.f 3).bind fun bt352 => ((laws_both.f 6 x349000 x349001 x349002 bt352.1 bt352.2.1 bt352.2.2).bind fun bt357 => ((impl_ExprValid.f k bt357.1 bt357.2.1 bt357.2.2).bind fun t362 => (if (t362 == (decide (t351 < 5))) = true then ((laws_number.f 99999).bind fun bt363 => ((laws_both.f 12 bt363.1 bt363.2.1 bt363.2.2 x349000 x349001 x349002).bind fun bt368 => ((impl_ExprValid.f k bt368.1 bt368.2.1 bt368.2.2).bind fun t373 => (if (t373 == (decide (t351 < 5))) = true then ((laws_number.f 100000).bind fun bt374 => ((laws_both.f 8 x349000 x349001 x349002 bt374.1 bt374.2.1 bt374.2.2).bind fun bt379 => ((impl_ExprValid.f k bt379.1 bt379.2.1 bt379.2.2).bind fun t384 => (some (!t384))))) else (some false))))) else (some false))))))
def laws_FnExprDeeper.f (k : Nat) (l0 : List Int) : Option (Bool) := if (l0.length : Int) > 1048576 then (some true) else ((spec_DrawExprValid.f k l0).bind fun bt343 => ((impl_ExprValid.f k bt343.1 bt343.2.1 bt343.2.2).bind fun t349 => ((spec_ExprValid.f k bt343.1 bt343.2.1 bt343.2.2).bind fun t350 => (if (t349 != t350) = true then (laws_FnExprDeeper.j0 k t349 t350 true bt343.1 bt343.2.1 bt343.2.2) else (laws_FnExprDeeper.j0 k t349 t350 (!t349) bt343.1 bt343.2.1 bt343.2.2)))))

mutual
def laws_szExprS.l0 : Nat → List (S34) → Int → Int → Option (Int)
  | 0, _, _, _ => none
  | k + 1, x0, x1, x5 => if x5 < (x0.length : Int) then (if 0 ≤ x5 then ((laws_szExpr.f k ((rd_T34 x0 x5).f0) ((rd_T34 x0 x5).f1) ((rd_T34 x0 x5).f2) x1).bind fun t386 => (if t386 < 0 then (some (-1)) else (laws_szExprS.l0 k x0 t386 (wrap64 (x5 + 1))))) else (none)) else (some x1)
def laws_szExprS.f : Nat → List (S34) → Int → Option (Int)
  | 0, _, _ => none
  | k + 1, l0, a1 => if (wrap64 (a1 - (l0.length : Int))) < 0 then (some (-1)) else (laws_szExprS.l0 k l0 (wrap64 (a1 - (l0.length : Int))) 0)
def laws_szExpr.f : Nat → Int → Int → List (S34) → Int → Option (Int)
  | 0, _, _, _, _ => none
  | k + 1, a0_0, a0_1, l0_2, a1 => (laws_szExprS.f k l0_2 a1).bind fun t388 => (if t388 < 0 then (some (-1)) else (some t388))
end



def spec_WordValid.f (a0 : Int) : Option (Bool) := (spec_l6In.f a0 (-2147483648) 2147483647).bind fun t389 => (some t389)

def spec_l4Words.l0 : Nat → List Int → Int → Option (Bool)
  | 0, _, _ => none
  | k + 1, x0, x5 => if x5 < (x0.length : Int) then (if 0 ≤ x5 then ((spec_WordValid.f (rd x0 x5)).bind fun t391 => (if t391 = true then (spec_l4Words.l0 k x0 (wrap64 (x5 + 1))) else (some false))) else (none)) else (some true)
def spec_l4Words.f (k : Nat) (l0 : List Int) (a1 : Int) : Option (Bool) := if (l0.length : Int) = a1 then (spec_l4Words.l0 k l0 0) else (some false)

def spec_l2Flag.f (a0 : Bool) : Option (Int) := if a0 = true then (some 1) else (some 0)

def spec_Wrap.f (a0 : Int) : Option (Int) := if (Int.tmod a0 4294967296) > 2147483647 then (some (wrap64 ((Int.tmod a0 4294967296) - 4294967296))) else (if (Int.tmod a0 4294967296) < (-2147483648) then (some (wrap64 ((Int.tmod a0 4294967296) + 4294967296))) else (some (Int.tmod a0 4294967296)))

def spec_l2Shift.f (a0 : Int) (a1 : Int) (a2 : Bool) : Option (Int) := if a2 = true then (if 0 ≤ (Go.bits .and .i64 a1 31) then (some (shr .i64 a0 (Go.bits .and .i64 a1 31))) else (none)) else (if 0 ≤ (Go.bits .and .i64 a1 31) then ((spec_Wrap.f (shl .i64 a0 (Go.bits .and .i64 a1 31))).bind fun t392 => (some t392)) else (none))

def spec_l2Divide.f (a0 : Int) (a1 : Int) : Option (Int) := if a1 = 0 then (some (-1)) else ((spec_Wrap.f (wrap64 (Int.tdiv a0 a1))).bind fun t393 => (some t393))

def spec_l2Remain.f (a0 : Int) (a1 : Int) : Option (Int) := if a1 = 0 then (some a0) else (some (Int.tmod a0 a1))

def spec_Apply.j0 : Nat → Int → Int → Int → Bool → Option (Int × Bool)
  | 0, _, _, _, _ => none
  | k + 1, x0, x1, x2, x20 => if x20 = true then (some (0, false)) else (if x0 = 1 then (some (Go.bits .or .i64 x1 x2, true)) else (if x0 = 2 then (some (Go.bits .xor .i64 x1 x2, true)) else (if x0 = 3 then (some (Go.bits .and .i64 x1 x2, true)) else (if x0 = 4 then ((spec_l2Flag.f (x1 == x2)).bind fun t397 => (some (t397, true))) else (if x0 = 5 then ((spec_l2Flag.f (decide (x1 < x2))).bind fun t398 => (some (t398, true))) else (if x0 = 6 then ((spec_l2Shift.f x1 x2 false).bind fun t399 => (some (t399, true))) else (if x0 = 7 then ((spec_l2Shift.f x1 x2 true).bind fun t400 => (some (t400, true))) else (if x0 = 8 then ((spec_Wrap.f (wrap64 (x1 + x2))).bind fun t401 => (some (t401, true))) else (if x0 = 9 then ((spec_Wrap.f (wrap64 (x1 - x2))).bind fun t402 => (some (t402, true))) else (if x0 = 10 then ((spec_Wrap.f (wrap64 (x1 * x2))).bind fun t403 => (some (t403, true))) else (if x0 = 11 then ((spec_l2Divide.f x1 x2).bind fun t404 => (some (t404, true))) else ((spec_l2Remain.f x1 x2).bind fun t405 => (some (t405, true))))))))))))))
def spec_Apply.f (k : Nat) (a0 : Int) (a1 : Int) (a2 : Int) : Option (Int × Bool) := (spec_OpValid.f a0).bind fun t394 => (if t394 = true then ((spec_WordValid.f a1).bind fun t395 => (if t395 = true then ((spec_WordValid.f a2).bind fun t396 => (spec_Apply.j0 k a0 a1 a2 (!t396))) else (spec_Apply.j0 k a0 a1 a2 true))) else (spec_Apply.j0 k a0 a1 a2 true))

def spec_l4Eval.f : Nat → Int → Int → List (S25) → List Int → Option (Int)
  | 0, _, _, _, _ => none
  | k + 1, a0_0, a0_1, l0_2, l1 => if a0_0 = 0 then (some a0_1) else (if a0_0 = 13 then (if 0 ≤ a0_1 then (if a0_1 < (l1.length : Int) then (some (rd l1 a0_1)) else (none)) else (none)) else (if 0 < (l0_2.length : Int) then ((spec_l4Eval.f k ((rd_T25 l0_2 0).f0) ((rd_T25 l0_2 0).f1) ((rd_T25 l0_2 0).f2) l1).bind fun t409 => (if 1 < (l0_2.length : Int) then ((spec_l4Eval.f k ((rd_T25 l0_2 1).f0) ((rd_T25 l0_2 1).f1) ((rd_T25 l0_2 1).f2) l1).bind fun t411 => ((spec_Apply.f k a0_0 t409 t411).bind fun bt412 => (some bt412.1))) else (none))) else (none)))

def spec_ExprEval.f (k : Nat) (a0_0 : Int) (a0_1 : Int) (l0_2 : List (S25)) (l1 : List Int) : Option (Int × Bool) := (spec_ExprValid.f k a0_0 a0_1 l0_2).bind fun t415 => (if t415 = true then ((spec_l4Words.f k l1 4).bind fun t416 => (if t416 = true then ((spec_l4Eval.f k a0_0 a0_1 l0_2 l1).bind fun t417 => (some (t417, true))) else (some (0, false)))) else (some (0, false)))

mutual
def laws_toExprS.l0 : Nat → List (S34) → List (S25) → Int → Option ((List (S25)))
  | 0, _, _, _ => none
  | k + 1, x0, x3, x4 => if x4 < (x0.length : Int) then (if 0 ≤ x4 then ((laws_toExpr.f k ((rd_T34 x0 x4).f0) ((rd_T34 x0 x4).f1) ((rd_T34 x0 x4).f2)).bind fun bt422 => (if x4 < (x3.length : Int) then (laws_toExprS.l0 k x0 (x3.set (x4 : Int).toNat (⟨bt422.1, bt422.2.1, bt422.2.2⟩ : S25)) (wrap64 (x4 + 1))) else (none))) else (none)) else (some x3)
def laws_toExprS.f : Nat → List (S34) → Option ((List (S25)))
  | 0, _ => none
  | k + 1, l0 => if 0 ≤ (l0.length : Int) then (if ((l0.length : Int) : Int).toNat ≤ 7036874417766 then (laws_toExprS.l0 k l0 (List.replicate ((l0.length : Int) : Int).toNat z25) 0) else (none)) else (none)
def laws_toExpr.f : Nat → Int → Int → List (S34) → Option (Int × Int × (List (S25)))
  | 0, _, _, _ => none
  | k + 1, a0_0, a0_1, l0_2 => (laws_toExprS.f k l0_2).bind fun t431 => (some (a0_0, a0_1, t431))
end



def laws_toIntS.l0 : Nat → List Int → List Int → Int → Option (List Int)
  | 0, _, _, _ => none
  | k + 1, x0, x3, x4 => if x4 < (x0.length : Int) then (if 0 ≤ x4 then (if x4 < (x3.length : Int) then (laws_toIntS.l0 k x0 (x3.set (x4 : Int).toNat (rd x0 x4)) (wrap64 (x4 + 1))) else (none)) else (none)) else (some x3)
def laws_toIntS.f (k : Nat) (l0 : List Int) : Option (List Int) := if 0 ≤ (l0.length : Int) then (if ((l0.length : Int) : Int).toNat ≤ 35184372088832 then (laws_toIntS.l0 k l0 (List.replicate ((l0.length : Int) : Int).toNat 0) 0) else (none)) else (none)

def impl_WordValid.f (a0 : Int) : Option (Bool) := if a0 ≥ (-2147483648) then (some (decide (a0 ≤ 2147483647))) else (some false)

def impl_areWords.l0 : Nat → List Int → Int → Int → Option (Bool)
  | 0, _, _, _ => none
  | k + 1, x5, x6, x7 => if x7 < x6 then (if 0 ≤ x7 then (if x7 < (x5.length : Int) then ((impl_WordValid.f (rd x5 x7)).bind fun t440 => (if t440 = true then (impl_areWords.l0 k x5 x6 (wrap64 (x7 + 1))) else (some false))) else (none)) else (none)) else (some true)
def impl_areWords.f (k : Nat) (l0 : List Int) : Option (Bool) := impl_areWords.l0 k l0 (l0.length : Int) 0

def impl_Wrap.f (a0 : Int) : Option (Int) := some (wrap64 (wrap32 (a0)))

def impl_truth.f (a0 : Bool) : Option (Int) := if a0 = true then (some 1) else (some 0)

def impl_apply.f (a0 : Int) (a1 : Int) (a2 : Int) : Option (Int) := if a0 = 1 then (some (Go.bits .or .i64 a1 a2)) else (if a0 = 2 then (some (Go.bits .xor .i64 a1 a2)) else (if a0 = 3 then (some (Go.bits .and .i64 a1 a2)) else (if a0 = 4 then ((impl_truth.f (a1 == a2)).bind fun t441 => (some t441)) else (if a0 = 5 then ((impl_truth.f (decide (a1 < a2))).bind fun t442 => (some t442)) else (if a0 = 6 then (if 0 ≤ (Go.bits .and .i64 a2 31) then ((impl_Wrap.f (shl .i64 a1 (Go.bits .and .i64 a2 31))).bind fun t443 => (some t443)) else (none)) else (if a0 = 7 then (if 0 ≤ (Go.bits .and .i64 a2 31) then (some (shr .i64 a1 (Go.bits .and .i64 a2 31))) else (none)) else (if a0 = 8 then ((impl_Wrap.f (wrap64 (a1 + a2))).bind fun t444 => (some t444)) else (if a0 = 9 then ((impl_Wrap.f (wrap64 (a1 - a2))).bind fun t445 => (some t445)) else (if a0 = 10 then ((impl_Wrap.f (wrap64 (a1 * a2))).bind fun t446 => (some t446)) else (if a0 = 11 then (if a2 = 0 then (some (-1)) else ((impl_Wrap.f (wrap64 (Int.tdiv a1 a2))).bind fun t447 => (some t447))) else (if a2 = 0 then (some a1) else (some (Int.tmod a1 a2)))))))))))))

def impl_exprEval.f : Nat → Int → Int → List (S25) → List Int → Option (Int)
  | 0, _, _, _, _ => none
  | k + 1, a0_0, a0_1, l0_2, l1 => if a0_0 = 0 then (some a0_1) else (if a0_0 = 13 then (if 0 ≤ a0_1 then (if a0_1 < (l1.length : Int) then (some (rd l1 a0_1)) else (none)) else (none)) else (if 0 < (l0_2.length : Int) then ((impl_exprEval.f k ((rd_T25 l0_2 0).f0) ((rd_T25 l0_2 0).f1) ((rd_T25 l0_2 0).f2) l1).bind fun x => (if 1 < (l0_2.length : Int) then ((impl_exprEval.f k ((rd_T25 l0_2 1).f0) ((rd_T25 l0_2 1).f1) ((rd_T25 l0_2 1).f2) l1).bind fun y => (impl_apply.f a0_0 x y)) else (none))) else (none)))

def impl_ExprEval.f (k : Nat) (a0_0 : Int) (a0_1 : Int) (l0_2 : List (S25)) (l1 : List Int) : Option (Int × Bool) := (impl_ExprValid.f k a0_0 a0_1 l0_2).bind fun t449 => (if t449 = true then (if (l1.length : Int) = 4 then ((impl_areWords.f k l1).bind fun t450 => (if t450 = true then ((impl_exprEval.f k a0_0 a0_1 l0_2 l1).bind fun t451 => (some (t451, true))) else (some (0, false)))) else (some (0, false))) else (some (0, false)))

mutual
def laws_eqExprS.l0 : Nat → List (S25) → List (S25) → Int → Option (Bool)
  | 0, _, _, _ => none
  | k + 1, x0, x1, x5 => if x5 < (x0.length : Int) then (if 0 ≤ x5 then (if x5 < (x1.length : Int) then ((laws_eqExpr.f k ((rd_T25 x0 x5).f0) ((rd_T25 x0 x5).f1) ((rd_T25 x0 x5).f2) ((rd_T25 x1 x5).f0) ((rd_T25 x1 x5).f1) ((rd_T25 x1 x5).f2)).bind fun t454 => (if t454 = true then (laws_eqExprS.l0 k x0 x1 (wrap64 (x5 + 1))) else (some false))) else (none)) else (none)) else (some true)
def laws_eqExprS.f : Nat → List (S25) → List (S25) → Option (Bool)
  | 0, _, _ => none
  | k + 1, l0, l1 => if (l0.length : Int) = (l1.length : Int) then (laws_eqExprS.l0 k l0 l1 0) else (some false)
def laws_eqExpr.f : Nat → Int → Int → List (S25) → Int → Int → List (S25) → Option (Bool)
  | 0, _, _, _, _, _, _ => none
  | k + 1, a0_0, a0_1, l0_2, a1_0, a1_1, l1_2 => if a0_0 = a1_0 then (if a0_1 = a1_1 then ((laws_eqExprS.f k l0_2 l1_2).bind fun t457 => (if t457 = true then (some true) else (some false))) else (some false)) else (some false)
end



def laws_eqIntS.l0 : Nat → List Int → List Int → Int → Option (Bool)
  | 0, _, _, _ => none
  | k + 1, x0, x1, x5 => if x5 < (x0.length : Int) then (if 0 ≤ x5 then (if x5 < (x1.length : Int) then (if (rd x0 x5) = (rd x1 x5) then (laws_eqIntS.l0 k x0 x1 (wrap64 (x5 + 1))) else (some false)) else (none)) else (none)) else (some true)
def laws_eqIntS.f (k : Nat) (l0 : List Int) (l1 : List Int) : Option (Bool) := if (l0.length : Int) = (l1.length : Int) then (laws_eqIntS.l0 k l0 l1 0) else (some false)

def laws_FnExactExprEval.j0 : Nat → List Int → List Int → Bool → Int → Int → List (S34) → Int → Int → List (S25) → Option (Bool)
  | 0, _, _, _, _, _, _, _, _, _ => none
  | k + 1, x1, x9, x45, x461000, x461001, x461002, x478000, x478001, x478002 => if x45 = true then (some false) else ((laws_toExpr.f k x461000 x461001 x461002).bind fun bt483 => ((laws_eqExpr.f k x478000 x478001 x478002 bt483.1 bt483.2.1 bt483.2.2).bind fun t488 => (if t488 = true then ((laws_toIntS.f k x1).bind fun t489 => ((laws_eqIntS.f k x9 t489).bind fun t492 => (if t492 = true then (some true) else (some false)))) else (some false))))
def laws_FnExactExprEval.f (k : Nat) (a0_0 : Int) (a0_1 : Int) (l0_2 : List (S34)) (l1 : List Int) : Option (Bool) := if (l1.length : Int) > 1048576 then (some true) else ((laws_szExpr.f k a0_0 a0_1 l0_2 1048576).bind fun t461 => (if t461 < 0 then (some true) else ((laws_toExpr.f k a0_0 a0_1 l0_2).bind fun bt462 => ((laws_toIntS.f k l1).bind fun t467 => ((spec_ExprEval.f k bt462.1 bt462.2.1 bt462.2.2 t467).bind fun bt470 => ((laws_toExpr.f k a0_0 a0_1 l0_2).bind fun bt472 => ((laws_toIntS.f k l1).bind fun t478 => ((impl_ExprEval.f k bt472.1 bt472.2.1 bt472.2.2 t478).bind fun bt481 => (if bt481.1 = bt470.1 then (laws_FnExactExprEval.j0 k l1 t478 (bt481.2 != bt470.2) a0_0 a0_1 l0_2 bt472.1 bt472.2.1 bt472.2.2) else (laws_FnExactExprEval.j0 k l1 t478 true a0_0 a0_1 l0_2 bt472.1 bt472.2.1 bt472.2.2))))))))))

mutual
def spec_l4Fold.j0 : Nat → Bool → Int → Int → List (S25) → Int → Int → List (S25) → Int → Int → List (S25) → Option (Int × Int × (List (S25)))
  | 0, _, _, _, _, _, _, _, _, _, _ => none
  | k + 1, x33, x494000, x494001, x494002, x507000, x507001, x507002, x514000, x514001, x514002 => if x33 = true then ((spec_Apply.f k x494000 x507001 x514001).bind fun bt514 => ((spec_l6In.f bt514.1 0 99999).bind fun t516 => (if t516 = true then ((spec_l4Leaf.f 0 bt514.1).bind fun bt517 => (some (bt517.1, bt517.2.1, bt517.2.2))) else ((spec_l4Both.f x494000 x507000 x507001 x507002 x514000 x514001 x514002).bind fun bt522 => (some (bt522.1, bt522.2.1, bt522.2.2)))))) else ((spec_l4Both.f x494000 x507000 x507001 x507002 x514000 x514001 x514002).bind fun bt527 => (some (bt527.1, bt527.2.1, bt527.2.2)))
def spec_l4Fold.f : Nat → Int → Int → List (S25) → Option (Int × Int × (List (S25)))
  | 0, _, _, _ => none
  | k + 1, a0_0, a0_1, l0_2 => if (l0_2.length : Int) = 0 then ((spec_l4Leaf.f a0_0 a0_1).bind fun bt495 => (some (bt495.1, bt495.2.1, bt495.2.2))) else (if 0 < (l0_2.length : Int) then ((spec_l4Fold.f k ((rd_T25 l0_2 0).f0) ((rd_T25 l0_2 0).f1) ((rd_T25 l0_2 0).f2)).bind fun bt501 => (if 1 < (l0_2.length : Int) then ((spec_l4Fold.f k ((rd_T25 l0_2 1).f0) ((rd_T25 l0_2 1).f1) ((rd_T25 l0_2 1).f2)).bind fun bt508 => (if bt501.1 = 0 then (spec_l4Fold.j0 k (bt508.1 == 0) a0_0 a0_1 l0_2 bt501.1 bt501.2.1 bt501.2.2 bt508.1 bt508.2.1 bt508.2.2) else (spec_l4Fold.j0 k false a0_0 a0_1 l0_2 bt501.1 bt501.2.1 bt501.2.2 bt508.1 bt508.2.1 bt508.2.2))) else (none))) else (none))
end

def spec_ExprFold.f (k : Nat) (a0_0 : Int) (a0_1 : Int) (l0_2 : List (S25)) : Option (Int × Int × (List (S25)) × Bool) := (spec_ExprValid.f k a0_0 a0_1 l0_2).bind fun t534 => (if t534 = true then ((spec_l4Fold.f k a0_0 a0_1 l0_2).bind fun bt535 => (some (bt535.1, bt535.2.1, bt535.2.2, true))) else (some (0, 0, ([] : List (S25)), false)))

mutual
def impl_exprFold.j0 : Nat → Bool → Int → Int → List (S25) → Int → Int → List (S25) → Int → Int → List (S25) → Option (Int × Int × (List (S25)))
  | 0, _, _, _, _, _, _, _, _, _, _ => none
  | k + 1, x32, x541000, x541001, x541002, x555000, x555001, x555002, x556000, x556001, x556002 => if x32 = true then ((impl_apply.f x541000 x555001 x556001).bind fun t556 => (if t556 ≥ 0 then (if t556 ≤ 99999 then (some (0, t556, ([] : List (S25)))) else (some (x541000, 0, (([(⟨x555000, x555001, x555002⟩ : S25), (⟨x556000, x556001, x556002⟩ : S25)] : List (S25)))))) else (some (x541000, 0, (([(⟨x555000, x555001, x555002⟩ : S25), (⟨x556000, x556001, x556002⟩ : S25)] : List (S25))))))) else (some (x541000, 0, (([(⟨x555000, x555001, x555002⟩ : S25), (⟨x556000, x556001, x556002⟩ : S25)] : List (S25)))))
def impl_exprFold.f : Nat → Int → Int → List (S25) → Option (Int × Int × (List (S25)))
  | 0, _, _, _ => none
  | k + 1, a0_0, a0_1, l0_2 => if (l0_2.length : Int) = 0 then (some (a0_0, a0_1, ([] : List (S25)))) else (if 0 < (l0_2.length : Int) then ((impl_exprFold.f k ((rd_T25 l0_2 0).f0) ((rd_T25 l0_2 0).f1) ((rd_T25 l0_2 0).f2)).bind fun bt543 => (if 1 < (l0_2.length : Int) then ((impl_exprFold.f k ((rd_T25 l0_2 1).f0) ((rd_T25 l0_2 1).f1) ((rd_T25 l0_2 1).f2)).bind fun bt549 => (if bt543.1 = 0 then (impl_exprFold.j0 k (bt549.1 == 0) a0_0 a0_1 l0_2 bt543.1 bt543.2.1 bt543.2.2 bt549.1 bt549.2.1 bt549.2.2) else (impl_exprFold.j0 k false a0_0 a0_1 l0_2 bt543.1 bt543.2.1 bt543.2.2 bt549.1 bt549.2.1 bt549.2.2))) else (none))) else (none))
end

def impl_ExprFold.f (k : Nat) (a0_0 : Int) (a0_1 : Int) (l0_2 : List (S25)) : Option (Int × Int × (List (S25)) × Bool) := (impl_ExprValid.f k a0_0 a0_1 l0_2).bind fun t568 => (if t568 = true then ((impl_exprFold.f k a0_0 a0_1 l0_2).bind fun bt569 => (some (bt569.1, bt569.2.1, bt569.2.2, true))) else (some (0, 0, ([] : List (S25)), false)))

mutual
def laws_heldExprS.l0 : Nat → List (S25) → Int → Int → Option (Int)
  | 0, _, _, _ => none
  | k + 1, x0, x1, x5 => if x5 < (x0.length : Int) then (if 0 ≤ x5 then (if ((rd_T25 x0 x5).f0) = x1 then (if ((rd_T25 x0 x5).f1) = (wrap64 (x1 + 1)) then ((laws_heldExprS.f k ((rd_T25 x0 x5).f2) (wrap64 ((wrap64 (x1 + 1)) + 1))).bind fun t578 => (if t578 < 0 then (some (-1)) else (laws_heldExprS.l0 k x0 t578 (wrap64 (x5 + 1))))) else (some (-1))) else (some (-1))) else (none)) else (some x1)
def laws_heldExprS.f : Nat → List (S25) → Int → Option (Int)
  | 0, _, _ => none
  | k + 1, l0, a1 => laws_heldExprS.l0 k l0 a1 0
end

def laws_heldExpr.f (k : Nat) (a0_0 : Int) (a0_1 : Int) (l0_2 : List (S25)) (a1 : Int) : Option (Int) := (laws_heldExprS.f k l0_2 a1).bind fun t580 => (if t580 < 0 then (some (-1)) else (some t580))

def spec_l91Word.f (k : Nat) (s0_0 : List Int) (s0_1 : Int) : Option (Int × Int) := (spec_l6Rd_pick.f k s0_0 s0_1 6).bind fun bt615 => (if bt615.1 = 0 then ((some (([(-2147483648), 2147483647, (-1), 0, 1, (-2147483647), 65536, (-65536)] : List Int) : List Int)).bind fun y617 => ((spec_l6Rd_pick.f k s0_0 bt615.2 8).bind fun bt620 => (if 0 ≤ bt620.1 then (if bt620.1 < (y617.length : Int) then (some (rd y617 bt620.1, bt620.2)) else (none)) else (none)))) else (if bt615.1 = 1 then ((spec_l6Rd_pick.f k s0_0 bt615.2 256).bind fun bt623 => ((spec_l6Rd_pick.f k s0_0 bt623.2 256).bind fun bt625 => ((spec_l6Rd_pick.f k s0_0 bt625.2 256).bind fun bt627 => ((spec_l6Rd_pick.f k s0_0 bt627.2 200).bind fun bt629 => ((spec_Wrap.f (wrap64 ((wrap64 ((wrap64 ((wrap64 (bt623.1 * 65536)) + (wrap64 (bt625.1 * 256)))) + bt627.1)) * (wrap64 (1 + bt629.1))))).bind fun t631 => (some (t631, bt629.2))))))) else (if bt615.1 = 2 then ((spec_l6Rd_pick.f k s0_0 bt615.2 200).bind fun bt632 => (some (wrap64 (-bt632.1), bt632.2))) else ((spec_l6Rd_pick.f k s0_0 bt615.2 20).bind fun bt634 => (some (bt634.1, bt634.2))))))

def spec_l91Vars.l0 : Nat → List Int → Int → List Int → Int → Option (List Int × Int)
  | 0, _, _, _, _ => none
  | k + 1, x3, x4, x1000, x1001 => if x4 < 4 then ((spec_l91Word.f k x1000 x1001).bind fun bt639 => (if x3.length < 17592186044416 then (spec_l91Vars.l0 k (x3 ++ [bt639.1]) (wrap64 (x4 + 1)) x1000 bt639.2) else (none))) else ((spec_l6Rd_pick.f k x1000 x1001 40).bind fun bt644 => (if bt644.1 = 0 then (if x3.length < 17592186044416 then (some ((x3 ++ [1]), bt644.2)) else (none)) else (if bt644.1 = 1 then (if 0 < (x3.length : Int) then (some ((x3.set (0 : Int).toNat 2147483648), bt644.2)) else (none)) else (some (x3, bt644.2)))))
def spec_l91Vars.f (k : Nat) (s0_0 : List Int) (s0_1 : Int) : Option (List Int × Int) := spec_l91Vars.l0 k (([] : List Int)) 0 s0_0 s0_1

def spec_DrawExprEval.f (k : Nat) (l0 : List Int) : Option (Int × Int × (List (S25)) × List Int) := (spec_l6Open.f l0).bind fun bt651 => ((spec_l91Spoilt.f k bt651.1 bt651.2).bind fun bt654 => ((spec_l91Vars.f k bt651.1 bt654.2.2.2).bind fun bt661 => (some (bt654.1, bt654.2.1, bt654.2.2.1, bt661.1))))

def laws_FnEval.j0 : Nat → List Int → Int → Bool → Int → Bool → Bool → Int → Int → List (S25) → Option (Bool)
  | 0, _, _, _, _, _, _, _, _, _ => none
  | k + 1, x4, x5, x6, x7, x8, x40, x674000, x674001, x674002 => if x40 = true then (if (x6 == x8) = true then (some (x5 == x7)) else (some false)) else (if x674000 = 0 then (some (x5 == x674001)) else (if x674000 = 13 then (if 0 ≤ x674001 then (if x674001 < (x4.length : Int) then (some (x5 == (rd x4 x674001))) else (none)) else (none)) else ((impl_WordValid.f x5).bind fun t679 => (some t679))))
def laws_FnEval.f (k : Nat) (l0 : List Int) : Option (Bool) := if (l0.length : Int) > 1048576 then (some true) else ((spec_DrawExprEval.f k l0).bind fun bt665 => ((impl_ExprEval.f k bt665.1 bt665.2.1 bt665.2.2.1 bt665.2.2.2).bind fun bt674 => ((spec_ExprEval.f k bt665.1 bt665.2.1 bt665.2.2.1 bt665.2.2.2).bind fun bt676 => (if (bt674.2 != bt676.2) = true then (laws_FnEval.j0 k bt665.2.2.2 bt674.1 bt674.2 bt676.1 bt676.2 true bt665.1 bt665.2.1 bt665.2.2.1) else (if bt674.1 = bt676.1 then (laws_FnEval.j0 k bt665.2.2.2 bt674.1 bt674.2 bt676.1 bt676.2 (!bt674.2) bt665.1 bt665.2.1 bt665.2.2.1) else (laws_FnEval.j0 k bt665.2.2.2 bt674.1 bt674.2 bt676.1 bt676.2 true bt665.1 bt665.2.1 bt665.2.2.1))))))

mutual
def laws_FnEvalSwap.j0 : Nat → List Int → Int → Bool → Int → Bool → Bool → Int → Int → List (S25) → Option (Bool)
  | 0, _, _, _, _, _, _, _, _, _ => none
  | k + 1, x4, x5, x6, x7, x8, x43, x689000, x689001, x689002 => if x43 = true then (if (x6 == x8) = true then (some (x5 == x7)) else (some false)) else (if x689000 ≥ 1 then (if x689000 ≤ 4 then (laws_FnEvalSwap.j1 k x4 x5 true x689000 x689001 x689002) else (if x689000 = 8 then (laws_FnEvalSwap.j1 k x4 x5 true x689000 x689001 x689002) else (laws_FnEvalSwap.j1 k x4 x5 (x689000 == 10) x689000 x689001 x689002))) else (if x689000 = 8 then (laws_FnEvalSwap.j1 k x4 x5 true x689000 x689001 x689002) else (laws_FnEvalSwap.j1 k x4 x5 (x689000 == 10) x689000 x689001 x689002)))
def laws_FnEvalSwap.j1 : Nat → List Int → Int → Bool → Int → Int → List (S25) → Option (Bool)
  | 0, _, _, _, _, _, _ => none
  | k + 1, x4, x5, x9, x689000, x689001, x689002 => if x9 = true then (if 1 < (x689002.length : Int) then (if 0 < (x689002.length : Int) then ((laws_both.f x689000 ((rd_T25 x689002 1).f0) ((rd_T25 x689002 1).f1) ((rd_T25 x689002 1).f2) ((rd_T25 x689002 0).f0) ((rd_T25 x689002 0).f1) ((rd_T25 x689002 0).f2)).bind fun bt695 => ((impl_ExprEval.f k bt695.1 bt695.2.1 bt695.2.2 x4).bind fun bt700 => (if bt700.2 = true then (some (bt700.1 == x5)) else (some false)))) else (none)) else (none)) else (some true)
end
def laws_FnEvalSwap.f (k : Nat) (l0 : List Int) : Option (Bool) := if (l0.length : Int) > 1048576 then (some true) else ((spec_DrawExprEval.f k l0).bind fun bt680 => ((impl_ExprEval.f k bt680.1 bt680.2.1 bt680.2.2.1 bt680.2.2.2).bind fun bt689 => ((spec_ExprEval.f k bt680.1 bt680.2.1 bt680.2.2.1 bt680.2.2.2).bind fun bt691 => (if (bt689.2 != bt691.2) = true then (laws_FnEvalSwap.j0 k bt680.2.2.2 bt689.1 bt689.2 bt691.1 bt691.2 true bt680.1 bt680.2.1 bt680.2.2.1) else (if bt689.1 = bt691.1 then (laws_FnEvalSwap.j0 k bt680.2.2.2 bt689.1 bt689.2 bt691.1 bt691.2 (!bt689.2) bt680.1 bt680.2.1 bt680.2.2.1) else (laws_FnEvalSwap.j0 k bt680.2.2.2 bt689.1 bt689.2 bt691.1 bt691.2 true bt680.1 bt680.2.1 bt680.2.2.1))))))

mutual
def impl_exprUses.l0 : Nat → Int → List (S25) → Int → Int → Option (Bool)
  | 0, _, _, _, _ => none
  | k + 1, x1, x15, x16, x17 => if x17 < x16 then (if 0 ≤ x17 then (if x17 < (x15.length : Int) then ((impl_exprUses.f k ((rd_T25 x15 x17).f0) ((rd_T25 x15 x17).f1) ((rd_T25 x15 x17).f2) x1).bind fun t705 => (if t705 = true then (some true) else (impl_exprUses.l0 k x1 x15 x16 (wrap64 (x17 + 1))))) else (none)) else (none)) else (some false)
def impl_exprUses.f : Nat → Int → Int → List (S25) → Int → Option (Bool)
  | 0, _, _, _, _ => none
  | k + 1, a0_0, a0_1, l0_2, a1 => if a0_0 = 13 then (some (a0_1 == a1)) else (impl_exprUses.l0 k a1 l0_2 (l0_2.length : Int) 0)
end

def impl_ExprUses.f (k : Nat) (a0_0 : Int) (a0_1 : Int) (l0_2 : List (S25)) (a1 : Int) : Option (Bool) := (impl_ExprValid.f k a0_0 a0_1 l0_2).bind fun t707 => (if t707 = true then ((impl_exprUses.f k a0_0 a0_1 l0_2 a1).bind fun t708 => (some t708)) else (some false))

mutual
def laws_FnEvalUnused.j0 : Nat → List Int → List Int → Bool → Option (Bool)
  | 0, _, _, _ => none
  | k + 1, x0, x1, x22 => if x22 = true then (some true) else ((spec_DrawExprEval.f k x0).bind fun bt709 => ((impl_ExprEval.f k bt709.1 bt709.2.1 bt709.2.2.1 bt709.2.2.2).bind fun bt718 => ((spec_ExprEval.f k bt709.1 bt709.2.1 bt709.2.2.1 bt709.2.2.2).bind fun bt720 => (if (bt718.2 != bt720.2) = true then (laws_FnEvalUnused.j1 k x1 bt709.2.2.2 bt718.1 bt718.2 bt720.1 bt720.2 true bt709.1 bt709.2.1 bt709.2.2.1) else (if bt718.1 = bt720.1 then (laws_FnEvalUnused.j1 k x1 bt709.2.2.2 bt718.1 bt718.2 bt720.1 bt720.2 (!bt718.2) bt709.1 bt709.2.1 bt709.2.2.1) else (laws_FnEvalUnused.j1 k x1 bt709.2.2.2 bt718.1 bt718.2 bt720.1 bt720.2 true bt709.1 bt709.2.1 bt709.2.2.1))))))
def laws_FnEvalUnused.j1 : Nat → List Int → List Int → Int → Bool → Int → Bool → Bool → Int → Int → List (S25) → Option (Bool)
  | 0, _, _, _, _, _, _, _, _, _, _ => none
  | k + 1, x1, x6, x7, x8, x9, x10, x51, x718000, x718001, x718002 => if x51 = true then (if (x8 == x10) = true then (some (x7 == x9)) else (some false)) else ((some (([] : List Int) : List Int)).bind fun y722 => (if y722.length + x6.length < 17592186044416 then ((some (y722 ++ x6 : List Int)).bind fun y725 => (if 0 ≤ ((x1.length : Int) % 4) then (if ((x1.length : Int) % 4) < (y725.length : Int) then ((impl_Wrap.f (wrap64 ((wrap64 ((rd y725 ((x1.length : Int) % 4)) + 1)) + (x1.length : Int)))).bind fun t729 => ((impl_ExprEval.f k x718000 x718001 x718002 (y725.set (((x1.length : Int) % 4) : Int).toNat t729)).bind fun bt731 => (if bt731.2 = true then ((impl_ExprUses.f k x718000 x718001 x718002 ((x1.length : Int) % 4)).bind fun t733 => (if t733 = true then (some true) else (some (bt731.1 == x7)))) else (some false)))) else (none)) else (none))) else (none)))
end
def laws_FnEvalUnused.f (k : Nat) (l0 : List Int) (l1 : List Int) : Option (Bool) := if (l0.length : Int) > 1048576 then (laws_FnEvalUnused.j0 k l0 l1 true) else (laws_FnEvalUnused.j0 k l0 l1 (decide ((l1.length : Int) > 1048576)))

def spec_DrawExprFold.f (k : Nat) (l0 : List Int) : Option (Int × Int × (List (S25))) := (spec_l6Open.f l0).bind fun bt735 => ((spec_l6Rd_pick.f k bt735.1 bt735.2 3).bind fun bt738 => (if bt738.1 = 0 then ((spec_l91Op.f k bt735.1 bt738.2).bind fun bt740 => ((spec_l91Op.f k bt735.1 bt740.2).bind fun bt742 => ((spec_l6Rd_pick.f k bt735.1 bt742.2 9).bind fun bt744 => ((spec_l4Leaf.f 0 bt744.1).bind fun bt746 => ((spec_l6Rd_pick.f k bt735.1 bt744.2 9).bind fun bt751 => ((spec_l4Leaf.f 0 bt751.1).bind fun bt753 => ((spec_l4Both.f bt742.1 bt746.1 bt746.2.1 bt746.2.2 bt753.1 bt753.2.1 bt753.2.2).bind fun bt758 => ((spec_l91Leaf.f k bt735.1 bt751.2).bind fun bt763 => ((spec_l4Both.f bt740.1 bt758.1 bt758.2.1 bt758.2.2 bt763.1 bt763.2.1 bt763.2.2.1).bind fun bt769 => (some (bt769.1, bt769.2.1, bt769.2.2))))))))))) else ((spec_l91Spoilt.f k bt735.1 bt738.2).bind fun bt774 => (some (bt774.1, bt774.2.1, bt774.2.2.1)))))

mutual
def laws_sameExpr.j0 : Nat → Bool → Int → Int → List (S25) → Int → Int → List (S25) → Option (Bool)
  | 0, _, _, _, _, _, _, _ => none
  | k + 1, x26, x781000, x781001, x781002, x782000, x782001, x782002 => if x26 = true then (some false) else (laws_sameExpr.l0 k 0 x781000 x781001 x781002 x782000 x782001 x782002)
def laws_sameExpr.l0 : Nat → Int → Int → Int → List (S25) → Int → Int → List (S25) → Option (Bool)
  | 0, _, _, _, _, _, _, _ => none
  | k + 1, x5, x781000, x781001, x781002, x782000, x782001, x782002 => if x5 < (x781002.length : Int) then (if 0 ≤ x5 then (if x5 < (x782002.length : Int) then ((laws_sameExpr.f k ((rd_T25 x781002 x5).f0) ((rd_T25 x781002 x5).f1) ((rd_T25 x781002 x5).f2) ((rd_T25 x782002 x5).f0) ((rd_T25 x782002 x5).f1) ((rd_T25 x782002 x5).f2)).bind fun t784 => (if t784 = true then (laws_sameExpr.l0 k (wrap64 (x5 + 1)) x781000 x781001 x781002 x782000 x782001 x782002) else (some false))) else (none)) else (none)) else (some true)
def laws_sameExpr.f : Nat → Int → Int → List (S25) → Int → Int → List (S25) → Option (Bool)
  | 0, _, _, _, _, _, _ => none
  | k + 1, a0_0, a0_1, l0_2, a1_0, a1_1, l1_2 => if a0_0 = a1_0 then (if a0_1 = a1_1 then (laws_sameExpr.j0 k ((l0_2.length : Int) != (l1_2.length : Int)) a0_0 a0_1 l0_2 a1_0 a1_1 l1_2) else (laws_sameExpr.j0 k true a0_0 a0_1 l0_2 a1_0 a1_1 l1_2)) else (laws_sameExpr.j0 k true a0_0 a0_1 l0_2 a1_0 a1_1 l1_2)
end

mutual
def impl_exprSize.l0 : Nat → Int → List (S25) → Int → Int → Option (Int)
  | 0, _, _, _, _ => none
  | k + 1, x3, x7, x8, x9 => if x9 < x8 then (if 0 ≤ x9 then (if x9 < (x7.length : Int) then ((impl_exprSize.f k ((rd_T25 x7 x9).f0) ((rd_T25 x7 x9).f1) ((rd_T25 x7 x9).f2)).bind fun t788 => (impl_exprSize.l0 k (wrap64 (x3 + t788)) x7 x8 (wrap64 (x9 + 1)))) else (none)) else (none)) else (some x3)
def impl_exprSize.f : Nat → Int → Int → List (S25) → Option (Int)
  | 0, _, _, _ => none
  | k + 1, a0_0, a0_1, l0_2 => impl_exprSize.l0 k 1 l0_2 (l0_2.length : Int) 0
end

def impl_ExprSize.f (k : Nat) (a0_0 : Int) (a0_1 : Int) (l0_2 : List (S25)) : Option (Int) := (impl_ExprValid.f k a0_0 a0_1 l0_2).bind fun t790 => (if t790 = true then ((impl_exprSize.f k a0_0 a0_1 l0_2).bind fun t791 => (some t791)) else (some 0))

mutual
def laws_FnFoldSmaller.j0 : Nat → Bool → Bool → Bool → Int → Int → List (S25) → Int → Int → List (S25) → Int → Int → List (S25) → Option (Bool)
  | 0, _, _, _, _, _, _, _, _, _, _, _, _ => none
  | k + 1, x5, x7, x36, x798000, x798001, x798002, x805000, x805001, x805002, x812000, x812001, x812002 => if x36 = true then (if (x5 == x7) = true then ((laws_sameExpr.f k x805000 x805001 x805002 x812000 x812001 x812002).bind fun t813 => (some t813)) else (some false)) else (laws_FnFoldSmaller.l0 k 0 x798000 x798001 x798002 x805000 x805001 x805002)
def laws_FnFoldSmaller.l0 : Nat → Int → Int → Int → List (S25) → Int → Int → List (S25) → Option (Bool)
  | 0, _, _, _, _, _, _, _ => none
  | k + 1, x8, x798000, x798001, x798002, x805000, x805001, x805002 => if x8 < 4 then ((impl_ExprUses.f k x805000 x805001 x805002 x8).bind fun t814 => (if t814 = true then ((impl_ExprUses.f k x798000 x798001 x798002 x8).bind fun t815 => (if t815 = true then (laws_FnFoldSmaller.l0 k (wrap64 (x8 + 1)) x798000 x798001 x798002 x805000 x805001 x805002) else (some false))) else (laws_FnFoldSmaller.l0 k (wrap64 (x8 + 1)) x798000 x798001 x798002 x805000 x805001 x805002))) else ((impl_ExprSize.f k x805000 x805001 x805002).bind fun t816 => (if t816 ≥ 1 then ((impl_ExprSize.f k x805000 x805001 x805002).bind fun t817 => ((impl_ExprSize.f k x798000 x798001 x798002).bind fun t818 => (if t817 ≤ t818 then ((impl_ExprDepth.f k x805000 x805001 x805002).bind fun t819 => ((impl_ExprDepth.f k x798000 x798001 x798002).bind fun t820 => (some (decide (t819 ≤ t820))))) else (some false)))) else (some false)))
end
def laws_FnFoldSmaller.f (k : Nat) (l0 : List Int) : Option (Bool) := if (l0.length : Int) > 1048576 then (some true) else ((spec_DrawExprFold.f k l0).bind fun bt792 => ((impl_ExprFold.f k bt792.1 bt792.2.1 bt792.2.2).bind fun bt798 => ((spec_ExprFold.f k bt792.1 bt792.2.1 bt792.2.2).bind fun bt805 => (if (bt798.2.2.2 != bt805.2.2.2) = true then (laws_FnFoldSmaller.j0 k bt798.2.2.2 bt805.2.2.2 true bt792.1 bt792.2.1 bt792.2.2 bt798.1 bt798.2.1 bt798.2.2.1 bt805.1 bt805.2.1 bt805.2.2.1) else ((laws_sameExpr.f k bt798.1 bt798.2.1 bt798.2.2.1 bt805.1 bt805.2.1 bt805.2.2.1).bind fun t812 => (if t812 = true then (laws_FnFoldSmaller.j0 k bt798.2.2.2 bt805.2.2.2 (!bt798.2.2.2) bt792.1 bt792.2.1 bt792.2.2 bt798.1 bt798.2.1 bt798.2.2.1 bt805.1 bt805.2.1 bt805.2.2.1) else (laws_FnFoldSmaller.j0 k bt798.2.2.2 bt805.2.2.2 true bt792.1 bt792.2.1 bt792.2.2 bt798.1 bt798.2.1 bt798.2.2.1 bt805.1 bt805.2.1 bt805.2.2.1)))))))

def impl_Apply.f (a0 : Int) (a1 : Int) (a2 : Int) : Option (Int × Bool) := (impl_OpValid.f a0).bind fun t821 => (if t821 = true then ((impl_WordValid.f a1).bind fun t822 => (if t822 = true then ((impl_WordValid.f a2).bind fun t823 => (if t823 = true then ((impl_apply.f a0 a1 a2).bind fun t824 => (some (t824, true))) else (some (0, false)))) else (some (0, false)))) else (some (0, false)))

def laws_FnEvalApply.j0 : Nat → List Int → Int → Bool → Int → Bool → Bool → Int → Int → List (S25) → Option (Bool)
  | 0, _, _, _, _, _, _, _, _, _ => none
  | k + 1, x4, x5, x6, x7, x8, x46, x834000, x834001, x834002 => if x46 = true then (if (x6 == x8) = true then (some (x5 == x7)) else (some false)) else (if (x834002.length : Int) = 0 then ((impl_ExprDepth.f k x834000 x834001 x834002).bind fun t838 => (some (t838 == 1))) else (if 0 < (x834002.length : Int) then ((impl_ExprEval.f k ((rd_T25 x834002 0).f0) ((rd_T25 x834002 0).f1) ((rd_T25 x834002 0).f2) x4).bind fun bt840 => (if 1 < (x834002.length : Int) then ((impl_ExprEval.f k ((rd_T25 x834002 1).f0) ((rd_T25 x834002 1).f1) ((rd_T25 x834002 1).f2) x4).bind fun bt843 => ((impl_Apply.f x834000 bt840.1 bt843.1).bind fun bt845 => (if bt840.2 = true then (if bt843.2 = true then (if bt845.2 = true then (some (bt845.1 == x5)) else (some false)) else (some false)) else (some false)))) else (none))) else (none)))
def laws_FnEvalApply.f (k : Nat) (l0 : List Int) : Option (Bool) := if (l0.length : Int) > 1048576 then (some true) else ((spec_DrawExprEval.f k l0).bind fun bt825 => ((impl_ExprEval.f k bt825.1 bt825.2.1 bt825.2.2.1 bt825.2.2.2).bind fun bt834 => ((spec_ExprEval.f k bt825.1 bt825.2.1 bt825.2.2.1 bt825.2.2.2).bind fun bt836 => (if (bt834.2 != bt836.2) = true then (laws_FnEvalApply.j0 k bt825.2.2.2 bt834.1 bt834.2 bt836.1 bt836.2 true bt825.1 bt825.2.1 bt825.2.2.1) else (if bt834.1 = bt836.1 then (laws_FnEvalApply.j0 k bt825.2.2.2 bt834.1 bt834.2 bt836.1 bt836.2 (!bt834.2) bt825.1 bt825.2.1 bt825.2.2.1) else (laws_FnEvalApply.j0 k bt825.2.2.2 bt834.1 bt834.2 bt836.1 bt836.2 true bt825.1 bt825.2.1 bt825.2.2.1))))))

def laws_FnEvalMinus.j0 : Nat → List Int → Int → Bool → Int → Bool → Bool → Int → Int → List (S25) → Option (Bool)
  | 0, _, _, _, _, _, _, _, _, _ => none
  | k + 1, x4, x5, x6, x7, x8, x45, x856000, x856001, x856002 => if x45 = true then (if (x6 == x8) = true then (some (x5 == x7)) else (some false)) else ((laws_both.f 9 x856000 x856001 x856002 x856000 x856001 x856002).bind fun bt860 => ((impl_ExprEval.f k bt860.1 bt860.2.1 bt860.2.2 x4).bind fun bt865 => ((laws_number.f 0).bind fun bt867 => ((laws_both.f 8 x856000 x856001 x856002 bt867.1 bt867.2.1 bt867.2.2).bind fun bt872 => ((impl_ExprEval.f k bt872.1 bt872.2.1 bt872.2.2 x4).bind fun bt877 => ((impl_ExprDepth.f k x856000 x856001 x856002).bind fun t879 => (if (bt865.2 == (!(t879 == 5))) = true then (if (bt877.2 == (!(t879 == 5))) = true then (if t879 = 5 then (some true) else (if bt865.1 = 0 then (some (bt877.1 == x5)) else (some false))) else (some false)) else (some false))))))))
def laws_FnEvalMinus.f (k : Nat) (l0 : List Int) : Option (Bool) := if (l0.length : Int) > 1048576 then (some true) else ((spec_DrawExprEval.f k l0).bind fun bt847 => ((impl_ExprEval.f k bt847.1 bt847.2.1 bt847.2.2.1 bt847.2.2.2).bind fun bt856 => ((spec_ExprEval.f k bt847.1 bt847.2.1 bt847.2.2.1 bt847.2.2.2).bind fun bt858 => (if (bt856.2 != bt858.2) = true then (laws_FnEvalMinus.j0 k bt847.2.2.2 bt856.1 bt856.2 bt858.1 bt858.2 true bt847.1 bt847.2.1 bt847.2.2.1) else (if bt856.1 = bt858.1 then (laws_FnEvalMinus.j0 k bt847.2.2.2 bt856.1 bt856.2 bt858.1 bt858.2 (!bt856.2) bt847.1 bt847.2.1 bt847.2.2.1) else (laws_FnEvalMinus.j0 k bt847.2.2.2 bt856.1 bt856.2 bt858.1 bt858.2 true bt847.1 bt847.2.1 bt847.2.2.1))))))

mutual
def laws_FnFoldEval.j0 : Nat → List Int → List Int → Bool → Option (Bool)
  | 0, _, _, _ => none
  | k + 1, x0, x1, x23 => if x23 = true then (some true) else ((spec_DrawExprFold.f k x0).bind fun bt880 => ((impl_ExprFold.f k bt880.1 bt880.2.1 bt880.2.2).bind fun bt886 => ((spec_ExprFold.f k bt880.1 bt880.2.1 bt880.2.2).bind fun bt893 => (if (bt886.2.2.2 != bt893.2.2.2) = true then (laws_FnFoldEval.j1 k x1 bt886.2.2.2 bt893.2.2.2 true bt880.1 bt880.2.1 bt880.2.2 bt886.1 bt886.2.1 bt886.2.2.1 bt893.1 bt893.2.1 bt893.2.2.1) else ((laws_sameExpr.f k bt886.1 bt886.2.1 bt886.2.2.1 bt893.1 bt893.2.1 bt893.2.2.1).bind fun t900 => (if t900 = true then (laws_FnFoldEval.j1 k x1 bt886.2.2.2 bt893.2.2.2 (!bt886.2.2.2) bt880.1 bt880.2.1 bt880.2.2 bt886.1 bt886.2.1 bt886.2.2.1 bt893.1 bt893.2.1 bt893.2.2.1) else (laws_FnFoldEval.j1 k x1 bt886.2.2.2 bt893.2.2.2 true bt880.1 bt880.2.1 bt880.2.2 bt886.1 bt886.2.1 bt886.2.2.1 bt893.1 bt893.2.1 bt893.2.2.1)))))))
def laws_FnFoldEval.j1 : Nat → List Int → Bool → Bool → Bool → Int → Int → List (S25) → Int → Int → List (S25) → Int → Int → List (S25) → Option (Bool)
  | 0, _, _, _, _, _, _, _, _, _, _, _, _, _ => none
  | k + 1, x1, x7, x9, x48, x886000, x886001, x886002, x893000, x893001, x893002, x900000, x900001, x900002 => if x48 = true then (if (x7 == x9) = true then ((laws_sameExpr.f k x893000 x893001 x893002 x900000 x900001 x900002).bind fun t901 => (some t901)) else (some false)) else ((spec_DrawExprEval.f k x1).bind fun bt902 => ((impl_ExprEval.f k x886000 x886001 x886002 bt902.2.2.2).bind fun bt911 => ((impl_ExprEval.f k x893000 x893001 x893002 bt902.2.2.2).bind fun bt913 => (if (bt911.2 == bt913.2) = true then (some (bt911.1 == bt913.1)) else (some false)))))
end
def laws_FnFoldEval.f (k : Nat) (l0 : List Int) (l1 : List Int) : Option (Bool) := if (l0.length : Int) > 1048576 then (laws_FnFoldEval.j0 k l0 l1 true) else (laws_FnFoldEval.j0 k l0 l1 (decide ((l1.length : Int) > 1048576)))

end Go.Proofs.Ytajifknepdikbaa.PA
