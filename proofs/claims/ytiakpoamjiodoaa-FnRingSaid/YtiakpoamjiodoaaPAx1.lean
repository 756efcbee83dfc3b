-- made by a program of this session (wip/myprint.py over the kit's print)
import Derived.Test.YtiakpoamjiodoaaV
import Derived.Test.YtiakpoamjiodoaaPAx0
namespace Go.Proofs.Ytiakpoamjiodoaa.PA
open Go.RowKit Go.Proofs.YtiakpoamjiodoaaW.PrintWords Go.Proofs.YtiakpoamjiodoaaW.PrintLast Go.Proofs.YtiakpoamjiodoaaW.PrintMore
attribute [local go_sem] max2_int min2_int max_two min_two max_three min_three max_four min_four   -- for this text's walks alone
set_option linter.unusedVariables false
set_option linter.unusedSimpArgs false

-- FUNCTIONS
def impl_WordValid.f (a0 : Int) : Option (Bool) := if a0 ≥ (-2147483648) then (some (decide (a0 ≤ 2147483647))) else (some false)

def impl_areWords.l0 : Nat → List Int → Int → Int → Option (Bool)
  | 0, _, _, _ => none
  | k + 1, x5, x6, x7 => if x7 < x6 then (if 0 ≤ x7 then (if x7 < (x5.length : Int) then ((impl_WordValid.f (rd x5 x7)).bind fun t102 => (if t102 = true then (impl_areWords.l0 k x5 x6 (wrap64 (x7 + 1))) else (some false))) else (none)) else (none)) else (some true)
def impl_areWords.f (k : Nat) (l0 : List Int) : Option (Bool) := impl_areWords.l0 k l0 (l0.length : Int) 0

def impl_RingValid.f (k : Nat) (a0_0 : Int) (a0_1 : Int) (a0_2 : Int) (l0_3 : List Int) : Option (Bool) := if a0_0 ≥ 1 then (if a0_0 ≤ 4 then (if a0_1 ≥ 0 then (if a0_1 < a0_0 then (if a0_2 ≥ 0 then (if a0_2 ≤ a0_0 then (if (l0_3.length : Int) = 4 then ((impl_areWords.f k l0_3).bind fun t104 => (some t104)) else (some false)) else (some false)) else (some false)) else (some false)) else (some false)) else (some false)) else (some false)

def spec_l6In.f (a0 : Int) (a1 : Int) (a2 : Int) : Option (Bool) := if a0 ≥ a1 then (some (decide (a0 ≤ a2))) else (some false)

def spec_WordValid.f (a0 : Int) : Option (Bool) := (spec_l6In.f a0 (-2147483648) 2147483647).bind fun t105 => (some t105)

def spec_l4Words.l0 : Nat → List Int → Int → Option (Bool)
  | 0, _, _ => none
  | k + 1, x0, x5 => if x5 < (x0.length : Int) then (if 0 ≤ x5 then ((spec_WordValid.f (rd x0 x5)).bind fun t107 => (if t107 = true then (spec_l4Words.l0 k x0 (wrap64 (x5 + 1))) else (some false))) else (none)) else (some true)
def spec_l4Words.f (k : Nat) (l0 : List Int) (a1 : Int) : Option (Bool) := if (l0.length : Int) = a1 then (spec_l4Words.l0 k l0 0) else (some false)

def spec_RingValid.f (k : Nat) (a0_0 : Int) (a0_1 : Int) (a0_2 : Int) (l0_3 : List Int) : Option (Bool) := (spec_l6In.f a0_0 1 4).bind fun t109 => (if t109 = true then ((spec_l6In.f a0_1 0 (wrap64 (a0_0 - 1))).bind fun t110 => (if t110 = true then ((spec_l6In.f a0_2 0 a0_0).bind fun t111 => (if t111 = true then ((spec_l4Words.f k l0_3 4).bind fun t112 => (some t112)) else (some false))) else (some false))) else (some false))

def spec_l6Open.f (l0 : List Int) : Option (List Int × Int) := if (l0.length : Int) > 2000 then (if 2000 ≤ (l0.length : Int) then (some (l0.take 2000, 0)) else (none)) else (some (l0, 0))

def spec_l6Rd_pick.j0 : Nat → Int → Bool → List Int → Int → Option (Int × Int)
  | 0, _, _, _, _ => none
  | k + 1, x1, x24, x1000, x1001 => if x24 = true then (some (0, x1001)) else (if (wrap64 (x1001 - 1)) < (x1000.length : Int) then (if 0 ≤ (wrap64 (x1001 - 1)) then (if x1 = 0 then (none) else (some (Int.tmod (wrap64 (rd x1000 (wrap64 (x1001 - 1)))) x1, x1001))) else (none)) else (if (x1000.length : Int) = 0 then (none) else (if 0 ≤ (Int.tmod (wrap64 (x1001 - 1)) (x1000.length : Int)) then (if (Int.tmod (wrap64 (x1001 - 1)) (x1000.length : Int)) < (x1000.length : Int) then (if 0 ≤ (Int.tmod (wrap64 ((wrap64 ((wrap64 (x1001 - 1)) * 7)) + 3)) (x1000.length : Int)) then (if (Int.tmod (wrap64 ((wrap64 ((wrap64 (x1001 - 1)) * 7)) + 3)) (x1000.length : Int)) < (x1000.length : Int) then (if x1 = 0 then (none) else (some (Int.tmod (Go.bits .xor .i64 (wrap64 ((wrap64 ((wrap64 ((wrap64 ((wrap64 (rd x1000 (Int.tmod (wrap64 (x1001 - 1)) (x1000.length : Int)))) * 131)) + (wrap64 ((wrap64 (rd x1000 (Int.tmod (wrap64 ((wrap64 ((wrap64 (x1001 - 1)) * 7)) + 3)) (x1000.length : Int)))) * 1117)))) + (wrap64 ((wrap64 (x1001 - 1)) * 29)))) + (wrap64 ((wrap64 (Int.tdiv (wrap64 (x1001 - 1)) (x1000.length : Int))) * 53)))) (wrap64 (Int.tdiv (wrap64 ((wrap64 ((wrap64 ((wrap64 ((wrap64 (rd x1000 (Int.tmod (wrap64 (x1001 - 1)) (x1000.length : Int)))) * 131)) + (wrap64 ((wrap64 (rd x1000 (Int.tmod (wrap64 ((wrap64 ((wrap64 (x1001 - 1)) * 7)) + 3)) (x1000.length : Int)))) * 1117)))) + (wrap64 ((wrap64 (x1001 - 1)) * 29)))) + (wrap64 ((wrap64 (Int.tdiv (wrap64 (x1001 - 1)) (x1000.length : Int))) * 53)))) 64))) x1, x1001))) else (none)) else (none)) else (none)) else (none))))
def spec_l6Rd_pick.f (k : Nat) (s0_0 : List Int) (s0_1 : Int) (a1 : Int) : Option (Int × Int) := if a1 < 1 then (spec_l6Rd_pick.j0 k a1 true s0_0 (wrap64 (s0_1 + 1))) else (spec_l6Rd_pick.j0 k a1 ((s0_0.length : Int) == 0) s0_0 (wrap64 (s0_1 + 1)))

def spec_Wrap.f (a0 : Int) : Option (Int) := if (Int.tmod a0 4294967296) > 2147483647 then (some (wrap64 ((Int.tmod a0 4294967296) - 4294967296))) else (if (Int.tmod a0 4294967296) < (-2147483648) then (some (wrap64 ((Int.tmod a0 4294967296) + 4294967296))) else (some (Int.tmod a0 4294967296)))

def spec_l91Word.f (k : Nat) (s0_0 : List Int) (s0_1 : Int) : Option (Int × Int) := (spec_l6Rd_pick.f k s0_0 s0_1 6).bind fun bt119 => (if bt119.1 = 0 then ((some (([(-2147483648), 2147483647, (-1), 0, 1, (-2147483647), 65536, (-65536)] : List Int) : List Int)).bind fun y121 => ((spec_l6Rd_pick.f k s0_0 bt119.2 8).bind fun bt124 => (if 0 ≤ bt124.1 then (if bt124.1 < (y121.length : Int) then (some (rd y121 bt124.1, bt124.2)) else (none)) else (none)))) else (if bt119.1 = 1 then ((spec_l6Rd_pick.f k s0_0 bt119.2 256).bind fun bt127 => ((spec_l6Rd_pick.f k s0_0 bt127.2 256).bind fun bt129 => ((spec_l6Rd_pick.f k s0_0 bt129.2 256).bind fun bt131 => ((spec_l6Rd_pick.f k s0_0 bt131.2 200).bind fun bt133 => ((spec_Wrap.f (wrap64 ((wrap64 ((wrap64 ((wrap64 (bt127.1 * 65536)) + (wrap64 (bt129.1 * 256)))) + bt131.1)) * (wrap64 (1 + bt133.1))))).bind fun t135 => (some (t135, bt133.2))))))) else (if bt119.1 = 2 then ((spec_l6Rd_pick.f k s0_0 bt119.2 200).bind fun bt136 => (some (wrap64 (-bt136.1), bt136.2))) else ((spec_l6Rd_pick.f k s0_0 bt119.2 20).bind fun bt138 => (some (bt138.1, bt138.2))))))

def spec_l92Items.l0 : Nat → Int → List Int → Int → List Int → Int → Option (List Int × Int)
  | 0, _, _, _, _, _ => none
  | k + 1, x1, x5, x6, x1000, x1001 => if x6 < x1 then ((spec_l91Word.f k x1000 x1001).bind fun bt143 => (if x5.length < 17592186044416 then (spec_l92Items.l0 k x1 (x5 ++ [bt143.1]) (wrap64 (x6 + 1)) x1000 bt143.2) else (none))) else (some (x5, x1001))
def spec_l92Items.f (k : Nat) (s0_0 : List Int) (s0_1 : Int) (a1 : Int) : Option (List Int × Int) := spec_l92Items.l0 k a1 (([] : List Int)) 0 s0_0 s0_1

def spec_l92Ring.f (k : Nat) (s0_0 : List Int) (s0_1 : Int) : Option (Int × Int × Int × List Int × Int) := (spec_l6Rd_pick.f k s0_0 s0_1 4).bind fun bt149 => ((spec_l6Rd_pick.f k s0_0 bt149.2 (wrap64 (1 + bt149.1))).bind fun bt151 => ((spec_l6Rd_pick.f k s0_0 bt151.2 (wrap64 ((wrap64 (1 + bt149.1)) + 1))).bind fun bt153 => ((spec_l92Items.f k s0_0 bt153.2 4).bind fun bt155 => ((spec_l6Rd_pick.f k s0_0 bt155.2 40).bind fun bt160 => (if bt160.1 = 0 then (some (wrap64 (1 + bt149.1), wrap64 (1 + bt149.1), bt153.1, bt155.1, bt160.2)) else (if bt160.1 = 1 then ((some (([(-1), wrap64 ((wrap64 (1 + bt149.1)) + 1)] : List Int) : List Int)).bind fun y162 => ((spec_l6Rd_pick.f k s0_0 bt160.2 2).bind fun bt165 => (if 0 ≤ bt165.1 then (if bt165.1 < (y162.length : Int) then (some (wrap64 (1 + bt149.1), bt151.1, rd y162 bt165.1, bt155.1, bt165.2)) else (none)) else (none)))) else (if bt160.1 = 2 then ((spec_l92Items.f k s0_0 bt160.2 3).bind fun bt168 => (some (wrap64 (1 + bt149.1), bt151.1, bt153.1, bt168.1, bt168.2))) else (some (wrap64 (1 + bt149.1), bt151.1, bt153.1, bt155.1, bt160.2)))))))))

def spec_DrawRingValid.f (k : Nat) (l0 : List Int) : Option (Int × Int × Int × List Int) := (spec_l6Open.f l0).bind fun bt173 => ((spec_l92Ring.f k bt173.1 bt173.2).bind fun bt176 => ((spec_l6Rd_pick.f k bt173.1 bt176.2.2.2.2 8).bind fun bt184 => (if bt184.1 = 0 then ((some (([0, 5] : List Int) : List Int)).bind fun y186 => ((spec_l6Rd_pick.f k bt173.1 bt184.2 2).bind fun bt189 => (if 0 ≤ bt189.1 then (if bt189.1 < (y186.length : Int) then (some (rd y186 bt189.1, bt176.2.1, bt176.2.2.1, bt176.2.2.2.1)) else (none)) else (none)))) else (some (bt176.1, bt176.2.1, bt176.2.2.1, bt176.2.2.2.1)))))

def laws_FnRing.f (k : Nat) (l0 : List Int) : Option Bool := if (l0.length : Int) > 1048576 then some true else ((spec_DrawRingValid.f k l0).bind fun d => (impl_RingValid.f k d.1 d.2.1 d.2.2.1 d.2.2.2).bind fun a => (spec_RingValid.f k d.1 d.2.1 d.2.2.1 d.2.2.2).bind fun b => if (a != b || !a) = true then some (a == b) else if 1 ≤ d.2.2.2.length then ((impl_RingValid.f k d.1 d.2.1 d.2.2.1 (d.2.2.2.drop 1)).bind fun x => if x = true then none else (impl_RingValid.f k d.1 d.1 d.2.2.1 d.2.2.2).bind fun y => if y = true then none else (impl_RingValid.f k d.1 d.2.1 (wrap64 (d.1 + 1)) d.2.2.2).bind fun z => if z = true then none else (impl_RingValid.f k d.1 d.2.1 0 d.2.2.2)) else none)

end Go.Proofs.Ytiakpoamjiodoaa.PA
