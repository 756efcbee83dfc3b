-- made by a program of this session (wip/myprint.py over the kit's print)
import Derived.Test.YtiakpoamjiodoaaV
import Derived.Test.YtiakpoamjiodoaaPAx0
namespace Go.Proofs.Ytiakpoamjiodoaa.PA
open Go.RowKit Go.Proofs.YtiakpoamjiodoaaW.PrintWords Go.Proofs.YtiakpoamjiodoaaW.PrintLast Go.Proofs.YtiakpoamjiodoaaW.PrintMore
attribute [local go_sem] max2_int min2_int max_two min_two max_three min_three max_four min_four   -- for this text's walks alone
set_option linter.unusedVariables false
set_option linter.unusedSimpArgs false

-- FUNCTIONS
def spec_l6In.f (a0 : Int) (a1 : Int) (a2 : Int) : Option (Bool) := if a0 ≥ a1 then (some (decide (a0 ≤ a2))) else (some false)

def spec_RingNew.f (a0 : Int) : Option (Int × Int × Int × List Int × Bool) := (spec_l6In.f a0 1 4).bind fun t102 => (if t102 = true then (if 4 ≤ 35184372088832 then (some (a0, 0, 0, (List.replicate 4 0), true)) else (none)) else (some (0, 0, 0, ([] : List Int), false)))

def impl_RingNew.f (a0 : Int) : Option (Int × Int × Int × List Int × Bool) := if a0 < 1 then (some (0, 0, 0, ([] : List Int), false)) else (if a0 > 4 then (some (0, 0, 0, ([] : List Int), false)) else (if 4 ≤ 35184372088832 then (some (a0, 0, 0, (List.replicate 4 0), true)) else (none)))

def laws_eqIntS.l0 : Nat → List Int → List Int → Int → Option (Bool)
  | 0, _, _, _ => none
  | k + 1, x0, x1, x5 => if x5 < (x0.length : Int) then (if 0 ≤ x5 then (if x5 < (x1.length : Int) then (if (rd x0 x5) = (rd x1 x5) then (laws_eqIntS.l0 k x0 x1 (wrap64 (x5 + 1))) else (some false)) else (none)) else (none)) else (some true)
def laws_eqIntS.f (k : Nat) (l0 : List Int) (l1 : List Int) : Option (Bool) := if (l0.length : Int) = (l1.length : Int) then (laws_eqIntS.l0 k l0 l1 0) else (some false)

def laws_eqRing.f (k : Nat) (a0_0 : Int) (a0_1 : Int) (a0_2 : Int) (l0_3 : List Int) (a1_0 : Int) (a1_1 : Int) (a1_2 : Int) (l1_3 : List Int) : Option (Bool) := if a0_0 = a1_0 then (if a0_1 = a1_1 then (if a0_2 = a1_2 then ((laws_eqIntS.f k l0_3 l1_3).bind fun t114 => (if t114 = true then (some true) else (some false))) else (some false)) else (some false)) else (some false)

def laws_markIntS.l0 : Nat → List Int → Int → Int → Option (Int × List Int)
  | 0, _, _, _ => none
  | k + 1, x0, x1, x5 => if x5 < (x0.length : Int) then (if 0 ≤ x5 then (laws_markIntS.l0 k (x0.set (x5 : Int).toNat x1) (wrap64 (x1 + 1)) (wrap64 (x5 + 1))) else (none)) else (some (x1, x0))
def laws_markIntS.f (k : Nat) (l0 : List Int) (a1 : Int) : Option (Int × List Int) := laws_markIntS.l0 k l0 a1 0

def laws_markRing.f (k : Nat) (a0_0 : Int) (a0_1 : Int) (a0_2 : Int) (l0_3 : List Int) (a1 : Int) : Option (Int × List Int) := (laws_markIntS.f k l0_3 a1).bind fun bt117 => (some (bt117.1, bt117.2))

def laws_heldIntS.l0 : Nat → List Int → Int → Int → Option (Int)
  | 0, _, _, _ => none
  | k + 1, x0, x1, x5 => if x5 < (x0.length : Int) then (if 0 ≤ x5 then (if (rd x0 x5) = x1 then (laws_heldIntS.l0 k x0 (wrap64 (x1 + 1)) (wrap64 (x5 + 1))) else (some (-1))) else (none)) else (some x1)
def laws_heldIntS.f (k : Nat) (l0 : List Int) (a1 : Int) : Option (Int) := laws_heldIntS.l0 k l0 a1 0

def laws_heldRing.f (k : Nat) (a0_0 : Int) (a0_1 : Int) (a0_2 : Int) (l0_3 : List Int) (a1 : Int) : Option (Int) := (laws_heldIntS.f k l0_3 a1).bind fun t121 => (if t121 < 0 then (some (-1)) else (some t121))

mutual
def laws_FnExactRingNew.j0 : Nat → Int → Bool → Bool → Int → Int → Int → List Int → Int → Int → Int → List Int → Option (Bool)
  | 0, _, _, _, _, _, _, _, _, _, _, _ => none
  | k + 1, x0, x4, x29, x130000, x130001, x130002, x130003, x138000, x138001, x138002, x138003 => if x29 = true then (some false) else ((laws_markRing.f k x138000 x138001 x138002 x138003 1).bind fun bt139 => ((laws_heldRing.f k x138000 x138001 x138002 bt139.2 1).bind fun t141 => (if t141 < 0 then (some false) else (if t141 = bt139.1 then ((impl_RingNew.f x0).bind fun bt142 => ((laws_eqRing.f k bt142.1 bt142.2.1 bt142.2.2.1 bt142.2.2.2.1 x130000 x130001 x130002 x130003).bind fun t150 => (if t150 = true then (laws_FnExactRingNew.j1 k bt139.1 (bt142.2.2.2.2 != x4) x138000 x138001 x138002 bt139.2) else (laws_FnExactRingNew.j1 k bt139.1 true x138000 x138001 x138002 bt139.2)))) else (some false)))))
def laws_FnExactRingNew.j1 : Nat → Int → Bool → Int → Int → Int → List Int → Option (Bool)
  | 0, _, _, _, _, _, _ => none
  | k + 1, x7, x54, x138000, x138001, x138002, x138003 => if x54 = true then (some false) else ((laws_heldRing.f k x138000 x138001 x138002 x138003 1).bind fun t151 => (if t151 < 0 then (some false) else (if t151 = x7 then (some true) else (some false))))
end
def laws_FnExactRingNew.f (k : Nat) (a0 : Int) : Option (Bool) := (spec_RingNew.f a0).bind fun bt122 => ((impl_RingNew.f a0).bind fun bt130 => ((laws_eqRing.f k bt130.1 bt130.2.1 bt130.2.2.1 bt130.2.2.2.1 bt122.1 bt122.2.1 bt122.2.2.1 bt122.2.2.2.1).bind fun t138 => (if t138 = true then (laws_FnExactRingNew.j0 k a0 bt122.2.2.2.2 (bt130.2.2.2.2 != bt122.2.2.2.2) bt122.1 bt122.2.1 bt122.2.2.1 bt122.2.2.2.1 bt130.1 bt130.2.1 bt130.2.2.1 bt130.2.2.2.1) else (laws_FnExactRingNew.j0 k a0 bt122.2.2.2.2 true bt122.1 bt122.2.1 bt122.2.2.1 bt122.2.2.2.1 bt130.1 bt130.2.1 bt130.2.2.1 bt130.2.2.2.1))))

def spec_l6Open.f (l0 : List Int) : Option (List Int × Int) := if (l0.length : Int) > 2000 then (if 2000 ≤ (l0.length : Int) then (some (l0.take 2000, 0)) else (none)) else (some (l0, 0))

def spec_l6Rd_pick.j0 : Nat → Int → Bool → List Int → Int → Option (Int × Int)
  | 0, _, _, _, _ => none
  | k + 1, x1, x24, x1000, x1001 => if x24 = true then (some (0, x1001)) else (if (wrap64 (x1001 - 1)) < (x1000.length : Int) then (if 0 ≤ (wrap64 (x1001 - 1)) then (if x1 = 0 then (none) else (some (Int.tmod (wrap64 (rd x1000 (wrap64 (x1001 - 1)))) x1, x1001))) else (none)) else (if (x1000.length : Int) = 0 then (none) else (if 0 ≤ (Int.tmod (wrap64 (x1001 - 1)) (x1000.length : Int)) then (if (Int.tmod (wrap64 (x1001 - 1)) (x1000.length : Int)) < (x1000.length : Int) then (if 0 ≤ (Int.tmod (wrap64 ((wrap64 ((wrap64 (x1001 - 1)) * 7)) + 3)) (x1000.length : Int)) then (if (Int.tmod (wrap64 ((wrap64 ((wrap64 (x1001 - 1)) * 7)) + 3)) (x1000.length : Int)) < (x1000.length : Int) then (if x1 = 0 then (none) else (some (Int.tmod (Go.bits .xor .i64 (wrap64 ((wrap64 ((wrap64 ((wrap64 ((wrap64 (rd x1000 (Int.tmod (wrap64 (x1001 - 1)) (x1000.length : Int)))) * 131)) + (wrap64 ((wrap64 (rd x1000 (Int.tmod (wrap64 ((wrap64 ((wrap64 (x1001 - 1)) * 7)) + 3)) (x1000.length : Int)))) * 1117)))) + (wrap64 ((wrap64 (x1001 - 1)) * 29)))) + (wrap64 ((wrap64 (Int.tdiv (wrap64 (x1001 - 1)) (x1000.length : Int))) * 53)))) (wrap64 (Int.tdiv (wrap64 ((wrap64 ((wrap64 ((wrap64 ((wrap64 (rd x1000 (Int.tmod (wrap64 (x1001 - 1)) (x1000.length : Int)))) * 131)) + (wrap64 ((wrap64 (rd x1000 (Int.tmod (wrap64 ((wrap64 ((wrap64 (x1001 - 1)) * 7)) + 3)) (x1000.length : Int)))) * 1117)))) + (wrap64 ((wrap64 (x1001 - 1)) * 29)))) + (wrap64 ((wrap64 (Int.tdiv (wrap64 (x1001 - 1)) (x1000.length : Int))) * 53)))) 64))) x1, x1001))) else (none)) else (none)) else (none)) else (none))))
def spec_l6Rd_pick.f (k : Nat) (s0_0 : List Int) (s0_1 : Int) (a1 : Int) : Option (Int × Int) := if a1 < 1 then (spec_l6Rd_pick.j0 k a1 true s0_0 (wrap64 (s0_1 + 1))) else (spec_l6Rd_pick.j0 k a1 ((s0_0.length : Int) == 0) s0_0 (wrap64 (s0_1 + 1)))

def spec_DrawRingNew.f (k : Nat) (l0 : List Int) : Option (Int) := (spec_l6Open.f l0).bind fun bt158 => ((spec_l6Rd_pick.f k bt158.1 bt158.2 7).bind fun bt161 => (some (wrap64 (bt161.1 - 1))))

def laws_sameInts.l0 : Nat → List Int → List Int → Int → Option (Bool)
  | 0, _, _, _ => none
  | k + 1, x0, x1, x5 => if x5 < (x0.length : Int) then (if 0 ≤ x5 then (if x5 < (x1.length : Int) then (if (rd x0 x5) = (rd x1 x5) then (laws_sameInts.l0 k x0 x1 (wrap64 (x5 + 1))) else (some false)) else (none)) else (none)) else (some true)
def laws_sameInts.f (k : Nat) (l0 : List Int) (l1 : List Int) : Option (Bool) := if (l0.length : Int) = (l1.length : Int) then (laws_sameInts.l0 k l0 l1 0) else (some false)

def laws_sameRing.f (k : Nat) (a0_0 : Int) (a0_1 : Int) (a0_2 : Int) (l0_3 : List Int) (a1_0 : Int) (a1_1 : Int) (a1_2 : Int) (l1_3 : List Int) : Option (Bool) := if a0_0 = a1_0 then (if a0_1 = a1_1 then (if a0_2 = a1_2 then ((laws_sameInts.f k l0_3 l1_3).bind fun t167 => (some t167)) else (some false)) else (some false)) else (some false)

def impl_WordValid.f (a0 : Int) : Option (Bool) := if a0 ≥ (-2147483648) then (some (decide (a0 ≤ 2147483647))) else (some false)

def impl_areWords.l0 : Nat → List Int → Int → Int → Option (Bool)
  | 0, _, _, _ => none
  | k + 1, x5, x6, x7 => if x7 < x6 then (if 0 ≤ x7 then (if x7 < (x5.length : Int) then ((impl_WordValid.f (rd x5 x7)).bind fun t169 => (if t169 = true then (impl_areWords.l0 k x5 x6 (wrap64 (x7 + 1))) else (some false))) else (none)) else (none)) else (some true)
def impl_areWords.f (k : Nat) (l0 : List Int) : Option (Bool) := impl_areWords.l0 k l0 (l0.length : Int) 0

def impl_RingValid.f (k : Nat) (a0_0 : Int) (a0_1 : Int) (a0_2 : Int) (l0_3 : List Int) : Option (Bool) := if a0_0 ≥ 1 then (if a0_0 ≤ 4 then (if a0_1 ≥ 0 then (if a0_1 < a0_0 then (if a0_2 ≥ 0 then (if a0_2 ≤ a0_0 then (if (l0_3.length : Int) = 4 then ((impl_areWords.f k l0_3).bind fun t171 => (some t171)) else (some false)) else (some false)) else (some false)) else (some false)) else (some false)) else (some false)) else (some false)

def impl_RingBox.l0 : Nat → Int → Int → Int → Int → Int → List Int → Int → List Int → Option (Int × List Int × Bool)
  | 0, _, _, _, _, _, _, _, _ => none
  | k + 1, x14, x15, x173000, x173001, x173002, x173003, x176000, x176001 => if x15 < x14 then (if x173000 = 0 then (none) else (if 0 ≤ (Int.tmod (wrap64 (x173001 + x15)) x173000) then (if (Int.tmod (wrap64 (x173001 + x15)) x173000) < (x173003.length : Int) then (if x176001.length < 17592186044416 then (impl_RingBox.l0 k x14 (wrap64 (x15 + 1)) x173000 x173001 x173002 x173003 x176000 (x176001 ++ [rd x173003 (Int.tmod (wrap64 (x173001 + x15)) x173000)])) else (none)) else (none)) else (none))) else (some (x176000, x176001, true))
def impl_RingBox.f (k : Nat) (a0_0 : Int) (a0_1 : Int) (a0_2 : Int) (l0_3 : List Int) : Option (Int × List Int × Bool) := (impl_RingValid.f k a0_0 a0_1 a0_2 l0_3).bind fun t174 => (if t174 = true then (impl_RingBox.l0 k a0_2 0 a0_0 a0_1 a0_2 l0_3 a0_0 ([] : List Int)) else (some (0, ([] : List Int), false)))

def laws_sameBox.f (k : Nat) (a0_0 : Int) (l0_1 : List Int) (a1_0 : Int) (l1_1 : List Int) : Option (Bool) := if a0_0 = a1_0 then ((laws_sameInts.f k l0_1 l1_1).bind fun t182 => (some t182)) else (some false)

def laws_FnRingNew.j0 : Nat → Int → Bool → Bool → Bool → Int → Int → Int → List Int → Int → Int → Int → List Int → Option (Bool)
  | 0, _, _, _, _, _, _, _, _, _, _, _, _ => none
  | k + 1, x3, x5, x7, x37, x192000, x192001, x192002, x192003, x200000, x200001, x200002, x200003 => if x37 = true then (if (x5 == x7) = true then ((laws_sameRing.f k x192000 x192001 x192002 x192003 x200000 x200001 x200002 x200003).bind fun t201 => (some t201)) else (some false)) else ((impl_RingBox.f k x192000 x192001 x192002 x192003).bind fun bt202 => (if bt202.2.2 = true then ((impl_RingValid.f k x192000 x192001 x192002 x192003).bind fun t208 => (if t208 = true then ((laws_sameBox.f k bt202.1 bt202.2.1 x3 ([] : List Int)).bind fun t209 => (some t209)) else (some false))) else (some false)))
def laws_FnRingNew.f (k : Nat) (l0 : List Int) : Option (Bool) := if (l0.length : Int) > 1048576 then (some true) else ((spec_DrawRingNew.f k l0).bind fun t183 => ((impl_RingNew.f t183).bind fun bt184 => ((spec_RingNew.f t183).bind fun bt192 => (if (bt184.2.2.2.2 != bt192.2.2.2.2) = true then (laws_FnRingNew.j0 k t183 bt184.2.2.2.2 bt192.2.2.2.2 true bt184.1 bt184.2.1 bt184.2.2.1 bt184.2.2.2.1 bt192.1 bt192.2.1 bt192.2.2.1 bt192.2.2.2.1) else ((laws_sameRing.f k bt184.1 bt184.2.1 bt184.2.2.1 bt184.2.2.2.1 bt192.1 bt192.2.1 bt192.2.2.1 bt192.2.2.2.1).bind fun t200 => (if t200 = true then (laws_FnRingNew.j0 k t183 bt184.2.2.2.2 bt192.2.2.2.2 (!bt184.2.2.2.2) bt184.1 bt184.2.1 bt184.2.2.1 bt184.2.2.2.1 bt192.1 bt192.2.1 bt192.2.2.1 bt192.2.2.2.1) else (laws_FnRingNew.j0 k t183 bt184.2.2.2.2 bt192.2.2.2.2 true bt184.1 bt184.2.1 bt184.2.2.1 bt184.2.2.2.1 bt192.1 bt192.2.1 bt192.2.2.1 bt192.2.2.2.1)))))))

def laws_szIntS.f (l0 : List Int) (a1 : Int) : Option (Int) := if (wrap64 (a1 - (l0.length : Int))) < 0 then (some (-1)) else (some (wrap64 (a1 - (l0.length : Int))))

def laws_szBox.f (a0_0 : Int) (l0_1 : List Int) (a1 : Int) : Option (Int) := (laws_szIntS.f l0_1 a1).bind fun t211 => (if t211 < 0 then (some (-1)) else (some t211))

def spec_WordValid.f (a0 : Int) : Option (Bool) := (spec_l6In.f a0 (-2147483648) 2147483647).bind fun t212 => (some t212)

def spec_l4Words.l0 : Nat → List Int → Int → Option (Bool)
  | 0, _, _ => none
  | k + 1, x0, x5 => if x5 < (x0.length : Int) then (if 0 ≤ x5 then ((spec_WordValid.f (rd x0 x5)).bind fun t214 => (if t214 = true then (spec_l4Words.l0 k x0 (wrap64 (x5 + 1))) else (some false))) else (none)) else (some true)
def spec_l4Words.f (k : Nat) (l0 : List Int) (a1 : Int) : Option (Bool) := if (l0.length : Int) = a1 then (spec_l4Words.l0 k l0 0) else (some false)

def spec_BoxValid.f (k : Nat) (a0_0 : Int) (l0_1 : List Int) : Option (Bool) := (spec_l6In.f a0_0 1 4).bind fun t216 => (if t216 = true then (if (l0_1.length : Int) ≤ a0_0 then ((spec_l4Words.f k l0_1 (l0_1.length : Int)).bind fun t217 => (some t217)) else (some false)) else (some false))

def laws_toIntS.l0 : Nat → List Int → List Int → Int → Option (List Int)
  | 0, _, _, _ => none
  | k + 1, x0, x3, x4 => if x4 < (x0.length : Int) then (if 0 ≤ x4 then (if x4 < (x3.length : Int) then (laws_toIntS.l0 k x0 (x3.set (x4 : Int).toNat (rd x0 x4)) (wrap64 (x4 + 1))) else (none)) else (none)) else (some x3)
def laws_toIntS.f (k : Nat) (l0 : List Int) : Option (List Int) := if 0 ≤ (l0.length : Int) then (if ((l0.length : Int) : Int).toNat ≤ 35184372088832 then (laws_toIntS.l0 k l0 (List.replicate ((l0.length : Int) : Int).toNat 0) 0) else (none)) else (none)

def laws_toBox.f (k : Nat) (a0_0 : Int) (l0_1 : List Int) : Option (Int × List Int) := (laws_toIntS.f k l0_1).bind fun t226 => (some (a0_0, t226))

def impl_BoxValid.f (k : Nat) (a0_0 : Int) (l0_1 : List Int) : Option (Bool) := if a0_0 ≥ 1 then (if a0_0 ≤ 4 then (if (l0_1.length : Int) ≤ a0_0 then ((impl_areWords.f k l0_1).bind fun t230 => (some t230)) else (some false)) else (some false)) else (some false)

def laws_eqBox.f (k : Nat) (a0_0 : Int) (l0_1 : List Int) (a1_0 : Int) (l1_1 : List Int) : Option (Bool) := if a0_0 = a1_0 then ((laws_eqIntS.f k l0_1 l1_1).bind fun t233 => (if t233 = true then (some true) else (some false))) else (some false)

def laws_FnExactBoxValid.f (k : Nat) (a0_0 : Int) (l0_1 : List Int) : Option (Bool) := (laws_szBox.f a0_0 l0_1 1048576).bind fun t235 => (if t235 < 0 then (some true) else ((laws_toBox.f k a0_0 l0_1).bind fun bt236 => ((spec_BoxValid.f k bt236.1 bt236.2).bind fun t240 => ((laws_toBox.f k a0_0 l0_1).bind fun bt241 => ((impl_BoxValid.f k bt241.1 bt241.2).bind fun t246 => (if (t246 != t240) = true then (some false) else ((laws_toBox.f k a0_0 l0_1).bind fun bt247 => ((laws_eqBox.f k bt241.1 bt241.2 bt247.1 bt247.2).bind fun t251 => (if t251 = true then (some true) else (some false))))))))))

def laws_szRing.f (a0_0 : Int) (a0_1 : Int) (a0_2 : Int) (l0_3 : List Int) (a1 : Int) : Option (Int) := (laws_szIntS.f l0_3 a1).bind fun t253 => (if t253 < 0 then (some (-1)) else (some t253))

def spec_RingValid.f (k : Nat) (a0_0 : Int) (a0_1 : Int) (a0_2 : Int) (l0_3 : List Int) : Option (Bool) := (spec_l6In.f a0_0 1 4).bind fun t255 => (if t255 = true then ((spec_l6In.f a0_1 0 (wrap64 (a0_0 - 1))).bind fun t256 => (if t256 = true then ((spec_l6In.f a0_2 0 a0_0).bind fun t257 => (if t257 = true then ((spec_l4Words.f k l0_3 4).bind fun t258 => (some t258)) else (some false))) else (some false))) else (some false))

def laws_toRing.f (k : Nat) (a0_0 : Int) (a0_1 : Int) (a0_2 : Int) (l0_3 : List Int) : Option (Int × Int × Int × List Int) := (laws_toIntS.f k l0_3).bind fun t262 => (some (a0_0, a0_1, a0_2, t262))

def laws_FnExactRingValid.f (k : Nat) (a0_0 : Int) (a0_1 : Int) (a0_2 : Int) (l0_3 : List Int) : Option (Bool) := (laws_szRing.f a0_0 a0_1 a0_2 l0_3 1048576).bind fun t266 => (if t266 < 0 then (some true) else ((laws_toRing.f k a0_0 a0_1 a0_2 l0_3).bind fun bt267 => ((spec_RingValid.f k bt267.1 bt267.2.1 bt267.2.2.1 bt267.2.2.2).bind fun t273 => ((laws_toRing.f k a0_0 a0_1 a0_2 l0_3).bind fun bt274 => ((impl_RingValid.f k bt274.1 bt274.2.1 bt274.2.2.1 bt274.2.2.2).bind fun t281 => (if (t281 != t273) = true then (some false) else ((laws_toRing.f k a0_0 a0_1 a0_2 l0_3).bind fun bt282 => ((laws_eqRing.f k bt274.1 bt274.2.1 bt274.2.2.1 bt274.2.2.2 bt282.1 bt282.2.1 bt282.2.2.1 bt282.2.2.2).bind fun t288 => (if t288 = true then (some true) else (some false))))))))))

def slices_Clone_int_int.f (l0 : List Int) : Option (List Int) := (some (([] : List Int) : List Int)).bind fun y289 => (if y289.length + l0.length < 17592186044416 then (some (y289 ++ l0)) else (none))

def impl_RingPut.f (k : Nat) (a0_0 : Int) (a0_1 : Int) (a0_2 : Int) (l0_3 : List Int) (a1 : Int) : Option (Int × Int × Int × List Int × Bool) := (impl_RingValid.f k a0_0 a0_1 a0_2 l0_3).bind fun t297 => (if t297 = true then ((impl_WordValid.f a1).bind fun t298 => (if t298 = true then (if a0_2 = a0_0 then (some (0, 0, 0, ([] : List Int), false)) else ((slices_Clone_int_int.f l0_3).bind fun t299 => (if a0_0 = 0 then (none) else (if 0 ≤ (Int.tmod (wrap64 (a0_1 + a0_2)) a0_0) then (if (Int.tmod (wrap64 (a0_1 + a0_2)) a0_0) < (t299.length : Int) then (some (a0_0, a0_1, wrap64 (a0_2 + 1), (t299.set ((Int.tmod (wrap64 (a0_1 + a0_2)) a0_0) : Int).toNat a1), true)) else (none)) else (none))))) else (some (0, 0, 0, ([] : List Int), false)))) else (some (0, 0, 0, ([] : List Int), false)))

def impl_RingTake.f (k : Nat) (a0_0 : Int) (a0_1 : Int) (a0_2 : Int) (l0_3 : List Int) : Option (Int × Int × Int × List Int × Int × Bool) := (impl_RingValid.f k a0_0 a0_1 a0_2 l0_3).bind fun t305 => (if t305 = true then (if a0_2 = 0 then (some (0, 0, 0, ([] : List Int), 0, false)) else ((slices_Clone_int_int.f l0_3).bind fun t306 => (if 0 ≤ a0_1 then (if a0_1 < (t306.length : Int) then (if a0_0 = 0 then (none) else (some (a0_0, Int.tmod (wrap64 (a0_1 + 1)) a0_0, wrap64 (a0_2 - 1), t306, rd t306 a0_1, true))) else (none)) else (none)))) else (some (0, 0, 0, ([] : List Int), 0, false)))

mutual
def laws_FnRingRound.j0 : Nat → Int → Bool → Bool → Bool → Int → Int → Int → List Int → Int → Int → Int → List Int → Option (Bool)
  | 0, _, _, _, _, _, _, _, _, _, _, _, _ => none
  | k + 1, x3, x5, x7, x44, x319000, x319001, x319002, x319003, x327000, x327001, x327002, x327003 => if x44 = true then (if (x5 == x7) = true then ((laws_sameRing.f k x319000 x319001 x319002 x319003 x327000 x327001 x327002 x327003).bind fun t328 => (some t328)) else (some false)) else (laws_FnRingRound.l0 k x3 0 x319000 x319001 x319002 x319003)
def laws_FnRingRound.l0 : Nat → Int → Int → Int → Int → Int → List Int → Option (Bool)
  | 0, _, _, _, _, _, _ => none
  | k + 1, x3, x8, x319000, x319001, x319002, x319003 => if x8 < x3 then ((impl_RingPut.f k x319000 x319001 x319002 x319003 (wrap64 (10 + x8))).bind fun bt329 => (if bt329.2.2.2.2 = true then (laws_FnRingRound.l0 k x3 (wrap64 (x8 + 1)) bt329.1 bt329.2.1 bt329.2.2.1 bt329.2.2.2.1) else (some false))) else ((impl_RingPut.f k x319000 x319001 x319002 x319003 5).bind fun bt337 => (laws_FnRingRound.l1 k x3 bt337.2.2.2.2 0 x319000 x319001 x319002 x319003))
def laws_FnRingRound.l1 : Nat → Int → Bool → Int → Int → Int → Int → List Int → Option (Bool)
  | 0, _, _, _, _, _, _, _ => none
  | k + 1, x3, x12, x13, x319000, x319001, x319002, x319003 => if x13 < x3 then ((impl_RingTake.f k x319000 x319001 x319002 x319003).bind fun bt345 => (if bt345.2.2.2.2.2 = true then (if bt345.2.2.2.2.1 = (wrap64 (10 + x13)) then (laws_FnRingRound.l1 k x3 x12 (wrap64 (x13 + 1)) bt345.1 bt345.2.1 bt345.2.2.1 bt345.2.2.2.1) else (some false)) else (some false))) else (if x12 = true then (some false) else (if x319001 = 0 then (some (x319002 == 0)) else (some false)))
end
def laws_FnRingRound.f (k : Nat) (l0 : List Int) : Option (Bool) := if (l0.length : Int) > 1048576 then (some true) else ((spec_DrawRingNew.f k l0).bind fun t310 => ((impl_RingNew.f t310).bind fun bt311 => ((spec_RingNew.f t310).bind fun bt319 => (if (bt311.2.2.2.2 != bt319.2.2.2.2) = true then (laws_FnRingRound.j0 k t310 bt311.2.2.2.2 bt319.2.2.2.2 true bt311.1 bt311.2.1 bt311.2.2.1 bt311.2.2.2.1 bt319.1 bt319.2.1 bt319.2.2.1 bt319.2.2.2.1) else ((laws_sameRing.f k bt311.1 bt311.2.1 bt311.2.2.1 bt311.2.2.2.1 bt319.1 bt319.2.1 bt319.2.2.1 bt319.2.2.2.1).bind fun t327 => (if t327 = true then (laws_FnRingRound.j0 k t310 bt311.2.2.2.2 bt319.2.2.2.2 (!bt311.2.2.2.2) bt311.1 bt311.2.1 bt311.2.2.1 bt311.2.2.2.1 bt319.1 bt319.2.1 bt319.2.2.1 bt319.2.2.2.1) else (laws_FnRingRound.j0 k t310 bt311.2.2.2.2 bt319.2.2.2.2 true bt311.1 bt311.2.1 bt311.2.2.1 bt311.2.2.2.1 bt319.1 bt319.2.1 bt319.2.2.1 bt319.2.2.2.1)))))))

def spec_Wrap.f (a0 : Int) : Option (Int) := if (Int.tmod a0 4294967296) > 2147483647 then (some (wrap64 ((Int.tmod a0 4294967296) - 4294967296))) else (if (Int.tmod a0 4294967296) < (-2147483648) then (some (wrap64 ((Int.tmod a0 4294967296) + 4294967296))) else (some (Int.tmod a0 4294967296)))

def spec_l91Word.f (k : Nat) (s0_0 : List Int) (s0_1 : Int) : Option (Int × Int) := (spec_l6Rd_pick.f k s0_0 s0_1 6).bind fun bt354 => (if bt354.1 = 0 then ((some (([(-2147483648), 2147483647, (-1), 0, 1, (-2147483647), 65536, (-65536)] : List Int) : List Int)).bind fun y356 => ((spec_l6Rd_pick.f k s0_0 bt354.2 8).bind fun bt359 => (if 0 ≤ bt359.1 then (if bt359.1 < (y356.length : Int) then (some (rd y356 bt359.1, bt359.2)) else (none)) else (none)))) else (if bt354.1 = 1 then ((spec_l6Rd_pick.f k s0_0 bt354.2 256).bind fun bt362 => ((spec_l6Rd_pick.f k s0_0 bt362.2 256).bind fun bt364 => ((spec_l6Rd_pick.f k s0_0 bt364.2 256).bind fun bt366 => ((spec_l6Rd_pick.f k s0_0 bt366.2 200).bind fun bt368 => ((spec_Wrap.f (wrap64 ((wrap64 ((wrap64 ((wrap64 (bt362.1 * 65536)) + (wrap64 (bt364.1 * 256)))) + bt366.1)) * (wrap64 (1 + bt368.1))))).bind fun t370 => (some (t370, bt368.2))))))) else (if bt354.1 = 2 then ((spec_l6Rd_pick.f k s0_0 bt354.2 200).bind fun bt371 => (some (wrap64 (-bt371.1), bt371.2))) else ((spec_l6Rd_pick.f k s0_0 bt354.2 20).bind fun bt373 => (some (bt373.1, bt373.2))))))

def spec_l92Items.l0 : Nat → Int → List Int → Int → List Int → Int → Option (List Int × Int)
  | 0, _, _, _, _, _ => none
  | k + 1, x1, x5, x6, x1000, x1001 => if x6 < x1 then ((spec_l91Word.f k x1000 x1001).bind fun bt378 => (if x5.length < 17592186044416 then (spec_l92Items.l0 k x1 (x5 ++ [bt378.1]) (wrap64 (x6 + 1)) x1000 bt378.2) else (none))) else (some (x5, x1001))
def spec_l92Items.f (k : Nat) (s0_0 : List Int) (s0_1 : Int) (a1 : Int) : Option (List Int × Int) := spec_l92Items.l0 k a1 (([] : List Int)) 0 s0_0 s0_1

def spec_l92Box.f (k : Nat) (s0_0 : List Int) (s0_1 : Int) : Option (Int × List Int × Int) := (spec_l6Rd_pick.f k s0_0 s0_1 4).bind fun bt384 => ((spec_l6Rd_pick.f k s0_0 bt384.2 (wrap64 ((wrap64 (1 + bt384.1)) + 1))).bind fun bt386 => ((spec_l92Items.f k s0_0 bt386.2 bt386.1).bind fun bt388 => ((spec_l6Rd_pick.f k s0_0 bt388.2 40).bind fun bt393 => (if bt393.1 = 0 then ((some (([0, 5] : List Int) : List Int)).bind fun y395 => ((spec_l6Rd_pick.f k s0_0 bt393.2 2).bind fun bt398 => (if 0 ≤ bt398.1 then (if bt398.1 < (y395.length : Int) then (some (rd y395 bt398.1, bt388.1, bt398.2)) else (none)) else (none)))) else (if bt393.1 = 1 then ((spec_l92Items.f k s0_0 bt393.2 (wrap64 ((wrap64 (1 + bt384.1)) + 1))).bind fun bt401 => (some (wrap64 (1 + bt384.1), bt401.1, bt401.2))) else (if bt393.1 = 2 then (some (wrap64 (1 + bt384.1), (([2147483648] : List Int)), bt393.2)) else (some (wrap64 (1 + bt384.1), bt388.1, bt393.2))))))))

def spec_DrawBoxValid.f (k : Nat) (l0 : List Int) : Option (Int × List Int) := (spec_l6Open.f l0).bind fun bt409 => ((spec_l92Box.f k bt409.1 bt409.2).bind fun bt412 => ((spec_l6Rd_pick.f k bt409.1 bt412.2.2 6).bind fun bt418 => (if bt418.1 = 0 then ((spec_l6Rd_pick.f k bt409.1 bt418.2 3).bind fun bt420 => ((spec_l92Items.f k bt409.1 bt420.2 (wrap64 (3 + bt420.1))).bind fun bt422 => (some (bt412.1, bt422.1)))) else (some (bt412.1, bt412.2.1)))))

mutual
def laws_FnBox.j0 : Nat → List Int → List Int → Bool → Option (Bool)
  | 0, _, _, _ => none
  | k + 1, x0, x1, x17 => if x17 = true then (some true) else ((spec_DrawBoxValid.f k x0).bind fun bt426 => ((impl_BoxValid.f k bt426.1 bt426.2).bind fun t431 => ((spec_BoxValid.f k bt426.1 bt426.2).bind fun t432 => (if (t431 != t432) = true then (laws_FnBox.j1 k x1 t431 t432 true bt426.1 bt426.2) else (laws_FnBox.j1 k x1 t431 t432 (!t431) bt426.1 bt426.2)))))
def laws_FnBox.j1 : Nat → List Int → Bool → Bool → Bool → Int → List Int → Option (Bool)
  | 0, _, _, _, _, _, _ => none
  | k + 1, x1, x6, x7, x30, x431000, x431001 => if x30 = true then (some (x6 == x7)) else (if (wrap64 ((x431001.length : Int) + 1)) = 0 then (none) else ((some (([] : List Int) : List Int)).bind fun y433 => (if y433.length + x431001.length < 17592186044416 then (laws_FnBox.l0 k ((x1.length : Int) % (wrap64 ((x431001.length : Int) + 1))) (y433 ++ x431001) x431000 x431001) else (none))))
def laws_FnBox.l0 : Nat → Int → List Int → Int → List Int → Option (Bool)
  | 0, _, _, _, _ => none
  | k + 1, x8, x9, x431000, x431001 => if (x9.length : Int) ≤ x431000 then (if x9.length < 17592186044416 then (laws_FnBox.l0 k x8 (x9 ++ [7]) x431000 x431001) else (none)) else (if 0 ≤ x8 then (if x8 ≤ (x431001.length : Int) then ((impl_BoxValid.f k x431000 (x431001.take (x8 : Int).toNat)).bind fun t446 => (if t446 = true then ((impl_BoxValid.f k 4 x431001).bind fun t447 => (if t447 = true then ((impl_BoxValid.f k x431000 x9).bind fun t448 => (some (!t448))) else (some false))) else (some false))) else (none)) else (none))
end
def laws_FnBox.f (k : Nat) (l0 : List Int) (l1 : List Int) : Option (Bool) := if (l0.length : Int) > 1048576 then (laws_FnBox.j0 k l0 l1 true) else (laws_FnBox.j0 k l0 l1 (decide ((l1.length : Int) > 1048576)))

def spec_l92Ring.f (k : Nat) (s0_0 : List Int) (s0_1 : Int) : Option (Int × Int × Int × List Int × Int) := (spec_l6Rd_pick.f k s0_0 s0_1 4).bind fun bt450 => ((spec_l6Rd_pick.f k s0_0 bt450.2 (wrap64 (1 + bt450.1))).bind fun bt452 => ((spec_l6Rd_pick.f k s0_0 bt452.2 (wrap64 ((wrap64 (1 + bt450.1)) + 1))).bind fun bt454 => ((spec_l92Items.f k s0_0 bt454.2 4).bind fun bt456 => ((spec_l6Rd_pick.f k s0_0 bt456.2 40).bind fun bt461 => (if bt461.1 = 0 then (some (wrap64 (1 + bt450.1), wrap64 (1 + bt450.1), bt454.1, bt456.1, bt461.2)) else (if bt461.1 = 1 then ((some (([(-1), wrap64 ((wrap64 (1 + bt450.1)) + 1)] : List Int) : List Int)).bind fun y463 => ((spec_l6Rd_pick.f k s0_0 bt461.2 2).bind fun bt466 => (if 0 ≤ bt466.1 then (if bt466.1 < (y463.length : Int) then (some (wrap64 (1 + bt450.1), bt452.1, rd y463 bt466.1, bt456.1, bt466.2)) else (none)) else (none)))) else (if bt461.1 = 2 then ((spec_l92Items.f k s0_0 bt461.2 3).bind fun bt469 => (some (wrap64 (1 + bt450.1), bt452.1, bt454.1, bt469.1, bt469.2))) else (some (wrap64 (1 + bt450.1), bt452.1, bt454.1, bt456.1, bt461.2)))))))))

def spec_DrawRingValid.f (k : Nat) (l0 : List Int) : Option (Int × Int × Int × List Int) := (spec_l6Open.f l0).bind fun bt474 => ((spec_l92Ring.f k bt474.1 bt474.2).bind fun bt477 => ((spec_l6Rd_pick.f k bt474.1 bt477.2.2.2.2 8).bind fun bt485 => (if bt485.1 = 0 then ((some (([0, 5] : List Int) : List Int)).bind fun y487 => ((spec_l6Rd_pick.f k bt474.1 bt485.2 2).bind fun bt490 => (if 0 ≤ bt490.1 then (if bt490.1 < (y487.length : Int) then (some (rd y487 bt490.1, bt477.2.1, bt477.2.2.1, bt477.2.2.2.1)) else (none)) else (none)))) else (some (bt477.1, bt477.2.1, bt477.2.2.1, bt477.2.2.2.1)))))

def spec_BoxPut.f (k : Nat) (a0_0 : Int) (l0_1 : List Int) (a1 : Int) : Option (Int × List Int × Bool) := (spec_BoxValid.f k a0_0 l0_1).bind fun t516 => (if t516 = true then ((spec_WordValid.f a1).bind fun t517 => (if t517 = true then (if (l0_1.length : Int) ≥ a0_0 then (some (0, ([] : List Int), false)) else ((some (([] : List Int) : List Int)).bind fun y518 => (if y518.length + l0_1.length < 17592186044416 then ((some (y518 ++ l0_1 : List Int)).bind fun y521 => ((some (([a1] : List Int) : List Int)).bind fun y524 => (if y521.length + y524.length < 17592186044416 then (some (a0_0, (y521 ++ y524), true)) else (none)))) else (none)))) else (some (0, ([] : List Int), false)))) else (some (0, ([] : List Int), false)))

def impl_BoxPut.f (k : Nat) (a0_0 : Int) (l0_1 : List Int) (a1 : Int) : Option (Int × List Int × Bool) := (impl_BoxValid.f k a0_0 l0_1).bind fun t532 => (if t532 = true then ((impl_WordValid.f a1).bind fun t533 => (if t533 = true then (if (l0_1.length : Int) = a0_0 then (some (0, ([] : List Int), false)) else ((slices_Clone_int_int.f l0_1).bind fun t534 => ((some (([a1] : List Int) : List Int)).bind fun y537 => (if t534.length + y537.length < 17592186044416 then (some (a0_0, (t534 ++ y537), true)) else (none))))) else (some (0, ([] : List Int), false)))) else (some (0, ([] : List Int), false)))

def laws_markBox.f (k : Nat) (a0_0 : Int) (l0_1 : List Int) (a1 : Int) : Option (Int × List Int) := (laws_markIntS.f k l0_1 a1).bind fun bt544 => (some (bt544.1, bt544.2))

def laws_heldBox.f (k : Nat) (a0_0 : Int) (l0_1 : List Int) (a1 : Int) : Option (Int) := (laws_heldIntS.f k l0_1 a1).bind fun t547 => (if t547 < 0 then (some (-1)) else (some t547))

mutual
def laws_FnExactBoxPut.j0 : Nat → Int → Bool → Bool → Bool → Int → List Int → Int → List Int → Int → List Int → Int → List Int → Option (Bool)
  | 0, _, _, _, _, _, _, _, _, _, _, _, _ => none
  | k + 1, x1, x7, x10, x44, x549000, x549001, x560000, x560001, x565000, x565001, x571000, x571001 => if x44 = true then (some false) else ((laws_toBox.f k x549000 x549001).bind fun bt572 => ((laws_eqBox.f k x565000 x565001 bt572.1 bt572.2).bind fun t576 => (if t576 = true then ((laws_markBox.f k x565000 x565001 1).bind fun bt577 => (if bt577.1 < 0 then (laws_FnExactBoxPut.j1 k x1 x7 true x549000 x549001 x560000 x560001 x571000 x571001) else ((laws_eqBox.f k x571000 x571001 x560000 x560001).bind fun t579 => (if t579 = true then (laws_FnExactBoxPut.j1 k x1 x7 (x10 != x7) x549000 x549001 x560000 x560001 x571000 x571001) else (laws_FnExactBoxPut.j1 k x1 x7 true x549000 x549001 x560000 x560001 x571000 x571001))))) else (some false))))
def laws_FnExactBoxPut.j1 : Nat → Int → Bool → Bool → Int → List Int → Int → List Int → Int → List Int → Option (Bool)
  | 0, _, _, _, _, _, _, _, _, _ => none
  | k + 1, x1, x7, x65, x549000, x549001, x560000, x560001, x571000, x571001 => if x65 = true then (some false) else ((laws_markBox.f k x571000 x571001 1).bind fun bt580 => ((laws_heldBox.f k x571000 bt580.2 1).bind fun t582 => (if t582 < 0 then (some false) else (if t582 = bt580.1 then ((laws_toBox.f k x549000 x549001).bind fun bt583 => ((impl_BoxPut.f k bt583.1 bt583.2 x1).bind fun bt587 => ((laws_eqBox.f k bt587.1 bt587.2.1 x560000 x560001).bind fun t593 => (if t593 = true then (laws_FnExactBoxPut.j2 k bt580.1 (bt587.2.2 != x7) x571000 bt580.2) else (laws_FnExactBoxPut.j2 k bt580.1 true x571000 bt580.2))))) else (some false)))))
def laws_FnExactBoxPut.j2 : Nat → Int → Bool → Int → List Int → Option (Bool)
  | 0, _, _, _, _ => none
  | k + 1, x12, x92, x571000, x571001 => if x92 = true then (some false) else ((laws_heldBox.f k x571000 x571001 1).bind fun t594 => (if t594 < 0 then (some false) else (if t594 = x12 then (some true) else (some false))))
end
def laws_FnExactBoxPut.f (k : Nat) (a0_0 : Int) (l0_1 : List Int) (a1 : Int) : Option (Bool) := (laws_szBox.f a0_0 l0_1 1048576).bind fun t549 => (if t549 < 0 then (some true) else ((laws_toBox.f k a0_0 l0_1).bind fun bt550 => ((spec_BoxPut.f k bt550.1 bt550.2 a1).bind fun bt554 => ((laws_toBox.f k a0_0 l0_1).bind fun bt560 => ((impl_BoxPut.f k bt560.1 bt560.2 a1).bind fun bt565 => ((laws_eqBox.f k bt565.1 bt565.2.1 bt554.1 bt554.2.1).bind fun t571 => (if t571 = true then (laws_FnExactBoxPut.j0 k a1 bt554.2.2 bt565.2.2 (bt565.2.2 != bt554.2.2) a0_0 l0_1 bt554.1 bt554.2.1 bt560.1 bt560.2 bt565.1 bt565.2.1) else (laws_FnExactBoxPut.j0 k a1 bt554.2.2 bt565.2.2 true a0_0 l0_1 bt554.1 bt554.2.1 bt560.1 bt560.2 bt565.1 bt565.2.1))))))))

def spec_BoxTake.f (k : Nat) (a0_0 : Int) (l0_1 : List Int) : Option (Int × List Int × Int × Bool) := (spec_BoxValid.f k a0_0 l0_1).bind fun t597 => (if t597 = true then (if (l0_1.length : Int) = 0 then (some (0, ([] : List Int), 0, false)) else ((some (([] : List Int) : List Int)).bind fun y598 => (if 1 ≤ (l0_1.length : Int) then (if y598.length + (l0_1.drop 1).length < 17592186044416 then (if 0 < (l0_1.length : Int) then (some (a0_0, (y598 ++ (l0_1.drop 1)), rd l0_1 0, true)) else (none)) else (none)) else (none)))) else (some (0, ([] : List Int), 0, false)))

def impl_BoxTake.f (k : Nat) (a0_0 : Int) (l0_1 : List Int) : Option (Int × List Int × Int × Bool) := (impl_BoxValid.f k a0_0 l0_1).bind fun t608 => (if t608 = true then (if (l0_1.length : Int) = 0 then (some (0, ([] : List Int), 0, false)) else (if 1 ≤ (l0_1.length : Int) then ((slices_Clone_int_int.f (l0_1.drop 1)).bind fun t610 => (if 0 < (l0_1.length : Int) then (some (a0_0, t610, rd l0_1 0, true)) else (none))) else (none))) else (some (0, ([] : List Int), 0, false)))

mutual
def laws_FnExactBoxTake.j0 : Nat → Int → Bool → Int → Bool → Bool → Int → List Int → Int → List Int → Int → List Int → Int → List Int → Option (Bool)
  | 0, _, _, _, _, _, _, _, _, _, _, _, _, _ => none
  | k + 1, x5, x6, x9, x10, x50, x615000, x615001, x627000, x627001, x632000, x632001, x639000, x639001 => if x50 = true then (some false) else ((laws_toBox.f k x615000 x615001).bind fun bt640 => ((laws_eqBox.f k x632000 x632001 bt640.1 bt640.2).bind fun t644 => (if t644 = true then ((laws_markBox.f k x632000 x632001 1).bind fun bt645 => (if bt645.1 < 0 then (laws_FnExactBoxTake.j1 k x5 x6 true x615000 x615001 x627000 x627001 x639000 x639001) else ((laws_eqBox.f k x639000 x639001 x627000 x627001).bind fun t647 => (if t647 = true then (if x9 = x5 then (laws_FnExactBoxTake.j1 k x5 x6 (x10 != x6) x615000 x615001 x627000 x627001 x639000 x639001) else (laws_FnExactBoxTake.j1 k x5 x6 true x615000 x615001 x627000 x627001 x639000 x639001)) else (laws_FnExactBoxTake.j1 k x5 x6 true x615000 x615001 x627000 x627001 x639000 x639001))))) else (some false))))
def laws_FnExactBoxTake.j1 : Nat → Int → Bool → Bool → Int → List Int → Int → List Int → Int → List Int → Option (Bool)
  | 0, _, _, _, _, _, _, _, _, _ => none
  | k + 1, x5, x6, x76, x615000, x615001, x627000, x627001, x639000, x639001 => if x76 = true then (some false) else ((laws_markBox.f k x639000 x639001 1).bind fun bt648 => ((laws_heldBox.f k x639000 bt648.2 1).bind fun t650 => (if t650 < 0 then (some false) else (if t650 = bt648.1 then ((laws_toBox.f k x615000 x615001).bind fun bt651 => ((impl_BoxTake.f k bt651.1 bt651.2).bind fun bt655 => ((laws_eqBox.f k bt655.1 bt655.2.1 x627000 x627001).bind fun t662 => (if t662 = true then (if bt655.2.2.1 = x5 then (laws_FnExactBoxTake.j2 k bt648.1 (bt655.2.2.2 != x6) x639000 bt648.2) else (laws_FnExactBoxTake.j2 k bt648.1 true x639000 bt648.2)) else (laws_FnExactBoxTake.j2 k bt648.1 true x639000 bt648.2))))) else (some false)))))
def laws_FnExactBoxTake.j2 : Nat → Int → Bool → Int → List Int → Option (Bool)
  | 0, _, _, _, _ => none
  | k + 1, x12, x108, x639000, x639001 => if x108 = true then (some false) else ((laws_heldBox.f k x639000 x639001 1).bind fun t663 => (if t663 < 0 then (some false) else (if t663 = x12 then (some true) else (some false))))
end
def laws_FnExactBoxTake.f (k : Nat) (a0_0 : Int) (l0_1 : List Int) : Option (Bool) := (laws_szBox.f a0_0 l0_1 1048576).bind fun t615 => (if t615 < 0 then (some true) else ((laws_toBox.f k a0_0 l0_1).bind fun bt616 => ((spec_BoxTake.f k bt616.1 bt616.2).bind fun bt620 => ((laws_toBox.f k a0_0 l0_1).bind fun bt627 => ((impl_BoxTake.f k bt627.1 bt627.2).bind fun bt632 => ((laws_eqBox.f k bt632.1 bt632.2.1 bt620.1 bt620.2.1).bind fun t639 => (if t639 = true then (if bt632.2.2.1 = bt620.2.2.1 then (laws_FnExactBoxTake.j0 k bt620.2.2.1 bt620.2.2.2 bt632.2.2.1 bt632.2.2.2 (bt632.2.2.2 != bt620.2.2.2) a0_0 l0_1 bt620.1 bt620.2.1 bt627.1 bt627.2 bt632.1 bt632.2.1) else (laws_FnExactBoxTake.j0 k bt620.2.2.1 bt620.2.2.2 bt632.2.2.1 bt632.2.2.2 true a0_0 l0_1 bt620.1 bt620.2.1 bt627.1 bt627.2 bt632.1 bt632.2.1)) else (laws_FnExactBoxTake.j0 k bt620.2.2.1 bt620.2.2.2 bt632.2.2.1 bt632.2.2.2 true a0_0 l0_1 bt620.1 bt620.2.1 bt627.1 bt627.2 bt632.1 bt632.2.1))))))))

def spec_DrawRingBox.f (k : Nat) (l0 : List Int) : Option (Int × Int × Int × List Int) := (spec_l6Open.f l0).bind fun bt665 => ((spec_l92Ring.f k bt665.1 bt665.2).bind fun bt668 => (some (bt668.1, bt668.2.1, bt668.2.2.1, bt668.2.2.2.1)))

def spec_RingBox.l0 : Nat → Int → Int → Int → Int → List Int → Int → List Int → Option (Int × List Int × Bool)
  | 0, _, _, _, _, _, _, _ => none
  | k + 1, x5, x676000, x676001, x676002, x676003, x682000, x682001 => if x5 < x676002 then (if x676000 = 0 then (none) else (if 0 ≤ (Int.tmod (wrap64 (x676001 + x5)) x676000) then (if (Int.tmod (wrap64 (x676001 + x5)) x676000) < (x676003.length : Int) then (if x682001.length < 17592186044416 then (spec_RingBox.l0 k (wrap64 (x5 + 1)) x676000 x676001 x676002 x676003 x682000 (x682001 ++ [rd x676003 (Int.tmod (wrap64 (x676001 + x5)) x676000)])) else (none)) else (none)) else (none))) else (some (x682000, x682001, true))
def spec_RingBox.f (k : Nat) (a0_0 : Int) (a0_1 : Int) (a0_2 : Int) (l0_3 : List Int) : Option (Int × List Int × Bool) := (spec_RingValid.f k a0_0 a0_1 a0_2 l0_3).bind fun t677 => (if t677 = true then (spec_RingBox.l0 k 0 a0_0 a0_1 a0_2 l0_3 a0_0 (([] : List Int))) else (some (0, ([] : List Int), false)))

def laws_FnRingBox.j0 : Nat → Bool → Bool → Bool → Int → Int → Int → List Int → Int → List Int → Int → List Int → Option (Bool)
  | 0, _, _, _, _, _, _, _, _, _, _, _ => none
  | k + 1, x5, x7, x35, x693000, x693001, x693002, x693003, x699000, x699001, x705000, x705001 => if x35 = true then (if (x5 == x7) = true then ((laws_sameBox.f k x699000 x699001 x705000 x705001).bind fun t706 => (some t706)) else (some false)) else ((impl_BoxValid.f k x699000 x699001).bind fun t707 => (if t707 = true then (if x699000 = x693000 then (some ((x699001.length : Int) == x693002)) else (some false)) else (some false)))
def laws_FnRingBox.f (k : Nat) (l0 : List Int) : Option (Bool) := if (l0.length : Int) > 1048576 then (some true) else ((spec_DrawRingBox.f k l0).bind fun bt686 => ((impl_RingBox.f k bt686.1 bt686.2.1 bt686.2.2.1 bt686.2.2.2).bind fun bt693 => ((spec_RingBox.f k bt686.1 bt686.2.1 bt686.2.2.1 bt686.2.2.2).bind fun bt699 => (if (bt693.2.2 != bt699.2.2) = true then (laws_FnRingBox.j0 k bt693.2.2 bt699.2.2 true bt686.1 bt686.2.1 bt686.2.2.1 bt686.2.2.2 bt693.1 bt693.2.1 bt699.1 bt699.2.1) else ((laws_sameBox.f k bt693.1 bt693.2.1 bt699.1 bt699.2.1).bind fun t705 => (if t705 = true then (laws_FnRingBox.j0 k bt693.2.2 bt699.2.2 (!bt693.2.2) bt686.1 bt686.2.1 bt686.2.2.1 bt686.2.2.2 bt693.1 bt693.2.1 bt699.1 bt699.2.1) else (laws_FnRingBox.j0 k bt693.2.2 bt699.2.2 true bt686.1 bt686.2.1 bt686.2.2.1 bt686.2.2.2 bt693.1 bt693.2.1 bt699.1 bt699.2.1)))))))

def spec_DrawBoxTake.f (k : Nat) (l0 : List Int) : Option (Int × List Int) := (spec_l6Open.f l0).bind fun bt709 => ((spec_l92Box.f k bt709.1 bt709.2).bind fun bt712 => (if (bt712.2.1.length : Int) = 0 then ((spec_l6Rd_pick.f k bt709.1 bt712.2.2 3).bind fun bt718 => (if bt718.1 > 0 then ((spec_l91Word.f k bt709.1 bt718.2).bind fun bt720 => (some (bt712.1, (([bt720.1] : List Int))))) else (some (bt712.1, bt712.2.1)))) else (some (bt712.1, bt712.2.1))))

def laws_FnTake.j0 : Nat → Int → Bool → Int → Bool → Bool → Int → List Int → Int → List Int → Int → List Int → Option (Bool)
  | 0, _, _, _, _, _, _, _, _, _, _, _ => none
  | k + 1, x5, x6, x8, x9, x44, x730000, x730001, x737000, x737001, x744000, x744001 => if x44 = true then (if (x6 == x9) = true then (if x5 = x8 then ((laws_sameBox.f k x737000 x737001 x744000 x744001).bind fun t745 => (some t745)) else (some false)) else (some false)) else ((impl_BoxValid.f k x737000 x737001).bind fun t746 => (if t746 = true then (if x737000 = x730000 then (if 0 < (x730001.length : Int) then (if x5 = (rd x730001 0) then (if 1 ≤ (x730001.length : Int) then ((laws_sameInts.f k x737001 (x730001.drop 1)).bind fun t752 => (some t752)) else (none)) else (some false)) else (none)) else (some false)) else (some false)))
def laws_FnTake.f (k : Nat) (l0 : List Int) : Option (Bool) := if (l0.length : Int) > 1048576 then (some true) else ((spec_DrawBoxTake.f k l0).bind fun bt725 => ((impl_BoxTake.f k bt725.1 bt725.2).bind fun bt730 => ((spec_BoxTake.f k bt725.1 bt725.2).bind fun bt737 => (if (bt730.2.2.2 != bt737.2.2.2) = true then (laws_FnTake.j0 k bt730.2.2.1 bt730.2.2.2 bt737.2.2.1 bt737.2.2.2 true bt725.1 bt725.2 bt730.1 bt730.2.1 bt737.1 bt737.2.1) else (if bt730.2.2.1 = bt737.2.2.1 then ((laws_sameBox.f k bt730.1 bt730.2.1 bt737.1 bt737.2.1).bind fun t744 => (if t744 = true then (laws_FnTake.j0 k bt730.2.2.1 bt730.2.2.2 bt737.2.2.1 bt737.2.2.2 (!bt730.2.2.2) bt725.1 bt725.2 bt730.1 bt730.2.1 bt737.1 bt737.2.1) else (laws_FnTake.j0 k bt730.2.2.1 bt730.2.2.2 bt737.2.2.1 bt737.2.2.2 true bt725.1 bt725.2 bt730.1 bt730.2.1 bt737.1 bt737.2.1))) else (laws_FnTake.j0 k bt730.2.2.1 bt730.2.2.2 bt737.2.2.1 bt737.2.2.2 true bt725.1 bt725.2 bt730.1 bt730.2.1 bt737.1 bt737.2.1))))))

def spec_RingPut.f (k : Nat) (a0_0 : Int) (a0_1 : Int) (a0_2 : Int) (l0_3 : List Int) (a1 : Int) : Option (Int × Int × Int × List Int × Bool) := (spec_RingValid.f k a0_0 a0_1 a0_2 l0_3).bind fun t755 => (if t755 = true then ((spec_WordValid.f a1).bind fun t756 => (if t756 = true then (if a0_2 = a0_0 then (some (0, 0, 0, ([] : List Int), false)) else ((some (([] : List Int) : List Int)).bind fun y757 => (if y757.length + l0_3.length < 17592186044416 then ((some (y757 ++ l0_3 : List Int)).bind fun y760 => (if a0_0 = 0 then (none) else (if 0 ≤ (Int.tmod (wrap64 (a0_1 + a0_2)) a0_0) then (if (Int.tmod (wrap64 (a0_1 + a0_2)) a0_0) < (y760.length : Int) then (some (a0_0, a0_1, wrap64 (a0_2 + 1), (y760.set ((Int.tmod (wrap64 (a0_1 + a0_2)) a0_0) : Int).toNat a1), true)) else (none)) else (none)))) else (none)))) else (some (0, 0, 0, ([] : List Int), false)))) else (some (0, 0, 0, ([] : List Int), false)))

mutual
def laws_FnExactRingPut.j0 : Nat → Int → Bool → Bool → Bool → Int → Int → Int → List Int → Int → Int → Int → List Int → Int → Int → Int → List Int → Int → Int → Int → List Int → Option (Bool)
  | 0, _, _, _, _, _, _, _, _, _, _, _, _, _, _, _, _, _, _, _, _ => none
  | k + 1, x1, x7, x10, x44, x766000, x766001, x766002, x766003, x781000, x781001, x781002, x781003, x788000, x788001, x788002, x788003, x796000, x796001, x796002, x796003 => if x44 = true then (some false) else ((laws_toRing.f k x766000 x766001 x766002 x766003).bind fun bt797 => ((laws_eqRing.f k x788000 x788001 x788002 x788003 bt797.1 bt797.2.1 bt797.2.2.1 bt797.2.2.2).bind fun t803 => (if t803 = true then ((laws_markRing.f k x788000 x788001 x788002 x788003 1).bind fun bt804 => (if bt804.1 < 0 then (laws_FnExactRingPut.j1 k x1 x7 true x766000 x766001 x766002 x766003 x781000 x781001 x781002 x781003 x796000 x796001 x796002 x796003) else ((laws_eqRing.f k x796000 x796001 x796002 x796003 x781000 x781001 x781002 x781003).bind fun t806 => (if t806 = true then (laws_FnExactRingPut.j1 k x1 x7 (x10 != x7) x766000 x766001 x766002 x766003 x781000 x781001 x781002 x781003 x796000 x796001 x796002 x796003) else (laws_FnExactRingPut.j1 k x1 x7 true x766000 x766001 x766002 x766003 x781000 x781001 x781002 x781003 x796000 x796001 x796002 x796003))))) else (some false))))
def laws_FnExactRingPut.j1 : Nat → Int → Bool → Bool → Int → Int → Int → List Int → Int → Int → Int → List Int → Int → Int → Int → List Int → Option (Bool)
  | 0, _, _, _, _, _, _, _, _, _, _, _, _, _, _, _ => none
  | k + 1, x1, x7, x65, x766000, x766001, x766002, x766003, x781000, x781001, x781002, x781003, x796000, x796001, x796002, x796003 => if x65 = true then (some false) else ((laws_markRing.f k x796000 x796001 x796002 x796003 1).bind fun bt807 => ((laws_heldRing.f k x796000 x796001 x796002 bt807.2 1).bind fun t809 => (if t809 < 0 then (some false) else (if t809 = bt807.1 then ((laws_toRing.f k x766000 x766001 x766002 x766003).bind fun bt810 => ((impl_RingPut.f k bt810.1 bt810.2.1 bt810.2.2.1 bt810.2.2.2 x1).bind fun bt816 => ((laws_eqRing.f k bt816.1 bt816.2.1 bt816.2.2.1 bt816.2.2.2.1 x781000 x781001 x781002 x781003).bind fun t824 => (if t824 = true then (laws_FnExactRingPut.j2 k bt807.1 (bt816.2.2.2.2 != x7) x796000 x796001 x796002 bt807.2) else (laws_FnExactRingPut.j2 k bt807.1 true x796000 x796001 x796002 bt807.2))))) else (some false)))))
def laws_FnExactRingPut.j2 : Nat → Int → Bool → Int → Int → Int → List Int → Option (Bool)
  | 0, _, _, _, _, _, _ => none
  | k + 1, x12, x92, x796000, x796001, x796002, x796003 => if x92 = true then (some false) else ((laws_heldRing.f k x796000 x796001 x796002 x796003 1).bind fun t825 => (if t825 < 0 then (some false) else (if t825 = x12 then (some true) else (some false))))
end
def laws_FnExactRingPut.f (k : Nat) (a0_0 : Int) (a0_1 : Int) (a0_2 : Int) (l0_3 : List Int) (a1 : Int) : Option (Bool) := (laws_szRing.f a0_0 a0_1 a0_2 l0_3 1048576).bind fun t766 => (if t766 < 0 then (some true) else ((laws_toRing.f k a0_0 a0_1 a0_2 l0_3).bind fun bt767 => ((spec_RingPut.f k bt767.1 bt767.2.1 bt767.2.2.1 bt767.2.2.2 a1).bind fun bt773 => ((laws_toRing.f k a0_0 a0_1 a0_2 l0_3).bind fun bt781 => ((impl_RingPut.f k bt781.1 bt781.2.1 bt781.2.2.1 bt781.2.2.2 a1).bind fun bt788 => ((laws_eqRing.f k bt788.1 bt788.2.1 bt788.2.2.1 bt788.2.2.2.1 bt773.1 bt773.2.1 bt773.2.2.1 bt773.2.2.2.1).bind fun t796 => (if t796 = true then (laws_FnExactRingPut.j0 k a1 bt773.2.2.2.2 bt788.2.2.2.2 (bt788.2.2.2.2 != bt773.2.2.2.2) a0_0 a0_1 a0_2 l0_3 bt773.1 bt773.2.1 bt773.2.2.1 bt773.2.2.2.1 bt781.1 bt781.2.1 bt781.2.2.1 bt781.2.2.2 bt788.1 bt788.2.1 bt788.2.2.1 bt788.2.2.2.1) else (laws_FnExactRingPut.j0 k a1 bt773.2.2.2.2 bt788.2.2.2.2 true a0_0 a0_1 a0_2 l0_3 bt773.1 bt773.2.1 bt773.2.2.1 bt773.2.2.2.1 bt781.1 bt781.2.1 bt781.2.2.1 bt781.2.2.2 bt788.1 bt788.2.1 bt788.2.2.1 bt788.2.2.2.1))))))))

end Go.Proofs.Ytiakpoamjiodoaa.PA
