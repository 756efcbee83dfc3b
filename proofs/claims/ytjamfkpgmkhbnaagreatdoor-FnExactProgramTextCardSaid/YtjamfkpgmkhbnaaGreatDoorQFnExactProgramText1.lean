/- Part 2. -/
import Derived.Test.YtjamfkpgmkhbnaaGreatDoorQFnExactProgramText0
import Derived.Shelf.Strings.Builder1
import Derived.Shelf.Strings.Builder2
import Derived.Shelf.Strings.OnBuilder
import Derived.Shelf.Small.Strs
import Derived.Shelf.Strconv.Itoa0
import Derived.Shelf.Strconv.Itoa1
import Derived.Shelf.LaysM
import Derived.Shelf.Strconv.Itoa2
import Derived.Shelf.Strconv.Itoa3
import Derived.Shelf.Strings.Search1
import Derived.Shelf.Strings.Prefix
import Derived.Test.YtjamfkpgmkhbnaaGreatDoorProg
import Derived.Below
import Derived.Deep.Draws
import Derived.Deep.AppendLies
import Derived.Maps.AppendAt
import Derived.OwnWalk
import Derived.Laws.BytesArg
import Derived.Laws.MakeOwn
import Derived.Laws.OwnMore
import Derived.Deep.OwnRows
import Derived.Tactics
import Derived.Lib.ConvBytes
import Derived.Laws.Slices
import Derived.WalkKit
import Derived.KernelRfl
import Derived.RowKit3
import Derived.Deep.LoopGhost
import Derived.Deep.QuietTactic
import Derived.BigQuiet
import Derived.WideLaws
import Derived.Deep.DeepCutAuto
import Derived.Deep.CutBlock
import Derived.Deep.RegionHeld3
import Derived.Laws.Rows
import Derived.Lib.AppendStr
import Derived.ArgAppend
import Derived.Laws.IdiomCopy
import Derived.OrdersHeld
import Derived.Laws.BitsLemmas
import Derived.RowKit
import Derived.Lib.SliceRun
import Derived.Lib.LaidTab
import Derived.Lib.AppendIntMem
import Derived.Deep.Slices
import Derived.ChangeArms
import Derived.ChangeSame
import Derived.WideShapes
set_option maxHeartbeats 8000000
set_option maxRecDepth 100000
namespace Go.Proofs
open Go.Shelf
open Go.RowKit in
open Go.RowKit in
open Go.RowKit in
open Go.RowKit in
open Go.RowKit in
def Tryz.lays156_ren : Go.Shelf.Ren := ⟨fun | 156 => 44 | 165 => 67 | 166 => 68 | 169 => 69 | 240 => 91 | 241 => 92 | 276 => 116 | 277 => 117 | n => n, fun | 31 => 29 | 9 => 9 | 3 => 3 | 4 => 4 | 0 => 0 | 20 => 20 | 72 => 97 | 76 => 101 | 70 => 95 | 37 => 22 | 75 => 100 | 127 => 127 | 164 => 147 | 5 => 5 | 80 => 103 | n => n, fun | n => n⟩
theorem Tryz.lays156 : Go.Proofs.Lays.n156 Tryz.prog Tryz.lays156_ren := {
 mixed := by kernel_rfl
 f156 := Tryz.func44.trans (congrArg some (by kernel_rfl))
 f165 := Tryz.func67.trans (congrArg some (by kernel_rfl))
 f166 := Tryz.func68.trans (congrArg some (by kernel_rfl))
 f169 := Tryz.func69.trans (congrArg some (by kernel_rfl))
 f240 := Tryz.func91.trans (congrArg some (by kernel_rfl))
 f241 := Tryz.func92.trans (congrArg some (by kernel_rfl))
 f276 := Tryz.func116.trans (congrArg some (by kernel_rfl))
 f277 := Tryz.func117.trans (congrArg some (by kernel_rfl))
 t0 := Tryz.underlying0
 a0 := Tryz.isAgg0
 z0 := Tryz.sizeOf0
 v0 := Tryz.zeroValue0
 t3 := Tryz.underlying3
 a3 := Tryz.isAgg3
 z3 := Tryz.sizeOf3
 v3 := Tryz.zeroValue3
 t4 := Tryz.underlying4
 a4 := Tryz.isAgg4
 z4 := Tryz.sizeOf4
 v4 := Tryz.zeroValue4
 t9 := Tryz.underlying9
 a9 := Tryz.isAgg9
 z9 := Tryz.sizeOf9
 v9 := Tryz.zeroValue9
 t20 := Tryz.underlying20
 a20 := Tryz.isAgg20
 z20 := Tryz.sizeOf20
 v20 := Tryz.zeroValue20
 t31 := Tryz.underlying29
 a31 := Tryz.isAgg29
 z31 := Tryz.sizeOf29
 v31 := Tryz.zeroValue29
 t37 := Tryz.underlying22
 a37 := Tryz.isAgg22
 z37 := Tryz.sizeOf22
 v37 := Tryz.zeroValue22
 t70 := Tryz.underlying95
 a70 := Tryz.isAgg95
 z70 := Tryz.sizeOf95
 v70 := Tryz.zeroValue95
 t72 := Tryz.underlying97
 a72 := Tryz.isAgg97
 z72 := Tryz.sizeOf97
 v72 := Tryz.zeroValue97
 t75 := Tryz.underlying100
 a75 := Tryz.isAgg100
 z75 := Tryz.sizeOf100
 v75 := Tryz.zeroValue100
 t76 := Tryz.underlying101
 a76 := Tryz.isAgg101
 z76 := Tryz.sizeOf101
 v76 := Tryz.zeroValue101
 t127 := Tryz.underlying127
 a127 := Tryz.isAgg127
 z127 := Tryz.sizeOf127
 v127 := Tryz.zeroValue127
 t164 := Tryz.underlying147
 a164 := Tryz.isAgg147
 z164 := Tryz.sizeOf147
 v164 := Tryz.zeroValue147 }
theorem Tryz.Builder_Extra_156 : Builder.Extra Tryz.prog Tryz.lays156_ren := {
 sizeBuilder := by kernel_rfl
 liesBuilder := by kernel_rfl
 t5 := Tryz.underlying5
 a5 := Tryz.isAgg5
 z5 := Tryz.sizeOf5
 v5 := Tryz.zeroValue5
 infoByte := by kernel_rfl
 cellsByte := by kernel_rfl
 sizeByte := by kernel_rfl
 neB5 := by decide }
open Go.RowKit in
theorem Tryz.strings_Join_none (a : Option Addr) (c : Nat) (sep : ByteArray) (w : World) :
  Calls Tryz.prog 44 #[.slice a 0 c, .string sep] w fun e w' => e = .returned (.string ⟨#[]⟩) ∧ w' = w := Any.strings_Join_none Tryz.lays156 Tryz.Builder_Extra_156 a c sep w
open Go.RowKit in
theorem Tryz.strings_Join (bk o c : Nat) (xs : List ByteArray) (sep : ByteArray) (w : World) (hcells : ∀ (j : Nat) x, xs[j]? = some x → w.cell? ⟨bk, o + j, none⟩ = some (.string x)) (hbk : bk < w.heap.size) (hN : xs.length ≤ 140737488355328) (hcap : xs.length ≤ c) (hlen : (Lib.join (xs.map (·.data.toList)) sep.data.toList).length ≤ 140737488355328) :
    Calls Tryz.prog 44 #[.slice (some ⟨bk, o, none⟩) xs.length c, .string sep] w fun e w' => e = .returned (.string ⟨(Lib.join (xs.map (·.data.toList)) sep.data.toList).toArray⟩) ∧ Below w.heap.size w w' := Any.strings_Join Tryz.lays156 Tryz.Builder_Extra_156 bk o c xs sep w hcells hbk hN hcap hlen
def Tryz.lays137_ren : Go.Shelf.Ren := ⟨fun | 137 => 54 | 217 => 77 | 266 => 101 | n => n, fun | 9 => 9 | 5 => 5 | 3 => 3 | n => n, fun | n => n⟩
theorem Tryz.lays137 : Go.Proofs.Lays.n137 Tryz.prog Tryz.lays137_ren := {
 mixed := by kernel_rfl
 f137 := Tryz.func54.trans (congrArg some (by kernel_rfl))
 f217 := Tryz.func77.trans (congrArg some (by kernel_rfl))
 f266 := Tryz.func101.trans (congrArg some (by kernel_rfl))
 t3 := Tryz.underlying3
 a3 := Tryz.isAgg3
 z3 := Tryz.sizeOf3
 v3 := Tryz.zeroValue3
 t5 := Tryz.underlying5
 a5 := Tryz.isAgg5
 z5 := Tryz.sizeOf5
 v5 := Tryz.zeroValue5
 t9 := Tryz.underlying9
 a9 := Tryz.isAgg9
 z9 := Tryz.sizeOf9
 v9 := Tryz.zeroValue9 }
open Go.RowKit in
theorem Tryz.strings_IndexByte (s : ByteArray) (c : Int) (w : World) :
  Calls Tryz.prog 54 #[.string s, .int .u8 c] w fun e w' => e = .returned (.int .i64 (Lib.indexByte s.data.toList c.toNat.toUInt8)) ∧ w' = w := Any.strings_IndexByte Tryz.lays137 s c w
def Tryz.lays129_ren : Go.Shelf.Ren := ⟨fun | 129 => 111 | n => n, fun | 53 => 121 | 3 => 3 | 4 => 4 | 46 => 144 | 5 => 5 | 9 => 9 | n => n, fun | n => n⟩
theorem Tryz.lays129 : Go.Proofs.Lays.n129 Tryz.prog Tryz.lays129_ren := {
 mixed := by kernel_rfl
 f129 := Tryz.func111.trans (congrArg some (by kernel_rfl))
 t3 := Tryz.underlying3
 a3 := Tryz.isAgg3
 z3 := Tryz.sizeOf3
 v3 := Tryz.zeroValue3
 t4 := Tryz.underlying4
 a4 := Tryz.isAgg4
 z4 := Tryz.sizeOf4
 v4 := Tryz.zeroValue4
 t5 := Tryz.underlying5
 a5 := Tryz.isAgg5
 z5 := Tryz.sizeOf5
 v5 := Tryz.zeroValue5
 t9 := Tryz.underlying9
 a9 := Tryz.isAgg9
 z9 := Tryz.sizeOf9
 v9 := Tryz.zeroValue9
 t46 := Tryz.underlying144
 a46 := Tryz.isAgg144
 z46 := Tryz.sizeOf144
 v46 := Tryz.zeroValue144
 t53 := Tryz.underlying121
 a53 := Tryz.isAgg121
 z53 := Tryz.sizeOf121
 v53 := Tryz.zeroValue121 }
theorem Tryz.bits_Len64 (x : Int) (w : World) (h0 : 0 ≤ x) (h1 : x ≤ 18446744073709551615) :
  Calls Tryz.prog 111 #[.int .u64 x] w fun e w' => e = .returned (.int .i64 (Lib.bitLen x.toNat)) ∧ w' = w := Any.bits_Len64 Tryz.lays129 x w h0 h1
open Go.Lib in
open Go.Lib in
open Go.Lib in
open Go.Lib in
open Go.RowKit Go.Sort Go.Lib in
open Go.RowKit Go.Sort Go.Lib in
open Go.RowKit Go.Sort Go.Lib in
open Go.RowKit Go.Sort Go.Lib in
open Go.RowKit Go.Sort Go.Lib in
def Tryz.laysM171_ren : Go.Shelf.Ren := ⟨fun | 171 => 20 | 243 => 41 | 246 => 64 | 283 => 84 | 284 => 85 | 285 => 86 | 286 => 87 | 129 => 111 | 317 => 110 | 318 => 112 | 319 => 113 | 320 => 114 | 337 => 132 | 338 => 133 | n => n, fun | 3 => 3 | 9 => 9 | 2 => 2 | 4 => 4 | 171 => 120 | 0 => 0 | 53 => 121 | 37 => 22 | 5 => 5 | 173 => 124 | 212 => 140 | 51 => 141 | 20 => 20 | 213 => 142 | 46 => 144 | 232 => 163 | 233 => 164 | n => n, fun | 17 => 0 | 18 => 3 | 19 => 4 | n => n⟩
theorem Tryz.laysM171 : Go.Proofs.LaysM.n171 Tryz.prog Tryz.laysM171_ren := {
 mixed := by kernel_rfl
 f129 := Tryz.func111.trans (congrArg some (by kernel_rfl))
 f171 := Tryz.func20.trans (congrArg some (by kernel_rfl))
 f243 := Tryz.func41.trans (congrArg some (by kernel_rfl))
 f246 := Tryz.func64.trans (congrArg some (by kernel_rfl))
 f283 := Tryz.func84.trans (congrArg some (by kernel_rfl))
 f284 := Tryz.func85.trans (congrArg some (by kernel_rfl))
 f285 := Tryz.func86.trans (congrArg some (by kernel_rfl))
 f286 := Tryz.func87.trans (congrArg some (by kernel_rfl))
 f317 := Tryz.func110.trans (congrArg some (by kernel_rfl))
 f318 := Tryz.func112.trans (congrArg some (by kernel_rfl))
 f319 := Tryz.func113.trans (congrArg some (by kernel_rfl))
 f320 := Tryz.func114.trans (congrArg some (by kernel_rfl))
 f337 := Tryz.func132.trans (congrArg some (by kernel_rfl))
 f338 := Tryz.func133.trans (congrArg some (by kernel_rfl))
 t0 := Tryz.underlying0
 a0 := Tryz.isAgg0
 z0 := Tryz.sizeOf0
 v0 := Tryz.zeroValue0
 t2 := Tryz.underlying2
 a2 := Tryz.isAgg2
 z2 := Tryz.sizeOf2
 v2 := Tryz.zeroValue2
 t3 := Tryz.underlying3
 a3 := Tryz.isAgg3
 z3 := Tryz.sizeOf3
 v3 := Tryz.zeroValue3
 t4 := Tryz.underlying4
 a4 := Tryz.isAgg4
 z4 := Tryz.sizeOf4
 v4 := Tryz.zeroValue4
 t5 := Tryz.underlying5
 a5 := Tryz.isAgg5
 z5 := Tryz.sizeOf5
 v5 := Tryz.zeroValue5
 t9 := Tryz.underlying9
 a9 := Tryz.isAgg9
 z9 := Tryz.sizeOf9
 v9 := Tryz.zeroValue9
 t20 := Tryz.underlying20
 a20 := Tryz.isAgg20
 z20 := Tryz.sizeOf20
 v20 := Tryz.zeroValue20
 t37 := Tryz.underlying22
 a37 := Tryz.isAgg22
 z37 := Tryz.sizeOf22
 v37 := Tryz.zeroValue22
 t46 := Tryz.underlying144
 a46 := Tryz.isAgg144
 z46 := Tryz.sizeOf144
 v46 := Tryz.zeroValue144
 t51 := Tryz.underlying141
 a51 := Tryz.isAgg141
 z51 := Tryz.sizeOf141
 v51 := Tryz.zeroValue141
 t53 := Tryz.underlying121
 a53 := Tryz.isAgg121
 z53 := Tryz.sizeOf121
 v53 := Tryz.zeroValue121
 t171 := Tryz.underlying120
 a171 := Tryz.isAgg120
 z171 := Tryz.sizeOf120
 v171 := Tryz.zeroValue120
 t173 := Tryz.underlying124
 a173 := Tryz.isAgg124
 z173 := Tryz.sizeOf124
 v173 := Tryz.zeroValue124
 t212 := Tryz.underlying140
 a212 := Tryz.isAgg140
 z212 := Tryz.sizeOf140
 v212 := Tryz.zeroValue140
 t213 := Tryz.underlying142
 a213 := Tryz.isAgg142
 z213 := Tryz.sizeOf142
 t232 := Tryz.underlying163
 a232 := Tryz.isAgg163
 z232 := Tryz.sizeOf163
 v232 := Tryz.zeroValue163
 t233 := Tryz.underlying164
 a233 := Tryz.isAgg164
 z233 := Tryz.sizeOf164
 v233 := Tryz.zeroValue164
 g17 := by kernel_rfl
 g18 := by kernel_rfl
 g19 := by kernel_rfl
 i0 := by kernel_rfl
 i2 := by kernel_rfl
 i3 := by kernel_rfl
 i4 := by kernel_rfl
 i5 := by kernel_rfl
 i9 := by kernel_rfl
 i20 := by kernel_rfl
 i37 := by kernel_rfl
 i46 := by kernel_rfl
 i51 := by kernel_rfl
 i53 := by kernel_rfl
 i171 := by kernel_rfl
 i173 := by kernel_rfl
 i212 := by kernel_rfl
 i232 := by kernel_rfl
 i233 := by kernel_rfl
 m17 := by kernel_rfl
 m18 := by kernel_rfl
 m19 := by kernel_rfl }
open Go.RowKit Go.Sort Go.Lib in
theorem Tryz.strconv_Itoa (n : Int) (h0 : -9223372036854775808 ≤ n) (h1 : n ≤ 9223372036854775807) (w : World) (htab : Lib.TabIs Tryz.prog w "internal/strconv.uint64pow10" .u64 Lib.pow10Tab) :
  Calls Tryz.prog 20 #[.int .i64 n] w fun e w' => e = .returned (.string ⟨(Lib.itoa n).toArray⟩) ∧ ∃ k os, w' = grow (w.drewN k) os := Any.strconv_Itoa Tryz.laysM171 n h0 h1 w htab
open Go.RowKit Go.Sort Go.Lib in
open Go.RowKit Go.Lib in
def Tryz.lays206_ren : Go.Shelf.Ren := ⟨fun | 206 => 76 | n => n, fun | 9 => 9 | 4 => 4 | 3 => 3 | n => n, fun | n => n⟩
theorem Tryz.lays206 : Go.Proofs.Lays.n206 Tryz.prog Tryz.lays206_ren := {
 mixed := by kernel_rfl
 f206 := Tryz.func76.trans (congrArg some (by kernel_rfl))
 t3 := Tryz.underlying3
 a3 := Tryz.isAgg3
 z3 := Tryz.sizeOf3
 v3 := Tryz.zeroValue3
 t4 := Tryz.underlying4
 a4 := Tryz.isAgg4
 z4 := Tryz.sizeOf4
 v4 := Tryz.zeroValue4
 t9 := Tryz.underlying9
 a9 := Tryz.isAgg9
 z9 := Tryz.sizeOf9
 v9 := Tryz.zeroValue9 }
open Go.RowKit Go.Lib in
theorem Tryz.stringslite_HasPrefix (s p : ByteArray) (w : World) :
  Calls Tryz.prog 76 #[.string s, .string p] w fun e w' => e = .returned (.bool (Lib.hasPrefix s.data.toList p.data.toList)) ∧ w' = w := Any.stringslite_HasPrefix Tryz.lays206 s p w
def Tryz.lays99_ren : Go.Shelf.Ren := ⟨fun | 99 => 53 | 206 => 76 | n => n, fun | 9 => 9 | 4 => 4 | 3 => 3 | n => n, fun | n => n⟩
theorem Tryz.lays99 : Go.Proofs.Lays.n99 Tryz.prog Tryz.lays99_ren := {
 mixed := by kernel_rfl
 f99 := Tryz.func53.trans (congrArg some (by kernel_rfl))
 f206 := Tryz.func76.trans (congrArg some (by kernel_rfl))
 t3 := Tryz.underlying3
 a3 := Tryz.isAgg3
 z3 := Tryz.sizeOf3
 v3 := Tryz.zeroValue3
 t4 := Tryz.underlying4
 a4 := Tryz.isAgg4
 z4 := Tryz.sizeOf4
 v4 := Tryz.zeroValue4
 t9 := Tryz.underlying9
 a9 := Tryz.isAgg9
 z9 := Tryz.sizeOf9
 v9 := Tryz.zeroValue9 }
open Go.RowKit Go.Lib in
theorem Tryz.strings_HasPrefix (s p : ByteArray) (w : World) :
  Calls Tryz.prog 53 #[.string s, .string p] w fun e w' => e = .returned (.bool (Lib.hasPrefix s.data.toList p.data.toList)) ∧ w' = w := Any.strings_HasPrefix Tryz.lays99 s p w
end Go.Proofs

namespace Go.Proofs.YtjamfkpgmkhbnaaGreatDoor.PA
open Go.RowKit Go.Proofs.YtjamfkpgmkhbnaaGreatDoorW.PrintWords Go.Proofs.YtjamfkpgmkhbnaaGreatDoorW.PrintLast Go.Proofs.YtjamfkpgmkhbnaaGreatDoorW.PrintMore
attribute [local go_sem] max2_int min2_int max_two min_two max_three min_three max_four min_four
set_option linter.unusedVariables false
set_option linter.unusedSimpArgs false
def errW : Option Int → Value
 | none => .nilIface
 | some c => .iface 0 (.int .i64 c)
theorem errW_none : errW none = .nilIface := rfl
theorem errW_some (c : Int) : errW (some c) = .iface 0 (.int .i64 c) := rfl
theorem info3 : (Tryz.prog.info? 3).map (fun i => (i.zero, i.size, i.bytes)) = some (some (.int .i64 0), 1, 8) := by kernel_rfl
theorem info9 : (Tryz.prog.info? 9).map (fun i => (i.zero, i.size, i.bytes)) = some (some (.string ⟨#[]⟩), 1, 16) := by kernel_rfl
theorem info33 : (Tryz.prog.info? 33).map (fun i => (i.zero, i.size, i.bytes)) = some (some (.slice none 0 0), 1, 24) := by kernel_rfl
theorem info56 : (Tryz.prog.info? 56).map (fun i => (i.zero, i.size, i.bytes)) = some (some (.agg #[(.int .i64 0), (.int .i64 0), (.slice none 0 0)]), 3, 40) := by kernel_rfl
theorem info58 : (Tryz.prog.info? 58).map (fun i => (i.zero, i.size, i.bytes)) = some (some (.agg #[(.int .i64 0), (.int .i64 0), (.int .i64 0), (.int .i64 0), (.int .i64 0), (.slice none 0 0), (.slice none 0 0), (.slice none 0 0)]), 8, 112) := by kernel_rfl
structure S56 where
 f0 : Int
 f1 : Int
 f2 : (List S56)
def z56 : S56 := ⟨(0 : Int), (0 : Int), ([] : List S56)⟩
def F56 (d : Kd S56) : Kd S56 := Kd.iso (Kd.pair (Kd.int .i64) (Kd.pair (Kd.int .i64) (Kd.slice 56 d))) (fun x : S56 => (x.f0, x.f1, x.f2))
theorem mono56 : Kd.Mono F56 := Kd.mono_iso _ (Kd.mono_pair (Kd.mono_const _) (Kd.mono_pair (Kd.mono_const _) (Kd.mono_slice 56 Kd.mono_id)))
theorem sub56 : Kd.Sub F56 [56] := Kd.sub_iso _ (Kd.sub_pair (Kd.sub_const _ (by decide)) (Kd.sub_pair (Kd.sub_const _ (by decide)) (Kd.sub_slice 56 (by decide) Kd.sub_id)))
theorem sz56 : ∀ n, (Kd.upto F56 3 [56] n).sz = 3 := Kd.upto_sz (fun _ => rfl)
def k56 : Kd S56 := Kd.fix F56 3 [56] sz56 (Kd.upto_E sub56)
theorem k56_heap : Kd.Heap k56 := Kd.heap_fix (fun _ h_ => Kd.heap_iso _ (Kd.heap_pair (Kd.heap_int .i64) (Kd.heap_pair (Kd.heap_int .i64) (Kd.heap_slice 56 h_))))
theorem k56_open {w : World} {x : S56} {cs : List Value} (h : k56.K w x cs) : ∃ A2 c2, cs = [.int .i64 x.f0, .int .i64 x.f1, .slice A2 x.f2.length c2] ∧ x.f2.length ≤ c2 ∧ k56.C w A2 x.f2.length x.f2 := by
 obtain ⟨n, h⟩ := h
 cases n with
 | zero => exact h.elim
 | succ n =>
  obtain ⟨_, _, rfl, rfl, ⟨_, _, rfl, rfl, ⟨A2, c2, rfl, l2, g2⟩⟩⟩ := h
  exact ⟨A2, c2, rfl, l2, Kd.fix_C g2⟩
theorem k56_openM {w : World} {base : Nat} {ok : Nat → Prop} {x : S56} {cs : List Value} (h : k56.M w base ok x cs) : ∃ v2, cs = [.int .i64 x.f0, .int .i64 x.f1, v2] ∧ k56.R 56 w base ok v2 x.f2 := by
 obtain ⟨n, h⟩ := h
 cases n with
 | zero => exact h.elim
 | succ n =>
  obtain ⟨_, _, rfl, rfl, ⟨_, _, rfl, rfl, ⟨v2, rfl, g2⟩⟩⟩ := h
  exact ⟨v2, rfl, Kd.fix_R g2⟩
theorem k56_mk (w : World) (x : S56) {A2 : Option Addr} {c2 : Nat} (l2 : x.f2.length ≤ c2) (g2 : k56.C w A2 x.f2.length x.f2) : k56.K w x [.int .i64 x.f0, .int .i64 x.f1, .slice A2 x.f2.length c2] := by
 obtain ⟨n2, q2⟩ := Kd.fix_C_back mono56 g2
 have r2 := Kd.upto_C_le mono56 sz56 (show n2 ≤ n2 by omega) q2
 exact ⟨n2 + 1, ⟨[.int .i64 x.f0], [.int .i64 x.f1, .slice A2 x.f2.length c2], rfl, rfl, ⟨[.int .i64 x.f1], [.slice A2 x.f2.length c2], rfl, rfl, ⟨A2, c2, rfl, l2, r2⟩⟩⟩⟩
theorem k56_mkM (w : World) (base : Nat) (ok : Nat → Prop) (x : S56) {v2 : Value} (g2 : k56.R 56 w base ok v2 x.f2) : k56.M w base ok x [.int .i64 x.f0, .int .i64 x.f1, v2] := by
 obtain ⟨n2, q2⟩ := Kd.fix_R_back mono56 g2
 have r2 := Kd.upto_R_le mono56 sz56 (show n2 ≤ n2 by omega) q2
 exact ⟨n2 + 1, ⟨[.int .i64 x.f0], [.int .i64 x.f1, v2], rfl, rfl, ⟨[.int .i64 x.f1], [v2], rfl, rfl, ⟨v2, rfl, r2⟩⟩⟩⟩
def rd_T56 (xs : List S56) (i : Int) : S56 := xs.getD i.toNat z56
theorem at_T56 {w : World} {A : Option Addr} {n : Nat} {xs : List S56} (h : Kd.C k56 w A n xs) (i : Int) (h0 : 0 ≤ i) (h1 : i < n) : ∃ ad A2 c2, A = some ad ∧ w.cell? (ad.add (i.toNat * 3)) = some (.int .i64 (rd_T56 xs i).f0) ∧ w.cell? ⟨(ad.add (i.toNat * 3)).block, (ad.add (i.toNat * 3)).off + 1, none⟩ = some (.int .i64 (rd_T56 xs i).f1) ∧ w.cell? ⟨(ad.add (i.toNat * 3)).block, (ad.add (i.toNat * 3)).off + 2, none⟩ = some (.slice A2 (rd_T56 xs i).f2.length c2) ∧ (rd_T56 xs i).f2.length ≤ c2 ∧ k56.C w A2 (rd_T56 xs i).f2.length (rd_T56 xs i).f2 := by
 obtain ⟨ad, c, e, _, hK, hc0⟩ := Kd.C_get h z56 i h0 h1
 have hc : ∀ j u, c[j]? = some u → w.cell? (ad.add (i.toNat * 3 + j)) = some u := hc0
 obtain ⟨A2, c2, rfl, l2, g2⟩ := k56_open hK
 exact ⟨ad, A2, c2, e, hc 0 _ rfl, by rw [← add_field _ _ 1 (by omega)]; exact hc 1 _ rfl, by rw [← add_field _ _ 2 (by omega)]; exact hc 2 _ rfl, l2, g2⟩
structure S58 where
 f0 : Int
 f1 : Int
 f2 : Int
 f3 : S56
 f4 : (List S58)
 f5 : (List S58)
def z58 : S58 := ⟨(0 : Int), (0 : Int), (0 : Int), z56, ([] : List S58), ([] : List S58)⟩
def F58 (d : Kd S58) : Kd S58 := Kd.iso (Kd.pair (Kd.int .i64) (Kd.pair (Kd.int .i64) (Kd.pair (Kd.int .i64) (Kd.pair k56 (Kd.pair (Kd.slice 58 d) (Kd.slice 58 d)))))) (fun x : S58 => (x.f0, x.f1, x.f2, x.f3, x.f4, x.f5))
theorem mono58 : Kd.Mono F58 := Kd.mono_iso _ (Kd.mono_pair (Kd.mono_const _) (Kd.mono_pair (Kd.mono_const _) (Kd.mono_pair (Kd.mono_const _) (Kd.mono_pair (Kd.mono_const _) (Kd.mono_pair (Kd.mono_slice 58 Kd.mono_id) (Kd.mono_slice 58 Kd.mono_id))))))
theorem sub58 : Kd.Sub F58 [56, 58] := Kd.sub_iso _ (Kd.sub_pair (Kd.sub_const _ (by decide)) (Kd.sub_pair (Kd.sub_const _ (by decide)) (Kd.sub_pair (Kd.sub_const _ (by decide)) (Kd.sub_pair (Kd.sub_const _ (by decide)) (Kd.sub_pair (Kd.sub_slice 58 (by decide) Kd.sub_id) (Kd.sub_slice 58 (by decide) Kd.sub_id))))))
theorem sz58 : ∀ n, (Kd.upto F58 8 [56, 58] n).sz = 8 := Kd.upto_sz (fun _ => rfl)
def k58 : Kd S58 := Kd.fix F58 8 [56, 58] sz58 (Kd.upto_E sub58)
theorem k58_heap : Kd.Heap k58 := Kd.heap_fix (fun _ h_ => Kd.heap_iso _ (Kd.heap_pair (Kd.heap_int .i64) (Kd.heap_pair (Kd.heap_int .i64) (Kd.heap_pair (Kd.heap_int .i64) (Kd.heap_pair k56_heap (Kd.heap_pair (Kd.heap_slice 58 h_) (Kd.heap_slice 58 h_)))))))
theorem k58_open {w : World} {x : S58} {cs : List Value} (h : k58.K w x cs) : ∃ A5 c5 A6 c6 A7 c7, cs = [.int .i64 x.f0, .int .i64 x.f1, .int .i64 x.f2, .int .i64 x.f3.f0, .int .i64 x.f3.f1, .slice A5 x.f3.f2.length c5, .slice A6 x.f4.length c6, .slice A7 x.f5.length c7] ∧ x.f3.f2.length ≤ c5 ∧ k56.C w A5 x.f3.f2.length x.f3.f2 ∧ x.f4.length ≤ c6 ∧ k58.C w A6 x.f4.length x.f4 ∧ x.f5.length ≤ c7 ∧ k58.C w A7 x.f5.length x.f5 := by
 obtain ⟨n, h⟩ := h
 cases n with
 | zero => exact h.elim
 | succ n =>
  obtain ⟨_, _, rfl, rfl, ⟨_, _, rfl, rfl, ⟨_, _, rfl, rfl, ⟨_, _, rfl, s3, ⟨_, _, rfl, ⟨A6, c6, rfl, l6, g6⟩, ⟨A7, c7, rfl, l7, g7⟩⟩⟩⟩⟩⟩ := h
  obtain ⟨A5, c5, rfl, l5, g5⟩ := k56_open s3
  exact ⟨A5, c5, A6, c6, A7, c7, rfl, l5, g5, l6, Kd.fix_C g6, l7, Kd.fix_C g7⟩
theorem k58_mk (w : World) (x : S58) {A5 : Option Addr} {c5 : Nat} (l5 : x.f3.f2.length ≤ c5) (g5 : k56.C w A5 x.f3.f2.length x.f3.f2) {A6 : Option Addr} {c6 : Nat} (l6 : x.f4.length ≤ c6) (g6 : k58.C w A6 x.f4.length x.f4) {A7 : Option Addr} {c7 : Nat} (l7 : x.f5.length ≤ c7) (g7 : k58.C w A7 x.f5.length x.f5) : k58.K w x [.int .i64 x.f0, .int .i64 x.f1, .int .i64 x.f2, .int .i64 x.f3.f0, .int .i64 x.f3.f1, .slice A5 x.f3.f2.length c5, .slice A6 x.f4.length c6, .slice A7 x.f5.length c7] := by
 obtain ⟨n6, q6⟩ := Kd.fix_C_back mono58 g6
 obtain ⟨n7, q7⟩ := Kd.fix_C_back mono58 g7
 have r6 := Kd.upto_C_le mono58 sz58 (show n6 ≤ (max n6 n7) by omega) q6
 have r7 := Kd.upto_C_le mono58 sz58 (show n7 ≤ (max n6 n7) by omega) q7
 exact ⟨(max n6 n7) + 1, ⟨[.int .i64 x.f0], [.int .i64 x.f1, .int .i64 x.f2, .int .i64 x.f3.f0, .int .i64 x.f3.f1, .slice A5 x.f3.f2.length c5, .slice A6 x.f4.length c6, .slice A7 x.f5.length c7], rfl, rfl, ⟨[.int .i64 x.f1], [.int .i64 x.f2, .int .i64 x.f3.f0, .int .i64 x.f3.f1, .slice A5 x.f3.f2.length c5, .slice A6 x.f4.length c6, .slice A7 x.f5.length c7], rfl, rfl, ⟨[.int .i64 x.f2], [.int .i64 x.f3.f0, .int .i64 x.f3.f1, .slice A5 x.f3.f2.length c5, .slice A6 x.f4.length c6, .slice A7 x.f5.length c7], rfl, rfl, ⟨[.int .i64 x.f3.f0, .int .i64 x.f3.f1, .slice A5 x.f3.f2.length c5], [.slice A6 x.f4.length c6, .slice A7 x.f5.length c7], rfl, (k56_mk w x.f3 l5 g5), ⟨[.slice A6 x.f4.length c6], [.slice A7 x.f5.length c7], rfl, ⟨A6, c6, rfl, l6, r6⟩, ⟨A7, c7, rfl, l7, r7⟩⟩⟩⟩⟩⟩⟩
theorem k58_openF {W : World} {ok : Nat → Prop} {x : S58} {cs : List Value} (h : Kd.FK k58 W ok x cs) : ∃ A5 c5 A6 c6 A7 c7, cs = [.int .i64 x.f0, .int .i64 x.f1, .int .i64 x.f2, .int .i64 x.f3.f0, .int .i64 x.f3.f1, .slice A5 x.f3.f2.length c5, .slice A6 x.f4.length c6, .slice A7 x.f5.length c7] ∧ x.f3.f2.length ≤ c5 ∧ Kd.F k56 W ok A5 x.f3.f2.length x.f3.f2 ∧ x.f4.length ≤ c6 ∧ Kd.F k58 W ok A6 x.f4.length x.f4 ∧ x.f5.length ≤ c7 ∧ Kd.F k58 W ok A7 x.f5.length x.f5 := by
 obtain ⟨A5, c5, A6, c6, A7, c7, rfl, l5, _, l6, _, l7, _⟩ := k58_open (Kd.FK_now h)
 exact ⟨A5, c5, A6, c6, A7, c7, rfl, l5, (fun W' hW => by obtain ⟨A5_, c5_, A6_, c6_, A7_, c7_, he, l5_, g5_, l6_, g6_, l7_, g7_⟩ := k58_open (h W' hW); injection (Option.some.inj (show some (Value.slice A5 x.f3.f2.length c5) = some (Value.slice A5_ x.f3.f2.length c5_) from congrArg (fun l => l[5]?) he)) with ha_ _ _; rw [ha_]; exact g5_), l6, (fun W' hW => by obtain ⟨A5_, c5_, A6_, c6_, A7_, c7_, he, l5_, g5_, l6_, g6_, l7_, g7_⟩ := k58_open (h W' hW); injection (Option.some.inj (show some (Value.slice A6 x.f4.length c6) = some (Value.slice A6_ x.f4.length c6_) from congrArg (fun l => l[6]?) he)) with ha_ _ _; rw [ha_]; exact g6_), l7, (fun W' hW => by obtain ⟨A5_, c5_, A6_, c6_, A7_, c7_, he, l5_, g5_, l6_, g6_, l7_, g7_⟩ := k58_open (h W' hW); injection (Option.some.inj (show some (Value.slice A7 x.f5.length c7) = some (Value.slice A7_ x.f5.length c7_) from congrArg (fun l => l[7]?) he)) with ha_ _ _; rw [ha_]; exact g7_)⟩
theorem k58_mkF (W : World) (ok : Nat → Prop) (x : S58) {A5 : Option Addr} {c5 : Nat} (l5 : x.f3.f2.length ≤ c5) (g5 : Kd.F k56 W ok A5 x.f3.f2.length x.f3.f2) {A6 : Option Addr} {c6 : Nat} (l6 : x.f4.length ≤ c6) (g6 : Kd.F k58 W ok A6 x.f4.length x.f4) {A7 : Option Addr} {c7 : Nat} (l7 : x.f5.length ≤ c7) (g7 : Kd.F k58 W ok A7 x.f5.length x.f5) : Kd.FK k58 W ok x [.int .i64 x.f0, .int .i64 x.f1, .int .i64 x.f2, .int .i64 x.f3.f0, .int .i64 x.f3.f1, .slice A5 x.f3.f2.length c5, .slice A6 x.f4.length c6, .slice A7 x.f5.length c7] := fun W2 hW => k58_mk W2 x l5 (g5 W2 hW) l6 (g6 W2 hW) l7 (g7 W2 hW)
def rd_T58 (xs : List S58) (i : Int) : S58 := xs.getD i.toNat z58
theorem at_T58 {w : World} {A : Option Addr} {n : Nat} {xs : List S58} (h : Kd.C k58 w A n xs) (i : Int) (h0 : 0 ≤ i) (h1 : i < n) : ∃ ad A5 c5 A6 c6 A7 c7, A = some ad ∧ w.cell? (ad.add (i.toNat * 8)) = some (.int .i64 (rd_T58 xs i).f0) ∧ w.cell? ⟨(ad.add (i.toNat * 8)).block, (ad.add (i.toNat * 8)).off + 1, none⟩ = some (.int .i64 (rd_T58 xs i).f1) ∧ w.cell? ⟨(ad.add (i.toNat * 8)).block, (ad.add (i.toNat * 8)).off + 2, none⟩ = some (.int .i64 (rd_T58 xs i).f2) ∧ w.cell? ⟨(ad.add (i.toNat * 8)).block, (ad.add (i.toNat * 8)).off + 3, none⟩ = some (.int .i64 (rd_T58 xs i).f3.f0) ∧ w.cell? ⟨(ad.add (i.toNat * 8)).block, (ad.add (i.toNat * 8)).off + 4, none⟩ = some (.int .i64 (rd_T58 xs i).f3.f1) ∧ w.cell? ⟨(ad.add (i.toNat * 8)).block, (ad.add (i.toNat * 8)).off + 5, none⟩ = some (.slice A5 (rd_T58 xs i).f3.f2.length c5) ∧ w.cell? ⟨(ad.add (i.toNat * 8)).block, (ad.add (i.toNat * 8)).off + 6, none⟩ = some (.slice A6 (rd_T58 xs i).f4.length c6) ∧ w.cell? ⟨(ad.add (i.toNat * 8)).block, (ad.add (i.toNat * 8)).off + 7, none⟩ = some (.slice A7 (rd_T58 xs i).f5.length c7) ∧ (rd_T58 xs i).f3.f2.length ≤ c5 ∧ k56.C w A5 (rd_T58 xs i).f3.f2.length (rd_T58 xs i).f3.f2 ∧ (rd_T58 xs i).f4.length ≤ c6 ∧ k58.C w A6 (rd_T58 xs i).f4.length (rd_T58 xs i).f4 ∧ (rd_T58 xs i).f5.length ≤ c7 ∧ k58.C w A7 (rd_T58 xs i).f5.length (rd_T58 xs i).f5 := by
 obtain ⟨ad, c, e, _, hK, hc0⟩ := Kd.C_get h z58 i h0 h1
 have hc : ∀ j u, c[j]? = some u → w.cell? (ad.add (i.toNat * 8 + j)) = some u := hc0
 obtain ⟨A5, c5, A6, c6, A7, c7, rfl, l5, g5, l6, g6, l7, g7⟩ := k58_open hK
 exact ⟨ad, A5, c5, A6, c6, A7, c7, e, hc 0 _ rfl, by rw [← add_field _ _ 1 (by omega)]; exact hc 1 _ rfl, by rw [← add_field _ _ 2 (by omega)]; exact hc 2 _ rfl, by rw [← add_field _ _ 3 (by omega)]; exact hc 3 _ rfl, by rw [← add_field _ _ 4 (by omega)]; exact hc 4 _ rfl, by rw [← add_field _ _ 5 (by omega)]; exact hc 5 _ rfl, by rw [← add_field _ _ 6 (by omega)]; exact hc 6 _ rfl, by rw [← add_field _ _ 7 (by omega)]; exact hc 7 _ rfl, l5, g5, l6, g6, l7, g7⟩
def rd_L4 (xs : List (List S58)) (i : Int) : (List S58) := xs.getD i.toNat ([] : List S58)
theorem at_L4 {w : World} {A : Option Addr} {n : Nat} {xs : List (List S58)} (h : Kd.C (Kd.slice 58 k58) w A n xs) (i : Int) (h0 : 0 ≤ i) (h1 : i < n) : ∃ ad A0 c0, A = some ad ∧ w.cell? (ad.add i.toNat) = some (.slice A0 (rd_L4 xs i).length c0) ∧ (rd_L4 xs i).length ≤ c0 ∧ k58.C w A0 (rd_L4 xs i).length (rd_L4 xs i) := by
 obtain ⟨ad, c, e, _, hK, hc0⟩ := Kd.C_get h ([] : List S58) i h0 h1
 have hc : ∀ j u, c[j]? = some u → w.cell? (ad.add (i.toNat * 1 + j)) = some u := hc0
 obtain ⟨A0, c0, rfl, l0, g0⟩ := hK
 exact ⟨ad, A0, c0, e, by have hq := hc 0 _ rfl; rwa [Nat.mul_one, Nat.add_zero] at hq, l0, g0⟩
structure S111 where
 f0 : Int
 f1 : Int
 f2 : (List S111)
def z111 : S111 := ⟨(0 : Int), (0 : Int), ([] : List S111)⟩
def F111 (d : Kd S111) : Kd S111 := Kd.iso (Kd.pair (Kd.int .i64) (Kd.pair (Kd.int .i64) (Kd.slice 111 d))) (fun x : S111 => (x.f0, x.f1, x.f2))
theorem mono111 : Kd.Mono F111 := Kd.mono_iso _ (Kd.mono_pair (Kd.mono_const _) (Kd.mono_pair (Kd.mono_const _) (Kd.mono_slice 111 Kd.mono_id)))
theorem sub111 : Kd.Sub F111 [111] := Kd.sub_iso _ (Kd.sub_pair (Kd.sub_const _ (by decide)) (Kd.sub_pair (Kd.sub_const _ (by decide)) (Kd.sub_slice 111 (by decide) Kd.sub_id)))
theorem sz111 : ∀ n, (Kd.upto F111 3 [111] n).sz = 3 := Kd.upto_sz (fun _ => rfl)
def k111 : Kd S111 := Kd.fix F111 3 [111] sz111 (Kd.upto_E sub111)
theorem k111_open {w : World} {x : S111} {cs : List Value} (h : k111.K w x cs) : ∃ A2 c2, cs = [.int .i64 x.f0, .int .i64 x.f1, .slice A2 x.f2.length c2] ∧ x.f2.length ≤ c2 ∧ k111.C w A2 x.f2.length x.f2 := by
 obtain ⟨n, h⟩ := h
 cases n with
 | zero => exact h.elim
 | succ n =>
  obtain ⟨_, _, rfl, rfl, ⟨_, _, rfl, rfl, ⟨A2, c2, rfl, l2, g2⟩⟩⟩ := h
  exact ⟨A2, c2, rfl, l2, Kd.fix_C g2⟩
theorem k111_mk (w : World) (x : S111) {A2 : Option Addr} {c2 : Nat} (l2 : x.f2.length ≤ c2) (g2 : k111.C w A2 x.f2.length x.f2) : k111.K w x [.int .i64 x.f0, .int .i64 x.f1, .slice A2 x.f2.length c2] := by
 obtain ⟨n2, q2⟩ := Kd.fix_C_back mono111 g2
 have r2 := Kd.upto_C_le mono111 sz111 (show n2 ≤ n2 by omega) q2
 exact ⟨n2 + 1, ⟨[.int .i64 x.f0], [.int .i64 x.f1, .slice A2 x.f2.length c2], rfl, rfl, ⟨[.int .i64 x.f1], [.slice A2 x.f2.length c2], rfl, rfl, ⟨A2, c2, rfl, l2, r2⟩⟩⟩⟩
def rd_T111 (xs : List S111) (i : Int) : S111 := xs.getD i.toNat z111
theorem at_T111 {w : World} {A : Option Addr} {n : Nat} {xs : List S111} (h : Kd.C k111 w A n xs) (i : Int) (h0 : 0 ≤ i) (h1 : i < n) : ∃ ad A2 c2, A = some ad ∧ w.cell? (ad.add (i.toNat * 3)) = some (.int .i64 (rd_T111 xs i).f0) ∧ w.cell? ⟨(ad.add (i.toNat * 3)).block, (ad.add (i.toNat * 3)).off + 1, none⟩ = some (.int .i64 (rd_T111 xs i).f1) ∧ w.cell? ⟨(ad.add (i.toNat * 3)).block, (ad.add (i.toNat * 3)).off + 2, none⟩ = some (.slice A2 (rd_T111 xs i).f2.length c2) ∧ (rd_T111 xs i).f2.length ≤ c2 ∧ k111.C w A2 (rd_T111 xs i).f2.length (rd_T111 xs i).f2 := by
 obtain ⟨ad, c, e, _, hK, hc0⟩ := Kd.C_get h z111 i h0 h1
 have hc : ∀ j u, c[j]? = some u → w.cell? (ad.add (i.toNat * 3 + j)) = some u := hc0
 obtain ⟨A2, c2, rfl, l2, g2⟩ := k111_open hK
 exact ⟨ad, A2, c2, e, hc 0 _ rfl, by rw [← add_field _ _ 1 (by omega)]; exact hc 1 _ rfl, by rw [← add_field _ _ 2 (by omega)]; exact hc 2 _ rfl, l2, g2⟩
structure S113 where
 f0 : Int
 f1 : Int
 f2 : Int
 f3 : S111
 f4 : (List S113)
 f5 : (List S113)
def z113 : S113 := ⟨(0 : Int), (0 : Int), (0 : Int), z111, ([] : List S113), ([] : List S113)⟩
def F113 (d : Kd S113) : Kd S113 := Kd.iso (Kd.pair (Kd.int .i64) (Kd.pair (Kd.int .i64) (Kd.pair (Kd.int .i64) (Kd.pair k111 (Kd.pair (Kd.slice 113 d) (Kd.slice 113 d)))))) (fun x : S113 => (x.f0, x.f1, x.f2, x.f3, x.f4, x.f5))
theorem mono113 : Kd.Mono F113 := Kd.mono_iso _ (Kd.mono_pair (Kd.mono_const _) (Kd.mono_pair (Kd.mono_const _) (Kd.mono_pair (Kd.mono_const _) (Kd.mono_pair (Kd.mono_const _) (Kd.mono_pair (Kd.mono_slice 113 Kd.mono_id) (Kd.mono_slice 113 Kd.mono_id))))))
theorem sub113 : Kd.Sub F113 [111, 113] := Kd.sub_iso _ (Kd.sub_pair (Kd.sub_const _ (by decide)) (Kd.sub_pair (Kd.sub_const _ (by decide)) (Kd.sub_pair (Kd.sub_const _ (by decide)) (Kd.sub_pair (Kd.sub_const _ (by decide)) (Kd.sub_pair (Kd.sub_slice 113 (by decide) Kd.sub_id) (Kd.sub_slice 113 (by decide) Kd.sub_id))))))
theorem sz113 : ∀ n, (Kd.upto F113 8 [111, 113] n).sz = 8 := Kd.upto_sz (fun _ => rfl)
def k113 : Kd S113 := Kd.fix F113 8 [111, 113] sz113 (Kd.upto_E sub113)
theorem k113_open {w : World} {x : S113} {cs : List Value} (h : k113.K w x cs) : ∃ A5 c5 A6 c6 A7 c7, cs = [.int .i64 x.f0, .int .i64 x.f1, .int .i64 x.f2, .int .i64 x.f3.f0, .int .i64 x.f3.f1, .slice A5 x.f3.f2.length c5, .slice A6 x.f4.length c6, .slice A7 x.f5.length c7] ∧ x.f3.f2.length ≤ c5 ∧ k111.C w A5 x.f3.f2.length x.f3.f2 ∧ x.f4.length ≤ c6 ∧ k113.C w A6 x.f4.length x.f4 ∧ x.f5.length ≤ c7 ∧ k113.C w A7 x.f5.length x.f5 := by
 obtain ⟨n, h⟩ := h
 cases n with
 | zero => exact h.elim
 | succ n =>
  obtain ⟨_, _, rfl, rfl, ⟨_, _, rfl, rfl, ⟨_, _, rfl, rfl, ⟨_, _, rfl, s3, ⟨_, _, rfl, ⟨A6, c6, rfl, l6, g6⟩, ⟨A7, c7, rfl, l7, g7⟩⟩⟩⟩⟩⟩ := h
  obtain ⟨A5, c5, rfl, l5, g5⟩ := k111_open s3
  exact ⟨A5, c5, A6, c6, A7, c7, rfl, l5, g5, l6, Kd.fix_C g6, l7, Kd.fix_C g7⟩
theorem k113_mk (w : World) (x : S113) {A5 : Option Addr} {c5 : Nat} (l5 : x.f3.f2.length ≤ c5) (g5 : k111.C w A5 x.f3.f2.length x.f3.f2) {A6 : Option Addr} {c6 : Nat} (l6 : x.f4.length ≤ c6) (g6 : k113.C w A6 x.f4.length x.f4) {A7 : Option Addr} {c7 : Nat} (l7 : x.f5.length ≤ c7) (g7 : k113.C w A7 x.f5.length x.f5) : k113.K w x [.int .i64 x.f0, .int .i64 x.f1, .int .i64 x.f2, .int .i64 x.f3.f0, .int .i64 x.f3.f1, .slice A5 x.f3.f2.length c5, .slice A6 x.f4.length c6, .slice A7 x.f5.length c7] := by
 obtain ⟨n6, q6⟩ := Kd.fix_C_back mono113 g6
 obtain ⟨n7, q7⟩ := Kd.fix_C_back mono113 g7
 have r6 := Kd.upto_C_le mono113 sz113 (show n6 ≤ (max n6 n7) by omega) q6
 have r7 := Kd.upto_C_le mono113 sz113 (show n7 ≤ (max n6 n7) by omega) q7
 exact ⟨(max n6 n7) + 1, ⟨[.int .i64 x.f0], [.int .i64 x.f1, .int .i64 x.f2, .int .i64 x.f3.f0, .int .i64 x.f3.f1, .slice A5 x.f3.f2.length c5, .slice A6 x.f4.length c6, .slice A7 x.f5.length c7], rfl, rfl, ⟨[.int .i64 x.f1], [.int .i64 x.f2, .int .i64 x.f3.f0, .int .i64 x.f3.f1, .slice A5 x.f3.f2.length c5, .slice A6 x.f4.length c6, .slice A7 x.f5.length c7], rfl, rfl, ⟨[.int .i64 x.f2], [.int .i64 x.f3.f0, .int .i64 x.f3.f1, .slice A5 x.f3.f2.length c5, .slice A6 x.f4.length c6, .slice A7 x.f5.length c7], rfl, rfl, ⟨[.int .i64 x.f3.f0, .int .i64 x.f3.f1, .slice A5 x.f3.f2.length c5], [.slice A6 x.f4.length c6, .slice A7 x.f5.length c7], rfl, (k111_mk w x.f3 l5 g5), ⟨[.slice A6 x.f4.length c6], [.slice A7 x.f5.length c7], rfl, ⟨A6, c6, rfl, l6, r6⟩, ⟨A7, c7, rfl, l7, r7⟩⟩⟩⟩⟩⟩⟩
def rd_T113 (xs : List S113) (i : Int) : S113 := xs.getD i.toNat z113
theorem at_T113 {w : World} {A : Option Addr} {n : Nat} {xs : List S113} (h : Kd.C k113 w A n xs) (i : Int) (h0 : 0 ≤ i) (h1 : i < n) : ∃ ad A5 c5 A6 c6 A7 c7, A = some ad ∧ w.cell? (ad.add (i.toNat * 8)) = some (.int .i64 (rd_T113 xs i).f0) ∧ w.cell? ⟨(ad.add (i.toNat * 8)).block, (ad.add (i.toNat * 8)).off + 1, none⟩ = some (.int .i64 (rd_T113 xs i).f1) ∧ w.cell? ⟨(ad.add (i.toNat * 8)).block, (ad.add (i.toNat * 8)).off + 2, none⟩ = some (.int .i64 (rd_T113 xs i).f2) ∧ w.cell? ⟨(ad.add (i.toNat * 8)).block, (ad.add (i.toNat * 8)).off + 3, none⟩ = some (.int .i64 (rd_T113 xs i).f3.f0) ∧ w.cell? ⟨(ad.add (i.toNat * 8)).block, (ad.add (i.toNat * 8)).off + 4, none⟩ = some (.int .i64 (rd_T113 xs i).f3.f1) ∧ w.cell? ⟨(ad.add (i.toNat * 8)).block, (ad.add (i.toNat * 8)).off + 5, none⟩ = some (.slice A5 (rd_T113 xs i).f3.f2.length c5) ∧ w.cell? ⟨(ad.add (i.toNat * 8)).block, (ad.add (i.toNat * 8)).off + 6, none⟩ = some (.slice A6 (rd_T113 xs i).f4.length c6) ∧ w.cell? ⟨(ad.add (i.toNat * 8)).block, (ad.add (i.toNat * 8)).off + 7, none⟩ = some (.slice A7 (rd_T113 xs i).f5.length c7) ∧ (rd_T113 xs i).f3.f2.length ≤ c5 ∧ k111.C w A5 (rd_T113 xs i).f3.f2.length (rd_T113 xs i).f3.f2 ∧ (rd_T113 xs i).f4.length ≤ c6 ∧ k113.C w A6 (rd_T113 xs i).f4.length (rd_T113 xs i).f4 ∧ (rd_T113 xs i).f5.length ≤ c7 ∧ k113.C w A7 (rd_T113 xs i).f5.length (rd_T113 xs i).f5 := by
 obtain ⟨ad, c, e, _, hK, hc0⟩ := Kd.C_get h z113 i h0 h1
 have hc : ∀ j u, c[j]? = some u → w.cell? (ad.add (i.toNat * 8 + j)) = some u := hc0
 obtain ⟨A5, c5, A6, c6, A7, c7, rfl, l5, g5, l6, g6, l7, g7⟩ := k113_open hK
 exact ⟨ad, A5, c5, A6, c6, A7, c7, e, hc 0 _ rfl, by rw [← add_field _ _ 1 (by omega)]; exact hc 1 _ rfl, by rw [← add_field _ _ 2 (by omega)]; exact hc 2 _ rfl, by rw [← add_field _ _ 3 (by omega)]; exact hc 3 _ rfl, by rw [← add_field _ _ 4 (by omega)]; exact hc 4 _ rfl, by rw [← add_field _ _ 5 (by omega)]; exact hc 5 _ rfl, by rw [← add_field _ _ 6 (by omega)]; exact hc 6 _ rfl, by rw [← add_field _ _ 7 (by omega)]; exact hc 7 _ rfl, l5, g5, l6, g6, l7, g7⟩
def rd_L8 (xs : List (List S113)) (i : Int) : (List S113) := xs.getD i.toNat ([] : List S113)
theorem at_L8 {w : World} {A : Option Addr} {n : Nat} {xs : List (List S113)} (h : Kd.C (Kd.slice 113 k113) w A n xs) (i : Int) (h0 : 0 ≤ i) (h1 : i < n) : ∃ ad A0 c0, A = some ad ∧ w.cell? (ad.add i.toNat) = some (.slice A0 (rd_L8 xs i).length c0) ∧ (rd_L8 xs i).length ≤ c0 ∧ k113.C w A0 (rd_L8 xs i).length (rd_L8 xs i) := by
 obtain ⟨ad, c, e, _, hK, hc0⟩ := Kd.C_get h ([] : List S113) i h0 h1
 have hc : ∀ j u, c[j]? = some u → w.cell? (ad.add (i.toNat * 1 + j)) = some u := hc0
 obtain ⟨A0, c0, rfl, l0, g0⟩ := hK
 exact ⟨ad, A0, c0, e, by have hq := hc 0 _ rfl; rwa [Nat.mul_one, Nat.add_zero] at hq, l0, g0⟩
theorem ab1_ {p : Prop} (h : p := by (try simp only [List.map_toArray, List.map_cons, List.map_nil]); first | done | rfl | (simp only [List.length_drop, List.length_take]; rfl)) : p := h
theorem ab2_ {p : Prop} (h : p := by repeat (first | (with_reducible first | exact HB.out | apply below_alloc | apply pw_below_drewN | apply below_drew1) | exact HB.out)) : p := h
theorem ab5_ {p : Prop} (h : p := by repeat (first | (with_reducible first | exact HK.out | apply Kept.alloc | apply Kept.drewN | apply Kept.drew | refine Kept.setCell ?_ (.inr GW132.out) _) | exact HK.out)) : p := h
theorem ab7_ {p : Prop} (h : p := by repeat (first | (with_reducible first | exact HB.out | apply below_alloc | apply pw_below_drewN | apply below_drew1 | refine below_set ?_ GE132.out) | exact HB.out)) : p := h
theorem ab8_ {p : Prop} (h : p := by repeat (first | (with_reducible first | exact HB.out | apply below_alloc | apply pw_below_drewN | apply below_drew1 | refine below_set ?_ GE129.out) | exact HB.out)) : p := h
theorem ab10_ {p : Prop} (h : p := by repeat (first | (with_reducible first | exact HB.out | apply below_alloc | apply pw_below_drewN | apply below_drew1 | refine below_set ?_ GE99.out) | exact HB.out)) : p := h
theorem ab13_ {p : Prop} (h : p := by first | rfl | (simp [errW_none, errW_some] <;> rfl) | (simp [*, errW_none, errW_some] <;> rfl)) : p := h
theorem ab15_ {p : Prop} (h : p := by repeat (first | (with_reducible first | exact HB.out | apply below_alloc | apply pw_below_drewN | apply below_drew1 | refine below_set ?_ GE43.out) | exact HB.out)) : p := h
theorem ab18_ {p : Prop} (h : p := by repeat (first | exact Drawn0.refl _ | apply Drawn0.step)) : p := h
theorem ab24_ {p : Prop} (h : p := by repeat (first | (with_reducible first | exact HB.out | apply below_alloc | apply pw_below_drewN | apply below_drew1 | refine below_set ?_ GE75.out) | exact HB.out)) : p := h
theorem ab25_ {p : Prop} (h : p := by repeat (first | (with_reducible first | exact HB.out | apply below_alloc | apply pw_below_drewN | apply below_drew1 | refine below_set ?_ GE57.out) | exact HB.out)) : p := h
theorem ab30_ {p : Prop} (h : p := by repeat (first | (with_reducible first | exact HB.out | apply below_alloc | apply pw_below_drewN | apply below_drew1 | refine below_set ?_ GE22.out) | exact HB.out)) : p := h
theorem ab31_ {p : Prop} (h : p := by repeat (first | (with_reducible first | exact HB.out | apply below_alloc | apply pw_below_drewN | apply below_drew1 | refine below_set ?_ GE23.out) | exact HB.out)) : p := h
theorem ab33_ {p : Prop} (h : p := by repeat (first | (with_reducible first | exact HB.out | apply below_alloc | apply pw_below_drewN | apply below_drew1 | refine below_set ?_ GE69.out) | exact HB.out)) : p := h
theorem ab35_ {p : Prop} (h : p := by repeat (first | (with_reducible first | exact HB.out | apply below_alloc | apply pw_below_drewN | apply below_drew1 | refine below_set ?_ GE33.out) | exact HB.out)) : p := h
theorem ab36_ {p : Prop} (h : p := by repeat (first | (with_reducible first | exact HK.out | apply Kept.alloc | apply Kept.drewN | apply Kept.drew) | exact HK.out)) : p := h
theorem ab37_ {p : Prop} (h : p := by repeat (first | (with_reducible first | exact HB.out | apply below_alloc | apply pw_below_drewN | apply below_drew1 | refine below_set ?_ GE37.out) | exact HB.out)) : p := h
theorem ab39_ {p : Prop} (h : p := by repeat (first | (with_reducible first | exact HB.out | apply below_alloc | apply pw_below_drewN | apply below_drew1 | refine below_set ?_ GE75.out | refine below_set ?_ GE92.out) | exact HB.out)) : p := h
theorem ab40_ {p : Prop} (h : p := by repeat (first | (with_reducible first | exact HB.out | apply below_alloc | apply pw_below_drewN | apply below_drew1 | refine below_set ?_ GE31.out) | exact HB.out)) : p := h
theorem ab41_ {p : Prop} (h : p := by repeat (first | (with_reducible first | exact HB.out | apply below_alloc | apply pw_below_drewN | apply below_drew1 | refine below_set ?_ GE28.out | refine below_set ?_ GE37.out) | exact HB.out)) : p := h
theorem ab42_ {p : Prop} (h : p := by repeat (first | (with_reducible first | exact HK.out | apply Kept.alloc | apply Kept.drewN | apply Kept.drew | refine Kept.setCell ?_ (.inr GW43.out) _) | exact HK.out)) : p := h
theorem ab44_ {p : Prop} (h : p := by repeat (first | (with_reducible first | exact HB.out | apply below_alloc | apply pw_below_drewN | apply below_drew1 | refine below_set ?_ GE21.out) | exact HB.out)) : p := h
theorem ab46_ {p : Prop} (h : p := by repeat (first | (with_reducible first | exact HB.out | apply below_alloc | apply pw_below_drewN | apply below_drew1 | refine below_set ?_ GE23.out | refine below_set ?_ GE24.out | refine below_set ?_ GE25.out) | exact HB.out)) : p := h
theorem ab51_ {p : Prop} (h : p := by repeat (first | (with_reducible first | exact HK.out | apply Kept.alloc | apply Kept.drewN | apply Kept.drew | refine Kept.setCell ?_ (.inr GW33.out) _) | exact HK.out)) : p := h
theorem ab57_ {p : Prop} (h : p := by repeat (first | (with_reducible first | exact HB.out | apply below_alloc | apply pw_below_drewN | apply below_drew1 | refine below_set ?_ GE29.out) | exact HB.out)) : p := h
theorem ab60_ {p : Prop} (h : p := by repeat (first | (with_reducible first | exact HB.out | apply below_alloc | apply pw_below_drewN | apply below_drew1 | refine below_set ?_ GE21.out | refine below_set ?_ GE22.out) | exact HB.out)) : p := h
theorem ab61_ {p : Prop} (h : p := by repeat (first | (with_reducible first | exact HB.out | apply below_alloc | apply pw_below_drewN | apply below_drew1 | refine below_set ?_ GE22.out | refine below_set ?_ GE23.out) | exact HB.out)) : p := h
theorem ab69_ {p : Prop} (h : p := by repeat (first | (with_reducible first | exact HK.out | apply Kept.alloc | apply Kept.drewN | apply Kept.drew | refine Kept.setCell ?_ (.inr GW24.out) _) | exact HK.out)) : p := h
theorem ab74_ {p : Prop} (h : p := by repeat (first | (with_reducible first | exact HB.out | apply below_alloc | apply pw_below_drewN | apply below_drew1 | refine below_set ?_ GE23.out | refine below_set ?_ GE24.out) | exact HB.out)) : p := h
theorem ab75_ {p : Prop} (h : p := by repeat (first | (with_reducible first | exact HB.out | apply below_alloc | apply pw_below_drewN | apply below_drew1 | refine below_set ?_ GE24.out) | exact HB.out)) : p := h
theorem ab116_ {p : Prop} (h : p := by repeat (first | (with_reducible first | exact HB.out | apply below_alloc | apply pw_below_drewN | apply below_drew1 | refine below_set ?_ GE28.out) | exact HB.out)) : p := h
theorem ab118_ {p : Prop} (h : p := by repeat (first | (with_reducible first | exact HB.out | apply below_alloc | apply pw_below_drewN | apply below_drew1 | refine below_set ?_ GE20.out) | exact HB.out)) : p := h
theorem aN_ {p q : Prop} (x : q) (h : q → p := by intro hx_; (with_reducible repeat (first | apply Kd.N_alloc | apply Kd.N_drewN | apply Kd.N_drew)); exact hx_) : p := h x
theorem aR_ {p q : Prop} (x : q) (h : q → p := by intro hx_; (with_reducible repeat (first | apply Kd.R_alloc | apply Kd.R_drewN | apply Kd.R_drew)); exact hx_) : p := h x
theorem aG_ {p q : Prop} (x : q) (h : q → p := by intro hx_; (with_reducible repeat (first | refine blk_drewN ?_ _ | refine blk_drew ?_ | refine blk_alloc ?_ _)); exact hx_) : p := h x
theorem rr_ {p : Prop} (h : p := by first | rfl | (simp [errW_none, errW_some] <;> rfl) | (simp [*, errW_none, errW_some] <;> rfl)) : p := h
theorem bsm {α β : Type} {o : Option α} {f : α → Option β} {b : β} (h : o.bind f = some b) : ∃ a, o = some a ∧ f a = some b := Option.bind_eq_some_iff.mp h
theorem am {p : Prop} (h : p) : Aside0 p := ⟨h⟩
theorem bcf2_ {w : World} {g : Nat} {t : TypeId} {x0 x1 : Value} (h : w.heap[g]? = some (.cells #[x0, x1] t (0, 0))) : w.cell? ⟨g, 0, none⟩ = some x0 ∧ w.cell? ⟨g, 1, none⟩ = some x1 ∧ w.frozen? ⟨g, 0, none⟩ = false ∧ w.frozen? ⟨g, 1, none⟩ = false := ⟨(blk_cell h 0).trans rfl, (blk_cell h 1).trans rfl, blk_frozen h 0, blk_frozen h 1⟩
theorem bcf3_ {w : World} {g : Nat} {t : TypeId} {x0 x1 x2 : Value} (h : w.heap[g]? = some (.cells #[x0, x1, x2] t (0, 0))) : w.cell? ⟨g, 0, none⟩ = some x0 ∧ w.cell? ⟨g, 1, none⟩ = some x1 ∧ w.cell? ⟨g, 2, none⟩ = some x2 ∧ w.frozen? ⟨g, 0, none⟩ = false ∧ w.frozen? ⟨g, 1, none⟩ = false ∧ w.frozen? ⟨g, 2, none⟩ = false := ⟨(blk_cell h 0).trans rfl, (blk_cell h 1).trans rfl, (blk_cell h 2).trans rfl, blk_frozen h 0, blk_frozen h 1, blk_frozen h 2⟩
theorem bcf8_ {w : World} {g : Nat} {t : TypeId} {x0 x1 x2 x3 x4 x5 x6 x7 : Value} (h : w.heap[g]? = some (.cells #[x0, x1, x2, x3, x4, x5, x6, x7] t (0, 0))) : w.cell? ⟨g, 0, none⟩ = some x0 ∧ w.cell? ⟨g, 1, none⟩ = some x1 ∧ w.cell? ⟨g, 2, none⟩ = some x2 ∧ w.cell? ⟨g, 3, none⟩ = some x3 ∧ w.cell? ⟨g, 4, none⟩ = some x4 ∧ w.cell? ⟨g, 5, none⟩ = some x5 ∧ w.cell? ⟨g, 6, none⟩ = some x6 ∧ w.cell? ⟨g, 7, none⟩ = some x7 ∧ w.frozen? ⟨g, 0, none⟩ = false ∧ w.frozen? ⟨g, 1, none⟩ = false ∧ w.frozen? ⟨g, 2, none⟩ = false ∧ w.frozen? ⟨g, 3, none⟩ = false ∧ w.frozen? ⟨g, 4, none⟩ = false ∧ w.frozen? ⟨g, 5, none⟩ = false ∧ w.frozen? ⟨g, 6, none⟩ = false ∧ w.frozen? ⟨g, 7, none⟩ = false := ⟨(blk_cell h 0).trans rfl, (blk_cell h 1).trans rfl, (blk_cell h 2).trans rfl, (blk_cell h 3).trans rfl, (blk_cell h 4).trans rfl, (blk_cell h 5).trans rfl, (blk_cell h 6).trans rfl, (blk_cell h 7).trans rfl, blk_frozen h 0, blk_frozen h 1, blk_frozen h 2, blk_frozen h 3, blk_frozen h 4, blk_frozen h 5, blk_frozen h 6, blk_frozen h 7⟩
theorem bbl_ {W0 W W1 : World} {g : Nat} {o : Obj} (x : W0.heap[g]? = some o) (hb : Below W.heap.size W W1) (h : W0.heap[g]? = some o → W.heap[g]? = some o := by intro hx_; (with_reducible repeat (first | refine blk_drewN ?_ _ | refine blk_drew ?_ | refine blk_alloc ?_ _)); exact hx_) : W1.heap[g]? = some o := blk_below (h x) hb
theorem blt_ {W0 W : World} {g : Nat} {o : Obj} (x : W0.heap[g]? = some o) (h : W0.heap[g]? = some o → W.heap[g]? = some o := by intro hx_; (with_reducible repeat (first | refine blk_drewN ?_ _ | refine blk_drew ?_ | refine blk_alloc ?_ _)); exact hx_) : g < W.heap.size := blk_lt (h x)
theorem frb_ {W0 W : World} {g : Nat} {o : Obj} (x : W0.heap[g]? = some o) (k : Nat) (hk : W.heap.size ≤ k) (h : W0.heap[g]? = some o → W.heap[g]? = some o := by intro hx_; (with_reducible repeat (first | refine blk_drewN ?_ _ | refine blk_drew ?_ | refine blk_alloc ?_ _)); exact hx_) : k ≠ g := Kd.freshB (h x) k hk
theorem aC_ {p q : Prop} (x : q) (h : q → p := by intro hx_; repeat (first | exact hx_ | (with_reducible refine Kd.C_alloc ?_ _) | (with_reducible refine Kd.C_drewN ?_ _) | (with_reducible refine Kd.C_drew ?_))) : p := h x
theorem rn_ {p : Prop} (h : p := by first | (go_simp; done) | (go_simp; rfl)) : p := h
theorem sd_ {p : Prop} (h : p := by first | rfl | (simp; done) | (simp [*]; done)) : p := h
theorem asm_ {p : Prop} (h : p := by first | (with_reducible assumption) | assumption) : p := h
theorem pr_ (i N : Nat) (l' : Array Bool) {P : Program} {md : Region.Mode} {ops : Array Oper} {Q : Exit → Act → World → Prop} {S : World → Prop} {ds : List Nat} {oi : Oper} {v : Value} {fuel : Nat} {l : Array Bool} {a a' : Act} {w : World} {T : Bool × List (List Nat × List Nat)} (HT : Aside0 (rtab md ops = T)) (h : wpAnyLast P md ops Q S ds fuel l' a' w) (hi : ops[i]? = some oi := by rfl) (hN : oi.dst = some N := by rfl) (hc : anyT T l.toList l'.toList i = true := by kernel_rfl) (hQ : ∀ c a w, Q (.panic c) (a.put oi.dst v) w → Q (.panic c) a w := by exact fun _ _ _ h_ => h_) (hg : Region.wanted oi (yielded ops a.tmps) = true := by rfl) (hy : ∀ w, (execOp a.eval oi).run P w = .ok (.value v) w := by (intro w'; go_simp; with_reducible rfl)) (ha : a.put (some N) v = a' := by first | (simp only [Act.put, List.setIfInBounds_toArray, List.set_cons_zero, List.set_cons_succ, i64_w, i32_w]; rfl) | rfl) : wpAnyLast P md ops Q S ds (fuel + 1) l a w := pure_ l' hi hN (any_of HT.out hc) hQ (Or.inl ⟨hg, hy⟩) ha h
theorem pu_ (i N : Nat) (l' : Array Bool) {P : Program} {md : Region.Mode} {ops : Array Oper} {Q : Exit → Act → World → Prop} {S : World → Prop} {ds : List Nat} {oi : Oper} {fuel : Nat} {l : Array Bool} {a a' : Act} {w : World} {T : Bool × List (List Nat × List Nat)} (HT : Aside0 (rtab md ops = T)) (h : wpAnyLast P md ops Q S ds fuel l' a' w) (hi : ops[i]? = some oi := by rfl) (hN : oi.dst = some N := by rfl) (hc : anyT T l.toList l'.toList i = true := by kernel_rfl) (hQ : ∀ c a w, Q (.panic c) (a.put oi.dst undef) w → Q (.panic c) a w := by exact fun _ _ _ h_ => h_) (hg : Region.wanted oi (yielded ops a.tmps) = false := by rfl) (ha : a.put (some N) undef = a' := by first | (simp only [Act.put, List.setIfInBounds_toArray, List.set_cons_zero, List.set_cons_succ, i64_w, i32_w]; rfl) | rfl) : wpAnyLast P md ops Q S ds (fuel + 1) l a w := pure_ (v := undef) l' hi hN (any_of HT.out hc) hQ (Or.inr ⟨hg, rfl⟩) ha h
theorem tk2_ (i N : Nat) (l' : Array Bool) {P : Program} {md : Region.Mode} {ops : Array Oper} {Q : Exit → Act → World → Prop} {S : World → Prop} {ds : List Nat} {oi : Oper} {v : Value} {fuel : Nat} {l : Array Bool} {a a' : Act} {w : World} {T : Bool × List (List Nat × List Nat)} {B : List Nat} (HT : Aside0 (rtab md ops = T)) (HW : Aside0 (waitsOk T.2 B = true)) (hS : S w) (h : wpAnyLast P md ops Q S ds fuel l' a' w) (hi : ops[i]? = some oi := by rfl) (hN : oi.dst = some N := by rfl) (hc : takeW T B ds l.toList l'.toList i = true := by kernel_rfl) (hQ : ∀ c a w, Q (.panic c) (a.put oi.dst v) w → Q (.panic c) a w := by exact fun _ _ _ h_ => h_) (hg : Region.wanted oi (yielded ops a.tmps) = true := by rfl) (hy : ∀ w, S w → (execOp a.eval oi).run P w = .ok (.value v) w := by (rintro w' ⟨s0, s1⟩; go_simp; with_reducible rfl)) (ha : a.put (some N) v = a' := by first | (simp only [Act.put, List.setIfInBounds_toArray, List.set_cons_zero, List.set_cons_succ, i64_w, i32_w]; rfl) | rfl) : wpAnyLast P md ops Q S ds (fuel + 1) l a w := take_ l' hi hN (take_ofW HT.out HW.out hc) hQ (Or.inl ⟨hg, hy⟩) hS ha h
theorem tk3_ (i N : Nat) (l' : Array Bool) {P : Program} {md : Region.Mode} {ops : Array Oper} {Q : Exit → Act → World → Prop} {S : World → Prop} {ds : List Nat} {oi : Oper} {v : Value} {fuel : Nat} {l : Array Bool} {a a' : Act} {w : World} {T : Bool × List (List Nat × List Nat)} {B : List Nat} (HT : Aside0 (rtab md ops = T)) (HW : Aside0 (waitsOk T.2 B = true)) (hS : S w) (h : wpAnyLast P md ops Q S ds fuel l' a' w) (hi : ops[i]? = some oi := by rfl) (hN : oi.dst = some N := by rfl) (hc : takeW T B ds l.toList l'.toList i = true := by kernel_rfl) (hQ : ∀ c a w, Q (.panic c) (a.put oi.dst v) w → Q (.panic c) a w := by exact fun _ _ _ h_ => h_) (hg : Region.wanted oi (yielded ops a.tmps) = true := by rfl) (hy : ∀ w, S w → (execOp a.eval oi).run P w = .ok (.value v) w := by (rintro w' ⟨s0, s1, s2⟩; go_simp; with_reducible rfl)) (ha : a.put (some N) v = a' := by first | (simp only [Act.put, List.setIfInBounds_toArray, List.set_cons_zero, List.set_cons_succ, i64_w, i32_w]; rfl) | rfl) : wpAnyLast P md ops Q S ds (fuel + 1) l a w := take_ l' hi hN (take_ofW HT.out HW.out hc) hQ (Or.inl ⟨hg, hy⟩) hS ha h
theorem tk4_ (i N : Nat) (l' : Array Bool) {P : Program} {md : Region.Mode} {ops : Array Oper} {Q : Exit → Act → World → Prop} {S : World → Prop} {ds : List Nat} {oi : Oper} {v : Value} {fuel : Nat} {l : Array Bool} {a a' : Act} {w : World} {T : Bool × List (List Nat × List Nat)} {B : List Nat} (HT : Aside0 (rtab md ops = T)) (HW : Aside0 (waitsOk T.2 B = true)) (hS : S w) (h : wpAnyLast P md ops Q S ds fuel l' a' w) (hi : ops[i]? = some oi := by rfl) (hN : oi.dst = some N := by rfl) (hc : takeW T B ds l.toList l'.toList i = true := by kernel_rfl) (hQ : ∀ c a w, Q (.panic c) (a.put oi.dst v) w → Q (.panic c) a w := by exact fun _ _ _ h_ => h_) (hg : Region.wanted oi (yielded ops a.tmps) = true := by rfl) (hy : ∀ w, S w → (execOp a.eval oi).run P w = .ok (.value v) w := by (rintro w' ⟨s0, s1, s2, s3⟩; go_simp; with_reducible rfl)) (ha : a.put (some N) v = a' := by first | (simp only [Act.put, List.setIfInBounds_toArray, List.set_cons_zero, List.set_cons_succ, i64_w, i32_w]; rfl) | rfl) : wpAnyLast P md ops Q S ds (fuel + 1) l a w := take_ l' hi hN (take_ofW HT.out HW.out hc) hQ (Or.inl ⟨hg, hy⟩) hS ha h
theorem tk6_ (i N : Nat) (l' : Array Bool) {P : Program} {md : Region.Mode} {ops : Array Oper} {Q : Exit → Act → World → Prop} {S : World → Prop} {ds : List Nat} {oi : Oper} {v : Value} {fuel : Nat} {l : Array Bool} {a a' : Act} {w : World} {T : Bool × List (List Nat × List Nat)} {B : List Nat} (HT : Aside0 (rtab md ops = T)) (HW : Aside0 (waitsOk T.2 B = true)) (hS : S w) (h : wpAnyLast P md ops Q S ds fuel l' a' w) (hi : ops[i]? = some oi := by rfl) (hN : oi.dst = some N := by rfl) (hc : takeW T B ds l.toList l'.toList i = true := by kernel_rfl) (hQ : ∀ c a w, Q (.panic c) (a.put oi.dst v) w → Q (.panic c) a w := by exact fun _ _ _ h_ => h_) (hg : Region.wanted oi (yielded ops a.tmps) = true := by rfl) (hy : ∀ w, S w → (execOp a.eval oi).run P w = .ok (.value v) w := by (rintro w' ⟨s0, s1, s2, s3, s4, s5⟩; go_simp; with_reducible rfl)) (ha : a.put (some N) v = a' := by first | (simp only [Act.put, List.setIfInBounds_toArray, List.set_cons_zero, List.set_cons_succ, i64_w, i32_w]; rfl) | rfl) : wpAnyLast P md ops Q S ds (fuel + 1) l a w := take_ l' hi hN (take_ofW HT.out HW.out hc) hQ (Or.inl ⟨hg, hy⟩) hS ha h
theorem tk8_ (i N : Nat) (l' : Array Bool) {P : Program} {md : Region.Mode} {ops : Array Oper} {Q : Exit → Act → World → Prop} {S : World → Prop} {ds : List Nat} {oi : Oper} {v : Value} {fuel : Nat} {l : Array Bool} {a a' : Act} {w : World} {T : Bool × List (List Nat × List Nat)} {B : List Nat} (HT : Aside0 (rtab md ops = T)) (HW : Aside0 (waitsOk T.2 B = true)) (hS : S w) (h : wpAnyLast P md ops Q S ds fuel l' a' w) (hi : ops[i]? = some oi := by rfl) (hN : oi.dst = some N := by rfl) (hc : takeW T B ds l.toList l'.toList i = true := by kernel_rfl) (hQ : ∀ c a w, Q (.panic c) (a.put oi.dst v) w → Q (.panic c) a w := by exact fun _ _ _ h_ => h_) (hg : Region.wanted oi (yielded ops a.tmps) = true := by rfl) (hy : ∀ w, S w → (execOp a.eval oi).run P w = .ok (.value v) w := by (rintro w' ⟨s0, s1, s2, s3, s4, s5, s6, s7⟩; go_simp; with_reducible rfl)) (ha : a.put (some N) v = a' := by first | (simp only [Act.put, List.setIfInBounds_toArray, List.set_cons_zero, List.set_cons_succ, i64_w, i32_w]; rfl) | rfl) : wpAnyLast P md ops Q S ds (fuel + 1) l a w := take_ l' hi hN (take_ofW HT.out HW.out hc) hQ (Or.inl ⟨hg, hy⟩) hS ha h
theorem tk9_ (i N : Nat) (l' : Array Bool) {P : Program} {md : Region.Mode} {ops : Array Oper} {Q : Exit → Act → World → Prop} {S : World → Prop} {ds : List Nat} {oi : Oper} {v : Value} {fuel : Nat} {l : Array Bool} {a a' : Act} {w : World} {T : Bool × List (List Nat × List Nat)} {B : List Nat} (HT : Aside0 (rtab md ops = T)) (HW : Aside0 (waitsOk T.2 B = true)) (hS : S w) (h : wpAnyLast P md ops Q S ds fuel l' a' w) (hi : ops[i]? = some oi := by rfl) (hN : oi.dst = some N := by rfl) (hc : takeW T B ds l.toList l'.toList i = true := by kernel_rfl) (hQ : ∀ c a w, Q (.panic c) (a.put oi.dst v) w → Q (.panic c) a w := by exact fun _ _ _ h_ => h_) (hg : Region.wanted oi (yielded ops a.tmps) = true := by rfl) (hy : ∀ w, S w → (execOp a.eval oi).run P w = .ok (.value v) w := by (rintro w' ⟨s0, s1, s2, s3, s4, s5, s6, s7, s8⟩; go_simp; with_reducible rfl)) (ha : a.put (some N) v = a' := by first | (simp only [Act.put, List.setIfInBounds_toArray, List.set_cons_zero, List.set_cons_succ, i64_w, i32_w]; rfl) | rfl) : wpAnyLast P md ops Q S ds (fuel + 1) l a w := take_ l' hi hN (take_ofW HT.out HW.out hc) hQ (Or.inl ⟨hg, hy⟩) hS ha h
theorem tk16_ (i N : Nat) (l' : Array Bool) {P : Program} {md : Region.Mode} {ops : Array Oper} {Q : Exit → Act → World → Prop} {S : World → Prop} {ds : List Nat} {oi : Oper} {v : Value} {fuel : Nat} {l : Array Bool} {a a' : Act} {w : World} {T : Bool × List (List Nat × List Nat)} {B : List Nat} (HT : Aside0 (rtab md ops = T)) (HW : Aside0 (waitsOk T.2 B = true)) (hS : S w) (h : wpAnyLast P md ops Q S ds fuel l' a' w) (hi : ops[i]? = some oi := by rfl) (hN : oi.dst = some N := by rfl) (hc : takeW T B ds l.toList l'.toList i = true := by kernel_rfl) (hQ : ∀ c a w, Q (.panic c) (a.put oi.dst v) w → Q (.panic c) a w := by exact fun _ _ _ h_ => h_) (hg : Region.wanted oi (yielded ops a.tmps) = true := by rfl) (hy : ∀ w, S w → (execOp a.eval oi).run P w = .ok (.value v) w := by (rintro w' ⟨s0, s1, s2, s3, s4, s5, s6, s7, s8, s9, s10, s11, s12, s13, s14, s15⟩; go_simp; with_reducible rfl)) (ha : a.put (some N) v = a' := by first | (simp only [Act.put, List.setIfInBounds_toArray, List.set_cons_zero, List.set_cons_succ, i64_w, i32_w]; rfl) | rfl) : wpAnyLast P md ops Q S ds (fuel + 1) l a w := take_ l' hi hN (take_ofW HT.out HW.out hc) hQ (Or.inl ⟨hg, hy⟩) hS ha h
theorem aNw_ {α : Type} {d : Kd α} {e : Nat} {W0 W : World} {base : Nat} {ok : Nat → Prop} {v : Value} {xs : List α} (x : Kd.N d e W0 base ok v xs) (h : Kd.N d e W0 base ok v xs → Kd.N d e W base ok v xs := by intro hx_; (with_reducible repeat (first | apply Kd.N_alloc | apply Kd.N_drewN | apply Kd.N_drew)); exact hx_) : Kd.N d e W base ok v xs := h x
theorem aRw_ {α : Type} {d : Kd α} {e : Nat} {W0 W : World} {base : Nat} {ok : Nat → Prop} {v : Value} {xs : List α} (x : Kd.R d e W0 base ok v xs) (h : Kd.R d e W0 base ok v xs → Kd.R d e W base ok v xs := by intro hx_; (with_reducible repeat (first | apply Kd.R_alloc | apply Kd.R_drewN | apply Kd.R_drew)); exact hx_) : Kd.R d e W base ok v xs := h x
def bz (n m : Nat) : Array Bool := ((List.range n).map (fun i => m.testBit i)).toArray
theorem rx_ {p : Prop} (h : p := by first | (rw [hy_]; with_reducible exact H) | (have H2_ := (Option.bind_some _ _).symm.trans H; rw [hy_]; with_reducible exact H2_) | (have H2_ := (Option.bind_some _ _).symm.trans H; with_reducible exact H2_) | with_reducible exact H | (rw [hy_]; exact H) | exact H) : p := h
theorem bsa {α β : Type} {o : Option α} {f : α → Option β} {b : β} (h : o.bind f = some b) : ∃ a, Aside0 (o = some a) ∧ f a = some b := by
 obtain ⟨a, h1, h2⟩ := Option.bind_eq_some_iff.mp h
 exact ⟨a, ⟨h1⟩, h2⟩
theorem gl_ {P : Program} {ops : Array Oper} {Q : Exit → Act → World → Prop} {rest : List Oper} {oi : Oper} {a : Act} {w : World} (N : Nat) {f : FuncId} {fn : Func} {as_ : Array Operand} {ts : Array TypeId} (hf : P.funcs[f]? = some fn) (args : Array Value) (h : Calls P f args w fun e w' => ∃ v, e = .returned v ∧ wpList P ops Q rest (a.put (some N) v) w') (hd : oi.dst = some N := by rfl) (hg : oi.guard = none := by rfl) (hname : (fn.name == "runtime.NumGoroutine") = false := by kernel_rfl) (hb : fn.body.isSome = true := by rfl) (hop : oi.op = .call { callee := .value (.func f), args := as_, argTypes := ts } := by rfl) (hargs : as_.map a.eval = args := by (try simp only [List.map_toArray, List.map_cons, List.map_nil]); first | done | rfl | (simp only [List.length_drop, List.length_take]; rfl)) : wpList P ops Q (oi :: rest) a w := goesL_ (some N) hd hg hf hname hb args hop hargs h
theorem mo_ {p : Prop} (h : p := by repeat' first | (with_reducible exact ih0 ..) | (with_reducible exact ih1 ..) | (with_reducible exact ih2 ..) | (with_reducible exact ih3 ..) | (with_reducible exact ih4 ..) | (with_reducible exact ih5 ..) | (with_reducible exact ih6 ..) | (with_reducible exact ih7 ..) | (with_reducible exact m0 ..) | (with_reducible exact m1 ..) | (with_reducible exact m2 ..) | (with_reducible exact m3 ..) | (with_reducible exact m4 ..) | (with_reducible exact m5 ..) | (with_reducible exact m6 ..) | (with_reducible exact LeO.refl _) | (with_reducible exact LeO.none _) | (with_reducible refine LeO.ite ?_ ?_) | (with_reducible refine LeO.bind ?_ (fun _ => ?_))) : p := h
def spec_l6Rd_pick.j0 : Nat → Int → Bool → List Int → Int → Option (Int × Int)
 | 0, _, _, _, _ => none
 | k + 1, x1, x24, x1000, x1001 => if x24 = true then (some (0, x1001)) else (if (wrap64 (x1001 - 1)) < (x1000.length : Int) then (if 0 ≤ (wrap64 (x1001 - 1)) then (if x1 = 0 then (none) else (some (Int.tmod (wrap64 (rd x1000 (wrap64 (x1001 - 1)))) x1, x1001))) else (none)) else (if (x1000.length : Int) = 0 then (none) else (if 0 ≤ (Int.tmod (wrap64 (x1001 - 1)) (x1000.length : Int)) then (if (Int.tmod (wrap64 (x1001 - 1)) (x1000.length : Int)) < (x1000.length : Int) then (if 0 ≤ (Int.tmod (wrap64 ((wrap64 ((wrap64 (x1001 - 1)) * 7)) + 3)) (x1000.length : Int)) then (if (Int.tmod (wrap64 ((wrap64 ((wrap64 (x1001 - 1)) * 7)) + 3)) (x1000.length : Int)) < (x1000.length : Int) then (if x1 = 0 then (none) else (some (Int.tmod (Go.bits .xor .i64 (wrap64 ((wrap64 ((wrap64 ((wrap64 ((wrap64 (rd x1000 (Int.tmod (wrap64 (x1001 - 1)) (x1000.length : Int)))) * 131)) + (wrap64 ((wrap64 (rd x1000 (Int.tmod (wrap64 ((wrap64 ((wrap64 (x1001 - 1)) * 7)) + 3)) (x1000.length : Int)))) * 1117)))) + (wrap64 ((wrap64 (x1001 - 1)) * 29)))) + (wrap64 ((wrap64 (Int.tdiv (wrap64 (x1001 - 1)) (x1000.length : Int))) * 53)))) (wrap64 (Int.tdiv (wrap64 ((wrap64 ((wrap64 ((wrap64 ((wrap64 (rd x1000 (Int.tmod (wrap64 (x1001 - 1)) (x1000.length : Int)))) * 131)) + (wrap64 ((wrap64 (rd x1000 (Int.tmod (wrap64 ((wrap64 ((wrap64 (x1001 - 1)) * 7)) + 3)) (x1000.length : Int)))) * 1117)))) + (wrap64 ((wrap64 (x1001 - 1)) * 29)))) + (wrap64 ((wrap64 (Int.tdiv (wrap64 (x1001 - 1)) (x1000.length : Int))) * 53)))) 64))) x1, x1001))) else (none)) else (none)) else (none)) else (none))))
def spec_l6Rd_pick.f (k : Nat) (s0_0 : List Int) (s0_1 : Int) (a1 : Int) : Option (Int × Int) := if a1 < 1 then (spec_l6Rd_pick.j0 k a1 true s0_0 (wrap64 (s0_1 + 1))) else (spec_l6Rd_pick.j0 k a1 ((s0_0.length : Int) == 0) s0_0 (wrap64 (s0_1 + 1)))
def spec_l92Rooms.l0 : Nat → List Int → Int → Int → List Int → Int → Option (List Int × Int)
 | 0, _, _, _, _, _ => none
 | k + 1, x3, x4, x5, x1000, x1001 => if x5 < x4 then ((some (([1, 1, 2, 3, 4] : List Int) : List Int)).bind fun y113 => ((spec_l6Rd_pick.f k x1000 x1001 5).bind fun bt116 => (if 0 ≤ bt116.1 then (if bt116.1 < (y113.length : Int) then (if x3.length < 17592186044416 then (spec_l92Rooms.l0 k (x3 ++ [rd y113 bt116.1]) x4 (wrap64 (x5 + 1)) x1000 bt116.2) else (none)) else (none)) else (none)))) else (some (x3, x1001))
def spec_l92Rooms.f (k : Nat) (s0_0 : List Int) (s0_1 : Int) : Option (List Int × Int) := (some (([0, 1, 1, 2, 2, 3] : List Int) : List Int)).bind fun y107 => ((spec_l6Rd_pick.f k s0_0 s0_1 6).bind fun bt110 => (if 0 ≤ bt110.1 then (if bt110.1 < (y107.length : Int) then (spec_l92Rooms.l0 k (([] : List Int)) (rd y107 bt110.1) 0 s0_0 bt110.2) else (none)) else (none)))
mutual
def spec_l11Count.l0 : Nat → List (S58) → Int → Int → Option (Int)
 | 0, _, _, _ => none
 | k + 1, x0, x3, x4 => if x4 < (x0.length : Int) then (if 0 ≤ x4 then ((spec_l11Count.f k ((rd_T58 x0 x4).f4)).bind fun t123 => ((spec_l11Count.f k ((rd_T58 x0 x4).f5)).bind fun t125 => (spec_l11Count.l0 k x0 (wrap64 ((wrap64 ((wrap64 (x3 + 1)) + t123)) + t125)) (wrap64 (x4 + 1))))) else (none)) else (some x3)
def spec_l11Count.f : Nat → List (S58) → Option (Int)
 | 0, _ => none
 | k + 1, l0 => spec_l11Count.l0 k l0 0 0
end
def spec_l4Leaf.f (a0 : Int) (a1 : Int) : Option (Int × Int × (List (S56))) := some (a0, a1, (([] : List (S56))))
def spec_l91Leaf.f (k : Nat) (s0_0 : List Int) (s0_1 : Int) : Option (Int × Int × (List (S56)) × Int) := (spec_l6Rd_pick.f k s0_0 s0_1 4).bind fun bt131 => (if bt131.1 = 0 then ((spec_l6Rd_pick.f k s0_0 bt131.2 4).bind fun bt133 => ((spec_l4Leaf.f 0 bt133.1).bind fun bt135 => (some (bt135.1, bt135.2.1, bt135.2.2, bt133.2)))) else (if bt131.1 = 1 then ((some (([5, 31, 32, 100, 2047, 2048, 65536, 99999] : List Int) : List Int)).bind fun y140 => ((spec_l6Rd_pick.f k s0_0 bt131.2 8).bind fun bt143 => (if 0 ≤ bt143.1 then (if bt143.1 < (y140.length : Int) then ((spec_l4Leaf.f 0 (rd y140 bt143.1)).bind fun bt146 => (some (bt146.1, bt146.2.1, bt146.2.2, bt143.2))) else (none)) else (none)))) else ((spec_l6Rd_pick.f k s0_0 bt131.2 4).bind fun bt151 => ((spec_l4Leaf.f 13 bt151.1).bind fun bt153 => (some (bt153.1, bt153.2.1, bt153.2.2, bt151.2))))))
def spec_l4Both.f (a0 : Int) (a1_0 : Int) (a1_1 : Int) (l1_2 : List (S56)) (a2_0 : Int) (a2_1 : Int) (l2_2 : List (S56)) : Option (Int × Int × (List (S56))) := some (a0, 0, (([(⟨a1_0, a1_1, l1_2⟩ : S56), (⟨a2_0, a2_1, l2_2⟩ : S56)] : List (S56))))
def spec_l91Op.f (k : Nat) (s0_0 : List Int) (s0_1 : Int) : Option (Int × Int) := (spec_l6Rd_pick.f k s0_0 s0_1 12).bind fun bt164 => (some (wrap64 (1 + bt164.1), bt164.2))
mutual
def spec_l91Expr.j0 : Nat → Int → Bool → List Int → Int → Option (Int × Int × (List (S56)) × Int)
 | 0, _, _, _, _ => none
 | k + 1, x1, x13, x1000, x1001 => if x13 = true then ((spec_l91Leaf.f k x1000 x1001).bind fun bt169 => (some (bt169.1, bt169.2.1, bt169.2.2.1, bt169.2.2.2))) else ((spec_l91Op.f k x1000 x1001).bind fun bt175 => ((spec_l91Expr.f k x1000 bt175.2 (wrap64 (x1 - 1))).bind fun bt177 => ((spec_l91Expr.f k x1000 bt177.2.2.2 (wrap64 (x1 - 1))).bind fun bt184 => ((spec_l4Both.f bt175.1 bt177.1 bt177.2.1 bt177.2.2.1 bt184.1 bt184.2.1 bt184.2.2.1).bind fun bt190 => (some (bt190.1, bt190.2.1, bt190.2.2, bt184.2.2.2))))))
def spec_l91Expr.f : Nat → List Int → Int → Int → Option (Int × Int × (List (S56)) × Int)
 | 0, _, _, _ => none
 | k + 1, s0_0, s0_1, a1 => if a1 < 2 then (spec_l91Expr.j0 k a1 true s0_0 s0_1) else ((spec_l6Rd_pick.f k s0_0 s0_1 3).bind fun bt167 => (spec_l91Expr.j0 k a1 (bt167.1 == 0) s0_0 bt167.2))
end
def spec_l92Set.f (k : Nat) (s0_0 : List Int) (s0_1 : Int) : Option (Int × Int × Int × Int × Int × (List (S56)) × (List (S58)) × (List (S58)) × Int) := (spec_l6Rd_pick.f k s0_0 s0_1 3).bind fun bt196 => ((spec_l6Rd_pick.f k s0_0 bt196.2 3).bind fun bt198 => ((spec_l91Expr.f k s0_0 bt198.2 (wrap64 (1 + bt198.1))).bind fun bt200 => (some (1, bt196.1, 0, bt200.1, bt200.2.1, bt200.2.2.1, ([] : List (S58)), ([] : List (S58)), bt200.2.2.2))))
def spec_l92Talk.f (k : Nat) (s0_0 : List Int) (s0_1 : Int) (a1 : Int) : Option (Int × Int × Int × Int × Int × (List (S56)) × (List (S58)) × (List (S58)) × Int) := if a1 < 1 then ((spec_l92Set.f k s0_0 s0_1).bind fun bt207 => (some (bt207.1, bt207.2.1, bt207.2.2.1, bt207.2.2.2.1, bt207.2.2.2.2.1, bt207.2.2.2.2.2.1, bt207.2.2.2.2.2.2.1, bt207.2.2.2.2.2.2.2.1, bt207.2.2.2.2.2.2.2.2))) else ((spec_l6Rd_pick.f k s0_0 s0_1 a1).bind fun bt222 => ((spec_l6Rd_pick.f k s0_0 bt222.2 2).bind fun bt224 => (if bt224.1 = 0 then ((spec_l6Rd_pick.f k s0_0 bt224.2 3).bind fun bt226 => ((spec_l91Expr.f k s0_0 bt226.2 (wrap64 (1 + bt226.1))).bind fun bt228 => (some (4, 0, bt222.1, bt228.1, bt228.2.1, bt228.2.2.1, ([] : List (S58)), ([] : List (S58)), bt228.2.2.2)))) else ((spec_l6Rd_pick.f k s0_0 bt224.2 3).bind fun bt234 => (some (5, bt234.1, bt222.1, 0, 0, ([] : List (S56)), ([] : List (S58)), ([] : List (S58)), bt234.2))))))
mutual
def spec_l92If.f : Nat → List Int → Int → Int → Int → Bool → Option (Int × Int × Int × Int × Int × (List (S56)) × (List (S58)) × (List (S58)) × Int)
 | 0, _, _, _, _, _ => none
 | k + 1, s0_0, s0_1, a1, a2, a3 => (spec_l6Rd_pick.f k s0_0 s0_1 2).bind fun bt237 => ((spec_l91Expr.f k s0_0 bt237.2 (wrap64 (1 + bt237.1))).bind fun bt239 => ((spec_l6Rd_pick.f k s0_0 bt239.2.2.2 3).bind fun bt246 => ((spec_l92Block.f k s0_0 bt246.2 a1 (wrap64 (a2 - 1)) bt246.1 a3).bind fun bt248 => ((spec_l6Rd_pick.f k s0_0 bt248.2 3).bind fun bt252 => ((spec_l92Block.f k s0_0 bt252.2 a1 (wrap64 (a2 - 1)) bt252.1 a3).bind fun bt254 => (some (2, 0, 0, bt239.1, bt239.2.1, bt239.2.2.1, bt248.1, bt254.1, bt254.2)))))))
def spec_l92Loop.f : Nat → List Int → Int → Int → Int → Option ((List (S58)) × Int)
 | 0, _, _, _, _ => none
 | k + 1, s0_0, s0_1, a1, a2 => (spec_l6Rd_pick.f k s0_0 s0_1 3).bind fun bt258 => ((spec_l92Block.f k s0_0 bt258.2 a1 (wrap64 (a2 - 1)) bt258.1 false).bind fun bt260 => ((spec_l4Leaf.f 13 3).bind fun bt264 => ((spec_l4Leaf.f 0 1).bind fun bt269 => ((spec_l4Both.f 8 bt264.1 bt264.2.1 bt264.2.2 bt269.1 bt269.2.1 bt269.2.2).bind fun bt274 => ((spec_l4Leaf.f 13 3).bind fun bt280 => ((spec_l6Rd_pick.f k s0_0 bt260.2 3).bind fun bt285 => ((spec_l4Leaf.f 0 (wrap64 (1 + bt285.1))).bind fun bt287 => ((spec_l4Both.f 5 bt280.1 bt280.2.1 bt280.2.2 bt287.1 bt287.2.1 bt287.2.2).bind fun bt292 => ((some (([(⟨1, 3, 0, (⟨bt274.1, bt274.2.1, bt274.2.2⟩ : S56), ([] : List (S58)), ([] : List (S58))⟩ : S58)] : List (S58)) : List (S58))).bind fun y297 => (if bt260.1.length + y297.length < 1256584717458 then ((spec_l4Leaf.f 0 0).bind fun bt304 => (some ((([(⟨1, 3, 0, (⟨bt304.1, bt304.2.1, bt304.2.2⟩ : S56), ([] : List (S58)), ([] : List (S58))⟩ : S58), (⟨3, 0, 0, (⟨bt292.1, bt292.2.1, bt292.2.2⟩ : S56), (bt260.1 ++ y297), ([] : List (S58))⟩ : S58)] : List (S58))), bt285.2))) else (none)))))))))))
def spec_l92Stmt.j0 : Nat → Int → Int → Bool → Int → Bool → List Int → Int → Option ((List (S58)) × Int)
 | 0, _, _, _, _, _, _, _ => none
 | k + 1, x1, x2, x3, x10, x11, x1000, x1001 => if x11 = true then ((spec_l92Set.f k x1000 x1001).bind fun bt314 => (some ((([(⟨bt314.1, bt314.2.1, bt314.2.2.1, (⟨bt314.2.2.2.1, bt314.2.2.2.2.1, bt314.2.2.2.2.2.1⟩ : S56), bt314.2.2.2.2.2.2.1, bt314.2.2.2.2.2.2.2.1⟩ : S58)] : List (S58))), bt314.2.2.2.2.2.2.2.2))) else (if x10 = 2 then (if x2 > 0 then ((spec_l92If.f k x1000 x1001 x1 x2 x3).bind fun bt332 => (some ((([(⟨bt332.1, bt332.2.1, bt332.2.2.1, (⟨bt332.2.2.2.1, bt332.2.2.2.2.1, bt332.2.2.2.2.2.1⟩ : S56), bt332.2.2.2.2.2.2.1, bt332.2.2.2.2.2.2.2.1⟩ : S58)] : List (S58))), bt332.2.2.2.2.2.2.2.2))) else ((spec_l6Rd_pick.f k x1000 x1001 3).bind fun bt350 => ((spec_l91Expr.f k x1000 bt350.2 (wrap64 (1 + bt350.1))).bind fun bt352 => (some ((([(⟨7, 0, 0, (⟨bt352.1, bt352.2.1, bt352.2.2.1⟩ : S56), ([] : List (S58)), ([] : List (S58))⟩ : S58)] : List (S58))), bt352.2.2.2))))) else (if x10 = 3 then (if x2 > 0 then (spec_l92Stmt.j1 k x1 x2 x3 x1000 x1001) else (spec_l92Stmt.j1 k x1 x2 false x1000 x1001)) else (if x10 = 4 then (spec_l92Stmt.j2 k x1 x10 (x10 == 4) x1000 x1001) else (if x10 = 5 then (spec_l92Stmt.j2 k x1 x10 (x10 == 5) x1000 x1001) else (spec_l92Stmt.j2 k x1 x10 (x10 == 6) x1000 x1001)))))
def spec_l92Stmt.j1 : Nat → Int → Int → Bool → List Int → Int → Option ((List (S58)) × Int)
 | 0, _, _, _, _, _ => none
 | k + 1, x1, x2, x33, x1000, x1001 => if x33 = true then ((spec_l92Loop.f k x1000 x1001 x1 x2).bind fun bt361 => (some (bt361.1, bt361.2))) else ((spec_l6Rd_pick.f k x1000 x1001 3).bind fun bt365 => ((spec_l91Expr.f k x1000 bt365.2 (wrap64 (1 + bt365.1))).bind fun bt367 => (some ((([(⟨7, 0, 0, (⟨bt367.1, bt367.2.1, bt367.2.2.1⟩ : S56), ([] : List (S58)), ([] : List (S58))⟩ : S58)] : List (S58))), bt367.2.2.2))))
def spec_l92Stmt.j2 : Nat → Int → Int → Bool → List Int → Int → Option ((List (S58)) × Int)
 | 0, _, _, _, _, _ => none
 | k + 1, x1, x10, x38, x1000, x1001 => if x38 = true then ((spec_l92Talk.f k x1000 x1001 x1).bind fun bt376 => (some ((([(⟨bt376.1, bt376.2.1, bt376.2.2.1, (⟨bt376.2.2.2.1, bt376.2.2.2.2.1, bt376.2.2.2.2.2.1⟩ : S56), bt376.2.2.2.2.2.2.1, bt376.2.2.2.2.2.2.2.1⟩ : S58)] : List (S58))), bt376.2.2.2.2.2.2.2.2))) else (if x10 = 7 then (some ((([(⟨6, 0, 0, (⟨0, 0, ([] : List (S56))⟩ : S56), ([] : List (S58)), ([] : List (S58))⟩ : S58)] : List (S58))), x1001)) else ((spec_l6Rd_pick.f k x1000 x1001 3).bind fun bt397 => ((spec_l91Expr.f k x1000 bt397.2 (wrap64 (1 + bt397.1))).bind fun bt399 => (some ((([(⟨7, 0, 0, (⟨bt399.1, bt399.2.1, bt399.2.2.1⟩ : S56), ([] : List (S58)), ([] : List (S58))⟩ : S58)] : List (S58))), bt399.2.2.2)))))
def spec_l92Stmt.f : Nat → List Int → Int → Int → Int → Bool → Option ((List (S58)) × Int)
 | 0, _, _, _, _, _ => none
 | k + 1, s0_0, s0_1, a1, a2, a3 => (spec_l6Rd_pick.f k s0_0 s0_1 10).bind fun bt312 => (if bt312.1 = 0 then (spec_l92Stmt.j0 k a1 a2 a3 bt312.1 (bt312.1 == 0) s0_0 bt312.2) else (spec_l92Stmt.j0 k a1 a2 a3 bt312.1 (bt312.1 == 1) s0_0 bt312.2))
def spec_l92Block.l0 : Nat → Int → Int → Int → Bool → List (S58) → Int → List Int → Int → Option ((List (S58)) × Int)
 | 0, _, _, _, _, _, _, _, _ => none
 | k + 1, x1, x2, x3, x4, x11, x12, x1000, x1001 => if x12 < x3 then ((spec_l92Stmt.f k x1000 x1001 x1 x2 x4).bind fun bt411 => (if x11.length + bt411.1.length < 1256584717458 then (spec_l92Block.l0 k x1 x2 x3 x4 (x11 ++ bt411.1) (wrap64 (x12 + 1)) x1000 bt411.2) else (none))) else (some (x11, x1001))
def spec_l92Block.f : Nat → List Int → Int → Int → Int → Int → Bool → Option ((List (S58)) × Int)
 | 0, _, _, _, _, _, _ => none
 | k + 1, s0_0, s0_1, a1, a2, a3, a4 => spec_l92Block.l0 k a1 a2 a3 a4 (([] : List (S58))) 0 s0_0 s0_1
end
def spec_l92Stmts.l0 : Nat → List (S58) → List Int → Int → Option ((List (S58)) × Int)
 | 0, _, _, _ => none
 | k + 1, x5, x1000, x1001 => (spec_l11Count.f k x5).bind fun t424 => (if t424 > 16 then (if 0 ≤ (wrap64 ((x5.length : Int) - 1)) then (if (wrap64 ((x5.length : Int) - 1)) ≤ (x5.length : Int) then (spec_l92Stmts.l0 k (x5.take ((wrap64 ((x5.length : Int) - 1)) : Int).toNat) x1000 x1001) else (none)) else (none)) else (some (x5, x1001)))
def spec_l92Stmts.f (k : Nat) (s0_0 : List Int) (s0_1 : Int) (a1 : Int) : Option ((List (S58)) × Int) := (spec_l6Rd_pick.f k s0_0 s0_1 6).bind fun bt418 => ((spec_l92Block.f k s0_0 bt418.2 a1 3 (wrap64 (1 + bt418.1)) true).bind fun bt420 => (spec_l92Stmts.l0 k bt420.1 s0_0 bt420.2))
def spec_l92Endless.f (k : Nat) (s0_0 : List Int) (s0_1 : Int) : Option (Int × Int × Int × Int × Int × (List (S56)) × (List (S58)) × (List (S58)) × Int) := (spec_l4Leaf.f 0 1).bind fun bt429 => ((spec_l6Rd_pick.f k s0_0 s0_1 2).bind fun bt434 => ((spec_l92Block.f k s0_0 bt434.2 0 1 bt434.1 false).bind fun bt436 => (some (3, 0, 0, bt429.1, bt429.2.1, bt429.2.2, bt436.1, ([] : List (S58)), bt436.2))))
def spec_l92Program.l0 : Nat → Int → Int → List Int → Int → List Int → List (List (S58)) → Option (List Int × (List (List (S58))) × Int)
 | 0, _, _, _, _, _, _ => none
 | k + 1, x4, x5, x1000, x1001, x449000, x449001 => if x5 < x4 then ((spec_l92Stmts.f k x1000 x1001 (x449000.length : Int)).bind fun bt451 => (if x449001.length < 5864062014805 then (spec_l92Program.l0 k x4 (wrap64 (x5 + 1)) x1000 bt451.2 x449000 (x449001 ++ [bt451.1])) else (none))) else ((spec_l6Rd_pick.f k x1000 x1001 16).bind fun bt458 => (if bt458.1 = 0 then ((spec_l92Endless.f k x1000 bt458.2).bind fun bt460 => (if 0 < (x449001.length : Int) then (some (x449000, (x449001.set (0 : Int).toNat (([(⟨bt460.1, bt460.2.1, bt460.2.2.1, (⟨bt460.2.2.2.1, bt460.2.2.2.2.1, bt460.2.2.2.2.2.1⟩ : S56), bt460.2.2.2.2.2.2.1, bt460.2.2.2.2.2.2.2.1⟩ : S58)] : List (S58)))), bt460.2.2.2.2.2.2.2.2)) else (none))) else (some (x449000, x449001, bt458.2))))
def spec_l92Program.f (k : Nat) (s0_0 : List Int) (s0_1 : Int) : Option (List Int × (List (List (S58))) × Int) := (spec_l92Rooms.f k s0_0 s0_1).bind fun bt441 => ((spec_l6Rd_pick.f k s0_0 bt441.2 3).bind fun bt449 => (spec_l92Program.l0 k (wrap64 (1 + bt449.1)) 0 s0_0 bt449.2 bt441.1 (([] : List (List (S58))))))
def spec_l92Wrong.f (k : Nat) (s0_0 : List Int) (s0_1 : Int) : Option (List Int × (List (List (S58))) × Int) := (spec_l92Program.f k s0_0 s0_1).bind fun bt480 => ((spec_l6Rd_pick.f k s0_0 bt480.2.2 30).bind fun bt488 => (if bt488.1 = 0 then ((some (([0, 5] : List Int) : List Int)).bind fun y490 => ((spec_l6Rd_pick.f k s0_0 bt488.2 2).bind fun bt493 => (if 0 ≤ bt493.1 then (if bt493.1 < (y490.length : Int) then (if bt480.1.length < 17592186044416 then (some ((bt480.1 ++ [rd y490 bt493.1]), bt480.2.1, bt493.2)) else (none)) else (none)) else (none)))) else (if bt488.1 = 1 then ((spec_l91Leaf.f k s0_0 bt488.2).bind fun bt499 => (if bt480.2.1.length < 5864062014805 then (some (bt480.1, (bt480.2.1 ++ [(([(⟨4, 0, (bt480.1.length : Int), (⟨bt499.1, bt499.2.1, bt499.2.2.1⟩ : S56), ([] : List (S58)), ([] : List (S58))⟩ : S58)] : List (S58)))]), bt499.2.2.2)) else (none))) else (if bt488.1 = 2 then (some (bt480.1, (([] : List (List (S58)))), bt488.2)) else (if bt488.1 = 3 then (if 0 < (bt480.2.1.length : Int) then ((some (([rd_L4 bt480.2.1 0, rd_L4 bt480.2.1 0, rd_L4 bt480.2.1 0] : List (List (S58))) : List (List (S58)))).bind fun y517 => (if bt480.2.1.length + y517.length < 5864062014805 then (some (bt480.1, (bt480.2.1 ++ y517), bt488.2)) else (none))) else (none)) else (if bt488.1 = 4 then (if 0 < (bt480.2.1.length : Int) then (if (rd_L4 bt480.2.1 0).length + 1 < 1256584717458 then (some (bt480.1, bt480.2.1.set 0 (rd_L4 bt480.2.1 0 ++ [⟨9, 0, 0, ⟨0, 0, []⟩, [], []⟩]), bt488.2)) else (none)) else (none)) else (some (bt480.1, bt480.2.1, bt488.2))))))))
def spec_l6Open.f (l0 : List Int) : Option (List Int × Int) := if (l0.length : Int) > 2000 then (if 2000 ≤ (l0.length : Int) then (some (l0.take 2000, 0)) else (none)) else (some (l0, 0))
def spec_DrawProgramText.f (k : Nat) (l0 : List Int) : Option (List Int × (List (List (S58)))) := (spec_l6Open.f l0).bind fun bt527 => ((spec_l92Wrong.f k bt527.1 bt527.2).bind fun bt530 => (some (bt530.1, bt530.2.1)))
def impl_roomsValid.l0 : Nat → List Int → List Int → Int → Int → Option (Bool)
 | 0, _, _, _, _ => none
 | k + 1, x0, x5, x6, x7 => if x7 < x6 then (if 0 ≤ x7 then (if x7 < (x5.length : Int) then (if (rd x5 x7) < 1 then (some false) else (if (rd x5 x7) > 4 then (some false) else (impl_roomsValid.l0 k x0 x5 x6 (wrap64 (x7 + 1))))) else (none)) else (none)) else (some (decide ((x0.length : Int) ≤ 3)))
def impl_roomsValid.f (k : Nat) (l0 : List Int) : Option (Bool) := impl_roomsValid.l0 k l0 l0 (l0.length : Int) 0
def impl_OpValid.f (a0 : Int) : Option (Bool) := if a0 ≥ 1 then (some (decide (a0 ≤ 12))) else (some false)
def impl_exprValid.f : Nat → Int → Int → List (S56) → Int → Option (Bool)
 | 0, _, _, _, _ => none
 | k + 1, a0_0, a0_1, l0_2, a1 => if a0_0 = 0 then (if a0_1 ≥ 0 then (if a0_1 ≤ 99999 then (if (l0_2.length : Int) = 0 then (some (decide (a1 > 0))) else (some false)) else (some false)) else (some false)) else (if a0_0 = 13 then (if a0_1 ≥ 0 then (if a0_1 < 4 then (if (l0_2.length : Int) = 0 then (some (decide (a1 > 0))) else (some false)) else (some false)) else (some false)) else ((impl_OpValid.f a0_0).bind fun t539 => (if t539 = true then (if a0_1 = 0 then (if (l0_2.length : Int) = 2 then (if a1 > 1 then (if 0 < (l0_2.length : Int) then ((impl_exprValid.f k ((rd_T56 l0_2 0).f0) ((rd_T56 l0_2 0).f1) ((rd_T56 l0_2 0).f2) (wrap64 (a1 - 1))).bind fun t541 => (if t541 = true then (if 1 < (l0_2.length : Int) then ((impl_exprValid.f k ((rd_T56 l0_2 1).f0) ((rd_T56 l0_2 1).f1) ((rd_T56 l0_2 1).f2) (wrap64 (a1 - 1))).bind fun t543 => (some t543)) else (none)) else (some false))) else (none)) else (some false)) else (some false)) else (some false)) else (some false))))
def impl_ExprValid.f (k : Nat) (a0_0 : Int) (a0_1 : Int) (l0_2 : List (S56)) : Option (Bool) := (impl_exprValid.f k a0_0 a0_1 l0_2 5).bind fun t545 => (some t545)
def inr (n limit : Int) (needed : Bool) : Bool := (n == 0) || (needed && (decide (n > 0) && decide (n < limit)))
def stv_rest (k : Nat) (nv nb ne nd no : Bool) (va bx op n : Int) (la : List S56) (lb le : Nat) (boxes : Int) : Option Bool :=
  if inr va 4 nv = true then (if inr bx boxes nb = true then (if nb = true ∧ boxes ≤ bx then some false else
    (if ne = true then ((impl_ExprValid.f k op n la).bind fun t => if t = true then some ((nd || lb == 0) && (no || le == 0)) else some false)
     else (if op = 0 then (if n = 0 then (if 0 < (la.length : Int) then some false else some ((nd || lb == 0) && (no || le == 0))) else some false) else some false))) else some false) else some false
def impl_stmtValid.f (k : Nat) (kd va bx op n : Int) (la : List S56) (lb le : Nat) (boxes : Int) : Option Bool :=
 if kd = 1 then stv_rest k true false true false false va bx op n la lb le boxes
 else if kd = 2 then stv_rest k false false true true true va bx op n la lb le boxes
 else if kd = 3 then stv_rest k false false true true false va bx op n la lb le boxes
 else if kd = 4 then stv_rest k false true true false false va bx op n la lb le boxes
 else if kd = 5 then stv_rest k true true false false false va bx op n la lb le boxes
 else if kd = 7 then stv_rest k false false true false false va bx op n la lb le boxes
 else if kd = 6 then stv_rest k false false false false false va bx op n la lb le boxes
 else some false
mutual
def impl_blockValid.f : Nat → List S58 → Int → Int → Int → Option (Bool × Int)
 | 0, _, _, _, _ => none
 | k + 1, l, boxes, blocks, cnt => if 16 < wrap64 (cnt + (l.length : Int)) then some (false, wrap64 (cnt + (l.length : Int))) else impl_blockValid.l0 k l boxes blocks 0 (wrap64 (cnt + (l.length : Int)))
def impl_blockValid.l0 : Nat → List S58 → Int → Int → Int → Int → Option (Bool × Int)
 | 0, _, _, _, _, _ => none
 | k + 1, l, boxes, blocks, i, cnt => if i < (l.length : Int) then (if 0 ≤ i then
   ((impl_stmtValid.f k (rd_T58 l i).f0 (rd_T58 l i).f1 (rd_T58 l i).f2 (rd_T58 l i).f3.f0 (rd_T58 l i).f3.f1 (rd_T58 l i).f3.f2 (rd_T58 l i).f4.length (rd_T58 l i).f5.length boxes).bind fun t =>
    if t = true then (if 3 < blocks then some (false, cnt) else
     (if (rd_T58 l i).f0 = 2 ∨ (rd_T58 l i).f0 = 3 then (if 3 ≤ blocks then some (false, cnt) else
      ((impl_blockValid.f k (rd_T58 l i).f4 boxes (wrap64 (blocks + 1)) cnt).bind fun p => if p.1 = true then
       ((impl_blockValid.f k (rd_T58 l i).f5 boxes (wrap64 (blocks + 1)) p.2).bind fun q => if q.1 = true then impl_blockValid.l0 k l boxes blocks (wrap64 (i + 1)) q.2 else some (false, q.2)) else some (false, p.2)))
     else impl_blockValid.l0 k l boxes blocks (wrap64 (i + 1)) cnt)) else some (false, cnt)) else none) else some (true, cnt)
end
def impl_stmtsValid.f (k : Nat) (l0 : List (S58)) (a1 : Int) : Option Bool := (impl_blockValid.f k l0 a1 0 0).bind fun p => some p.1
mutual
def impl_ProgramValid.j0 : Nat → Bool → List Int → List (List (S58)) → Option (Bool)
 | 0, _, _, _ => none
 | k + 1, x20, x547000, x547001 => if x20 = true then (some false) else (impl_ProgramValid.l0 k x547001 (x547001.length : Int) 0 x547000 x547001)
def impl_ProgramValid.l0 : Nat → List (List (S58)) → Int → Int → List Int → List (List (S58)) → Option (Bool)
 | 0, _, _, _, _, _ => none
 | k + 1, x22, x23, x24, x547000, x547001 => if x24 < x23 then (if 0 ≤ x24 then (if x24 < (x22.length : Int) then ((impl_stmtsValid.f k (rd_L4 x22 x24) (x547000.length : Int)).bind fun t549 => (if t549 = true then (impl_ProgramValid.l0 k x22 x23 (wrap64 (x24 + 1)) x547000 x547001) else (some false))) else (none)) else (none)) else (some true)
end
def impl_ProgramValid.f (k : Nat) (l0_0 : List Int) (l0_1 : List (List (S58))) : Option (Bool) := (impl_roomsValid.f k l0_0).bind fun t547 => (if t547 = true then (if (l0_1.length : Int) < 1 then (impl_ProgramValid.j0 k true l0_0 l0_1) else (impl_ProgramValid.j0 k (decide ((l0_1.length : Int) > 3)) l0_0 l0_1)) else (impl_ProgramValid.j0 k true l0_0 l0_1))
def strconv_small.f (a0 : Int) : Option (ByteArray) := if a0 < 10 then (if 0 ≤ a0 then (if a0 ≤ (wrap64 (a0 + 1)) then (if (wrap64 (a0 + 1)) ≤ 36 then (some ((⟨#[48, 49, 50, 51, 52, 53, 54, 55, 56, 57, 97, 98, 99, 100, 101, 102, 103, 104, 105, 106, 107, 108, 109, 110, 111, 112, 113, 114, 115, 116, 117, 118, 119, 120, 121, 122]⟩ : ByteArray).extract (a0 : Int).toNat ((wrap64 (a0 + 1)) : Int).toNat)) else (none)) else (none)) else (none)) else (if 0 ≤ (wrap64 (a0 * 2)) then (if (wrap64 (a0 * 2)) ≤ (wrap64 ((wrap64 (a0 * 2)) + 2)) then (if (wrap64 ((wrap64 (a0 * 2)) + 2)) ≤ 200 then (some ((⟨#[48, 48, 48, 49, 48, 50, 48, 51, 48, 52, 48, 53, 48, 54, 48, 55, 48, 56, 48, 57, 49, 48, 49, 49, 49, 50, 49, 51, 49, 52, 49, 53, 49, 54, 49, 55, 49, 56, 49, 57, 50, 48, 50, 49, 50, 50, 50, 51, 50, 52, 50, 53, 50, 54, 50, 55, 50, 56, 50, 57, 51, 48, 51, 49, 51, 50, 51, 51, 51, 52, 51, 53, 51, 54, 51, 55, 51, 56, 51, 57, 52, 48, 52, 49, 52, 50, 52, 51, 52, 52, 52, 53, 52, 54, 52, 55, 52, 56, 52, 57, 53, 48, 53, 49, 53, 50, 53, 51, 53, 52, 53, 53, 53, 54, 53, 55, 53, 56, 53, 57, 54, 48, 54, 49, 54, 50, 54, 51, 54, 52, 54, 53, 54, 54, 54, 55, 54, 56, 54, 57, 55, 48, 55, 49, 55, 50, 55, 51, 55, 52, 55, 53, 55, 54, 55, 55, 55, 56, 55, 57, 56, 48, 56, 49, 56, 50, 56, 51, 56, 52, 56, 53, 56, 54, 56, 55, 56, 56, 56, 57, 57, 48, 57, 49, 57, 50, 57, 51, 57, 52, 57, 53, 57, 54, 57, 55, 57, 56, 57, 57]⟩ : ByteArray).extract ((wrap64 (a0 * 2)) : Int).toNat ((wrap64 ((wrap64 (a0 * 2)) + 2)) : Int).toNat)) else (none)) else (none)) else (none))
def strconv_log10Pow2.f (a0 : Int) : Option (Int) := some ((wrap64 (a0 * 78913)) / 262144)
def bits_Len64.j0 : Nat → Int → Int → Option (Int)
 | 0, _, _ => none
 | k + 1, x0, x2 => if x0 ≥ 65536 then (if (x0 / 65536) ≥ 256 then (if 0 ≤ (((x0 / 65536) / 256) % 256) then (if (((x0 / 65536) / 256) % 256) < 256 then (some (wrap64 ((wrap64 ((wrap64 (x2 + 16)) + 8)) + (wrap64 (bt (⟨#[0, 1, 2, 2, 3, 3, 3, 3, 4, 4, 4, 4, 4, 4, 4, 4, 5, 5, 5, 5, 5, 5, 5, 5, 5, 5, 5, 5, 5, 5, 5, 5, 6, 6, 6, 6, 6, 6, 6, 6, 6, 6, 6, 6, 6, 6, 6, 6, 6, 6, 6, 6, 6, 6, 6, 6, 6, 6, 6, 6, 6, 6, 6, 6, 7, 7, 7, 7, 7, 7, 7, 7, 7, 7, 7, 7, 7, 7, 7, 7, 7, 7, 7, 7, 7, 7, 7, 7, 7, 7, 7, 7, 7, 7, 7, 7, 7, 7, 7, 7, 7, 7, 7, 7, 7, 7, 7, 7, 7, 7, 7, 7, 7, 7, 7, 7, 7, 7, 7, 7, 7, 7, 7, 7, 7, 7, 7, 7, 8, 8, 8, 8, 8, 8, 8, 8, 8, 8, 8, 8, 8, 8, 8, 8, 8, 8, 8, 8, 8, 8, 8, 8, 8, 8, 8, 8, 8, 8, 8, 8, 8, 8, 8, 8, 8, 8, 8, 8, 8, 8, 8, 8, 8, 8, 8, 8, 8, 8, 8, 8, 8, 8, 8, 8, 8, 8, 8, 8, 8, 8, 8, 8, 8, 8, 8, 8, 8, 8, 8, 8, 8, 8, 8, 8, 8, 8, 8, 8, 8, 8, 8, 8, 8, 8, 8, 8, 8, 8, 8, 8, 8, 8, 8, 8, 8, 8, 8, 8, 8, 8, 8, 8, 8, 8, 8, 8, 8, 8, 8, 8, 8, 8, 8, 8, 8, 8, 8, 8, 8, 8, 8, 8, 8, 8, 8, 8]⟩ : ByteArray) (((x0 / 65536) / 256) % 256)))))) else (none)) else (none)) else (if 0 ≤ ((x0 / 65536) % 256) then (if ((x0 / 65536) % 256) < 256 then (some (wrap64 ((wrap64 (x2 + 16)) + (wrap64 (bt (⟨#[0, 1, 2, 2, 3, 3, 3, 3, 4, 4, 4, 4, 4, 4, 4, 4, 5, 5, 5, 5, 5, 5, 5, 5, 5, 5, 5, 5, 5, 5, 5, 5, 6, 6, 6, 6, 6, 6, 6, 6, 6, 6, 6, 6, 6, 6, 6, 6, 6, 6, 6, 6, 6, 6, 6, 6, 6, 6, 6, 6, 6, 6, 6, 6, 7, 7, 7, 7, 7, 7, 7, 7, 7, 7, 7, 7, 7, 7, 7, 7, 7, 7, 7, 7, 7, 7, 7, 7, 7, 7, 7, 7, 7, 7, 7, 7, 7, 7, 7, 7, 7, 7, 7, 7, 7, 7, 7, 7, 7, 7, 7, 7, 7, 7, 7, 7, 7, 7, 7, 7, 7, 7, 7, 7, 7, 7, 7, 7, 8, 8, 8, 8, 8, 8, 8, 8, 8, 8, 8, 8, 8, 8, 8, 8, 8, 8, 8, 8, 8, 8, 8, 8, 8, 8, 8, 8, 8, 8, 8, 8, 8, 8, 8, 8, 8, 8, 8, 8, 8, 8, 8, 8, 8, 8, 8, 8, 8, 8, 8, 8, 8, 8, 8, 8, 8, 8, 8, 8, 8, 8, 8, 8, 8, 8, 8, 8, 8, 8, 8, 8, 8, 8, 8, 8, 8, 8, 8, 8, 8, 8, 8, 8, 8, 8, 8, 8, 8, 8, 8, 8, 8, 8, 8, 8, 8, 8, 8, 8, 8, 8, 8, 8, 8, 8, 8, 8, 8, 8, 8, 8, 8, 8, 8, 8, 8, 8, 8, 8, 8, 8, 8, 8, 8, 8, 8, 8]⟩ : ByteArray) ((x0 / 65536) % 256)))))) else (none)) else (none))) else (if x0 ≥ 256 then (if 0 ≤ ((x0 / 256) % 256) then (if ((x0 / 256) % 256) < 256 then (some (wrap64 ((wrap64 (x2 + 8)) + (wrap64 (bt (⟨#[0, 1, 2, 2, 3, 3, 3, 3, 4, 4, 4, 4, 4, 4, 4, 4, 5, 5, 5, 5, 5, 5, 5, 5, 5, 5, 5, 5, 5, 5, 5, 5, 6, 6, 6, 6, 6, 6, 6, 6, 6, 6, 6, 6, 6, 6, 6, 6, 6, 6, 6, 6, 6, 6, 6, 6, 6, 6, 6, 6, 6, 6, 6, 6, 7, 7, 7, 7, 7, 7, 7, 7, 7, 7, 7, 7, 7, 7, 7, 7, 7, 7, 7, 7, 7, 7, 7, 7, 7, 7, 7, 7, 7, 7, 7, 7, 7, 7, 7, 7, 7, 7, 7, 7, 7, 7, 7, 7, 7, 7, 7, 7, 7, 7, 7, 7, 7, 7, 7, 7, 7, 7, 7, 7, 7, 7, 7, 7, 8, 8, 8, 8, 8, 8, 8, 8, 8, 8, 8, 8, 8, 8, 8, 8, 8, 8, 8, 8, 8, 8, 8, 8, 8, 8, 8, 8, 8, 8, 8, 8, 8, 8, 8, 8, 8, 8, 8, 8, 8, 8, 8, 8, 8, 8, 8, 8, 8, 8, 8, 8, 8, 8, 8, 8, 8, 8, 8, 8, 8, 8, 8, 8, 8, 8, 8, 8, 8, 8, 8, 8, 8, 8, 8, 8, 8, 8, 8, 8, 8, 8, 8, 8, 8, 8, 8, 8, 8, 8, 8, 8, 8, 8, 8, 8, 8, 8, 8, 8, 8, 8, 8, 8, 8, 8, 8, 8, 8, 8, 8, 8, 8, 8, 8, 8, 8, 8, 8, 8, 8, 8, 8, 8, 8, 8, 8, 8]⟩ : ByteArray) ((x0 / 256) % 256)))))) else (none)) else (none)) else (if 0 ≤ ((x0) % 256) then (if ((x0) % 256) < 256 then (some (wrap64 (x2 + (wrap64 (bt (⟨#[0, 1, 2, 2, 3, 3, 3, 3, 4, 4, 4, 4, 4, 4, 4, 4, 5, 5, 5, 5, 5, 5, 5, 5, 5, 5, 5, 5, 5, 5, 5, 5, 6, 6, 6, 6, 6, 6, 6, 6, 6, 6, 6, 6, 6, 6, 6, 6, 6, 6, 6, 6, 6, 6, 6, 6, 6, 6, 6, 6, 6, 6, 6, 6, 7, 7, 7, 7, 7, 7, 7, 7, 7, 7, 7, 7, 7, 7, 7, 7, 7, 7, 7, 7, 7, 7, 7, 7, 7, 7, 7, 7, 7, 7, 7, 7, 7, 7, 7, 7, 7, 7, 7, 7, 7, 7, 7, 7, 7, 7, 7, 7, 7, 7, 7, 7, 7, 7, 7, 7, 7, 7, 7, 7, 7, 7, 7, 7, 8, 8, 8, 8, 8, 8, 8, 8, 8, 8, 8, 8, 8, 8, 8, 8, 8, 8, 8, 8, 8, 8, 8, 8, 8, 8, 8, 8, 8, 8, 8, 8, 8, 8, 8, 8, 8, 8, 8, 8, 8, 8, 8, 8, 8, 8, 8, 8, 8, 8, 8, 8, 8, 8, 8, 8, 8, 8, 8, 8, 8, 8, 8, 8, 8, 8, 8, 8, 8, 8, 8, 8, 8, 8, 8, 8, 8, 8, 8, 8, 8, 8, 8, 8, 8, 8, 8, 8, 8, 8, 8, 8, 8, 8, 8, 8, 8, 8, 8, 8, 8, 8, 8, 8, 8, 8, 8, 8, 8, 8, 8, 8, 8, 8, 8, 8, 8, 8, 8, 8, 8, 8, 8, 8, 8, 8, 8, 8]⟩ : ByteArray) ((x0) % 256)))))) else (none)) else (none)))
def bits_Len64.f (k : Nat) (a0 : Int) : Option (Int) := if a0 ≥ 4294967296 then (bits_Len64.j0 k (a0 / 4294967296) 32) else (bits_Len64.j0 k a0 0)
def strconv_bool2_int.f (a0 : Bool) : Option (Int) := if a0 = true then (some 1) else (some 0)
def strconv_isPowerOfTwo.f (a0 : Int) : Option (Bool) := some ((Go.bits .and .i64 a0 (wrap64 (a0 - 1))) == 0)
def strconv_Itoa_20.f (a0 : Int) : Option (ByteArray) := if 0 ≤ a0 then (if a0 ≤ 9223372036854775807 then some ⟨(Lib.itoa a0).toArray⟩ else none) else none
structure Tab (w : World) : Prop where
  pow : Lib.TabIs Tryz.prog w "internal/strconv.uint64pow10" .u64 Lib.pow10Tab
  ops : w.var? Tryz.prog "loop.example/cothreads/impl.opTexts" = some #[.string ⟨#[124]⟩, .string ⟨#[94]⟩, .string ⟨#[38]⟩, .string ⟨#[61, 61]⟩, .string ⟨#[60]⟩, .string ⟨#[60, 60]⟩, .string ⟨#[62, 62]⟩, .string ⟨#[43]⟩, .string ⟨#[45]⟩, .string ⟨#[42]⟩, .string ⟨#[47]⟩, .string ⟨#[37]⟩]
 theorem var_below {P : Program} {w w' : World} {nm : String} {a : Array Value} (h : w.var? P nm = some a) (hb : Below w.heap.size w w') : w'.var? P nm = some a := by
  unfold World.var? at h ⊢
  cases hg : P.globalNamed nm with
  | none => rw [hg] at h; cases h
  | some g =>
    rw [hg] at h
    simp only [Option.bind_some] at h ⊢
    cases ho : w.heap[g]? with
    | none => rw [ho] at h; cases h
    | some o =>
      have hlt : g < w.heap.size := (Array.getElem?_eq_some_iff.1 ho).1
      rw [hb.block g hlt, ho]
      rw [ho] at h
      exact h
 theorem Tab.below {w w' : World} (h : Tab w) (hb : Below w.heap.size w w') : Tab w' := ⟨var_below h.pow hb, var_below h.ops hb⟩
def opTexts : List ByteArray := [⟨#[124]⟩, ⟨#[94]⟩, ⟨#[38]⟩, ⟨#[61, 61]⟩, ⟨#[60]⟩, ⟨#[60, 60]⟩, ⟨#[62, 62]⟩, ⟨#[43]⟩, ⟨#[45]⟩, ⟨#[42]⟩, ⟨#[47]⟩, ⟨#[37]⟩]
 theorem opAt {w : World} (h : Tab w) : ∃ (t : TypeId) (fr : Nat × Nat), w.heap[1]? = some (.cells #[.string ⟨#[124]⟩, .string ⟨#[94]⟩, .string ⟨#[38]⟩, .string ⟨#[61, 61]⟩, .string ⟨#[60]⟩, .string ⟨#[60, 60]⟩, .string ⟨#[62, 62]⟩, .string ⟨#[43]⟩, .string ⟨#[45]⟩, .string ⟨#[42]⟩, .string ⟨#[47]⟩, .string ⟨#[37]⟩] t fr) := by
  have h2 := h.ops
  unfold World.var? at h2
  rw [show Tryz.prog.globalNamed "loop.example/cothreads/impl.opTexts" = some 1 by kernel_rfl] at h2
  simp only [Option.bind_some] at h2
  cases ho : w.heap[1]? with
  | none => rw [ho] at h2; cases h2
  | some o =>
    rw [ho] at h2
    cases o with
    | cells cs t fr =>
      injection h2 with h2
      subst h2
      exact ⟨t, fr, rfl⟩
    | _ => cases h2
 theorem opCell {w : World} (h : Tab w) (i : Nat) (hi : i < 12) : w.cell? ⟨1, i, none⟩ = some (.string (opTexts.getD i ⟨#[]⟩)) := by
  obtain ⟨t, fr, ho⟩ := opAt h
  unfold World.cell?
  rw [ho]
  have : i = 0 ∨ i = 1 ∨ i = 2 ∨ i = 3 ∨ i = 4 ∨ i = 5 ∨ i = 6 ∨ i = 7 ∨ i = 8 ∨ i = 9 ∨ i = 10 ∨ i = 11 := by omega
  rcases this with rfl | rfl | rfl | rfl | rfl | rfl | rfl | rfl | rfl | rfl | rfl | rfl <;> rfl
def impl_varText.f (a0 : Int) : Option (ByteArray) := if 0 ≤ a0 ∧ a0 ≤ 3 then some (⟨#[(97 + a0).toNat.toUInt8]⟩ : ByteArray) else none
mutual
def impl_OpLevel.j0 : Nat → Int → Bool → Option (Int)
 | 0, _, _ => none
 | k + 1, x3, x14 => if x14 = true then (some 6) else (if x3 = 8 then (impl_OpLevel.j1 k x3 (x3 == 8)) else (impl_OpLevel.j1 k x3 (x3 == 9)))
def impl_OpLevel.j1 : Nat → Int → Bool → Option (Int)
 | 0, _, _ => none
 | k + 1, x3, x17 => if x17 = true then (some 7) else (if x3 = 10 then (some 8) else (if x3 = 11 then (some 8) else (if x3 = 12 then (some 8) else (some 0))))
end
def impl_OpLevel.f (k : Nat) (a0 : Int) : Option (Int) := if a0 = 1 then (some 1) else (if a0 = 2 then (some 2) else (if a0 = 3 then (some 3) else (if a0 = 4 then (some 4) else (if a0 = 5 then (some 5) else (if a0 = 6 then (impl_OpLevel.j0 k a0 (a0 == 6)) else (impl_OpLevel.j0 k a0 (a0 == 7)))))))
def impl_OpText.f (a0 : Int) : Option (ByteArray) := if 1 ≤ a0 ∧ a0 ≤ 12 then some (opTexts.getD (a0 - 1).toNat ⟨#[]⟩) else none
mutual
def impl_operandTokens.j0 : Nat → List ByteArray → Bool → Int → Int → List (S56) → Option (List ByteArray)
 | 0, _, _, _, _, _ => none
 | k + 1, x2, x17, x570000, x570001, x570002 => if x17 = true then ((impl_exprTokens.f k x570000 x570001 x570002 x2).bind fun t572 => (some t572)) else (if x2.length < 8796093022208 then ((impl_exprTokens.f k x570000 x570001 x570002 (x2 ++ [(⟨#[40]⟩ : ByteArray)])).bind fun t578 => (if t578.length < 8796093022208 then (some (t578 ++ [(⟨#[41]⟩ : ByteArray)])) else (none))) else (none))
def impl_operandTokens.f : Nat → Int → Int → List (S56) → Int → List ByteArray → Option (List ByteArray)
 | 0, _, _, _, _, _ => none
 | k + 1, a0_0, a0_1, l0_2, a1, l2 => (impl_OpValid.f a0_0).bind fun t570 => (if t570 = true then ((impl_OpLevel.f k a0_0).bind fun t571 => (impl_operandTokens.j0 k l2 (decide (t571 ≥ a1)) a0_0 a0_1 l0_2)) else (impl_operandTokens.j0 k l2 true a0_0 a0_1 l0_2))
def impl_exprTokens.f : Nat → Int → Int → List (S56) → List ByteArray → Option (List ByteArray)
 | 0, _, _, _, _ => none
 | k + 1, a0_0, a0_1, l0_2, l1 => if a0_0 = 0 then ((strconv_Itoa_20.f a0_1).bind fun t585 => (if l1.length < 8796093022208 then (some (l1 ++ [t585])) else (none))) else (if a0_0 = 13 then ((impl_varText.f a0_1).bind fun t589 => (if l1.length < 8796093022208 then (some (l1 ++ [t589])) else (none))) else ((impl_OpLevel.f k a0_0).bind fun t593 => (if 0 < (l0_2.length : Int) then ((impl_operandTokens.f k ((rd_T56 l0_2 0).f0) ((rd_T56 l0_2 0).f1) ((rd_T56 l0_2 0).f2) t593 l1).bind fun t595 => ((impl_OpText.f a0_0).bind fun t598 => (if t595.length < 8796093022208 then (if 1 < (l0_2.length : Int) then ((impl_operandTokens.f k ((rd_T56 l0_2 1).f0) ((rd_T56 l0_2 1).f1) ((rd_T56 l0_2 1).f2) (wrap64 (t593 + 1)) (t595 ++ [t598])).bind fun t603 => (some t603)) else (none)) else (none)))) else (none))))
end
mutual
def impl_stmtTokens.f : Nat → Int → Int → Int → Int → Int → List (S56) → List (S58) → List (S58) → List ByteArray → Option (List ByteArray)
 | 0, _, _, _, _, _, _, _, _, _ => none
 | k + 1, a0_0, a0_1, a0_2, a0_3, a0_4, l0_5, l0_6, l0_7, l1 => if a0_0 = 1 then ((impl_varText.f a0_1).bind fun t607 => ((some (([t607, (⟨#[61]⟩ : ByteArray)] : List ByteArray) : List ByteArray)).bind fun y608 => (if l1.length + y608.length < 8796093022208 then ((impl_exprTokens.f k a0_3 a0_4 l0_5 (l1 ++ y608)).bind fun t614 => (if t614.length < 8796093022208 then (some (t614 ++ [(⟨#[59]⟩ : ByteArray)])) else (none))) else (none)))) else (if a0_0 = 2 then (if l1.length < 8796093022208 then ((impl_exprTokens.f k a0_3 a0_4 l0_5 (l1 ++ [(⟨#[105, 102]⟩ : ByteArray)])).bind fun t623 => ((impl_blockTokens.f k l0_6 t623).bind fun t626 => (if (l0_7.length : Int) > 0 then (if t626.length < 8796093022208 then ((impl_blockTokens.f k l0_7 (t626 ++ [(⟨#[101, 108, 115, 101]⟩ : ByteArray)])).bind fun t632 => (some t632)) else (none)) else (some t626)))) else (none)) else (if a0_0 = 3 then (if l1.length < 8796093022208 then ((impl_exprTokens.f k a0_3 a0_4 l0_5 (l1 ++ [(⟨#[119, 104, 105, 108, 101]⟩ : ByteArray)])).bind fun t638 => ((impl_blockTokens.f k l0_6 t638).bind fun t641 => (some t641))) else (none)) else (if a0_0 = 4 then ((strconv_Itoa_20.f a0_2).bind fun t644 => ((some (([(⟨#[115, 101, 110, 100]⟩ : ByteArray), t644] : List ByteArray) : List ByteArray)).bind fun y645 => (if l1.length + y645.length < 8796093022208 then ((impl_exprTokens.f k a0_3 a0_4 l0_5 (l1 ++ y645)).bind fun t651 => (if t651.length < 8796093022208 then (some (t651 ++ [(⟨#[59]⟩ : ByteArray)])) else (none))) else (none)))) else (if a0_0 = 5 then ((strconv_Itoa_20.f a0_2).bind fun t657 => ((impl_varText.f a0_1).bind fun t658 => ((some (([(⟨#[114, 101, 99, 118]⟩ : ByteArray), t657, t658] : List ByteArray) : List ByteArray)).bind fun y659 => (if l1.length + y659.length < 8796093022208 then ((some (l1 ++ y659 : List ByteArray)).bind fun y662 => (if y662.length < 8796093022208 then (some (y662 ++ [(⟨#[59]⟩ : ByteArray)])) else (none))) else (none))))) else (if a0_0 = 6 then (if l1.length < 8796093022208 then ((some (l1 ++ [(⟨#[121, 105, 101, 108, 100]⟩ : ByteArray)] : List ByteArray)).bind fun y668 => (if y668.length < 8796093022208 then (some (y668 ++ [(⟨#[59]⟩ : ByteArray)])) else (none))) else (none)) else (if a0_0 = 7 then (if l1.length < 8796093022208 then ((impl_exprTokens.f k a0_3 a0_4 l0_5 (l1 ++ [(⟨#[112, 114, 105, 110, 116]⟩ : ByteArray)])).bind fun t677 => (if t677.length < 8796093022208 then (some (t677 ++ [(⟨#[59]⟩ : ByteArray)])) else (none))) else (none)) else (if l1.length < 8796093022208 then (some (l1 ++ [(⟨#[59]⟩ : ByteArray)])) else (none))))))))
def impl_blockTokens.l0 : Nat → List ByteArray → List (S58) → Int → Int → Option (List ByteArray)
 | 0, _, _, _, _ => none
 | k + 1, x1, x10, x11, x12 => if x12 < x11 then (if 0 ≤ x12 then (if x12 < (x10.length : Int) then ((impl_stmtTokens.f k ((rd_T58 x10 x12).f0) ((rd_T58 x10 x12).f1) ((rd_T58 x10 x12).f2) ((rd_T58 x10 x12).f3.f0) ((rd_T58 x10 x12).f3.f1) ((rd_T58 x10 x12).f3.f2) ((rd_T58 x10 x12).f4) ((rd_T58 x10 x12).f5) x1).bind fun t690 => (impl_blockTokens.l0 k t690 x10 x11 (wrap64 (x12 + 1)))) else (none)) else (none)) else (if x1.length < 8796093022208 then (some (x1 ++ [(⟨#[125]⟩ : ByteArray)])) else (none))
def impl_blockTokens.f : Nat → List (S58) → List ByteArray → Option (List ByteArray)
 | 0, _, _ => none
 | k + 1, l0, l1 => if l1.length < 8796093022208 then (impl_blockTokens.l0 k (l1 ++ [(⟨#[123]⟩ : ByteArray)]) l0 (l0.length : Int) 0) else (none)
end
def impl_isDigit.f (a0 : Int) : Option (Bool) := if a0 ≥ 48 then (some (decide (a0 ≤ 57))) else (some false)
def impl_isLetter.f (a0 : Int) : Option (Bool) := if a0 ≥ 97 then (some (decide (a0 ≤ 122))) else (some false)
def stringslite_HasPrefix.f (a0 : ByteArray) (a1 : ByteArray) : Option (Bool) := if (a0.size : Int) ≥ (a1.size : Int) then (if 0 ≤ (a1.size : Int) then (if (a1.size : Int) ≤ (a0.size : Int) then (some ((a0.extract 0 ((a1.size : Int) : Int).toNat).toList == a1.toList)) else (none)) else (none)) else (some false)
def strings_HasPrefix.f (a0 : ByteArray) (a1 : ByteArray) : Option (Bool) := (stringslite_HasPrefix.f a0 a1).bind fun t696 => (some t696)
def strings_IndexByte.f (a0 : ByteArray) (a1 : Int) : Option (Int) := some (Lib.indexByte a0.data.toList a1.toNat.toUInt8)
def impl_tokenLength.l1 : Nat → ByteArray → Bool → Int → Option (Int)
 | 0, _, _, _ => none
 | k + 1, x, m, i => if i < (x.size : Int) then (if 0 ≤ i then ((if m = true then impl_isDigit.f (bt x i) else impl_isLetter.f (bt x i)).bind fun b => if b = true then impl_tokenLength.l1 k x m (wrap64 (i + 1)) else some i) else none) else some i
def impl_tokenLength.fin (a0 : ByteArray) : Option Int := if a0.toList = ([] : List UInt8) then some 0 else (strings_IndexByte.f ⟨#[124, 94, 38, 60, 43, 45, 42, 47, 37, 40, 41, 123, 125, 61, 59]⟩ (bt a0 0)).bind fun j => if 0 ≤ j then some 1 else some 0
def impl_tokenLength.st2 (a0 : ByteArray) : Nat → Option Int
 | 0 => (strings_HasPrefix.f a0 ⟨#[61, 61]⟩).bind fun p => if p = true then some 2 else (strings_HasPrefix.f a0 ⟨#[60, 60]⟩).bind fun q => if q = true then some 2 else (strings_HasPrefix.f a0 ⟨#[62, 62]⟩).bind fun s => if s = true then some 2 else impl_tokenLength.fin a0
 | 1 => (strings_HasPrefix.f a0 ⟨#[60, 60]⟩).bind fun q => if q = true then some 2 else (strings_HasPrefix.f a0 ⟨#[62, 62]⟩).bind fun s => if s = true then some 2 else impl_tokenLength.fin a0
 | 2 => (strings_HasPrefix.f a0 ⟨#[62, 62]⟩).bind fun s => if s = true then some 2 else impl_tokenLength.fin a0
 | _ + 3 => impl_tokenLength.fin a0
def impl_tokenLength.st (k : Nat) (a0 : ByteArray) : Nat → Option Int
 | 0 => (impl_tokenLength.l1 k a0 true 0).bind fun d => if 0 < d then some d else (impl_tokenLength.l1 k a0 false 0).bind fun c => if 0 < c then some c else impl_tokenLength.st2 a0 0
 | 1 => (impl_tokenLength.l1 k a0 false 0).bind fun c => if 0 < c then some c else impl_tokenLength.st2 a0 0
 | _ + 2 => impl_tokenLength.st2 a0 0
def impl_tokenLength.f (k : Nat) (a0 : ByteArray) : Option (Int) := impl_tokenLength.st k a0 0
def impl_TokenValid.f (k : Nat) (a0 : ByteArray) : Option (Bool) := if a0.toList = ([] : List UInt8) then (some false) else ((impl_tokenLength.f k a0).bind fun t697 => (some (t697 == (a0.size : Int))))
def joinB (l : List ByteArray) (s : ByteArray) : List UInt8 := Lib.join (l.map (·.data.toList)) s.data.toList
def strings_Join.f (l0 : List ByteArray) (a1 : ByteArray) : Option (ByteArray) := if l0.length ≤ 140737488355328 then (if (joinB l0 a1).length ≤ 140737488355328 then some ⟨(joinB l0 a1).toArray⟩ else none) else none
def impl_TokensText.l0 : Nat → List ByteArray → List ByteArray → Int → Int → Option (ByteArray)
 | 0, _, _, _, _ => none
 | k + 1, x0, x5, x6, x7 => if x7 < x6 then (if 0 ≤ x7 then (if x7 < (x5.length : Int) then ((impl_TokenValid.f k (rdOf ByteArray.empty x5 x7)).bind fun t699 => (if t699 = true then (impl_TokensText.l0 k x0 x5 x6 (wrap64 (x7 + 1))) else (some (⟨#[]⟩ : ByteArray)))) else (none)) else (none)) else ((strings_Join.f x0 (⟨#[32]⟩ : ByteArray)).bind fun t700 => (some t700))
def impl_TokensText.f (k : Nat) (l0 : List ByteArray) : Option (ByteArray) := impl_TokensText.l0 k l0 l0 (l0.length : Int) 0
mutual
def impl_ProgramText.l0 : Nat → List ByteArray → List Int → Int → Int → List Int → List (List (S58)) → Option (ByteArray)
 | 0, _, _, _, _, _, _ => none
 | k + 1, x3, x12, x13, x14, x702000, x702001 => if x14 < x13 then (if 0 ≤ x14 then (if x14 < (x12.length : Int) then ((strconv_Itoa_20.f (rd x12 x14)).bind fun t704 => ((some (([(⟨#[98, 111, 120]⟩ : ByteArray), t704, (⟨#[59]⟩ : ByteArray)] : List ByteArray) : List ByteArray)).bind fun y705 => (if x3.length + y705.length < 8796093022208 then (impl_ProgramText.l0 k (x3 ++ y705) x12 x13 (wrap64 (x14 + 1)) x702000 x702001) else (none)))) else (none)) else (none)) else (impl_ProgramText.l1 k x3 x702001 (x702001.length : Int) 0)
def impl_ProgramText.l1 : Nat → List ByteArray → List (List (S58)) → Int → Int → Option (ByteArray)
 | 0, _, _, _, _ => none
 | k + 1, x3, x25, x26, x27 => if x27 < x26 then (if 0 ≤ x27 then (if x27 < (x25.length : Int) then (if x3.length < 8796093022208 then ((impl_blockTokens.f k (rd_L4 x25 x27) (x3 ++ [(⟨#[116, 97, 115, 107]⟩ : ByteArray)])).bind fun t715 => (impl_ProgramText.l1 k t715 x25 x26 (wrap64 (x27 + 1)))) else (none)) else (none)) else (none)) else ((impl_TokensText.f k x3).bind fun t718 => (some t718))
end
def impl_ProgramText.f (k : Nat) (l0_0 : List Int) (l0_1 : List (List (S58))) : Option (ByteArray) := (impl_ProgramValid.f k l0_0 l0_1).bind fun t702 => (if t702 = true then (impl_ProgramText.l0 k ([] : List ByteArray) l0_0 (l0_0.length : Int) 0 l0_0 l0_1) else (some (⟨#[]⟩ : ByteArray)))
def spec_l6In.f (a0 : Int) (a1 : Int) (a2 : Int) : Option (Bool) := if a0 ≥ a1 then (some (decide (a0 ≤ a2))) else (some false)
def spec_l12Rooms.l0 : Nat → List Int → Int → Option (Bool)
 | 0, _, _ => none
 | k + 1, x0, x3 => if x3 < (x0.length : Int) then (if 0 ≤ x3 then ((spec_l6In.f (rd x0 x3) 1 4).bind fun t720 => (if t720 = true then (spec_l12Rooms.l0 k x0 (wrap64 (x3 + 1))) else (some false))) else (none)) else (some (decide ((x0.length : Int) ≤ 3)))
def spec_l12Rooms.f (k : Nat) (l0 : List Int) : Option (Bool) := spec_l12Rooms.l0 k l0 0
def spec_l11Var.f (a0_0 : Int) (a0_1 : Int) (a0_2 : Int) (a0_3 : Int) (a0_4 : Int) (l0_5 : List (S56)) (l0_6 : List (S58)) (l0_7 : List (S58)) (a1 : Bool) : Option (Bool) := if a1 = true then ((spec_l6In.f a0_1 0 3).bind fun t722 => (some t722)) else (some (a0_1 == 0))
def spec_l11Box.f (a0_0 : Int) (a0_1 : Int) (a0_2 : Int) (a0_3 : Int) (a0_4 : Int) (l0_5 : List (S56)) (l0_6 : List (S58)) (l0_7 : List (S58)) (a1 : Bool) : Option (Bool) := if a1 = true then ((spec_l6In.f a0_2 0 2).bind fun t724 => (some t724)) else (some (a0_2 == 0))
def spec_OpValid.f (a0 : Int) : Option (Bool) := (spec_l6In.f a0 1 12).bind fun t725 => (some t725)
def spec_l4Ok.f : Nat → Int → Int → List (S56) → Int → Option (Bool)
 | 0, _, _, _, _ => none
 | k + 1, a0_0, a0_1, l0_2, a1 => if a1 < 1 then (some false) else (if a0_0 = 0 then ((spec_l6In.f a0_1 0 99999).bind fun t727 => (if t727 = true then (some ((l0_2.length : Int) == 0)) else (some false))) else (if a0_0 = 13 then ((spec_l6In.f a0_1 0 3).bind fun t728 => (if t728 = true then (some ((l0_2.length : Int) == 0)) else (some false))) else ((spec_OpValid.f a0_0).bind fun t729 => (if t729 = true then (if a0_1 = 0 then (if (l0_2.length : Int) = 2 then (if 0 < (l0_2.length : Int) then ((spec_l4Ok.f k ((rd_T56 l0_2 0).f0) ((rd_T56 l0_2 0).f1) ((rd_T56 l0_2 0).f2) (wrap64 (a1 - 1))).bind fun t731 => (if t731 = true then (if 1 < (l0_2.length : Int) then ((spec_l4Ok.f k ((rd_T56 l0_2 1).f0) ((rd_T56 l0_2 1).f1) ((rd_T56 l0_2 1).f2) (wrap64 (a1 - 1))).bind fun t733 => (some t733)) else (none)) else (some false))) else (none)) else (some false)) else (some false)) else (some false)))))
def spec_ExprValid.f (k : Nat) (a0_0 : Int) (a0_1 : Int) (l0_2 : List (S56)) : Option (Bool) := (spec_l4Ok.f k a0_0 a0_1 l0_2 5).bind fun t735 => (some t735)
def spec_l11Plain.f (a0_0 : Int) (a0_1 : Int) (l0_2 : List (S56)) : Option (Bool) := if a0_0 = 0 then (if a0_1 = 0 then (some ((l0_2.length : Int) == 0)) else (some false)) else (some false)
def spec_l11Simple.j0 : Nat → Bool → Int → Int → Int → Int → Int → List (S56) → List (S58) → List (S58) → Option (Bool)
 | 0, _, _, _, _, _, _, _, _, _ => none
 | k + 1, x12, x738000, x738001, x738002, x738003, x738004, x738005, x738006, x738007 => if x12 = true then (some false) else (if x738000 = 1 then ((spec_l11Var.f x738000 x738001 x738002 x738003 x738004 x738005 x738006 x738007 true).bind fun t738 => (if t738 = true then ((spec_l11Box.f x738000 x738001 x738002 x738003 x738004 x738005 x738006 x738007 false).bind fun t739 => (if t739 = true then ((spec_ExprValid.f k x738003 x738004 x738005).bind fun t740 => (some t740)) else (some false))) else (some false))) else (if x738000 = 4 then ((spec_l11Var.f x738000 x738001 x738002 x738003 x738004 x738005 x738006 x738007 false).bind fun t741 => (if t741 = true then ((spec_l11Box.f x738000 x738001 x738002 x738003 x738004 x738005 x738006 x738007 true).bind fun t742 => (if t742 = true then ((spec_ExprValid.f k x738003 x738004 x738005).bind fun t743 => (some t743)) else (some false))) else (some false))) else (if x738000 = 5 then ((spec_l11Var.f x738000 x738001 x738002 x738003 x738004 x738005 x738006 x738007 true).bind fun t744 => (if t744 = true then ((spec_l11Box.f x738000 x738001 x738002 x738003 x738004 x738005 x738006 x738007 true).bind fun t745 => (if t745 = true then ((spec_l11Plain.f x738003 x738004 x738005).bind fun t746 => (some t746)) else (some false))) else (some false))) else (if x738000 = 6 then ((spec_l11Var.f x738000 x738001 x738002 x738003 x738004 x738005 x738006 x738007 false).bind fun t747 => (if t747 = true then ((spec_l11Box.f x738000 x738001 x738002 x738003 x738004 x738005 x738006 x738007 false).bind fun t748 => (if t748 = true then ((spec_l11Plain.f x738003 x738004 x738005).bind fun t749 => (some t749)) else (some false))) else (some false))) else (if x738000 = 7 then ((spec_l11Var.f x738000 x738001 x738002 x738003 x738004 x738005 x738006 x738007 false).bind fun t750 => (if t750 = true then ((spec_l11Box.f x738000 x738001 x738002 x738003 x738004 x738005 x738006 x738007 false).bind fun t751 => (if t751 = true then ((spec_ExprValid.f k x738003 x738004 x738005).bind fun t752 => (some t752)) else (some false))) else (some false))) else (some false))))))
def spec_l11Simple.f (k : Nat) (a0_0 : Int) (a0_1 : Int) (a0_2 : Int) (a0_3 : Int) (a0_4 : Int) (l0_5 : List (S56)) (l0_6 : List (S58)) (l0_7 : List (S58)) : Option (Bool) := if (l0_6.length : Int) > 0 then (spec_l11Simple.j0 k true a0_0 a0_1 a0_2 a0_3 a0_4 l0_5 l0_6 l0_7) else (spec_l11Simple.j0 k (decide ((l0_7.length : Int) > 0)) a0_0 a0_1 a0_2 a0_3 a0_4 l0_5 l0_6 l0_7)
mutual
def spec_l11Ok.j0 : Nat → Int → Bool → Int → Int → Int → Int → Int → List (S56) → List (S58) → List (S58) → Option (Bool)
 | 0, _, _, _, _, _, _, _, _, _, _ => none
 | k + 1, x1, x12, x754000, x754001, x754002, x754003, x754004, x754005, x754006, x754007 => if x12 = true then ((spec_l11Simple.f k x754000 x754001 x754002 x754003 x754004 x754005 x754006 x754007).bind fun t754 => (some t754)) else (if x1 < 1 then (spec_l11Ok.j1 k x1 true x754000 x754001 x754002 x754003 x754004 x754005 x754006 x754007) else (if x754000 = 3 then (spec_l11Ok.j1 k x1 (decide ((x754007.length : Int) > 0)) x754000 x754001 x754002 x754003 x754004 x754005 x754006 x754007) else (spec_l11Ok.j1 k x1 false x754000 x754001 x754002 x754003 x754004 x754005 x754006 x754007)))
def spec_l11Ok.j1 : Nat → Int → Bool → Int → Int → Int → Int → Int → List (S56) → List (S58) → List (S58) → Option (Bool)
 | 0, _, _, _, _, _, _, _, _, _, _ => none
 | k + 1, x1, x27, x754000, x754001, x754002, x754003, x754004, x754005, x754006, x754007 => if x27 = true then (some false) else ((spec_l11Var.f x754000 x754001 x754002 x754003 x754004 x754005 x754006 x754007 false).bind fun t755 => (if t755 = true then ((spec_l11Box.f x754000 x754001 x754002 x754003 x754004 x754005 x754006 x754007 false).bind fun t756 => (if t756 = true then ((spec_ExprValid.f k x754003 x754004 x754005).bind fun t757 => (if t757 = true then ((spec_l11Blocks.f k x754006 (wrap64 (x1 - 1))).bind fun t758 => (if t758 = true then ((spec_l11Blocks.f k x754007 (wrap64 (x1 - 1))).bind fun t759 => (some t759)) else (some false))) else (some false))) else (some false))) else (some false)))
def spec_l11Ok.f : Nat → Int → Int → Int → Int → Int → List (S56) → List (S58) → List (S58) → Int → Option (Bool)
 | 0, _, _, _, _, _, _, _, _, _ => none
 | k + 1, a0_0, a0_1, a0_2, a0_3, a0_4, l0_5, l0_6, l0_7, a1 => if a0_0 = 2 then (spec_l11Ok.j0 k a1 false a0_0 a0_1 a0_2 a0_3 a0_4 l0_5 l0_6 l0_7) else (spec_l11Ok.j0 k a1 (a0_0 != 3) a0_0 a0_1 a0_2 a0_3 a0_4 l0_5 l0_6 l0_7)
def spec_l11Blocks.l0 : Nat → List (S58) → Int → Int → Option (Bool)
 | 0, _, _, _ => none
 | k + 1, x0, x1, x5 => if x5 < (x0.length : Int) then (if 0 ≤ x5 then ((spec_l11Ok.f k ((rd_T58 x0 x5).f0) ((rd_T58 x0 x5).f1) ((rd_T58 x0 x5).f2) ((rd_T58 x0 x5).f3.f0) ((rd_T58 x0 x5).f3.f1) ((rd_T58 x0 x5).f3.f2) ((rd_T58 x0 x5).f4) ((rd_T58 x0 x5).f5) x1).bind fun t761 => (if t761 = true then (spec_l11Blocks.l0 k x0 x1 (wrap64 (x5 + 1))) else (some false))) else (none)) else (some true)
def spec_l11Blocks.f : Nat → List (S58) → Int → Option (Bool)
 | 0, _, _ => none
 | k + 1, l0, a1 => spec_l11Blocks.l0 k l0 a1 0
end
def spec_StmtsValid.f (k : Nat) (l0 : List (S58)) : Option (Bool) := (spec_l11Blocks.f k l0 3).bind fun t762 => (if t762 = true then ((spec_l11Count.f k l0).bind fun t763 => (some (decide (t763 ≤ 16)))) else (some false))
mutual
def spec_l12Boxes.l0 : Nat → List (S58) → Int → Int → Option (Bool)
 | 0, _, _, _ => none
 | k + 1, x0, x1, x5 => if x5 < (x0.length : Int) then (if 0 ≤ x5 then (if ((rd_T58 x0 x5).f0) = 4 then (spec_l12Boxes.j1 k x0 x1 x5 (decide (((rd_T58 x0 x5).f2) ≥ x1)) ((rd_T58 x0 x5).f0) ((rd_T58 x0 x5).f1) ((rd_T58 x0 x5).f2) ((rd_T58 x0 x5).f3.f0) ((rd_T58 x0 x5).f3.f1) ((rd_T58 x0 x5).f3.f2) ((rd_T58 x0 x5).f4) ((rd_T58 x0 x5).f5)) else (if ((rd_T58 x0 x5).f0) = 5 then (spec_l12Boxes.j1 k x0 x1 x5 (decide (((rd_T58 x0 x5).f2) ≥ x1)) ((rd_T58 x0 x5).f0) ((rd_T58 x0 x5).f1) ((rd_T58 x0 x5).f2) ((rd_T58 x0 x5).f3.f0) ((rd_T58 x0 x5).f3.f1) ((rd_T58 x0 x5).f3.f2) ((rd_T58 x0 x5).f4) ((rd_T58 x0 x5).f5)) else (spec_l12Boxes.j1 k x0 x1 x5 false ((rd_T58 x0 x5).f0) ((rd_T58 x0 x5).f1) ((rd_T58 x0 x5).f2) ((rd_T58 x0 x5).f3.f0) ((rd_T58 x0 x5).f3.f1) ((rd_T58 x0 x5).f3.f2) ((rd_T58 x0 x5).f4) ((rd_T58 x0 x5).f5)))) else (none)) else (some true)
def spec_l12Boxes.j1 : Nat → List (S58) → Int → Int → Bool → Int → Int → Int → Int → Int → List (S56) → List (S58) → List (S58) → Option (Bool)
 | 0, _, _, _, _, _, _, _, _, _, _, _, _ => none
 | k + 1, x0, x1, x5, x30, x766000, x766001, x766002, x766003, x766004, x766005, x766006, x766007 => if x30 = true then (some false) else ((spec_l12Boxes.f k x766006 x1).bind fun t766 => (if t766 = true then ((spec_l12Boxes.f k x766007 x1).bind fun t767 => (if t767 = true then (spec_l12Boxes.l0 k x0 x1 (wrap64 (x5 + 1))) else (some false))) else (some false)))
def spec_l12Boxes.f : Nat → List (S58) → Int → Option (Bool)
 | 0, _, _ => none
 | k + 1, l0, a1 => spec_l12Boxes.l0 k l0 a1 0
end
mutual
def spec_ProgramValid.j0 : Nat → Bool → List Int → List (List (S58)) → Option (Bool)
 | 0, _, _, _ => none
 | k + 1, x14, x769000, x769001 => if x14 = true then (some false) else (spec_ProgramValid.l0 k 0 x769000 x769001)
def spec_ProgramValid.l0 : Nat → Int → List Int → List (List (S58)) → Option (Bool)
 | 0, _, _, _ => none
 | k + 1, x3, x769000, x769001 => if x3 < (x769001.length : Int) then (if 0 ≤ x3 then ((spec_StmtsValid.f k (rd_L4 x769001 x3)).bind fun t772 => (if t772 = true then ((spec_l12Boxes.f k (rd_L4 x769001 x3) (x769000.length : Int)).bind fun t774 => (if t774 = true then (spec_ProgramValid.l0 k (wrap64 (x3 + 1)) x769000 x769001) else (some false))) else (some false))) else (none)) else (some true)
end
def spec_ProgramValid.f (k : Nat) (l0_0 : List Int) (l0_1 : List (List (S58))) : Option (Bool) := (spec_l12Rooms.f k l0_0).bind fun t769 => (if t769 = true then ((spec_l6In.f (l0_1.length : Int) 1 3).bind fun t770 => (spec_ProgramValid.j0 k (!t770) l0_0 l0_1)) else (spec_ProgramValid.j0 k true l0_0 l0_1))
def spec_l6Dec.f : Nat → Int → Option (ByteArray)
 | 0, _ => none
 | k + 1, a0 => if a0 < (-9223372036854775807) then (some (⟨#[45, 57, 50, 50, 51, 51, 55, 50, 48, 51, 54, 56, 53, 52, 55, 55, 53, 56, 48, 56]⟩ : ByteArray)) else (if a0 < 0 then ((spec_l6Dec.f k (wrap64 (-a0))).bind fun t775 => (if 1 + t775.size ≤ 9223372036854775807 then (some ((⟨#[45]⟩ : ByteArray) ++ t775)) else (none))) else (if a0 < 10 then (some (strOfNums (([(wrap64 (48 + a0)) % 256] : List Int)))) else ((spec_l6Dec.f k (wrap64 (Int.tdiv a0 10))).bind fun t779 => ((some (([(wrap64 (48 + (Int.tmod a0 10))) % 256] : List Int) : List Int)).bind fun y780 => (if t779.size + (strOfNums y780).size ≤ 9223372036854775807 then (some (t779 ++ (strOfNums y780))) else (none))))))
def spec_l5Name.f (a0 : Int) : Option (ByteArray) := some (strOfNums (([(wrap64 (97 + a0)) % 256] : List Int)))
def spec_OpLevel.f (a0 : Int) : Option (Int) := (spec_OpValid.f a0).bind fun t786 => (if t786 = true then ((some (([1, 2, 3, 4, 5, 6, 6, 7, 7, 8, 8, 8] : List Int) : List Int)).bind fun y787 => (if 0 ≤ (wrap64 (a0 - 1)) then (if (wrap64 (a0 - 1)) < (y787.length : Int) then (some (rd y787 (wrap64 (a0 - 1)))) else (none)) else (none))) else (some 0))
def spec_l5Wrap.f (l0 : List ByteArray) (a1 : Bool) : Option (List ByteArray) := if a1 = true then ((some (([(⟨#[40]⟩ : ByteArray)] : List ByteArray) : List ByteArray)).bind fun y791 => (if y791.length + l0.length < 8796093022208 then ((some (y791 ++ l0 : List ByteArray)).bind fun y794 => (if y794.length < 8796093022208 then (some (y794 ++ [(⟨#[41]⟩ : ByteArray)])) else (none))) else (none))) else (some l0)
def spec_l5Level.f (a0_0 : Int) (a0_1 : Int) (l0_2 : List (S56)) : Option (Int) := if (l0_2.length : Int) = 0 then (some 9) else ((spec_OpLevel.f a0_0).bind fun t801 => (some t801))
def spec_OpText.f (a0 : Int) : Option (ByteArray) := (spec_OpValid.f a0).bind fun t802 => (if t802 = true then ((some (([(⟨#[124]⟩ : ByteArray), (⟨#[94]⟩ : ByteArray), (⟨#[38]⟩ : ByteArray), (⟨#[61, 61]⟩ : ByteArray), (⟨#[60]⟩ : ByteArray), (⟨#[60, 60]⟩ : ByteArray), (⟨#[62, 62]⟩ : ByteArray), (⟨#[43]⟩ : ByteArray), (⟨#[45]⟩ : ByteArray), (⟨#[42]⟩ : ByteArray), (⟨#[47]⟩ : ByteArray), (⟨#[37]⟩ : ByteArray)] : List ByteArray) : List ByteArray)).bind fun y803 => (if 0 ≤ (wrap64 (a0 - 1)) then (if (wrap64 (a0 - 1)) < (y803.length : Int) then (some (rdOf ByteArray.empty y803 (wrap64 (a0 - 1)))) else (none)) else (none))) else (some (⟨#[]⟩ : ByteArray)))
def spec_l5Tokens.f : Nat → Int → Int → List (S56) → Option (List ByteArray)
 | 0, _, _, _ => none
 | k + 1, a0_0, a0_1, l0_2 => if a0_0 = 0 then ((spec_l6Dec.f k a0_1).bind fun t808 => (some (([t808] : List ByteArray)))) else (if a0_0 = 13 then ((spec_l5Name.f a0_1).bind fun t812 => (some (([t812] : List ByteArray)))) else ((spec_OpLevel.f a0_0).bind fun t816 => (if 0 < (l0_2.length : Int) then ((spec_l5Tokens.f k ((rd_T56 l0_2 0).f0) ((rd_T56 l0_2 0).f1) ((rd_T56 l0_2 0).f2)).bind fun t818 => ((spec_l5Level.f ((rd_T56 l0_2 0).f0) ((rd_T56 l0_2 0).f1) ((rd_T56 l0_2 0).f2)).bind fun t822 => ((spec_l5Wrap.f t818 (decide (t822 < t816))).bind fun t823 => ((spec_OpText.f a0_0).bind fun t826 => (if t823.length < 8796093022208 then ((some (t823 ++ [t826] : List ByteArray)).bind fun y827 => (if 1 < (l0_2.length : Int) then ((spec_l5Tokens.f k ((rd_T56 l0_2 1).f0) ((rd_T56 l0_2 1).f1) ((rd_T56 l0_2 1).f2)).bind fun t831 => ((spec_l5Level.f ((rd_T56 l0_2 1).f0) ((rd_T56 l0_2 1).f1) ((rd_T56 l0_2 1).f2)).bind fun t835 => ((spec_l5Wrap.f t831 (decide (t835 ≤ t816))).bind fun t836 => (if y827.length + t836.length < 8796093022208 then (some (y827 ++ t836)) else (none))))) else (none))) else (none)))))) else (none))))
def spec_l13Line.f (k : Nat) (l0 : List ByteArray) (a1_0 : Int) (a1_1 : Int) (l1_2 : List (S56)) : Option (List ByteArray) := (spec_l5Tokens.f k a1_0 a1_1 l1_2).bind fun t843 => (if l0.length + t843.length < 8796093022208 then ((some (l0 ++ t843 : List ByteArray)).bind fun y846 => (if y846.length < 8796093022208 then (some (y846 ++ [(⟨#[59]⟩ : ByteArray)])) else (none))) else (none))
mutual
def spec_l13Stmt.f : Nat → Int → Int → Int → Int → Int → List (S56) → List (S58) → List (S58) → Option (List ByteArray)
 | 0, _, _, _, _, _, _, _, _ => none
 | k + 1, a0_0, a0_1, a0_2, a0_3, a0_4, l0_5, l0_6, l0_7 => if a0_0 = 1 then ((spec_l5Name.f a0_1).bind fun t853 => ((spec_l13Line.f k (([t853, (⟨#[61]⟩ : ByteArray)] : List ByteArray)) a0_3 a0_4 l0_5).bind fun t857 => (some t857))) else (if a0_0 = 4 then ((spec_l6Dec.f k a0_2).bind fun t860 => ((spec_l13Line.f k (([(⟨#[115, 101, 110, 100]⟩ : ByteArray), t860] : List ByteArray)) a0_3 a0_4 l0_5).bind fun t864 => (some t864))) else (if a0_0 = 7 then ((spec_l13Line.f k (([(⟨#[112, 114, 105, 110, 116]⟩ : ByteArray)] : List ByteArray)) a0_3 a0_4 l0_5).bind fun t870 => (some t870)) else (if a0_0 = 5 then ((spec_l6Dec.f k a0_2).bind fun t873 => ((spec_l5Name.f a0_1).bind fun t874 => (some (([(⟨#[114, 101, 99, 118]⟩ : ByteArray), t873, t874, (⟨#[59]⟩ : ByteArray)] : List ByteArray))))) else (if a0_0 = 6 then (some (([(⟨#[121, 105, 101, 108, 100]⟩ : ByteArray), (⟨#[59]⟩ : ByteArray)] : List ByteArray))) else (if a0_0 = 3 then ((some (([(⟨#[119, 104, 105, 108, 101]⟩ : ByteArray)] : List ByteArray) : List ByteArray)).bind fun y881 => ((spec_l5Tokens.f k a0_3 a0_4 l0_5).bind fun t884 => (if y881.length + t884.length < 8796093022208 then ((some (y881 ++ t884 : List ByteArray)).bind fun y887 => ((spec_l13Block.f k l0_6).bind fun t890 => (if y887.length + t890.length < 8796093022208 then (some (y887 ++ t890)) else (none)))) else (none)))) else ((some (([(⟨#[105, 102]⟩ : ByteArray)] : List ByteArray) : List ByteArray)).bind fun y896 => ((spec_l5Tokens.f k a0_3 a0_4 l0_5).bind fun t899 => (if y896.length + t899.length < 8796093022208 then ((some (y896 ++ t899 : List ByteArray)).bind fun y902 => ((spec_l13Block.f k l0_6).bind fun t905 => (if y902.length + t905.length < 8796093022208 then ((some (y902 ++ t905 : List ByteArray)).bind fun y908 => (if (l0_7.length : Int) = 0 then (some y908) else (if y908.length < 8796093022208 then ((some (y908 ++ [(⟨#[101, 108, 115, 101]⟩ : ByteArray)] : List ByteArray)).bind fun y911 => ((spec_l13Block.f k l0_7).bind fun t914 => (if y911.length + t914.length < 8796093022208 then (some (y911 ++ t914)) else (none)))) else (none)))) else (none)))) else (none)))))))))
def spec_l13Block.l0 : Nat → List (S58) → List ByteArray → Int → Option (List ByteArray)
 | 0, _, _, _ => none
 | k + 1, x0, x3, x4 => if x4 < (x0.length : Int) then (if 0 ≤ x4 then ((spec_l13Stmt.f k ((rd_T58 x0 x4).f0) ((rd_T58 x0 x4).f1) ((rd_T58 x0 x4).f2) ((rd_T58 x0 x4).f3.f0) ((rd_T58 x0 x4).f3.f1) ((rd_T58 x0 x4).f3.f2) ((rd_T58 x0 x4).f4) ((rd_T58 x0 x4).f5)).bind fun t924 => (if x3.length + t924.length < 8796093022208 then (spec_l13Block.l0 k x0 (x3 ++ t924) (wrap64 (x4 + 1))) else (none))) else (none)) else (if x3.length < 8796093022208 then (some (x3 ++ [(⟨#[125]⟩ : ByteArray)])) else (none))
def spec_l13Block.f : Nat → List (S58) → Option (List ByteArray)
 | 0, _ => none
 | k + 1, l0 => spec_l13Block.l0 k l0 (([(⟨#[123]⟩ : ByteArray)] : List ByteArray)) 0
end
mutual
def spec_l3Kind.j0 : Nat → Int → Bool → Option (Int)
 | 0, _, _ => none
 | k + 1, x0, x5 => if x5 = true then (some 1) else (if x0 ≥ 97 then (spec_l3Kind.j1 k x0 (decide (x0 ≤ 122))) else (spec_l3Kind.j1 k x0 false))
def spec_l3Kind.j1 : Nat → Int → Bool → Option (Int)
 | 0, _, _ => none
 | k + 1, x0, x12 => if x12 = true then (some 2) else (if x0 = 32 then (some 3) else (if x0 = 10 then (some 3) else (spec_l3Kind.l0 k x0 (⟨#[43, 45, 42, 47, 37, 38, 124, 94, 60, 62, 40, 41, 123, 125, 61, 59]⟩ : ByteArray) 0)))
def spec_l3Kind.l0 : Nat → Int → ByteArray → Int → Option (Int)
 | 0, _, _, _ => none
 | k + 1, x0, x3, x4 => if x4 < (x3.size : Int) then (if 0 ≤ x4 then (if (bt x3 x4) = x0 then (some 4) else (spec_l3Kind.l0 k x0 x3 (wrap64 (x4 + 1)))) else (none)) else (some 0)
end
def spec_l3Kind.f (k : Nat) (a0 : Int) : Option (Int) := if a0 ≥ 48 then (spec_l3Kind.j0 k a0 (decide (a0 ≤ 57))) else (spec_l3Kind.j0 k a0 false)
def spec_l3Run.l0 : Nat → ByteArray → Int → Int → Option (Int)
 | 0, _, _, _ => none
 | k + 1, x0, x1, x5 => if x5 < (x0.size : Int) then (if 0 ≤ x5 then ((spec_l3Kind.f k (bt x0 x5)).bind fun t933 => (if 0 ≤ x1 then (if x1 < (x0.size : Int) then ((spec_l3Kind.f k (bt x0 x1)).bind fun t934 => (if t933 = t934 then (spec_l3Run.l0 k x0 x1 (wrap64 (x5 + 1))) else (some x5))) else (none)) else (none))) else (none)) else (some x5)
def spec_l3Run.f (k : Nat) (a0 : ByteArray) (a1 : Int) : Option (Int) := spec_l3Run.l0 k a0 a1 a1
def spec_l3Two.f (a0 : ByteArray) : Option (Bool) := if a0.toList = ([60, 60] : List UInt8) then (some true) else (if a0.toList = ([62, 62] : List UInt8) then (some true) else (some (a0.toList == ([61, 61] : List UInt8))))
mutual
def spec_l3End.j0 : Nat → ByteArray → Int → Int → Bool → Option (Int)
 | 0, _, _, _, _ => none
 | k + 1, x0, x1, x5, x15 => if x15 = true then ((spec_l3Run.f k x0 x1).bind fun t936 => (some t936)) else (if x5 = 4 then (if (wrap64 (x1 + 2)) ≤ (x0.size : Int) then (if 0 ≤ x1 then (if x1 ≤ (wrap64 (x1 + 2)) then ((spec_l3Two.f (x0.extract (x1 : Int).toNat ((wrap64 (x1 + 2)) : Int).toNat)).bind fun t937 => (spec_l3End.j1 k x0 x1 t937)) else (none)) else (none)) else (spec_l3End.j1 k x0 x1 false)) else (some (-1)))
def spec_l3End.j1 : Nat → ByteArray → Int → Bool → Option (Int)
 | 0, _, _, _ => none
 | k + 1, x0, x1, x33 => if x33 = true then (some (wrap64 (x1 + 2))) else (if 0 ≤ x1 then (if x1 < (x0.size : Int) then (if (bt x0 x1) = 62 then (some (-1)) else (some (wrap64 (x1 + 1)))) else (none)) else (none))
end
def spec_l3End.f (k : Nat) (a0 : ByteArray) (a1 : Int) : Option (Int) := if 0 ≤ a1 then (if a1 < (a0.size : Int) then ((spec_l3Kind.f k (bt a0 a1)).bind fun t935 => (if t935 = 1 then (spec_l3End.j0 k a0 a1 t935 true) else (spec_l3End.j0 k a0 a1 t935 (t935 == 2)))) else (none)) else (none)
def spec_TokenValid.f (k : Nat) (a0 : ByteArray) : Option (Bool) := if a0.toList = ([] : List UInt8) then (some false) else ((spec_l3End.f k a0 0).bind fun t938 => (some (t938 == (a0.size : Int))))
def spec_TokensText.l0 : Nat → List ByteArray → ByteArray → Int → Option (ByteArray)
 | 0, _, _, _ => none
 | k + 1, x0, x3, x4 => if x4 < (x0.length : Int) then (if 0 ≤ x4 then ((spec_TokenValid.f k (rdOf ByteArray.empty x0 x4)).bind fun t940 => (if t940 = true then (if x4 > 0 then (if x3.size + 1 ≤ 9223372036854775807 then (if (x3 ++ (⟨#[32]⟩ : ByteArray)).size + (rdOf ByteArray.empty x0 x4).size ≤ 9223372036854775807 then (spec_TokensText.l0 k x0 ((x3 ++ (⟨#[32]⟩ : ByteArray)) ++ (rdOf ByteArray.empty x0 x4)) (wrap64 (x4 + 1))) else (none)) else (none)) else (if x3.size + (rdOf ByteArray.empty x0 x4).size ≤ 9223372036854775807 then (spec_TokensText.l0 k x0 (x3 ++ (rdOf ByteArray.empty x0 x4)) (wrap64 (x4 + 1))) else (none))) else (some (⟨#[]⟩ : ByteArray)))) else (none)) else (some x3)
def spec_TokensText.f (k : Nat) (l0 : List ByteArray) : Option (ByteArray) := spec_TokensText.l0 k l0 (⟨#[]⟩ : ByteArray) 0
mutual
def spec_ProgramText.l0 : Nat → List ByteArray → Int → List Int → List (List (S58)) → Option (ByteArray)
 | 0, _, _, _, _ => none
 | k + 1, x3, x4, x944000, x944001 => if x4 < (x944000.length : Int) then (if 0 ≤ x4 then ((spec_l6Dec.f k (rd x944000 x4)).bind fun t949 => ((some (([(⟨#[98, 111, 120]⟩ : ByteArray), t949, (⟨#[59]⟩ : ByteArray)] : List ByteArray) : List ByteArray)).bind fun y950 => (if x3.length + y950.length < 8796093022208 then (spec_ProgramText.l0 k (x3 ++ y950) (wrap64 (x4 + 1)) x944000 x944001) else (none)))) else (none)) else (spec_ProgramText.l1 k x3 0 x944000 x944001)
def spec_ProgramText.l1 : Nat → List ByteArray → Int → List Int → List (List (S58)) → Option (ByteArray)
 | 0, _, _, _, _ => none
 | k + 1, x3, x5, x944000, x944001 => if x5 < (x944001.length : Int) then (if x3.length < 8796093022208 then ((some (x3 ++ [(⟨#[116, 97, 115, 107]⟩ : ByteArray)] : List ByteArray)).bind fun y956 => (if 0 ≤ x5 then ((spec_l13Block.f k (rd_L4 x944001 x5)).bind fun t960 => (if y956.length + t960.length < 8796093022208 then (spec_ProgramText.l1 k (y956 ++ t960) (wrap64 (x5 + 1)) x944000 x944001) else (none))) else (none))) else (none)) else ((spec_TokensText.f k x3).bind fun t966 => (some t966))
end
def spec_ProgramText.f (k : Nat) (l0_0 : List Int) (l0_1 : List (List (S58))) : Option (ByteArray) := (spec_ProgramValid.f k l0_0 l0_1).bind fun t944 => (if t944 = true then (spec_ProgramText.l0 k (([] : List ByteArray)) 0 l0_0 l0_1) else (some (⟨#[]⟩ : ByteArray)))
mutual
def impl_Tokens.l0 : Nat → ByteArray → List ByteArray → Int → Option (List ByteArray × Bool)
 | 0, _, _, _ => none
 | k + 1, x0, x4, x5 => if x5 < (x0.size : Int) then (if 0 ≤ x5 then (if (bt x0 x5) = 32 then (impl_Tokens.j1 k x0 x4 x5 true) else (impl_Tokens.j1 k x0 x4 x5 ((bt x0 x5) == 10))) else (none)) else (some (x4, true))
def impl_Tokens.j1 : Nat → ByteArray → List ByteArray → Int → Bool → Option (List ByteArray × Bool)
 | 0, _, _, _, _ => none
 | k + 1, x0, x4, x5, x23 => if x23 = true then (impl_Tokens.l0 k x0 x4 (wrap64 (x5 + 1))) else (if 0 ≤ x5 then (if x5 ≤ (x0.size : Int) then ((impl_tokenLength.f k (x0.extract (x5 : Int).toNat x0.size)).bind fun t967 => (if t967 = 0 then (some (([] : List ByteArray), false)) else (if x5 ≤ (wrap64 (x5 + t967)) then (if (wrap64 (x5 + t967)) ≤ (x0.size : Int) then (if x4.length < 8796093022208 then (impl_Tokens.l0 k x0 (x4 ++ [x0.extract (x5 : Int).toNat ((wrap64 (x5 + t967)) : Int).toNat]) (wrap64 (x5 + t967))) else (none)) else (none)) else (none)))) else (none)) else (none))
end
def impl_Tokens.f (k : Nat) (a0 : ByteArray) : Option (List ByteArray × Bool) := if (a0.size : Int) > 20000 then (some (([] : List ByteArray), false)) else (impl_Tokens.l0 k a0 ([] : List ByteArray) 0)
mutual
def laws_countKind.l0 : Nat → List (S58) → Int → Int → Int → Option (Int)
 | 0, _, _, _, _ => none
 | k + 1, x0, x1, x5, x6 => if x6 < (x0.length : Int) then (if 0 ≤ x6 then (if ((rd_T58 x0 x6).f0) = x1 then ((laws_countKind.f k ((rd_T58 x0 x6).f4) x1).bind fun t973 => ((laws_countKind.f k ((rd_T58 x0 x6).f5) x1).bind fun t975 => (laws_countKind.l0 k x0 x1 (wrap64 ((wrap64 ((wrap64 (x5 + 1)) + t973)) + t975)) (wrap64 (x6 + 1))))) else ((laws_countKind.f k ((rd_T58 x0 x6).f4) x1).bind fun t977 => ((laws_countKind.f k ((rd_T58 x0 x6).f5) x1).bind fun t979 => (laws_countKind.l0 k x0 x1 (wrap64 ((wrap64 (x5 + t977)) + t979)) (wrap64 (x6 + 1)))))) else (none)) else (some x5)
def laws_countKind.f : Nat → List (S58) → Int → Option (Int)
 | 0, _, _ => none
 | k + 1, l0, a1 => laws_countKind.l0 k l0 a1 0 0
end
def laws_countText.l0 : Nat → List ByteArray → ByteArray → Int → Int → Option (Int)
 | 0, _, _, _, _ => none
 | k + 1, x0, x1, x5, x6 => if x6 < (x0.length : Int) then (if 0 ≤ x6 then (if (rdOf ByteArray.empty x0 x6).toList = x1.toList then (laws_countText.l0 k x0 x1 (wrap64 (x5 + 1)) (wrap64 (x6 + 1))) else (laws_countText.l0 k x0 x1 x5 (wrap64 (x6 + 1)))) else (none)) else (some x5)
def laws_countText.f (k : Nat) (l0 : List ByteArray) (a1 : ByteArray) : Option (Int) := laws_countText.l0 k l0 a1 0 0
mutual
def laws_FnSourceWords.j0 : Nat → ByteArray → ByteArray → Bool → List Int → List (List (S58)) → Option (Bool)
 | 0, _, _, _, _, _ => none
 | k + 1, x4, x5, x27, x988000, x988001 => if x27 = true then (some (x4.toList == x5.toList)) else ((impl_Tokens.f k x4).bind fun bt990 => (laws_FnSourceWords.l0 k bt990.1 bt990.2 0 0 0 0 x988000 x988001))
def laws_FnSourceWords.l0 : Nat → List ByteArray → Bool → Int → Int → Int → Int → List Int → List (List (S58)) → Option (Bool)
 | 0, _, _, _, _, _, _, _, _ => none
 | k + 1, x6, x7, x8, x9, x10, x11, x988000, x988001 => if x11 < (x988001.length : Int) then (if 0 ≤ x11 then ((laws_countKind.f k (rd_L4 x988001 x11) 3).bind fun t995 => ((laws_countKind.f k (rd_L4 x988001 x11) 4).bind fun t997 => ((laws_countKind.f k (rd_L4 x988001 x11) 6).bind fun t999 => (laws_FnSourceWords.l0 k x6 x7 (wrap64 (x8 + t995)) (wrap64 (x9 + t997)) (wrap64 (x10 + t999)) (wrap64 (x11 + 1)) x988000 x988001)))) else (none)) else (if x7 = true then ((laws_countText.f k x6 (⟨#[119, 104, 105, 108, 101]⟩ : ByteArray)).bind fun t1000 => (if t1000 = x8 then ((laws_countText.f k x6 (⟨#[115, 101, 110, 100]⟩ : ByteArray)).bind fun t1001 => (if t1001 = x9 then ((laws_countText.f k x6 (⟨#[121, 105, 101, 108, 100]⟩ : ByteArray)).bind fun t1002 => (some (t1002 == x10))) else (some false))) else (some false))) else (some false))
end
def laws_FnSourceWords.f (k : Nat) (l0 : List Int) : Option (Bool) := if (l0.length : Int) > 1048576 then (some true) else ((spec_DrawProgramText.f k l0).bind fun bt981 => ((impl_ProgramText.f k bt981.1 bt981.2).bind fun t988 => ((spec_ProgramText.f k bt981.1 bt981.2).bind fun t989 => (if t988.toList = t989.toList then (laws_FnSourceWords.j0 k t988 t989 (t988.toList == ([] : List UInt8)) bt981.1 bt981.2) else (laws_FnSourceWords.j0 k t988 t989 true bt981.1 bt981.2)))))
def laws_szIntS.f (l0 : List Int) (a1 : Int) : Option (Int) := if (wrap64 (a1 - (l0.length : Int))) < 0 then (some (-1)) else (some (wrap64 (a1 - (l0.length : Int))))
mutual
def laws_szExprS.l0 : Nat → List (S111) → Int → Int → Option (Int)
 | 0, _, _, _ => none
 | k + 1, x0, x1, x5 => if x5 < (x0.length : Int) then (if 0 ≤ x5 then ((laws_szExpr.f k ((rd_T111 x0 x5).f0) ((rd_T111 x0 x5).f1) ((rd_T111 x0 x5).f2) x1).bind fun t1004 => (if t1004 < 0 then (some (-1)) else (laws_szExprS.l0 k x0 t1004 (wrap64 (x5 + 1))))) else (none)) else (some x1)
def laws_szExprS.f : Nat → List (S111) → Int → Option (Int)
 | 0, _, _ => none
 | k + 1, l0, a1 => if (wrap64 (a1 - (l0.length : Int))) < 0 then (some (-1)) else (laws_szExprS.l0 k l0 (wrap64 (a1 - (l0.length : Int))) 0)
def laws_szExpr.f : Nat → Int → Int → List (S111) → Int → Option (Int)
 | 0, _, _, _, _ => none
 | k + 1, a0_0, a0_1, l0_2, a1 => (laws_szExprS.f k l0_2 a1).bind fun t1006 => (if t1006 < 0 then (some (-1)) else (some t1006))
end
mutual
def laws_szStmt.f : Nat → Int → Int → Int → Int → Int → List (S111) → List (S113) → List (S113) → Int → Option (Int)
 | 0, _, _, _, _, _, _, _, _, _ => none
 | k + 1, a0_0, a0_1, a0_2, a0_3, a0_4, l0_5, l0_6, l0_7, a1 => (laws_szExpr.f k a0_3 a0_4 l0_5 a1).bind fun t1008 => (if t1008 < 0 then (some (-1)) else ((laws_szStmtS.f k l0_6 t1008).bind fun t1009 => (if t1009 < 0 then (some (-1)) else ((laws_szStmtS.f k l0_7 t1009).bind fun t1010 => (if t1010 < 0 then (some (-1)) else (some t1010))))))
def laws_szStmtS.l0 : Nat → List (S113) → Int → Int → Option (Int)
 | 0, _, _, _ => none
 | k + 1, x0, x1, x5 => if x5 < (x0.length : Int) then (if 0 ≤ x5 then ((laws_szStmt.f k ((rd_T113 x0 x5).f0) ((rd_T113 x0 x5).f1) ((rd_T113 x0 x5).f2) ((rd_T113 x0 x5).f3.f0) ((rd_T113 x0 x5).f3.f1) ((rd_T113 x0 x5).f3.f2) ((rd_T113 x0 x5).f4) ((rd_T113 x0 x5).f5) x1).bind fun t1012 => (if t1012 < 0 then (some (-1)) else (laws_szStmtS.l0 k x0 t1012 (wrap64 (x5 + 1))))) else (none)) else (some x1)
def laws_szStmtS.f : Nat → List (S113) → Int → Option (Int)
 | 0, _, _ => none
 | k + 1, l0, a1 => if (wrap64 (a1 - (l0.length : Int))) < 0 then (some (-1)) else (laws_szStmtS.l0 k l0 (wrap64 (a1 - (l0.length : Int))) 0)
end
def laws_szStmtSS.l0 : Nat → List (List (S113)) → Int → Int → Option (Int)
 | 0, _, _, _ => none
 | k + 1, x0, x1, x5 => if x5 < (x0.length : Int) then (if 0 ≤ x5 then ((laws_szStmtS.f k (rd_L8 x0 x5) x1).bind fun t1014 => (if t1014 < 0 then (some (-1)) else (laws_szStmtSS.l0 k x0 t1014 (wrap64 (x5 + 1))))) else (none)) else (some x1)
def laws_szStmtSS.f (k : Nat) (l0 : List (List (S113))) (a1 : Int) : Option (Int) := if (wrap64 (a1 - (l0.length : Int))) < 0 then (some (-1)) else (laws_szStmtSS.l0 k l0 (wrap64 (a1 - (l0.length : Int))) 0)
def laws_szProgram.f (k : Nat) (l0_0 : List Int) (l0_1 : List (List (S113))) (a1 : Int) : Option (Int) := (laws_szIntS.f l0_0 a1).bind fun t1016 => (if t1016 < 0 then (some (-1)) else ((laws_szStmtSS.f k l0_1 t1016).bind fun t1017 => (if t1017 < 0 then (some (-1)) else (some t1017))))
def laws_toIntS.l0 : Nat → List Int → List Int → Int → Option (List Int)
 | 0, _, _, _ => none
 | k + 1, x0, x3, x4 => if x4 < (x0.length : Int) then (if 0 ≤ x4 then (if x4 < (x3.length : Int) then (laws_toIntS.l0 k x0 (x3.set (x4 : Int).toNat (rd x0 x4)) (wrap64 (x4 + 1))) else (none)) else (none)) else (some x3)
def laws_toIntS.f (k : Nat) (l0 : List Int) : Option (List Int) := if 0 ≤ (l0.length : Int) then (if ((l0.length : Int) : Int).toNat ≤ 35184372088832 then (laws_toIntS.l0 k l0 (List.replicate ((l0.length : Int) : Int).toNat 0) 0) else (none)) else (none)
mutual
def laws_toExprS.l0 : Nat → List (S111) → List (S56) → Int → Option ((List (S56)))
 | 0, _, _, _ => none
 | k + 1, x0, x3, x4 => if x4 < (x0.length : Int) then (if 0 ≤ x4 then ((laws_toExpr.f k ((rd_T111 x0 x4).f0) ((rd_T111 x0 x4).f1) ((rd_T111 x0 x4).f2)).bind fun bt1027 => (if x4 < (x3.length : Int) then (laws_toExprS.l0 k x0 (x3.set (x4 : Int).toNat (⟨bt1027.1, bt1027.2.1, bt1027.2.2⟩ : S56)) (wrap64 (x4 + 1))) else (none))) else (none)) else (some x3)
def laws_toExprS.f : Nat → List (S111) → Option ((List (S56)))
 | 0, _ => none
 | k + 1, l0 => if 0 ≤ (l0.length : Int) then (if ((l0.length : Int) : Int).toNat ≤ 7036874417766 then (laws_toExprS.l0 k l0 (List.replicate ((l0.length : Int) : Int).toNat z56) 0) else (none)) else (none)
def laws_toExpr.f : Nat → Int → Int → List (S111) → Option (Int × Int × (List (S56)))
 | 0, _, _, _ => none
 | k + 1, a0_0, a0_1, l0_2 => (laws_toExprS.f k l0_2).bind fun t1036 => (some (a0_0, a0_1, t1036))
end
mutual
def laws_toStmtS.l0 : Nat → List S113 → List S58 → Int → Option (List S58)
 | 0, _, _, _ => none
 | k + 1, x0, x3, x4 => if x4 < (x0.length : Int) then (if 0 ≤ x4 then ((laws_toStmt.f k (rd_T113 x0 x4)).bind fun s => (if x4 < (x3.length : Int) then laws_toStmtS.l0 k x0 (x3.set (x4 : Int).toNat s) (wrap64 (x4 + 1)) else none)) else none) else some x3
def laws_toStmtS.f : Nat → List S113 → Option (List S58)
 | 0, _ => none
 | k + 1, l0 => if l0.length ≤ 2513169434916 then laws_toStmtS.l0 k l0 (List.replicate l0.length z58) 0 else none
def laws_toStmt.f : Nat → S113 → Option S58
 | 0, _ => none
 | k + 1, s => (laws_toExpr.f k s.f3.f0 s.f3.f1 s.f3.f2).bind fun e => (laws_toStmtS.f k s.f4).bind fun b => (laws_toStmtS.f k s.f5).bind fun c => some ⟨s.f0, s.f1, s.f2, ⟨e.1, e.2.1, e.2.2⟩, b, c⟩
end
def laws_toStmtSS.l0 : Nat → List (List (S113)) → List (List (S58)) → Int → Option ((List (List (S58))))
 | 0, _, _, _ => none
 | k + 1, x0, x3, x4 => if x4 < (x0.length : Int) then (if 0 ≤ x4 then ((laws_toStmtS.f k (rd_L8 x0 x4)).bind fun t1043 => (if x4 < (x3.length : Int) then (laws_toStmtSS.l0 k x0 (x3.set (x4 : Int).toNat t1043) (wrap64 (x4 + 1))) else (none))) else (none)) else (some x3)
def laws_toStmtSS.f (k : Nat) (l0 : List (List (S113))) : Option ((List (List (S58)))) := if 0 ≤ (l0.length : Int) then (if ((l0.length : Int) : Int).toNat ≤ 11728124029610 then (laws_toStmtSS.l0 k l0 (List.replicate ((l0.length : Int) : Int).toNat []) 0) else (none)) else (none)
def laws_toProgram.f (k : Nat) (l0_0 : List Int) (l0_1 : List (List (S113))) : Option (List Int × (List (List (S58)))) := (laws_toIntS.f k l0_0).bind fun t1050 => ((laws_toStmtSS.f k l0_1).bind fun t1053 => (some (t1050, t1053)))
def laws_eqIntS.l0 : Nat → List Int → List Int → Int → Option (Bool)
 | 0, _, _, _ => none
 | k + 1, x0, x1, x5 => if x5 < (x0.length : Int) then (if 0 ≤ x5 then (if x5 < (x1.length : Int) then (if (rd x0 x5) = (rd x1 x5) then (laws_eqIntS.l0 k x0 x1 (wrap64 (x5 + 1))) else (some false)) else (none)) else (none)) else (some true)
def laws_eqIntS.f (k : Nat) (l0 : List Int) (l1 : List Int) : Option (Bool) := if (l0.length : Int) = (l1.length : Int) then (laws_eqIntS.l0 k l0 l1 0) else (some false)
mutual
def laws_eqExprS.l0 : Nat → List (S56) → List (S56) → Int → Option (Bool)
 | 0, _, _, _ => none
 | k + 1, x0, x1, x5 => if x5 < (x0.length : Int) then (if 0 ≤ x5 then (if x5 < (x1.length : Int) then ((laws_eqExpr.f k ((rd_T56 x0 x5).f0) ((rd_T56 x0 x5).f1) ((rd_T56 x0 x5).f2) ((rd_T56 x1 x5).f0) ((rd_T56 x1 x5).f1) ((rd_T56 x1 x5).f2)).bind fun t1060 => (if t1060 = true then (laws_eqExprS.l0 k x0 x1 (wrap64 (x5 + 1))) else (some false))) else (none)) else (none)) else (some true)
def laws_eqExprS.f : Nat → List (S56) → List (S56) → Option (Bool)
 | 0, _, _ => none
 | k + 1, l0, l1 => if (l0.length : Int) = (l1.length : Int) then (laws_eqExprS.l0 k l0 l1 0) else (some false)
def laws_eqExpr.f : Nat → Int → Int → List (S56) → Int → Int → List (S56) → Option (Bool)
 | 0, _, _, _, _, _, _ => none
 | k + 1, a0_0, a0_1, l0_2, a1_0, a1_1, l1_2 => if a0_0 = a1_0 then (if a0_1 = a1_1 then ((laws_eqExprS.f k l0_2 l1_2).bind fun t1063 => (if t1063 = true then (some true) else (some false))) else (some false)) else (some false)
end
mutual
def laws_eqStmt.f : Nat → Int → Int → Int → Int → Int → List (S56) → List (S58) → List (S58) → Int → Int → Int → Int → Int → List (S56) → List (S58) → List (S58) → Option (Bool)
 | 0, _, _, _, _, _, _, _, _, _, _, _, _, _, _, _, _ => none
 | k + 1, a0_0, a0_1, a0_2, a0_3, a0_4, l0_5, l0_6, l0_7, a1_0, a1_1, a1_2, a1_3, a1_4, l1_5, l1_6, l1_7 => if a0_0 = a1_0 then (if a0_1 = a1_1 then (if a0_2 = a1_2 then ((laws_eqExpr.f k a0_3 a0_4 l0_5 a1_3 a1_4 l1_5).bind fun t1066 => (if t1066 = true then ((laws_eqStmtS.f k l0_6 l1_6).bind fun t1067 => (if t1067 = true then ((laws_eqStmtS.f k l0_7 l1_7).bind fun t1068 => (if t1068 = true then (some true) else (some false))) else (some false))) else (some false))) else (some false)) else (some false)) else (some false)
def laws_eqStmtS.l0 : Nat → List (S58) → List (S58) → Int → Option (Bool)
 | 0, _, _, _ => none
 | k + 1, x0, x1, x5 => if x5 < (x0.length : Int) then (if 0 ≤ x5 then (if x5 < (x1.length : Int) then ((laws_eqStmt.f k ((rd_T58 x0 x5).f0) ((rd_T58 x0 x5).f1) ((rd_T58 x0 x5).f2) ((rd_T58 x0 x5).f3.f0) ((rd_T58 x0 x5).f3.f1) ((rd_T58 x0 x5).f3.f2) ((rd_T58 x0 x5).f4) ((rd_T58 x0 x5).f5) ((rd_T58 x1 x5).f0) ((rd_T58 x1 x5).f1) ((rd_T58 x1 x5).f2) ((rd_T58 x1 x5).f3.f0) ((rd_T58 x1 x5).f3.f1) ((rd_T58 x1 x5).f3.f2) ((rd_T58 x1 x5).f4) ((rd_T58 x1 x5).f5)).bind fun t1071 => (if t1071 = true then (laws_eqStmtS.l0 k x0 x1 (wrap64 (x5 + 1))) else (some false))) else (none)) else (none)) else (some true)
def laws_eqStmtS.f : Nat → List (S58) → List (S58) → Option (Bool)
 | 0, _, _ => none
 | k + 1, l0, l1 => if (l0.length : Int) = (l1.length : Int) then (laws_eqStmtS.l0 k l0 l1 0) else (some false)
end
def laws_eqStmtSS.l0 : Nat → List (List (S58)) → List (List (S58)) → Int → Option (Bool)
 | 0, _, _, _ => none
 | k + 1, x0, x1, x5 => if x5 < (x0.length : Int) then (if 0 ≤ x5 then (if x5 < (x1.length : Int) then ((laws_eqStmtS.f k (rd_L4 x0 x5) (rd_L4 x1 x5)).bind fun t1074 => (if t1074 = true then (laws_eqStmtSS.l0 k x0 x1 (wrap64 (x5 + 1))) else (some false))) else (none)) else (none)) else (some true)
def laws_eqStmtSS.f (k : Nat) (l0 : List (List (S58))) (l1 : List (List (S58))) : Option (Bool) := if (l0.length : Int) = (l1.length : Int) then (laws_eqStmtSS.l0 k l0 l1 0) else (some false)
def laws_eqProgram.f (k : Nat) (l0_0 : List Int) (l0_1 : List (List (S58))) (l1_0 : List Int) (l1_1 : List (List (S58))) : Option (Bool) := (laws_eqIntS.f k l0_0 l1_0).bind fun t1077 => (if t1077 = true then ((laws_eqStmtSS.f k l0_1 l1_1).bind fun t1078 => (if t1078 = true then (some true) else (some false))) else (some false))
def laws_FnExactProgramText.f (k : Nat) (l0_0 : List Int) (l0_1 : List (List (S113))) : Option (Bool) := (laws_szProgram.f k l0_0 l0_1 1048576).bind fun t1080 => (if t1080 < 0 then (some true) else ((laws_toProgram.f k l0_0 l0_1).bind fun bt1081 => ((spec_ProgramText.f k bt1081.1 bt1081.2).bind fun t1087 => ((laws_toProgram.f k l0_0 l0_1).bind fun bt1088 => ((impl_ProgramText.f k bt1088.1 bt1088.2).bind fun t1095 => (if t1095.toList = t1087.toList then ((laws_toProgram.f k l0_0 l0_1).bind fun bt1096 => ((laws_eqProgram.f k bt1088.1 bt1088.2 bt1096.1 bt1096.2).bind fun t1102 => (if t1102 = true then (some true) else (some false)))) else (some false)))))))
def slices_Clone_int_int.f (l0 : List Int) : Option (List Int) := (some (([] : List Int) : List Int)).bind fun y1103 => (if y1103.length + l0.length < 17592186044416 then (some (y1103 ++ l0)) else (none))
def impl_truth.f (a0 : Bool) : Option (Int) := if a0 = true then (some 1) else (some 0)
def impl_Wrap.f (a0 : Int) : Option (Int) := some (wrap64 (wrap32 (a0)))
def impl_apply.f (a0 : Int) (a1 : Int) (a2 : Int) : Option (Int) := if a0 = 1 then (some (Go.bits .or .i64 a1 a2)) else (if a0 = 2 then (some (Go.bits .xor .i64 a1 a2)) else (if a0 = 3 then (some (Go.bits .and .i64 a1 a2)) else (if a0 = 4 then ((impl_truth.f (a1 == a2)).bind fun t1109 => (some t1109)) else (if a0 = 5 then ((impl_truth.f (decide (a1 < a2))).bind fun t1110 => (some t1110)) else (if a0 = 6 then (if 0 ≤ (Go.bits .and .i64 a2 31) then ((impl_Wrap.f (shl .i64 a1 (Go.bits .and .i64 a2 31))).bind fun t1111 => (some t1111)) else (none)) else (if a0 = 7 then (if 0 ≤ (Go.bits .and .i64 a2 31) then (some (shr .i64 a1 (Go.bits .and .i64 a2 31))) else (none)) else (if a0 = 8 then ((impl_Wrap.f (wrap64 (a1 + a2))).bind fun t1112 => (some t1112)) else (if a0 = 9 then ((impl_Wrap.f (wrap64 (a1 - a2))).bind fun t1113 => (some t1113)) else (if a0 = 10 then ((impl_Wrap.f (wrap64 (a1 * a2))).bind fun t1114 => (some t1114)) else (if a0 = 11 then (if a2 = 0 then (some (-1)) else ((impl_Wrap.f (wrap64 (Int.tdiv a1 a2))).bind fun t1115 => (some t1115))) else (if a2 = 0 then (some a1) else (some (Int.tmod a1 a2)))))))))))))
mutual
def impl_exprFold.j0 : Nat → Bool → Int → Int → List (S56) → Int → Int → List (S56) → Int → Int → List (S56) → Option (Int × Int × (List (S56)))
 | 0, _, _, _, _, _, _, _, _, _, _ => none
 | k + 1, x32, x1117000, x1117001, x1117002, x1131000, x1131001, x1131002, x1132000, x1132001, x1132002 => if x32 = true then ((impl_apply.f x1117000 x1131001 x1132001).bind fun t1132 => (if t1132 ≥ 0 then (if t1132 ≤ 99999 then (some (0, t1132, ([] : List (S56)))) else (some (x1117000, 0, (([(⟨x1131000, x1131001, x1131002⟩ : S56), (⟨x1132000, x1132001, x1132002⟩ : S56)] : List (S56)))))) else (some (x1117000, 0, (([(⟨x1131000, x1131001, x1131002⟩ : S56), (⟨x1132000, x1132001, x1132002⟩ : S56)] : List (S56))))))) else (some (x1117000, 0, (([(⟨x1131000, x1131001, x1131002⟩ : S56), (⟨x1132000, x1132001, x1132002⟩ : S56)] : List (S56)))))
def impl_exprFold.f : Nat → Int → Int → List (S56) → Option (Int × Int × (List (S56)))
 | 0, _, _, _ => none
 | k + 1, a0_0, a0_1, l0_2 => if (l0_2.length : Int) = 0 then (some (a0_0, a0_1, ([] : List (S56)))) else (if 0 < (l0_2.length : Int) then ((impl_exprFold.f k ((rd_T56 l0_2 0).f0) ((rd_T56 l0_2 0).f1) ((rd_T56 l0_2 0).f2)).bind fun bt1119 => (if 1 < (l0_2.length : Int) then ((impl_exprFold.f k ((rd_T56 l0_2 1).f0) ((rd_T56 l0_2 1).f1) ((rd_T56 l0_2 1).f2)).bind fun bt1125 => (if bt1119.1 = 0 then (impl_exprFold.j0 k (bt1125.1 == 0) a0_0 a0_1 l0_2 bt1119.1 bt1119.2.1 bt1119.2.2 bt1125.1 bt1125.2.1 bt1125.2.2) else (impl_exprFold.j0 k false a0_0 a0_1 l0_2 bt1119.1 bt1119.2.1 bt1119.2.2 bt1125.1 bt1125.2.1 bt1125.2.2))) else (none))) else (none))
end
mutual
def impl_stmtsFold.l0 : Nat → List (S58) → List (S58) → Int → Int → Option ((List (S58)))
 | 0, _, _, _, _ => none
 | k + 1, x3, x7, x8, x9 => if x9 < x8 then (if 0 ≤ x9 then (if x9 < (x7.length : Int) then ((impl_stmtsFold.f k ((rd_T58 x7 x9).f4)).bind fun t1144 => ((impl_stmtsFold.f k ((rd_T58 x7 x9).f5)).bind fun t1147 => ((impl_exprFold.f k ((rd_T58 x7 x9).f3.f0) ((rd_T58 x7 x9).f3.f1) ((rd_T58 x7 x9).f3.f2)).bind fun bt1150 => (if ((rd_T58 x7 x9).f0) = 2 then (if bt1150.1 = 0 then (impl_stmtsFold.j1 k x3 (bt1150.1 == 0) x7 x8 x9 (bt1150.2.1 != 0) ((rd_T58 x7 x9).f0) ((rd_T58 x7 x9).f1) ((rd_T58 x7 x9).f2) bt1150.1 bt1150.2.1 bt1150.2.2 t1144 t1147) else (impl_stmtsFold.j1 k x3 (bt1150.1 == 0) x7 x8 x9 false ((rd_T58 x7 x9).f0) ((rd_T58 x7 x9).f1) ((rd_T58 x7 x9).f2) bt1150.1 bt1150.2.1 bt1150.2.2 t1144 t1147)) else (impl_stmtsFold.j1 k x3 (bt1150.1 == 0) x7 x8 x9 false ((rd_T58 x7 x9).f0) ((rd_T58 x7 x9).f1) ((rd_T58 x7 x9).f2) bt1150.1 bt1150.2.1 bt1150.2.2 t1144 t1147))))) else (none)) else (none)) else (some x3)
def impl_stmtsFold.j1 : Nat → List (S58) → Bool → List (S58) → Int → Int → Bool → Int → Int → Int → Int → Int → List (S56) → List (S58) → List (S58) → Option ((List (S58)))
 | 0, _, _, _, _, _, _, _, _, _, _, _, _, _, _ => none
 | k + 1, x3, x6, x7, x8, x9, x33, x1144000, x1144001, x1144002, x1144003, x1144004, x1144005, x1144006, x1144007 => if x33 = true then (if x3.length + x1144006.length < 1256584717458 then (impl_stmtsFold.l0 k (x3 ++ x1144006) x7 x8 (wrap64 (x9 + 1))) else (none)) else (if x1144000 = 2 then (impl_stmtsFold.j2 k x3 x6 x7 x8 x9 x6 x1144000 x1144001 x1144002 x1144003 x1144004 x1144005 x1144006 x1144007) else (impl_stmtsFold.j2 k x3 x6 x7 x8 x9 false x1144000 x1144001 x1144002 x1144003 x1144004 x1144005 x1144006 x1144007))
def impl_stmtsFold.j2 : Nat → List (S58) → Bool → List (S58) → Int → Int → Bool → Int → Int → Int → Int → Int → List (S56) → List (S58) → List (S58) → Option ((List (S58)))
 | 0, _, _, _, _, _, _, _, _, _, _, _, _, _, _ => none
 | k + 1, x3, x6, x7, x8, x9, x50, x1144000, x1144001, x1144002, x1144003, x1144004, x1144005, x1144006, x1144007 => if x50 = true then (if x3.length + x1144007.length < 1256584717458 then (impl_stmtsFold.l0 k (x3 ++ x1144007) x7 x8 (wrap64 (x9 + 1))) else (none)) else (if x1144000 = 3 then (if x6 = true then (if x1144004 = 0 then (impl_stmtsFold.l0 k x3 x7 x8 (wrap64 (x9 + 1))) else (if x3.length < 1256584717458 then (impl_stmtsFold.l0 k (x3 ++ [(⟨x1144000, x1144001, x1144002, (⟨x1144003, x1144004, x1144005⟩ : S56), x1144006, x1144007⟩ : S58)]) x7 x8 (wrap64 (x9 + 1))) else (none))) else (if x3.length < 1256584717458 then (impl_stmtsFold.l0 k (x3 ++ [(⟨x1144000, x1144001, x1144002, (⟨x1144003, x1144004, x1144005⟩ : S56), x1144006, x1144007⟩ : S58)]) x7 x8 (wrap64 (x9 + 1))) else (none))) else (if x3.length < 1256584717458 then (impl_stmtsFold.l0 k (x3 ++ [(⟨x1144000, x1144001, x1144002, (⟨x1144003, x1144004, x1144005⟩ : S56), x1144006, x1144007⟩ : S58)]) x7 x8 (wrap64 (x9 + 1))) else (none)))
def impl_stmtsFold.f : Nat → List (S58) → Option ((List (S58)))
 | 0, _ => none
 | k + 1, l0 => impl_stmtsFold.l0 k ([] : List (S58)) l0 (l0.length : Int) 0
end
def impl_ProgramFold.l0 : Nat → List (List (S58)) → Int → Int → List Int → List (List (S58)) → Option (List Int × (List (List (S58))) × Bool)
 | 0, _, _, _, _, _ => none
 | k + 1, x16, x17, x18, x1177000, x1177001 => if x18 < x17 then (if 0 ≤ x18 then (if x18 < (x16.length : Int) then ((impl_stmtsFold.f k (rd_L4 x16 x18)).bind fun t1178 => (if x1177001.length < 5864062014805 then (impl_ProgramFold.l0 k x16 x17 (wrap64 (x18 + 1)) x1177000 (x1177001 ++ [t1178])) else (none))) else (none)) else (none)) else (some (x1177000, x1177001, true))
def impl_ProgramFold.f (k : Nat) (l0_0 : List Int) (l0_1 : List (List (S58))) : Option (List Int × (List (List (S58))) × Bool) := (impl_ProgramValid.f k l0_0 l0_1).bind fun t1172 => (if t1172 = true then ((slices_Clone_int_int.f l0_0).bind fun t1173 => (impl_ProgramFold.l0 k l0_1 (l0_1.length : Int) 0 t1173 ([] : List (List (S58))))) else (some (([] : List Int), ([] : List (List (S58))), false)))
def laws_FnSourceFold.j0 : Nat → ByteArray → ByteArray → Bool → List Int → List (List (S58)) → Option (Bool)
 | 0, _, _, _, _, _ => none
 | k + 1, x4, x5, x24, x1191000, x1191001 => if x24 = true then (some (x4.toList == x5.toList)) else ((impl_ProgramFold.f k x1191000 x1191001).bind fun bt1193 => ((impl_ProgramText.f k bt1193.1 bt1193.2.1).bind fun t1201 => (if bt1193.2.2 = true then (if t1201.toList = ([] : List UInt8) then (some false) else (some (decide ((t1201.size : Int) ≤ (x4.size : Int))))) else (some false))))
def laws_FnSourceFold.f (k : Nat) (l0 : List Int) : Option (Bool) := if (l0.length : Int) > 1048576 then (some true) else ((spec_DrawProgramText.f k l0).bind fun bt1184 => ((impl_ProgramText.f k bt1184.1 bt1184.2).bind fun t1191 => ((spec_ProgramText.f k bt1184.1 bt1184.2).bind fun t1192 => (if t1191.toList = t1192.toList then (laws_FnSourceFold.j0 k t1191 t1192 (t1191.toList == ([] : List UInt8)) bt1184.1 bt1184.2) else (laws_FnSourceFold.j0 k t1191 t1192 true bt1184.1 bt1184.2)))))
def laws_FnSourceParts.j0 : Nat → ByteArray → ByteArray → Bool → List Int → List (List (S58)) → Option (Bool)
 | 0, _, _, _, _, _ => none
 | k + 1, x4, x5, x23, x1209000, x1209001 => if x23 = true then (some (x4.toList == x5.toList)) else ((impl_Tokens.f k x4).bind fun bt1211 => (if bt1211.2 = true then ((laws_countText.f k bt1211.1 (⟨#[116, 97, 115, 107]⟩ : ByteArray)).bind fun t1215 => (if t1215 = (x1209001.length : Int) then ((laws_countText.f k bt1211.1 (⟨#[98, 111, 120]⟩ : ByteArray)).bind fun t1216 => (if t1216 = (x1209000.length : Int) then ((laws_countText.f k bt1211.1 (⟨#[123]⟩ : ByteArray)).bind fun t1217 => ((laws_countText.f k bt1211.1 (⟨#[125]⟩ : ByteArray)).bind fun t1218 => (some (t1217 == t1218)))) else (some false))) else (some false))) else (some false)))
def laws_FnSourceParts.f (k : Nat) (l0 : List Int) : Option (Bool) := if (l0.length : Int) > 1048576 then (some true) else ((spec_DrawProgramText.f k l0).bind fun bt1202 => ((impl_ProgramText.f k bt1202.1 bt1202.2).bind fun t1209 => ((spec_ProgramText.f k bt1202.1 bt1202.2).bind fun t1210 => (if t1209.toList = t1210.toList then (laws_FnSourceParts.j0 k t1209 t1210 (t1209.toList == ([] : List UInt8)) bt1202.1 bt1202.2) else (laws_FnSourceParts.j0 k t1209 t1210 true bt1202.1 bt1202.2)))))
end Go.Proofs.YtjamfkpgmkhbnaaGreatDoor.PA

namespace Go.Proofs.YtjamfkpgmkhbnaaGreatDoor.Open
open Go.ChangeShapes Go.WideShapes Go.RowKit Go.Proofs.YtjamfkpgmkhbnaaGreatDoorW.PrintWords
section
variable {H : Type} {enc : TypeId × Value → H} {P : Program} {w : World} {base : Nat} {spare : Nat → Bool} {held : Bool}
def Opn {α : Type} (enc : TypeId × Value → H) (P : Program) (w : World) (base : Nat) (spare : Nat → Bool) (held : Bool) (F : Nat) (t : TypeId) (d : Kd α) (G : α → Prop) : Prop :=
 ∀ f, f ≤ F → ∀ cs x, DataW.trod enc P w base spare held f t cs = some x → ∃ a, d.K w a cs ∧ G a
theorem Opn.le {α : Type} {F F' : Nat} {t : TypeId} {d : Kd α} {G : α → Prop} (h : Opn enc P w base spare held F t d G) (hf : F' ≤ F) : Opn enc P w base spare held F' t d G :=
 fun f hl => h f (Nat.le_trans hl hf)
theorem Opn.int {F : Nat} {t : TypeId} {k : IntKind} (hu : P.underlying t = some (.int k)) : Opn enc P w base spare held F t (Kd.int k) (fun n => (Lit.int k n).wf = true) := by
 intro f _ cs x h
 cases f with
 | zero => simp [DataW.trod] at h
 | succ n =>
  obtain ⟨m, rfl, hw⟩ : ∃ m, cs = [.int k m] ∧ (Lit.int k m).wf = true := by
   unfold DataW.trod at h
   rw [hu] at h
   split at h <;> simp_all
  exact ⟨m, rfl, hw⟩
theorem collect {α : Type} {Q : Nat → α → Prop} : ∀ m, (∀ i, i < m → ∃ a, Q i a) → ∃ l : List α, l.length = m ∧ ∀ i p, l[i]? = some p → Q i p
 | 0, _ => ⟨[], rfl, fun i p h => by simp at h⟩
 | m + 1, h => by
  obtain ⟨l, hl, hq⟩ := collect m (fun i hi => h i (by omega))
  obtain ⟨a, ha⟩ := h m (by omega)
  refine ⟨l ++ [a], by simp [hl], fun i p hp => ?_⟩
  rcases Nat.lt_or_ge i l.length with hlt | hge
  ·rw [List.getElem?_append_left hlt] at hp
   exact hq i p hp
  ·rw [List.getElem?_append_right hge] at hp
   have hi : i - l.length = 0 := by
    rcases Nat.eq_zero_or_pos (i - l.length) with h0 | h0
    ·exact h0
    ·rw [List.getElem?_eq_none (by simp; omega)] at hp
     cases hp
   rw [hi] at hp
   simp at hp
   subst hp
   have : i = m := by omega
   subst this
   exact ha
theorem Opn.slice {α : Type} {F : Nat} {t e : TypeId} {d : Kd α} {G : α → Prop} (hu : P.underlying t = some (.slice e)) (hc : P.cellsOf e = d.sz) (h : ∀ F', F' < F → Opn enc P w base spare held F' e d G) :
  Opn enc P w base spare held F t (Kd.slice e d) (fun l => l.length ≤ maxLen ∧ ∀ x ∈ l, G x) := by
 intro f hfF cs x hx
 rcases DataW.trod_slice hu hx with ⟨rfl, _⟩ | ⟨a, len, cap, elems, rest, n, rfl, rfl, _, _, hl, hm, hlen, hel, _, _⟩
 ·exact ⟨[], ⟨none, 0, rfl, Nat.le_refl _, rfl, by simp, fun hp => absurd hp (Nat.lt_irrefl 0)⟩, by simp, fun x hx => by simp at hx⟩
 ·obtain ⟨l, hll, hq⟩ := collect (Q := fun i p => (∃ c, c.length = d.sz ∧ d.K w p c ∧ ∀ j u, c[j]? = some u → w.cell? (a.add (i * d.sz + j)) = some u) ∧ G p) len (fun i hi => by
   have h1 := hel i hi
   have h2 : elems[i]? = some (elems[i]'(by omega)) := List.getElem?_eq_getElem (by omega)
   rw [h2] at h1
   obtain ⟨c, hc1, hc2⟩ := Option.bind_eq_some_iff.1 h1
   obtain ⟨p, hp, hg⟩ := h n (by omega) n (Nat.le_refl _) c _ hc2
   obtain ⟨_, hcl, hat⟩ := World.cells?_some hc1
   refine ⟨p, ⟨c, d.K_len hp, hp, fun j u hj => ?_⟩, hg⟩
   have hjl : j < c.length := (List.getElem?_eq_some_iff.1 hj).1
   have h3 := hat j (by omega)
   rw [hj] at h3
   rw [← hc, ← Go.Deep.add_add]
   exact h3)
  have hml : maxLen = 9223372036854775807 := rfl
  refine ⟨l, ⟨some a, cap, by rw [hll], by omega, rfl, by omega, fun _ => ⟨a, rfl, fun j p hj => (hq j p hj).1⟩⟩, by omega, fun x hx => ?_⟩
  obtain ⟨i, hi, rfl⟩ := List.getElem_of_mem hx
  exact (hq i _ (List.getElem?_eq_getElem hi)).2
theorem field {α : Type} {n o s j : Nat} {t : TypeId} {fs : Array Field} {f : Field} {cs : List Value} {xs : List (DataW H × List MemPlace)} {d : Kd α} {G : α → Prop}
  (hg : ∀ (i : Nat) (f : Field), fs[i]? = some f → DataW.trod enc P w base spare held n f.type ((cs.drop f.offset).take (P.cellsOf f.type)) = xs[i]?) (hxl : xs.length = fs.size)
  (hj : fs[j]? = some f) (ho : f.offset = o) (hs : P.cellsOf f.type = s) (ht : f.type = t) (h : Opn enc P w base spare held n t d G) : ∃ a, d.K w a ((cs.drop o).take s) ∧ G a := by
 have h1 := hg j f hj
 have hjl : j < fs.size := (Array.getElem?_eq_some_iff.1 hj).1
 rw [List.getElem?_eq_getElem (by omega), ho, hs, ht] at h1
 exact h n (Nat.le_refl _) _ _ h1
theorem parts_cons {o s o' : Nat} {cs c0 : List Value} (h : (cs.drop o).take s = c0) (ho : o + s = o') : cs.drop o = c0 ++ cs.drop o' := by
 rw [← h, ← ho, ← List.drop_drop, List.take_append_drop]
theorem parts_nil {o : Nat} {cs : List Value} (h : cs.length = o) : cs.drop o = [] := by rw [List.drop_eq_nil_iff]; omega
end
end Go.Proofs.YtjamfkpgmkhbnaaGreatDoor.Open

namespace Go.Proofs.YtjamfkpgmkhbnaaGreatDoor.PA
open Go.RowKit Go.Proofs.YtjamfkpgmkhbnaaGreatDoorW.PrintWords Go.Proofs.YtjamfkpgmkhbnaaGreatDoor.Open
set_option linter.unusedVariables false
inductive WF111 : S111 → Prop
 | mk (x : S111) (h0 : (Lit.int .i64 x.f0).wf = true) (h1 : (Lit.int .i64 x.f1).wf = true) (h2 : x.f2.length ≤ maxLen) (g2 : ∀ y ∈ x.f2, WF111 y) : WF111 x
theorem opn111 {H : Type} {enc : TypeId × Value → H} {w : World} {base : Nat} {spare : Nat → Bool} {held : Bool} (F : Nat) : Opn enc Tryz.prog w base spare held F 111 k111 WF111 := by
 induction F using Nat.strongRecOn with
 | _ F ih =>
 intro f hfF cs x h
 obtain ⟨xs, n, rfl, _, hcs, hxl, hg⟩ := DataW.trod_struct Tryz.underlying111 h
 replace hcs : cs.length = 3 := hcs.trans (by kernel_rfl)
 obtain ⟨a0, K0, G0⟩ := field (j := 0) (o := 0) (s := 1) (t := 3) hg hxl rfl rfl (by kernel_rfl) rfl (Opn.int Tryz.underlying3)
 have E0 : (cs.drop 0).take 1 = [.int .i64 a0] := K0
 obtain ⟨a1, K1, G1⟩ := field (j := 1) (o := 1) (s := 1) (t := 3) hg hxl rfl rfl (by kernel_rfl) rfl (Opn.int Tryz.underlying3)
 have E1 : (cs.drop 1).take 1 = [.int .i64 a1] := K1
 obtain ⟨a2, K2, G2⟩ := field (j := 2) (o := 2) (s := 1) (t := 109) hg hxl rfl rfl (by kernel_rfl) rfl (Opn.slice Tryz.underlying109 (by kernel_rfl) (fun F' hF' => (ih F' (by omega))))
 obtain ⟨A2, c2, E2, L2, C2⟩ := K2
 have e : cs = [.int .i64 a0, .int .i64 a1, .slice A2 a2.length c2] := by
  rw [show cs = cs.drop 0 from rfl, (parts_cons (o' := 1) E0 rfl), (parts_cons (o' := 2) E1 rfl), (parts_cons (o' := 3) E2 rfl), parts_nil hcs]
  rfl
 subst e
 exact ⟨⟨a0, a1, a2⟩, k111_mk w ⟨a0, a1, a2⟩ L2 C2, WF111.mk _ G0 G1 G2.1 G2.2⟩
inductive WF113 : S113 → Prop
 | mk (x : S113) (h0 : (Lit.int .i64 x.f0).wf = true) (h1 : (Lit.int .i64 x.f1).wf = true) (h2 : (Lit.int .i64 x.f2).wf = true) (h3 : WF111 x.f3) (h4 : x.f4.length ≤ maxLen) (g4 : ∀ y ∈ x.f4, WF113 y) (h5 : x.f5.length ≤ maxLen) (g5 : ∀ y ∈ x.f5, WF113 y) : WF113 x
theorem opn113 {H : Type} {enc : TypeId × Value → H} {w : World} {base : Nat} {spare : Nat → Bool} {held : Bool} (F : Nat) : Opn enc Tryz.prog w base spare held F 113 k113 WF113 := by
 induction F using Nat.strongRecOn with
 | _ F ih =>
 intro f hfF cs x h
 obtain ⟨xs, n, rfl, _, hcs, hxl, hg⟩ := DataW.trod_struct Tryz.underlying113 h
 replace hcs : cs.length = 8 := hcs.trans (by kernel_rfl)
 obtain ⟨a0, K0, G0⟩ := field (j := 0) (o := 0) (s := 1) (t := 3) hg hxl rfl rfl (by kernel_rfl) rfl (Opn.int Tryz.underlying3)
 have E0 : (cs.drop 0).take 1 = [.int .i64 a0] := K0
 obtain ⟨a1, K1, G1⟩ := field (j := 1) (o := 1) (s := 1) (t := 3) hg hxl rfl rfl (by kernel_rfl) rfl (Opn.int Tryz.underlying3)
 have E1 : (cs.drop 1).take 1 = [.int .i64 a1] := K1
 obtain ⟨a2, K2, G2⟩ := field (j := 2) (o := 2) (s := 1) (t := 3) hg hxl rfl rfl (by kernel_rfl) rfl (Opn.int Tryz.underlying3)
 have E2 : (cs.drop 2).take 1 = [.int .i64 a2] := K2
 obtain ⟨a3, K3, G3⟩ := field (j := 3) (o := 3) (s := 3) (t := 111) hg hxl rfl rfl (by kernel_rfl) rfl (opn111 _)
 obtain ⟨A3_2, c3_2, E3, L3_2, C3_2⟩ := k111_open K3
 obtain ⟨a4, K4, G4⟩ := field (j := 4) (o := 6) (s := 1) (t := 83) hg hxl rfl rfl (by kernel_rfl) rfl (Opn.slice Tryz.underlying83 (by kernel_rfl) (fun F' hF' => (ih F' (by omega))))
 obtain ⟨A4, c4, E4, L4, C4⟩ := K4
 obtain ⟨a5, K5, G5⟩ := field (j := 5) (o := 7) (s := 1) (t := 83) hg hxl rfl rfl (by kernel_rfl) rfl (Opn.slice Tryz.underlying83 (by kernel_rfl) (fun F' hF' => (ih F' (by omega))))
 obtain ⟨A5, c5, E5, L5, C5⟩ := K5
 have e : cs = [.int .i64 a0, .int .i64 a1, .int .i64 a2, .int .i64 a3.f0, .int .i64 a3.f1, .slice A3_2 a3.f2.length c3_2, .slice A4 a4.length c4, .slice A5 a5.length c5] := by
  rw [show cs = cs.drop 0 from rfl, (parts_cons (o' := 1) E0 rfl), (parts_cons (o' := 2) E1 rfl), (parts_cons (o' := 3) E2 rfl), (parts_cons (o' := 6) E3 rfl), (parts_cons (o' := 7) E4 rfl), (parts_cons (o' := 8) E5 rfl), parts_nil hcs]
  rfl
 subst e
 exact ⟨⟨a0, a1, a2, a3, a4, a5⟩, k113_mk w ⟨a0, a1, a2, a3, a4, a5⟩ L3_2 C3_2 L4 C4 L5 C5, WF113.mk _ G0 G1 G2 G3 G4.1 G4.2 G5.1 G5.2⟩
end Go.Proofs.YtjamfkpgmkhbnaaGreatDoor.PA

namespace Go.Proofs.YtjamfkpgmkhbnaaGreatDoor.PA
open Go.RowKit Go.Proofs.YtjamfkpgmkhbnaaGreatDoorW.PrintWords
def laws_FnExactProgramText.Pure : Prop := ∀ (l0_0 : List Int) (l0_1 : List (List (S113))), (l0_0.length ≤ maxLen ∧ ∀ y ∈ l0_0, (Lit.int .i64 y).wf = true) → (l0_1.length ≤ maxLen ∧ ∀ y ∈ l0_1, (y.length ≤ maxLen ∧ ∀ yy ∈ y, WF113 yy)) → ∃ k, laws_FnExactProgramText.f k l0_0 l0_1 = some true
end Go.Proofs.YtjamfkpgmkhbnaaGreatDoor.PA

namespace Go.Proofs.YtjamfkpgmkhbnaaGreatDoor.PA
open Go.RowKit Go.Proofs.YtjamfkpgmkhbnaaGreatDoorW.PrintWords Go.Proofs.YtjamfkpgmkhbnaaGreatDoorW.PrintLast Go.Proofs.YtjamfkpgmkhbnaaGreatDoorW.PrintMore
attribute [local go_sem] max2_int min2_int max_two min_two max_three min_three max_four min_four
set_option linter.unusedVariables false
set_option linter.unusedSimpArgs false
theorem impl_roomsValid.mono_l : ∀ k, (∀ y0 y1 y2 y3, LeO (impl_roomsValid.l0 k y0 y1 y2 y3) (impl_roomsValid.l0 (k + 1) y0 y1 y2 y3))
 | 0 => fun _ _ _ _ r h => by simp [impl_roomsValid.l0] at h
 | k + 1 => by
  have ih0 := impl_roomsValid.mono_l k
  ·intro y0 y1 y2 y3
   unfold impl_roomsValid.l0
   exact mo_
theorem impl_roomsValid.mono : ∀ a0 k, LeO (impl_roomsValid.f k a0) (impl_roomsValid.f (k + 1) a0) := by
 intro a0 k
 have ih0 := impl_roomsValid.mono_l k
 unfold impl_roomsValid.f
 exact mo_
theorem impl_roomsValid.calls (k : Nat) (A0 : Option Addr) (c0 : Nat) (l0 : List Int) (r : Bool) (w : World) (hr0 : Kd.C (Kd.int .i64) w A0 l0.length l0) (hc0 : l0.length ≤ c0) (h : impl_roomsValid.f k l0 = some r) :
  Calls Tryz.prog 39 #[.slice A0 l0.length c0] w fun e w' => e = .returned (.bool r) ∧ Drawn0 w w' := by
 have HR0 := am hr0
 have HC0 := am hc0
 clear hr0 hc0
 have H : (impl_roomsValid.l0 k l0 l0 (l0.length : Int) 0) = some r := h
 clear h
 have H' := am H
 clear H
 go_enter Tryz.func39, Tryz.ntmps39
 go_wp2
 go_loopg [7] k (fun kq v7 w' => ∃ (x7_1 : Int), v7 = .int .i64 x7_1 ∧ Aside0 (impl_roomsValid.l0 kq l0 l0 (l0.length : Int) x7_1 = some r) ∧ Aside0 (kq ≤ k) ∧ Drawn0 w w')
 case atStart => exact ⟨(0), sd_, H', ⟨Nat.le_refl _⟩, ab18_⟩
 case round =>
  clear H'
  obtain ⟨x7_1, rfl, HA, HK1, ⟨m1, rfl⟩⟩ := hrel
  cases gk with
  | zero => exact absurd HA.out (by simp [impl_roomsValid.l0])
  | succ k1 =>
   have H := HA.out
   clear HA
   simp only [impl_roomsValid.l0] at H
   by_cases c2 : x7_1 < (l0.length : Int)
   ·rw [if_pos c2] at H
    have c2b0 : decide (x7_1 < (l0.length : Int)) = true := decide_eq_true c2
    clear c2
    by_cases c3 : 0 ≤ x7_1
    ·rw [if_pos c3] at H
     have c3b0 : decide (0 ≤ x7_1) = true := decide_eq_true c3
     clear c3
     by_cases c4 : x7_1 < (l0.length : Int)
     ·rw [if_pos c4] at H
      have c4b0 : decide (x7_1 < (l0.length : Int)) = true := decide_eq_true c4
      clear c4
      by_cases c5 : (rd l0 x7_1) < 1
      ·rw [if_pos c5] at H
       have c5b0 : decide ((rd l0 x7_1) < 1) = true := decide_eq_true c5
       clear c5
       obtain rfl := Option.some.inj H
       have p20 : 0 ≤ (x7_1 : Int) := of_decide_eq_true asm_
       have q20 : x7_1 < (l0.length : Int) := of_decide_eq_true asm_
       obtain ⟨ad20, e20, hx20_0⟩ := Kd.at_int HR0.out x7_1 p20 q20
       cases e20
       replace p20 := eq_true p20
       replace q20 := eq_true q20
       go_wp2
       go_ret
       exact ⟨sd_, ab18_⟩
      rw [if_neg c5] at H
      have c5b0 : decide ((rd l0 x7_1) < 1) = false := decide_eq_false c5
      clear c5
      by_cases c6 : (rd l0 x7_1) > 4
      ·rw [if_pos c6] at H
       have c6b0 : decide (4 < (rd l0 x7_1)) = true := decide_eq_true c6
       clear c6
       obtain rfl := Option.some.inj H
       have p20 : 0 ≤ (x7_1 : Int) := of_decide_eq_true asm_
       have q20 : x7_1 < (l0.length : Int) := of_decide_eq_true asm_
       obtain ⟨ad20, e20, hx20_0⟩ := Kd.at_int HR0.out x7_1 p20 q20
       cases e20
       replace p20 := eq_true p20
       replace q20 := eq_true q20
       go_wp2
       go_ret
       exact ⟨sd_, ab18_⟩
      rw [if_neg c6] at H
      have c6b0 : decide (4 < (rd l0 x7_1)) = false := decide_eq_false c6
      clear c6
      have H' := am H
      clear H
      have p20 : 0 ≤ (x7_1 : Int) := of_decide_eq_true asm_
      have q20 : x7_1 < (l0.length : Int) := of_decide_eq_true asm_
      obtain ⟨ad20, e20, hx20_0⟩ := Kd.at_int HR0.out x7_1 p20 q20
      cases e20
      replace p20 := eq_true p20
      replace q20 := eq_true q20
      go_wp2
      go_roundg k1
      case measure => have := HK1.out; omega
      case rel => exact ⟨(wrap64 (x7_1 + 1)), sd_, H', ⟨by have := HK1.out; omega⟩, ab18_⟩
     rw [if_neg c4] at H
     exact absurd H (by simp)
    rw [if_neg c3] at H
    exact absurd H (by simp)
   rw [if_neg c2] at H
   have c2b0 : decide (x7_1 < (l0.length : Int)) = false := decide_eq_false c2
   clear c2
   obtain rfl := Option.some.inj H
   go_wp2
   go_ret
   exact ⟨sd_, ab18_⟩
theorem impl_OpValid.calls (a0 : Int) (r : Bool) (w : World) (h : impl_OpValid.f a0 = some r) :
  Calls Tryz.prog 115 #[.int .i64 a0] w fun e w' => e = .returned (.bool r) ∧ Drawn0 w w' := by
 have H : (if a0 ≥ 1 then (some (decide (a0 ≤ 12))) else (some false)) = some r := h
 clear h
 by_cases c2 : a0 ≥ 1
 ·rw [if_pos c2] at H
  have c2b0 : decide (1 ≤ a0) = true := decide_eq_true c2
  clear c2
  obtain rfl := Option.some.inj H
  go_enter Tryz.func115, Tryz.ntmps115
  go_wp2
  go_ret
  exact ⟨sd_, ab18_⟩
 rw [if_neg c2] at H
 have c2b0 : decide (1 ≤ a0) = false := decide_eq_false c2
 clear c2
 obtain rfl := Option.some.inj H
 go_enter Tryz.func115, Tryz.ntmps115
 go_wp2
 go_ret
 exact ⟨sd_, ab18_⟩
theorem impl_exprValid.mono_l : ∀ k, (∀ y0 y1 y2 y3, LeO (impl_exprValid.f k y0 y1 y2 y3) (impl_exprValid.f (k + 1) y0 y1 y2 y3))
 | 0 => fun _ _ _ _ r h => by simp [impl_exprValid.f] at h
 | k + 1 => by
  have ih0 := impl_exprValid.mono_l k
  ·intro y0 y1 y2 y3
   unfold impl_exprValid.f
   exact mo_
theorem impl_exprValid.mono : ∀ a0 a1 a2 a3 k, LeO (impl_exprValid.f k a0 a1 a2 a3) (impl_exprValid.f (k + 1) a0 a1 a2 a3) := by
 intro a0 a1 a2 a3 k
 have ih0 := impl_exprValid.mono_l k
 exact ih0 a0 a1 a2 a3
theorem impl_exprValid.calls (k : Nat) : ∀ (a0_0 : Int) (a0_1 : Int) (A0_2 : Option Addr) (c0_2 : Nat) (l0_2 : List (S56)) (a1 : Int) (r : Bool) (w : World) (hr0_2 : Kd.C k56 w A0_2 l0_2.length l0_2) (hc0_2 : l0_2.length ≤ c0_2) (h : impl_exprValid.f k a0_0 a0_1 l0_2 a1 = some r),
  Calls Tryz.prog 131 #[.agg #[.int .i64 a0_0, .int .i64 a0_1, .slice A0_2 l0_2.length c0_2], .int .i64 a1] w fun e w' => e = .returned (.bool r) ∧ Below w.heap.size w w' := by
 induction k using Nat.strongRecOn with
 | _ k ih =>
 intro a0_0 a0_1 A0_2 c0_2 l0_2 a1 r w hr0_2 hc0_2 h
 cases k with
 | zero => exact absurd h (by simp [impl_exprValid.f])
 | succ k =>
 simp only [impl_exprValid.f] at h
 have hu56 := Tryz.underlying56
 have HR0_2 := am hr0_2
 have HC0_2 := am hc0_2
 clear hr0_2 hc0_2
 have HB := am (Below.refl w.heap.size w)
 have H : (if a0_0 = 0 then (if a0_1 ≥ 0 then (if a0_1 ≤ 99999 then (if (l0_2.length : Int) = 0 then (some (decide (a1 > 0))) else (some false)) else (some false)) else (some false)) else (if a0_0 = 13 then (if a0_1 ≥ 0 then (if a0_1 < 4 then (if (l0_2.length : Int) = 0 then (some (decide (a1 > 0))) else (some false)) else (some false)) else (some false)) else ((impl_OpValid.f a0_0).bind fun t20 => (if t20 = true then (if a0_1 = 0 then (if (l0_2.length : Int) = 2 then (if a1 > 1 then (if 0 < (l0_2.length : Int) then ((impl_exprValid.f k ((rd_T56 l0_2 0).f0) ((rd_T56 l0_2 0).f1) ((rd_T56 l0_2 0).f2) (wrap64 (a1 - 1))).bind fun t21 => (if t21 = true then (if 1 < (l0_2.length : Int) then ((impl_exprValid.f k ((rd_T56 l0_2 1).f0) ((rd_T56 l0_2 1).f1) ((rd_T56 l0_2 1).f2) (wrap64 (a1 - 1))).bind fun t22 => (some t22)) else (none)) else (some false))) else (none)) else (some false)) else (some false)) else (some false)) else (some false))))) = some r := h
 clear h
 have HH_ := am H
 clear H
 go_enter Tryz.func131, Tryz.ntmps131
 go_upto_region 1 with (first | ((with_reducible refine gate_dst (N := 2) rfl ?_); (try (refine gate_guard (by rfl) ?_; dsimp only)); refine box_event rfl (N := 2) rfl (cs := #[.int .i64 a0_0, .int .i64 a0_1, .slice A0_2 l0_2.length c0_2]) (t := 56) rn_ ?_; intro gb23 hg w7 hbox hb; have BK23 := am (hbox); have GW23 := am ((by rw [hg]; exact (below_size ab2_) : w.heap.size ≤ gb23)); have GE23 := am ((by rw [hg]; exact (below_size ab2_) : w.heap.size ≤ gb23)); replace HB := am (below_step ab2_ hb); clear hb hbox hg; obtain ⟨hcz8_0, hcz8_1, hcz8_2, hfz8_0, hfz8_1, hfz8_2⟩ := bcf3_ BK23.out))
 have H := HH_.out
 clear HH_
 by_cases c3 : a0_0 = 0
 ·rw [if_pos c3] at H
  have c3b0 : (a0_0 == 0) = true := beq_iff_eq.mpr c3
  have c3b1 : (a0_0 != 0) = false := bne_eq_false_iff_eq.mpr c3
  clear c3
  by_cases c4 : a0_1 ≥ 0
  ·rw [if_pos c4] at H
   have c4b0 : decide (0 ≤ a0_1) = true := decide_eq_true c4
   clear c4
   by_cases c5 : a0_1 ≤ 99999
   ·rw [if_pos c5] at H
    have c5b0 : decide (a0_1 ≤ 99999) = true := decide_eq_true c5
    clear c5
    by_cases c6 : (l0_2.length : Int) = 0
    ·rw [if_pos c6] at H
     have c6b0 : ((l0_2.length : Int) == 0) = true := beq_iff_eq.mpr c6
     have c6b1 : ((l0_2.length : Int) != 0) = false := bne_eq_false_iff_eq.mpr c6
     clear c6
     obtain rfl := Option.some.inj H
     go_wp2
     go_ret
     exact ⟨rr_, ab31_⟩
    rw [if_neg c6] at H
    have c6b0 : ((l0_2.length : Int) == 0) = false := beq_eq_false_iff_ne.mpr c6
    have c6b1 : ((l0_2.length : Int) != 0) = true := bne_iff_ne.mpr c6
    have c6b2 : ¬ (l0_2 = []) := fun h_ => c6 (by rw [h_]; rfl)
    obtain rfl := Option.some.inj H
    go_wp2
    go_ret
    exact ⟨rr_, ab31_⟩
   rw [if_neg c5] at H
   have c5b0 : decide (a0_1 ≤ 99999) = false := decide_eq_false c5
   clear c5
   obtain rfl := Option.some.inj H
   go_wp2
   go_ret
   exact ⟨rr_, ab31_⟩
  rw [if_neg c4] at H
  have c4b0 : decide (0 ≤ a0_1) = false := decide_eq_false c4
  clear c4
  obtain rfl := Option.some.inj H
  go_wp2
  go_ret
  exact ⟨rr_, ab31_⟩
 rw [if_neg c3] at H
 have c3b0 : (a0_0 == 0) = false := beq_eq_false_iff_ne.mpr c3
 have c3b1 : (a0_0 != 0) = true := bne_iff_ne.mpr c3
 by_cases c15 : a0_0 = 13
 ·rw [if_pos c15] at H
  have c15b0 : (a0_0 == 13) = true := beq_iff_eq.mpr c15
  have c15b1 : (a0_0 != 13) = false := bne_eq_false_iff_eq.mpr c15
  clear c15
  by_cases c16 : a0_1 ≥ 0
  ·rw [if_pos c16] at H
   have c16b0 : decide (0 ≤ a0_1) = true := decide_eq_true c16
   clear c16
   by_cases c17 : a0_1 < 4
   ·rw [if_pos c17] at H
    have c17b0 : decide (a0_1 < 4) = true := decide_eq_true c17
    clear c17
    by_cases c18 : (l0_2.length : Int) = 0
    ·rw [if_pos c18] at H
     have c18b0 : ((l0_2.length : Int) == 0) = true := beq_iff_eq.mpr c18
     have c18b1 : ((l0_2.length : Int) != 0) = false := bne_eq_false_iff_eq.mpr c18
     clear c18
     obtain rfl := Option.some.inj H
     go_wp2
     go_ret
     exact ⟨rr_, ab31_⟩
    rw [if_neg c18] at H
    have c18b0 : ((l0_2.length : Int) == 0) = false := beq_eq_false_iff_ne.mpr c18
    have c18b1 : ((l0_2.length : Int) != 0) = true := bne_iff_ne.mpr c18
    have c18b2 : ¬ (l0_2 = []) := fun h_ => c18 (by rw [h_]; rfl)
    obtain rfl := Option.some.inj H
    go_wp2
    go_ret
    exact ⟨rr_, ab31_⟩
   rw [if_neg c17] at H
   have c17b0 : decide (a0_1 < 4) = false := decide_eq_false c17
   clear c17
   obtain rfl := Option.some.inj H
   go_wp2
   go_ret
   exact ⟨rr_, ab31_⟩
  rw [if_neg c16] at H
  have c16b0 : decide (0 ≤ a0_1) = false := decide_eq_false c16
  clear c16
  obtain rfl := Option.some.inj H
  go_wp2
  go_ret
  exact ⟨rr_, ab31_⟩
 rw [if_neg c15] at H
 have c15b0 : (a0_0 == 13) = false := beq_eq_false_iff_ne.mpr c15
 have c15b1 : (a0_0 != 13) = true := bne_iff_ne.mpr c15
 obtain ⟨t20, A24, H⟩ := bsm H
 (try dsimp only at H)
 have A27 := am A24
 clear A24
 by_cases c28 : t20 = true
 ·subst c28
  rw [if_pos rfl] at H
  by_cases c29 : a0_1 = 0
  ·rw [if_pos c29] at H
   have c29b0 : (a0_1 == 0) = true := beq_iff_eq.mpr c29
   have c29b1 : (a0_1 != 0) = false := bne_eq_false_iff_eq.mpr c29
   clear c29
   by_cases c30 : (l0_2.length : Int) = 2
   ·rw [if_pos c30] at H
    have c30b0 : ((l0_2.length : Int) == 2) = true := beq_iff_eq.mpr c30
    have c30b1 : ((l0_2.length : Int) != 2) = false := bne_eq_false_iff_eq.mpr c30
    clear c30
    by_cases c31 : a1 > 1
    ·rw [if_pos c31] at H
     have c31b0 : decide (1 < a1) = true := decide_eq_true c31
     clear c31
     by_cases c32 : 0 < (l0_2.length : Int)
     ·rw [if_pos c32] at H
      have c32b0 : decide (0 < (l0_2.length : Int)) = true := decide_eq_true c32
      have c32b1 : decide (0 < l0_2.length) = true := decide_eq_true (by omega)
      clear c32
      obtain ⟨t21, A25, H⟩ := bsm H
      (try dsimp only at H)
      have A33 := am A25
      clear A25
      by_cases c34 : t21 = true
      ·subst c34
       rw [if_pos rfl] at H
       by_cases c35 : 1 < (l0_2.length : Int)
       ·rw [if_pos c35] at H
        have c35b0 : decide (1 < (l0_2.length : Int)) = true := decide_eq_true c35
        have c35b1 : decide (1 < l0_2.length) = true := decide_eq_true (by omega)
        clear c35
        obtain ⟨t22, A26, H⟩ := bsm H
        (try dsimp only at H)
        have A36 := am A26
        clear A26
        obtain rfl := Option.some.inj H
        go_wp2_with (first | ((with_reducible refine gate_callee (f := 115) rfl ?_); refine gl_ 51 Tryz.func115 #[.int .i64 a0_0] ?_; (with_reducible refine (impl_OpValid.calls a0_0 true _ A27.out).mono ?_); rintro e w' ⟨rfl, ⟨nd, rfl⟩⟩; refine ⟨_, rfl, ?_⟩; have p37 : 0 ≤ (0 : Int) := (by omega); have q37 : 0 < (l0_2.length : Int) := of_decide_eq_true asm_; obtain ⟨ad37, A37_2, c37_2, e37, hx37_0, hx37_1, hx37_2, hl37_2, hi37_2⟩ := at_T56 HR0_2.out 0 p37 q37; cases e37; have qi37 : (0 < l0_2.length) = True := eq_true (by omega); (try rw [show ((0 : Int)).toNat = 0 from rfl] at hx37_0); (try rw [show 0 * 3 = 0 from rfl] at hx37_0); (try rw [Addr.add_zero'] at hx37_0); (try rw [show ((0 : Int)).toNat = 0 from rfl] at hx37_1); (try rw [show 0 * 3 = 0 from rfl] at hx37_1); (try rw [Addr.add_zero'] at hx37_1); (try rw [show ((0 : Int)).toNat = 0 from rfl] at hx37_2); (try rw [show 0 * 3 = 0 from rfl] at hx37_2); (try rw [Addr.add_zero'] at hx37_2); replace hx37_0 := (HB.out.cell (World.block_lt_of_cell? w _ hx37_0)).trans hx37_0; replace hx37_1 := (HB.out.cell (World.block_lt_of_cell? w _ hx37_1)).trans hx37_1; replace hx37_2 := (HB.out.cell (World.block_lt_of_cell? w _ hx37_2)).trans hx37_2; have HR37_2 := am hi37_2; have HC37_2 := am hl37_2; clear hi37_2 hl37_2; replace p37 := eq_true p37; replace q37 := eq_true q37) | (go_at_call 131; (with_reducible refine (ih k (by omega) ((rd_T56 l0_2 0).f0) ((rd_T56 l0_2 0).f1) _ _ ((rd_T56 l0_2 0).f2) (wrap64 (a1 - 1)) true _ (aC_ (Kd.C_below HR37_2.out ab31_)) HC37_2.out A33.out).mono ?_); rintro e w39 ⟨rfl, hb⟩; replace BK23 := am (bbl_ BK23.out hb); replace HB := am (below_step ab31_ hb); (try clear hb); obtain ⟨hcz40_0, hcz40_1, hcz40_2, hfz40_0, hfz40_1, hfz40_2⟩ := bcf3_ BK23.out; have p38 : 0 ≤ (1 : Int) := (by omega); have q38 : 1 < (l0_2.length : Int) := of_decide_eq_true asm_; obtain ⟨ad38, A38_2, c38_2, e38, hx38_0, hx38_1, hx38_2, hl38_2, hi38_2⟩ := at_T56 HR0_2.out 1 p38 q38; obtain rfl : ad37 = ad38 := (by injection e38); (try simp only [show (1 : Int).toNat = 1 from rfl, Nat.reduceMul, Nat.reduceEqDiff, Go.Addr.add, ↓reduceIte] at hx38_0); (try simp only [show (1 : Int).toNat = 1 from rfl, Nat.reduceMul, Nat.reduceEqDiff, Go.Addr.add, ↓reduceIte] at hx38_1); (try simp only [show (1 : Int).toNat = 1 from rfl, Nat.reduceMul, Nat.reduceEqDiff, Go.Addr.add, ↓reduceIte] at hx38_2); have qi38 : (1 < l0_2.length) = True := eq_true (by omega); (try rw [show ((1 : Int)).toNat = 1 from rfl] at hx38_0); (try rw [show 1 * 3 = 3 from rfl] at hx38_0); (try rw [show ((1 : Int)).toNat = 1 from rfl] at hx38_1); (try rw [show 1 * 3 = 3 from rfl] at hx38_1); (try rw [show ((1 : Int)).toNat = 1 from rfl] at hx38_2); (try rw [show 1 * 3 = 3 from rfl] at hx38_2); replace hx38_0 := (HB.out.cell (World.block_lt_of_cell? w _ hx38_0)).trans hx38_0; replace hx38_1 := (HB.out.cell (World.block_lt_of_cell? w _ hx38_1)).trans hx38_1; replace hx38_2 := (HB.out.cell (World.block_lt_of_cell? w _ hx38_2)).trans hx38_2; have HR38_2 := am hi38_2; have HC38_2 := am hl38_2; clear hi38_2 hl38_2; replace p38 := eq_true p38; replace q38 := eq_true q38) | (go_at_call 131; (with_reducible refine (ih k (by omega) ((rd_T56 l0_2 1).f0) ((rd_T56 l0_2 1).f1) _ _ ((rd_T56 l0_2 1).f2) (wrap64 (a1 - 1)) t22 _ (aC_ (Kd.C_below HR38_2.out HB.out)) HC38_2.out A36.out).mono ?_); rintro e w41 ⟨rfl, hb⟩; replace BK23 := am (bbl_ BK23.out hb); replace HB := am (below_step ab31_ hb); (try clear hb)))
        go_ret
        exact ⟨rr_, ab31_⟩
       rw [if_neg c35] at H
       exact absurd H (by simp)
      replace c34 := Bool.eq_false_iff.mpr c34
      subst c34
      rw [if_neg (show ¬ (false = true) by decide)] at H
      obtain rfl := Option.some.inj H
      go_wp2_with (first | ((with_reducible refine gate_callee (f := 115) rfl ?_); refine gl_ 51 Tryz.func115 #[.int .i64 a0_0] ?_; (with_reducible refine (impl_OpValid.calls a0_0 true _ A27.out).mono ?_); rintro e w' ⟨rfl, ⟨nd, rfl⟩⟩; refine ⟨_, rfl, ?_⟩; have p37 : 0 ≤ (0 : Int) := (by omega); have q37 : 0 < (l0_2.length : Int) := of_decide_eq_true asm_; obtain ⟨ad37, A37_2, c37_2, e37, hx37_0, hx37_1, hx37_2, hl37_2, hi37_2⟩ := at_T56 HR0_2.out 0 p37 q37; cases e37; have qi37 : (0 < l0_2.length) = True := eq_true (by omega); (try rw [show ((0 : Int)).toNat = 0 from rfl] at hx37_0); (try rw [show 0 * 3 = 0 from rfl] at hx37_0); (try rw [Addr.add_zero'] at hx37_0); (try rw [show ((0 : Int)).toNat = 0 from rfl] at hx37_1); (try rw [show 0 * 3 = 0 from rfl] at hx37_1); (try rw [Addr.add_zero'] at hx37_1); (try rw [show ((0 : Int)).toNat = 0 from rfl] at hx37_2); (try rw [show 0 * 3 = 0 from rfl] at hx37_2); (try rw [Addr.add_zero'] at hx37_2); replace hx37_0 := (HB.out.cell (World.block_lt_of_cell? w _ hx37_0)).trans hx37_0; replace hx37_1 := (HB.out.cell (World.block_lt_of_cell? w _ hx37_1)).trans hx37_1; replace hx37_2 := (HB.out.cell (World.block_lt_of_cell? w _ hx37_2)).trans hx37_2; have HR37_2 := am hi37_2; have HC37_2 := am hl37_2; clear hi37_2 hl37_2; replace p37 := eq_true p37; replace q37 := eq_true q37) | (go_at_call 131; (with_reducible refine (ih k (by omega) ((rd_T56 l0_2 0).f0) ((rd_T56 l0_2 0).f1) _ _ ((rd_T56 l0_2 0).f2) (wrap64 (a1 - 1)) false _ (aC_ (Kd.C_below HR37_2.out ab31_)) HC37_2.out A33.out).mono ?_); rintro e w44 ⟨rfl, hb⟩; replace BK23 := am (bbl_ BK23.out hb); replace HB := am (below_step ab31_ hb); (try clear hb)))
      go_ret
      exact ⟨rr_, ab31_⟩
     rw [if_neg c32] at H
     exact absurd H (by simp)
    rw [if_neg c31] at H
    have c31b0 : decide (1 < a1) = false := decide_eq_false c31
    clear c31
    obtain rfl := Option.some.inj H
    go_wp2_with (first | ((with_reducible refine gate_callee (f := 115) rfl ?_); refine gl_ 51 Tryz.func115 #[.int .i64 a0_0] ?_; (with_reducible refine (impl_OpValid.calls a0_0 true _ A27.out).mono ?_); rintro e w' ⟨rfl, ⟨nd, rfl⟩⟩; refine ⟨_, rfl, ?_⟩))
    go_ret
    exact ⟨rr_, ab31_⟩
   rw [if_neg c30] at H
   have c30b0 : ((l0_2.length : Int) == 2) = false := beq_eq_false_iff_ne.mpr c30
   have c30b1 : ((l0_2.length : Int) != 2) = true := bne_iff_ne.mpr c30
   obtain rfl := Option.some.inj H
   go_wp2_with (first | ((with_reducible refine gate_callee (f := 115) rfl ?_); refine gl_ 51 Tryz.func115 #[.int .i64 a0_0] ?_; (with_reducible refine (impl_OpValid.calls a0_0 true _ A27.out).mono ?_); rintro e w' ⟨rfl, ⟨nd, rfl⟩⟩; refine ⟨_, rfl, ?_⟩))
   go_ret
   exact ⟨rr_, ab31_⟩
  rw [if_neg c29] at H
  have c29b0 : (a0_1 == 0) = false := beq_eq_false_iff_ne.mpr c29
  have c29b1 : (a0_1 != 0) = true := bne_iff_ne.mpr c29
  obtain rfl := Option.some.inj H
  go_wp2_with (first | ((with_reducible refine gate_callee (f := 115) rfl ?_); refine gl_ 51 Tryz.func115 #[.int .i64 a0_0] ?_; (with_reducible refine (impl_OpValid.calls a0_0 true _ A27.out).mono ?_); rintro e w' ⟨rfl, ⟨nd, rfl⟩⟩; refine ⟨_, rfl, ?_⟩))
  go_ret
  exact ⟨rr_, ab31_⟩
 replace c28 := Bool.eq_false_iff.mpr c28
 subst c28
 rw [if_neg (show ¬ (false = true) by decide)] at H
 obtain rfl := Option.some.inj H
 go_wp2_with (first | ((with_reducible refine gate_callee (f := 115) rfl ?_); refine gl_ 51 Tryz.func115 #[.int .i64 a0_0] ?_; (with_reducible refine (impl_OpValid.calls a0_0 false _ A27.out).mono ?_); rintro e w' ⟨rfl, ⟨nd, rfl⟩⟩; refine ⟨_, rfl, ?_⟩))
 go_ret
 exact ⟨rr_, ab31_⟩
theorem impl_ExprValid.mono : ∀ a0 a1 a2 k, LeO (impl_ExprValid.f k a0 a1 a2) (impl_ExprValid.f (k + 1) a0 a1 a2) := by
 intro a0 a1 a2 k
 unfold impl_ExprValid.f
 have m0 := @impl_exprValid.mono
 exact mo_
theorem impl_ExprValid.calls (k : Nat) (a0_0 : Int) (a0_1 : Int) (A0_2 : Option Addr) (c0_2 : Nat) (l0_2 : List (S56)) (r : Bool) (w : World) (hr0_2 : Kd.C k56 w A0_2 l0_2.length l0_2) (hc0_2 : l0_2.length ≤ c0_2) (h : impl_ExprValid.f k a0_0 a0_1 l0_2 = some r) :
  Calls Tryz.prog 109 #[.agg #[.int .i64 a0_0, .int .i64 a0_1, .slice A0_2 l0_2.length c0_2]] w fun e w' => e = .returned (.bool r) ∧ Below w.heap.size w w' := by
 have hu56 := Tryz.underlying56
 have HR0_2 := am hr0_2
 have HC0_2 := am hc0_2
 clear hr0_2 hc0_2
 have HB := am (Below.refl w.heap.size w)
 have H : ((impl_exprValid.f k a0_0 a0_1 l0_2 5).bind fun t21 => (some t21)) = some r := h
 clear h
 obtain ⟨t21, A2, H⟩ := bsa H
 (try dsimp only at H)
 obtain rfl := Option.some.inj H
 go_enter Tryz.func109, Tryz.ntmps109
 go_wp2_with (first | ((with_reducible refine gate_dst (N := 1) rfl ?_); refine box_event rfl (N := 1) rfl (cs := #[.int .i64 a0_0, .int .i64 a0_1, .slice A0_2 l0_2.length c0_2]) (t := 56) rn_ ?_; intro gb22 hg w3 hbox hb; have BK22 := am (hbox); have GW22 := am ((by rw [hg]; exact (below_size ab2_) : w.heap.size ≤ gb22)); have GE22 := am ((by rw [hg]; exact (below_size ab2_) : w.heap.size ≤ gb22)); replace HB := am (below_step ab2_ hb); clear hb hbox hg; obtain ⟨hcz4_0, hcz4_1, hcz4_2, hfz4_0, hfz4_1, hfz4_2⟩ := bcf3_ BK22.out) | ((with_reducible refine gate_callee (f := 131) rfl ?_); refine gl_ 4 Tryz.func131 #[.agg #[.int .i64 a0_0, .int .i64 a0_1, .slice A0_2 l0_2.length c0_2], .int .i64 5] ?_; (with_reducible refine (impl_exprValid.calls k a0_0 a0_1 _ _ l0_2 5 t21 _ (aC_ (Kd.C_below HR0_2.out HB.out)) HC0_2.out A2.out).mono ?_); rintro e w5 ⟨rfl, hb⟩; refine ⟨_, rfl, ?_⟩; replace BK22 := am (bbl_ BK22.out hb); replace HB := am (below_step ab30_ hb); (try clear hb)))
 go_ret
 exact ⟨rr_, ab30_⟩
theorem impl_stmtValid_1.calls (n limit : Int) (needed : Bool) (w : World) :
  Calls Tryz.prog 108 #[.int .i64 n, .int .i64 limit, .bool needed] w fun e w' => e = .returned (.bool (inr n limit needed)) ∧ Drawn0 w w' := by
 by_cases h0 : n = 0
 ·subst h0
  go_enter Tryz.func108, Tryz.ntmps108
  go_wp2
  go_ret
  exact ⟨by simp [inr], ab18_⟩
 have h0b : (n == 0) = false := beq_eq_false_iff_ne.mpr h0
 cases needed with
 | false =>
  go_enter Tryz.func108, Tryz.ntmps108
  go_wp2
  go_ret
  exact ⟨by simp [inr, h0], ab18_⟩
 | true =>
  by_cases h1 : 0 < n
  ·have h1b : decide (0 < n) = true := decide_eq_true h1
   by_cases h2 : n < limit
   ·have h2b : decide (n < limit) = true := decide_eq_true h2
    go_enter Tryz.func108, Tryz.ntmps108
    go_wp2
    go_ret
    exact ⟨by simp [inr, h0]; omega, ab18_⟩
   have h2b : decide (n < limit) = false := decide_eq_false h2
   go_enter Tryz.func108, Tryz.ntmps108
   go_wp2
   go_ret
   exact ⟨by simp [inr, h0]; omega, ab18_⟩
  have h1b : decide (0 < n) = false := decide_eq_false h1
  go_enter Tryz.func108, Tryz.ntmps108
  go_wp2
  go_ret
  exact ⟨by simp [inr, h0]; omega, ab18_⟩
theorem inr_calls {n limit : Int} {needed b : Bool} (w : World) (h : inr n limit needed = b) :
  Calls Tryz.prog 108 #[.int .i64 n, .int .i64 limit, .bool needed] w fun e w' => e = .returned (.bool b) ∧ Drawn0 w w' := h ▸ impl_stmtValid_1.calls n limit needed w
theorem stv_rest.mono : ∀ nv nb ne nd no va bx op n la lb le boxes k, LeO (stv_rest k nv nb ne nd no va bx op n la lb le boxes) (stv_rest (k + 1) nv nb ne nd no va bx op n la lb le boxes) := by
 intro nv nb ne nd no va bx op n la lb le boxes k
 unfold stv_rest
 have m0 := @impl_ExprValid.mono
 exact mo_
theorem impl_stmtValid.mono : ∀ kd va bx op n la lb le boxes k, LeO (impl_stmtValid.f k kd va bx op n la lb le boxes) (impl_stmtValid.f (k + 1) kd va bx op n la lb le boxes) := by
 intro kd va bx op n la lb le boxes k
 unfold impl_stmtValid.f
 have m0 := @stv_rest.mono
 exact mo_
attribute [local irreducible] inr
theorem impl_stmtValid.callsP (k : Nat) (g : Addr) (kd va bx op n : Int) (Aa : Option Addr) (ca : Nat) (la : List S56) (Ab : Option Addr) (lb cb : Nat) (Ae : Option Addr) (le ce : Nat) (boxes : Int) (r : Bool) (w : World)
  (hg0 : w.cell? g = some (.int .i64 kd)) (hg1 : w.cell? ⟨g.block, g.off + 1, none⟩ = some (.int .i64 va)) (hg2 : w.cell? ⟨g.block, g.off + 2, none⟩ = some (.int .i64 bx))
  (hg3 : w.cell? ⟨g.block, g.off + 3, none⟩ = some (.int .i64 op)) (hg4 : w.cell? ⟨g.block, g.off + 4, none⟩ = some (.int .i64 n)) (hg5 : w.cell? ⟨g.block, g.off + 5, none⟩ = some (.slice Aa la.length ca))
  (hg6 : w.cell? ⟨g.block, g.off + 6, none⟩ = some (.slice Ab lb cb)) (hg7 : w.cell? ⟨g.block, g.off + 7, none⟩ = some (.slice Ae le ce))
  (hr : Kd.C k56 w Aa la.length la) (hc : la.length ≤ ca) (h : impl_stmtValid.f k kd va bx op n la lb le boxes = some r) :
  Calls Tryz.prog 83 #[.pointer (some g), .int .i64 boxes] w fun e w' => e = .returned (.bool r) ∧ Below w.heap.size w w' := by
 have HR := am hr
 have HC := am hc
 have HH := am h
 clear hr hc h
 go_enter Tryz.func83, Tryz.ntmps83
 go_upto_region 2 with (first | ((with_reducible refine gate_dst (N := 5) rfl ?_); refine box_event (N := 5) rfl rfl (cs := #[.bool false, .bool false, .bool false, .bool false, .bool false]) (t := 137) rn_ ?_; intro gb hg w1 hbox hb) | fail)
 have k0 := pw_cell_below hb hg0
 have z0 := blk_cell hbox 0
 have z1 := blk_cell hbox 1
 have z2 := blk_cell hbox 2
 have z3 := blk_cell hbox 3
 have z4 := blk_cell hbox 4
 have f0 := blk_frozen hbox 0
 have f1 := blk_frozen hbox 1
 have f2 := blk_frozen hbox 2
 have f3 := blk_frozen hbox 3
 have f4 := blk_frozen hbox 4
 have HBX := am hbox
 have HB := am hb
 have HG := am (Nat.le_of_eq hg.symm)
 clear hbox hb hg
 go_upto_block 0 with fail
 go_cut [4, 5] from 7 (fun v4 v5 wc => ∃ nv nb ne nd no, v5 = .pointer (some ⟨gb, 0, none⟩) ∧ Aside0 (stv_rest k nv nb ne nd no va bx op n la lb le boxes = some r) ∧ Aside0 (wc.heap[gb]? = some (.cells #[.bool nv, .bool nb, .bool ne, .bool nd, .bool no] 137 (0, 0))) ∧ Aside0 (Below w.heap.size w wc))
 case first =>
  have H := HH.out
  clear HH
  unfold impl_stmtValid.f at H
  by_cases c1 : kd = 1
  ·rw [if_pos c1] at H
   subst c1
   have H' := am H
   clear H
   go_wp2
   go_meet
   case rel => exact ⟨true, false, true, false, false, rfl, H', ⟨(blk_put (blk_put HBX.out 0 (.bool true) (by rfl)) 2 (.bool true) (by rfl))⟩, ⟨(below_set (below_set HB.out HG.out) HG.out)⟩⟩
  rw [if_neg c1] at H
  have d1 : (kd == 1) = false := beq_eq_false_iff_ne.mpr c1
  by_cases c2 : kd = 2
  ·rw [if_pos c2] at H
   subst c2
   have H' := am H
   clear H
   go_wp2
   go_meet
   case rel => exact ⟨false, false, true, true, true, rfl, H', ⟨(blk_put (blk_put (blk_put HBX.out 2 (.bool true) (by rfl)) 3 (.bool true) (by rfl)) 4 (.bool true) (by rfl))⟩, ⟨(below_set (below_set (below_set HB.out HG.out) HG.out) HG.out)⟩⟩
  rw [if_neg c2] at H
  have d2 : (kd == 2) = false := beq_eq_false_iff_ne.mpr c2
  by_cases c3 : kd = 3
  ·rw [if_pos c3] at H
   subst c3
   have H' := am H
   clear H
   go_wp2
   go_meet
   case rel => exact ⟨false, false, true, true, false, rfl, H', ⟨(blk_put (blk_put HBX.out 2 (.bool true) (by rfl)) 3 (.bool true) (by rfl))⟩, ⟨(below_set (below_set HB.out HG.out) HG.out)⟩⟩
  rw [if_neg c3] at H
  have d3 : (kd == 3) = false := beq_eq_false_iff_ne.mpr c3
  by_cases c4 : kd = 4
  ·rw [if_pos c4] at H
   subst c4
   have H' := am H
   clear H
   go_wp2
   go_meet
   case rel => exact ⟨false, true, true, false, false, rfl, H', ⟨(blk_put (blk_put HBX.out 1 (.bool true) (by rfl)) 2 (.bool true) (by rfl))⟩, ⟨(below_set (below_set HB.out HG.out) HG.out)⟩⟩
  rw [if_neg c4] at H
  have d4 : (kd == 4) = false := beq_eq_false_iff_ne.mpr c4
  by_cases c5 : kd = 5
  ·rw [if_pos c5] at H
   subst c5
   have H' := am H
   clear H
   go_wp2
   go_meet
   case rel => exact ⟨true, true, false, false, false, rfl, H', ⟨(blk_put (blk_put HBX.out 1 (.bool true) (by rfl)) 0 (.bool true) (by rfl))⟩, ⟨(below_set (below_set HB.out HG.out) HG.out)⟩⟩
  rw [if_neg c5] at H
  have d5 : (kd == 5) = false := beq_eq_false_iff_ne.mpr c5
  by_cases c7 : kd = 7
  ·rw [if_pos c7] at H
   subst c7
   have H' := am H
   clear H
   go_wp2
   go_meet
   case rel => exact ⟨false, false, true, false, false, rfl, H', ⟨(blk_put HBX.out 2 (.bool true) (by rfl))⟩, ⟨(below_set HB.out HG.out)⟩⟩
  rw [if_neg c7] at H
  have d7 : (kd == 7) = false := beq_eq_false_iff_ne.mpr c7
  by_cases c6 : kd = 6
  ·rw [if_pos c6] at H
   subst c6
   have H' := am H
   clear H
   go_wp2
   go_meet
   case rel => exact ⟨false, false, false, false, false, rfl, H', ⟨HBX.out⟩, ⟨HB.out⟩⟩
  rw [if_neg c6] at H
  have d6 : (kd == 6) = false := beq_eq_false_iff_ne.mpr c6
  obtain rfl := Option.some.inj H
  go_wp2
  go_ret
  exact ⟨rfl, HB.out⟩
 case rest =>
  obtain ⟨nv, nb, ne, nd, no, rfl, HA, HX, HW⟩ := hcut
  have k1 := pw_cell_below HW.out hg1
  have k2 := pw_cell_below HW.out hg2
  have k3 := pw_cell_below HW.out hg3
  have k4 := pw_cell_below HW.out hg4
  have k5 := pw_cell_below HW.out hg5
  have k6 := pw_cell_below HW.out hg6
  have k7 := pw_cell_below HW.out hg7
  have y0 : wc.cell? ⟨gb, 0, none⟩ = some (.bool nv) := blk_cell HX.out 0
  have y1 : wc.cell? ⟨gb, 1, none⟩ = some (.bool nb) := blk_cell HX.out 1
  have y2 : wc.cell? ⟨gb, 2, none⟩ = some (.bool ne) := blk_cell HX.out 2
  have y3 : wc.cell? ⟨gb, 3, none⟩ = some (.bool nd) := blk_cell HX.out 3
  have y4 : wc.cell? ⟨gb, 4, none⟩ = some (.bool no) := blk_cell HX.out 4
  clear k0 z0 z1 z2 z3 z4 f0 f1 f2 f3 f4 HBX HB hg0 hg1 hg2 hg3 hg4 hg5 hg6 hg7 HH
  go_upto_region 18 with fail
  (try simp only [Act.put, List.setIfInBounds_toArray, List.set_cons_zero, List.set_cons_succ])
  go_cut [69] from 37 (fun v69 wc_ => ∃ (x : Bool), v69 = .bool x ∧ Aside0 (∃ m, wc_ = wc.drewN m) ∧ Aside0 (if x = true then r = false else (if ne = true then ((impl_ExprValid.f k op n la).bind fun t => if t = true then some ((nd || lb == 0) && (no || le == 0)) else some false) else (if op = 0 then (if n = 0 then (if 0 < (la.length : Int) then some false else some ((nd || lb == 0) && (no || le == 0))) else some false) else some false)) = some r))
  case first =>
   have H := HA.out
   clear HA
   unfold stv_rest at H
   by_cases i1 : inr va 4 nv = true
   ·rw [if_pos i1] at H
    by_cases i2 : inr bx boxes nb = true
    ·rw [if_pos i2] at H
     have I1 := am i1
     have I2 := am i2
     clear i1 i2
     by_cases i3 : nb = true ∧ boxes ≤ bx
     ·rw [if_pos i3] at H
      obtain ⟨i4, i5⟩ := i3
      subst i4
      have i6 := eq_true i5
      have H' := am (Option.some.inj H)
      clear H i5
      go_big_quiet (first | (with_reducible refine Calls.quiet_of ((inr_calls _ I1.out).mono (fun e w' hq => ⟨hq.1, hq.2.out⟩))) | (with_reducible refine Calls.quiet_of ((inr_calls _ I2.out).mono (fun e w' hq => ⟨hq.1, hq.2.out⟩))))
      go_wp2
      go_meet
      case rel => exact ⟨true, rfl, ⟨_, rfl⟩, ⟨by rw [if_pos rfl]; exact H'.out.symm⟩⟩
     rw [if_neg i3] at H
     have H' := am H
     clear H
     cases nb with
     | false =>
      clear i3
      go_big_quiet (first | (with_reducible refine Calls.quiet_of ((inr_calls _ I1.out).mono (fun e w' hq => ⟨hq.1, hq.2.out⟩))) | (with_reducible refine Calls.quiet_of ((inr_calls _ I2.out).mono (fun e w' hq => ⟨hq.1, hq.2.out⟩))))
      go_wp2
      go_meet
      case rel => exact ⟨false, rfl, ⟨_, rfl⟩, ⟨by rw [if_neg (by decide)]; exact H'.out⟩⟩
     | true =>
      have i5 : ¬ boxes ≤ bx := fun h => i3 ⟨rfl, h⟩
      have i6 := eq_false i5
      clear i3 i5
      go_big_quiet (first | (with_reducible refine Calls.quiet_of ((inr_calls _ I1.out).mono (fun e w' hq => ⟨hq.1, hq.2.out⟩))) | (with_reducible refine Calls.quiet_of ((inr_calls _ I2.out).mono (fun e w' hq => ⟨hq.1, hq.2.out⟩))))
      go_wp2
      go_meet
      case rel => exact ⟨false, rfl, ⟨_, rfl⟩, ⟨by rw [if_neg (by decide)]; exact H'.out⟩⟩
    rw [if_neg i2] at H
    have I1 := am i1
    have I2 := am (Bool.eq_false_iff.mpr i2)
    clear i1 i2
    have H' := am (Option.some.inj H)
    clear H
    go_big_quiet (first | (with_reducible refine Calls.quiet_of ((inr_calls _ I1.out).mono (fun e w' hq => ⟨hq.1, hq.2.out⟩))) | (with_reducible refine Calls.quiet_of ((inr_calls _ I2.out).mono (fun e w' hq => ⟨hq.1, hq.2.out⟩))))
    go_wp2
    go_meet
    case rel => exact ⟨true, rfl, ⟨_, rfl⟩, ⟨by rw [if_pos rfl]; exact H'.out.symm⟩⟩
   rw [if_neg i1] at H
   have I1 := am (Bool.eq_false_iff.mpr i1)
   clear i1
   have H' := am (Option.some.inj H)
   clear H
   go_big_quiet (first | (with_reducible refine Calls.quiet_of ((inr_calls _ I1.out).mono (fun e w' hq => ⟨hq.1, hq.2.out⟩))))
   go_wp2
   go_meet
   case rel => exact ⟨true, rfl, ⟨_, rfl⟩, ⟨by rw [if_pos rfl]; exact H'.out.symm⟩⟩
  case rest =>
   clear HA
   obtain ⟨x, rfl, ⟨m, rfl⟩, HA⟩ := hcut
   cases x with
   | true =>
    have HA' := HA.out
    rw [if_pos rfl] at HA'
    subst HA'
    clear HA
    go_wp2
    go_ret
    exact ⟨rfl, pw_below_drewN HW.out _⟩
   | false =>
    have H := HA.out
    rw [if_neg (by decide)] at H
    clear HA
    go_upto_region 20 with fail
    (try simp only [Act.put, List.setIfInBounds_toArray, List.set_cons_zero, List.set_cons_succ])
    go_cut [109] from 70 (fun v21 wd => ∃ (x : Bool), v21 = .bool x ∧ Aside0 (Below w.heap.size w wd) ∧ Aside0 (Below wc.heap.size wc wd) ∧ Aside0 (if x = true then r = false else ((nd || lb == 0) && (no || le == 0)) = r))
    case first =>
     cases ne with
     | true =>
      rw [if_pos rfl] at H
      obtain ⟨t, ht, H⟩ := bsm H
      have HE := am ht
      have HR1 := am (Kd.C_below HR.out HW.out)
      clear ht
      cases t with
      | true =>
       rw [if_pos rfl] at H
       have H' := am (Option.some.inj H)
       clear H
       go_wp2_with (first | ((with_reducible refine (impl_ExprValid.calls k op n Aa ca la _ _ ?side1 HC.out HE.out).mono ?_); (case side1 => repeat (first | exact HR1.out | (with_reducible refine Kd.C_drewN ?_ _) | (with_reducible refine Kd.C_drew ?_))); rintro e wq ⟨rfl, hb⟩; have y2q : wq.cell? ⟨gb, 2, none⟩ = some (.bool true) := pw_cell_below (w := wc.drewN m) hb y2; have HBE := am (show Below wc.heap.size wc wq from (pw_below_drewN (Below.refl _ _) m).trans hb); clear hb; (try dsimp only)) | fail)
       go_meet
       case rel => exact ⟨false, rfl, ⟨below_step HW.out HBE.out⟩, ⟨HBE.out⟩, ⟨by rw [if_neg (by decide)]; exact H'.out⟩⟩
      | false =>
       rw [if_neg (by decide)] at H
       have H' := am (Option.some.inj H)
       clear H
       go_wp2_with (first | ((with_reducible refine (impl_ExprValid.calls k op n Aa ca la _ _ ?side1 HC.out HE.out).mono ?_); (case side1 => repeat (first | exact HR1.out | (with_reducible refine Kd.C_drewN ?_ _) | (with_reducible refine Kd.C_drew ?_))); rintro e wq ⟨rfl, hb⟩; have y2q : wq.cell? ⟨gb, 2, none⟩ = some (.bool true) := pw_cell_below (w := wc.drewN m) hb y2; have HBE := am (show Below wc.heap.size wc wq from (pw_below_drewN (Below.refl _ _) m).trans hb); clear hb; (try dsimp only)) | fail)
       go_meet
       case rel => exact ⟨true, rfl, ⟨below_step HW.out HBE.out⟩, ⟨HBE.out⟩, ⟨by rw [if_pos rfl]; exact H'.out.symm⟩⟩
     | false =>
      rw [if_neg (by decide)] at H
      by_cases j0 : op = 0
      ·rw [if_pos j0] at H
       by_cases j1 : n = 0
       ·rw [if_pos j1] at H
        subst j0
        subst j1
        by_cases j2 : 0 < (la.length : Int)
        ·rw [if_pos j2] at H
         have H' := am (Option.some.inj H)
         clear H
         have j3 := eq_true j2
         have j4 : (0 < la.length) = True := eq_true (by omega)
         clear j2
         go_wp2
         go_meet
         case rel => exact ⟨true, sd_, ⟨pw_below_drewN HW.out _⟩, ⟨pw_below_drewN (Below.refl _ _) _⟩, ⟨by rw [if_pos rfl]; exact H'.out.symm⟩⟩
        rw [if_neg j2] at H
        have H' := am (Option.some.inj H)
        clear H
        have j3 := eq_false j2
        have j4 : (0 < la.length) = False := eq_false (by omega)
        clear j2
        go_wp2
        go_meet
        case rel => exact ⟨false, sd_, ⟨pw_below_drewN HW.out _⟩, ⟨pw_below_drewN (Below.refl _ _) _⟩, ⟨by rw [if_neg (by decide)]; exact H'.out⟩⟩
       rw [if_neg j1] at H
       have H' := am (Option.some.inj H)
       clear H
       subst j0
       have j2 : (n != 0) = true := bne_iff_ne.mpr j1
       clear j1
       go_wp2
       go_meet
       case rel => exact ⟨true, sd_, ⟨pw_below_drewN HW.out _⟩, ⟨pw_below_drewN (Below.refl _ _) _⟩, ⟨by rw [if_pos rfl]; exact H'.out.symm⟩⟩
      rw [if_neg j0] at H
      have H' := am (Option.some.inj H)
      clear H
      have j2 : (op != 0) = true := bne_iff_ne.mpr j0
      clear j0
      go_wp2
      go_meet
      case rel => exact ⟨true, sd_, ⟨pw_below_drewN HW.out _⟩, ⟨pw_below_drewN (Below.refl _ _) _⟩, ⟨by rw [if_pos rfl]; exact H'.out.symm⟩⟩
    case rest =>
     clear H
     obtain ⟨x, rfl, HW2, HW3, HA⟩ := hcut
     cases x with
     | true =>
      have HA' := HA.out
      rw [if_pos rfl] at HA'
      subst HA'
      clear HA
      go_wp2
      go_ret
      exact ⟨rfl, HW2.out⟩
     | false =>
      have H := HA.out
      rw [if_neg (by decide)] at H
      subst H
      have k6' := pw_cell_below HW3.out k6
      have k7' := pw_cell_below HW3.out k7
      have y3' := pw_cell_below HW3.out y3
      have y4' := pw_cell_below HW3.out y4
      clear HA k1 k2 k3 k4 k5 k6 k7 y0 y1 y2 y3 y4
      by_cases q6 : lb = 0
      ·have p6 : ((lb : Int) == 0) = true := by rw [q6]; rfl
       by_cases q7 : le = 0
       ·have p7 : ((le : Int) == 0) = true := by rw [q7]; rfl
        have Q6 := am q6
        have Q7 := am q7
        clear q6 q7
        cases nd <;> cases no <;> (go_wp2; go_ret; exact ⟨by simp [Q6.out, Q7.out], HW2.out⟩)
       have p7 : ((le : Int) == 0) = false := beq_eq_false_iff_ne.mpr (by omega)
       have Q6 := am q6
       have Q7 := am q7
       clear q6 q7
       cases nd <;> cases no <;> (go_wp2; go_ret; exact ⟨by simp [Q6.out, Q7.out], HW2.out⟩)
      have p6 : ((lb : Int) == 0) = false := beq_eq_false_iff_ne.mpr (by omega)
      have Q6 := am q6
      clear q6
      cases nd with
      | false =>
       go_wp2
       go_ret
       exact ⟨by simp [Q6.out], HW2.out⟩
      | true =>
       by_cases q7 : le = 0
       ·have p7 : ((le : Int) == 0) = true := by rw [q7]; rfl
        have Q7 := am q7
        clear q7
        cases no <;> (go_wp2; go_ret; exact ⟨by simp [p7, Q7.out], HW2.out⟩)
       have p7 : ((le : Int) == 0) = false := beq_eq_false_iff_ne.mpr (by omega)
       have Q7 := am q7
       clear q7
       cases no <;> (go_wp2; go_ret; exact ⟨by simp [p7, Q7.out], HW2.out⟩)
theorem impl_blockValid.mono_l : ∀ k, (∀ y0 y1 y2 y3, LeO (impl_blockValid.f k y0 y1 y2 y3) (impl_blockValid.f (k + 1) y0 y1 y2 y3)) ∧ (∀ y0 y1 y2 y3 y4, LeO (impl_blockValid.l0 k y0 y1 y2 y3 y4) (impl_blockValid.l0 (k + 1) y0 y1 y2 y3 y4))
 | 0 => ⟨fun _ _ _ _ r h => by simp [impl_blockValid.f] at h, fun _ _ _ _ _ r h => by simp [impl_blockValid.l0] at h⟩
 | k + 1 => by
  obtain ⟨ih0, ih1⟩ := impl_blockValid.mono_l k
  refine ⟨?_, ?_⟩
  ·intro y0 y1 y2 y3
   unfold impl_blockValid.f
   have m0 := @impl_stmtValid.mono
   exact mo_
  ·intro y0 y1 y2 y3 y4
   unfold impl_blockValid.l0
   have m0 := @impl_stmtValid.mono
   exact mo_
theorem impl_blockValid.mono : ∀ a0 a1 a2 a3 k, LeO (impl_blockValid.f k a0 a1 a2 a3) (impl_blockValid.f (k + 1) a0 a1 a2 a3) := by
 intro a0 a1 a2 a3 k
 obtain ⟨ih0, ih1⟩ := impl_blockValid.mono_l k
 exact ih0 a0 a1 a2 a3
theorem atF_T58 {w : World} {ok : Nat → Prop} {A : Option Addr} {n : Nat} {xs : List S58} (h : Kd.F k58 w ok A n xs) (i : Int) (h0 : 0 ≤ i) (h1 : i < n) :
  ∃ ad A5 c5 A6 c6 A7 c7, A = some ad ∧ w.cell? (ad.add (i.toNat * 8)) = some (.int .i64 (rd_T58 xs i).f0) ∧ w.cell? ⟨(ad.add (i.toNat * 8)).block, (ad.add (i.toNat * 8)).off + 1, none⟩ = some (.int .i64 (rd_T58 xs i).f1) ∧ w.cell? ⟨(ad.add (i.toNat * 8)).block, (ad.add (i.toNat * 8)).off + 2, none⟩ = some (.int .i64 (rd_T58 xs i).f2) ∧ w.cell? ⟨(ad.add (i.toNat * 8)).block, (ad.add (i.toNat * 8)).off + 3, none⟩ = some (.int .i64 (rd_T58 xs i).f3.f0) ∧ w.cell? ⟨(ad.add (i.toNat * 8)).block, (ad.add (i.toNat * 8)).off + 4, none⟩ = some (.int .i64 (rd_T58 xs i).f3.f1) ∧ w.cell? ⟨(ad.add (i.toNat * 8)).block, (ad.add (i.toNat * 8)).off + 5, none⟩ = some (.slice A5 (rd_T58 xs i).f3.f2.length c5) ∧ w.cell? ⟨(ad.add (i.toNat * 8)).block, (ad.add (i.toNat * 8)).off + 6, none⟩ = some (.slice A6 (rd_T58 xs i).f4.length c6) ∧ w.cell? ⟨(ad.add (i.toNat * 8)).block, (ad.add (i.toNat * 8)).off + 7, none⟩ = some (.slice A7 (rd_T58 xs i).f5.length c7) ∧ (rd_T58 xs i).f3.f2.length ≤ c5 ∧ Kd.F k56 w ok A5 (rd_T58 xs i).f3.f2.length (rd_T58 xs i).f3.f2 ∧ (rd_T58 xs i).f4.length ≤ c6 ∧ Kd.F k58 w ok A6 (rd_T58 xs i).f4.length (rd_T58 xs i).f4 ∧ (rd_T58 xs i).f5.length ≤ c7 ∧ Kd.F k58 w ok A7 (rd_T58 xs i).f5.length (rd_T58 xs i).f5 := by
 obtain ⟨ad, c, e, _, hK, hc0, _⟩ := Kd.F_get h z58 i h0 h1
 have hc : ∀ j u, c[j]? = some u → w.cell? (ad.add (i.toNat * 8 + j)) = some u := hc0
 obtain ⟨A5, c5, A6, c6, A7, c7, rfl, l5, g5, l6, g6, l7, g7⟩ := k58_openF hK
 exact ⟨ad, A5, c5, A6, c6, A7, c7, e, hc 0 _ rfl, by rw [← add_field _ _ 1 (by omega)]; exact hc 1 _ rfl, by rw [← add_field _ _ 2 (by omega)]; exact hc 2 _ rfl, by rw [← add_field _ _ 3 (by omega)]; exact hc 3 _ rfl, by rw [← add_field _ _ 4 (by omega)]; exact hc 4 _ rfl, by rw [← add_field _ _ 5 (by omega)]; exact hc 5 _ rfl, by rw [← add_field _ _ 6 (by omega)]; exact hc 6 _ rfl, by rw [← add_field _ _ 7 (by omega)]; exact hc 7 _ rfl, l5, g5, l6, g6, l7, g7⟩
theorem cell_keep {w w1 : World} {g : Nat} {a : Addr} {v : Value} (hk : KeepBut w w1 g none) (h : w.cell? a = some v) (hne : a.block ≠ g) : w1.cell? a = some v :=
 (World.cell?_of_block (w := w) (hk.2 a.block (World.block_lt_of_cell? w a h) hne (by simp))).trans h
theorem impl_blockValid.callsP (k : Nat) : ∀ (A : Option Addr) (c : Nat) (l : List S58) (boxes blocks cnt : Int) (gc B : Nat) (ok : Nat → Prop) (r : Bool) (cnt' : Int) (w : World)
  (hF : Kd.F k58 w ok A l.length l) (hc : l.length ≤ c) (hno : ¬ ok gc) (hB : B ≤ gc) (hb : w.heap[gc]? = some (.cells #[.int .i64 cnt] 3 (0, 0))) (h : impl_blockValid.f k l boxes blocks cnt = some (r, cnt')),
  Calls Tryz.prog 63 #[.slice A l.length c, .int .i64 boxes, .int .i64 blocks, .pointer (some ⟨gc, 0, none⟩)] w fun e w' => e = .returned (.bool r) ∧ w'.heap[gc]? = some (.cells #[.int .i64 cnt'] 3 (0, 0)) ∧ KeepBut w w' gc none ∧ Below B w w' := by
 induction k using Nat.strongRecOn with
 | _ k ih =>
 intro A c l boxes blocks cnt gc B ok r cnt' w hF hc hno hB hb h
 cases k with
 | zero => exact absurd h (by simp [impl_blockValid.f])
 | succ k =>
 simp only [impl_blockValid.f] at h
 have HF := am hF
 have HC := am hc
 have HNO := am hno
 have HGB := am hB
 have HBX := am hb
 have z0 : w.cell? ⟨gc, 0, none⟩ = some (.int .i64 cnt) := blk_cell hb 0
 have f0 := blk_frozen hb 0
 have HB1 := am (blk_put (cs' := #[.int .i64 (wrap64 (cnt + (l.length : Int)))]) hb 0 (.int .i64 (wrap64 (cnt + (l.length : Int)))) rfl)
 have HK1 := am (KeepBut.set_ (KeepBut.refl w gc none) 0 (.int .i64 (wrap64 (cnt + (l.length : Int)))))
 have HW1 := am (Below.setCell (p := ⟨gc, 0, none⟩) (Below.refl B w) hB (.int .i64 (wrap64 (cnt + (l.length : Int)))))
 clear hF hc hno hb hB
 by_cases c0 : 16 < wrap64 (cnt + (l.length : Int))
 ·rw [if_pos c0] at h
  have h1 := Option.some.inj h
  injection h1 with h1 h2
  subst h1
  subst h2
  have c0b : decide (16 < wrap64 (cnt + (l.length : Int))) = true := decide_eq_true c0
  clear h
  go_enter Tryz.func63, Tryz.ntmps63
  go_wp2
  go_ret
  exact ⟨rfl, HB1.out, HK1.out, HW1.out⟩
 rw [if_neg c0] at h
 have c0b : decide (16 < wrap64 (cnt + (l.length : Int))) = false := decide_eq_false c0
 have H' := am h
 clear h
 go_enter Tryz.func63, Tryz.ntmps63
 go_wp2
 go_loopg [24] k (fun kq v24 w' => ∃ (i cq : Int), v24 = .int .i64 i ∧ Aside0 (impl_blockValid.l0 kq l boxes blocks i cq = some (r, cnt')) ∧ Aside0 (kq ≤ k) ∧ Aside0 (w'.heap[gc]? = some (.cells #[.int .i64 cq] 3 (0, 0))) ∧ Aside0 (KeepBut w w' gc none) ∧ Aside0 (Below B w w'))
 case atStart => exact ⟨0, _, rfl, H', ⟨Nat.le_refl _⟩, HB1, HK1, HW1⟩
 case round =>
  obtain ⟨i, cq, rfl, HA, HK, HBQ, HKQ, HWQ⟩ := hrel
  cases gk with
  | zero => exact absurd HA.out (by simp [impl_blockValid.l0])
  | succ k1 =>
   have H := HA.out
   clear HA
   simp only [impl_blockValid.l0] at H
   by_cases c1 : i < (l.length : Int)
   ·rw [if_pos c1] at H
    by_cases c2 : 0 ≤ i
    ·rw [if_pos c2] at H
     obtain ⟨t, ht, H⟩ := bsm H
     have hF' := Kd.F_step HF.out (fun q hq hlt => HKQ.out.2 q hlt (fun e => HNO.out (e ▸ hq)) (by simp))
     obtain ⟨ad, A5, c5, A6, c6, A7, c7, rfl, x0, x1, x2, x3, x4, x5, x6, x7, l5, g5, l6, g6, l7, g7⟩ := atF_T58 hF' i c2 c1
     obtain ⟨ad_, cs_, e_, _, _, _, okad⟩ := Kd.F_get hF' z58 i c2 c1
     cases e_
     have NE7 := am (show (ad.add (i.toNat * 8)).block ≠ gc from fun e => HNO.out (e ▸ (add_block ad _).symm ▸ okad (by decide)))
     clear okad
     have HT := am ht
     have c1b : decide (i < (l.length : Int)) = true := decide_eq_true c1
     have p0 := eq_true c2
     have p1 := eq_true c1
     have G5 := am (Kd.F_now g5)
     have L5 := am l5
     have G6 := am g6
     have L6 := am l6
     have G7 := am g7
     have L7 := am l7
     clear ht hF' g5 l5 g6 l6 g7 l7 c1 c2 z0 f0
     cases t with
     | false =>
      rw [if_neg (by decide)] at H
      have h1 := Option.some.inj H
      injection h1 with h1 h2
      subst h1
      subst h2
      clear H
      go_wp2_with (first | ((with_reducible refine (impl_stmtValid.callsP k1 (ad.add (i.toNat * 8)) _ _ _ _ _ A5 c5 _ A6 _ c6 A7 _ c7 _ _ _ x0 x1 x2 x3 x4 x5 x6 x7 G5.out L5.out HT.out).mono ?_); rintro e wa ⟨rfl, hb⟩; have y0 := pw_cell_below hb x0; have y6 := pw_cell_below hb x6; have y7 := pw_cell_below hb x7; have BXA := am (blk_below HBQ.out hb); have KA := am (KeepBut.trans HKQ.out (KeepBut.of_below hb gc none) (.inl rfl)); have WA := am (HWQ.out.trans (hb.mono (Nat.le_of_lt (Nat.lt_of_le_of_lt HGB.out (blk_lt HBQ.out))))); have G6A := am (Kd.F_below G6.out hb); have G7A := am (Kd.F_below G7.out hb); clear hb; (try dsimp only)))
      go_ret
      exact ⟨rfl, BXA.out, KA.out, WA.out⟩
     | true =>
      rw [if_pos rfl] at H
      by_cases c3 : 3 < blocks
      ·rw [if_pos c3] at H
       have c3b : decide (3 < blocks) = true := decide_eq_true c3
       have h1 := Option.some.inj H
       injection h1 with h1 h2
       subst h1
       subst h2
       clear H
       go_wp2_with (first | ((with_reducible refine (impl_stmtValid.callsP k1 (ad.add (i.toNat * 8)) _ _ _ _ _ A5 c5 _ A6 _ c6 A7 _ c7 _ _ _ x0 x1 x2 x3 x4 x5 x6 x7 G5.out L5.out HT.out).mono ?_); rintro e wa ⟨rfl, hb⟩; have y0 := pw_cell_below hb x0; have y6 := pw_cell_below hb x6; have y7 := pw_cell_below hb x7; have BXA := am (blk_below HBQ.out hb); have KA := am (KeepBut.trans HKQ.out (KeepBut.of_below hb gc none) (.inl rfl)); have WA := am (HWQ.out.trans (hb.mono (Nat.le_of_lt (Nat.lt_of_le_of_lt HGB.out (blk_lt HBQ.out))))); have G6A := am (Kd.F_below G6.out hb); have G7A := am (Kd.F_below G7.out hb); clear hb; (try dsimp only)))
       go_ret
       exact ⟨rfl, BXA.out, KA.out, WA.out⟩
      rw [if_neg c3] at H
      have c3b : decide (3 < blocks) = false := decide_eq_false c3
      by_cases c4 : (rd_T58 l i).f0 = 2 ∨ (rd_T58 l i).f0 = 3
      ·rw [if_pos c4] at H
       by_cases c5_ : 3 ≤ blocks
       ·rw [if_pos c5_] at H
        have c5b : decide (3 ≤ blocks) = true := decide_eq_true c5_
        clear c3 c5_
        have h1 := Option.some.inj H
        injection h1 with h1 h2
        subst h1
        subst h2
        clear H
        rcases c4 with c4 | c4
        ·have d2 : ((rd_T58 l i).f0 != 2) = false := bne_eq_false_iff_eq.mpr c4
         clear c4
         go_wp2_with (first | ((with_reducible refine (impl_stmtValid.callsP k1 (ad.add (i.toNat * 8)) _ _ _ _ _ A5 c5 _ A6 _ c6 A7 _ c7 _ _ _ x0 x1 x2 x3 x4 x5 x6 x7 G5.out L5.out HT.out).mono ?_); rintro e wa ⟨rfl, hb⟩; have y0 := pw_cell_below hb x0; have y6 := pw_cell_below hb x6; have y7 := pw_cell_below hb x7; have BXA := am (blk_below HBQ.out hb); have KA := am (KeepBut.trans HKQ.out (KeepBut.of_below hb gc none) (.inl rfl)); have WA := am (HWQ.out.trans (hb.mono (Nat.le_of_lt (Nat.lt_of_le_of_lt HGB.out (blk_lt HBQ.out))))); have G6A := am (Kd.F_below G6.out hb); have G7A := am (Kd.F_below G7.out hb); clear hb; (try dsimp only)))
         go_ret
         exact ⟨rfl, BXA.out, KA.out, WA.out⟩
        ·have d2 : ((rd_T58 l i).f0 != 2) = true := bne_iff_ne.mpr (by omega)
         have d3 : ((rd_T58 l i).f0 != 3) = false := bne_eq_false_iff_eq.mpr c4
         clear c4
         go_wp2_with (first | ((with_reducible refine (impl_stmtValid.callsP k1 (ad.add (i.toNat * 8)) _ _ _ _ _ A5 c5 _ A6 _ c6 A7 _ c7 _ _ _ x0 x1 x2 x3 x4 x5 x6 x7 G5.out L5.out HT.out).mono ?_); rintro e wa ⟨rfl, hb⟩; have y0 := pw_cell_below hb x0; have y6 := pw_cell_below hb x6; have y7 := pw_cell_below hb x7; have BXA := am (blk_below HBQ.out hb); have KA := am (KeepBut.trans HKQ.out (KeepBut.of_below hb gc none) (.inl rfl)); have WA := am (HWQ.out.trans (hb.mono (Nat.le_of_lt (Nat.lt_of_le_of_lt HGB.out (blk_lt HBQ.out))))); have G6A := am (Kd.F_below G6.out hb); have G7A := am (Kd.F_below G7.out hb); clear hb; (try dsimp only)))
         go_ret
         exact ⟨rfl, BXA.out, KA.out, WA.out⟩
       rw [if_neg c5_] at H
       have c5b : decide (3 ≤ blocks) = false := decide_eq_false c5_
       clear c3 c5_
       obtain ⟨⟨r1, c1_⟩, hp, H⟩ := bsm H
       have HP := am hp
       clear hp
       cases r1 with
       | false =>
        rw [if_neg Bool.false_ne_true] at H
        have h1 := Option.some.inj H
        injection h1 with h1 h2
        subst h1
        subst h2
        clear H
        rcases c4 with c4 | c4
        ·have d2 : ((rd_T58 l i).f0 != 2) = false := bne_eq_false_iff_eq.mpr c4
         clear c4
         go_wp2_with (first | ((with_reducible refine (impl_stmtValid.callsP k1 (ad.add (i.toNat * 8)) _ _ _ _ _ A5 c5 _ A6 _ c6 A7 _ c7 _ _ _ x0 x1 x2 x3 x4 x5 x6 x7 G5.out L5.out HT.out).mono ?_); rintro e wa ⟨rfl, hb⟩; have y0 := pw_cell_below hb x0; have y6 := pw_cell_below hb x6; have y7 := pw_cell_below hb x7; have BXA := am (blk_below HBQ.out hb); have KA := am (KeepBut.trans HKQ.out (KeepBut.of_below hb gc none) (.inl rfl)); have WA := am (HWQ.out.trans (hb.mono (Nat.le_of_lt (Nat.lt_of_le_of_lt HGB.out (blk_lt HBQ.out))))); have G6A := am (Kd.F_below G6.out hb); have G7A := am (Kd.F_below G7.out hb); clear hb; (try dsimp only)) | ((with_reducible refine (ih k1 (by have := HK.out; omega) A6 c6 _ boxes (wrap64 (blocks + 1)) cq gc B ok _ _ _ G6A.out L6.out HNO.out HGB.out BXA.out HP.out).mono ?_); rintro e wb ⟨rfl, hx, hk, hw⟩; have ne7 := am hk; have u7 := cell_keep hk y7 NE7.out; have G7B := am (Kd.F_step G7A.out (fun q hq hlt => hk.2 q hlt (fun e => HNO.out (e ▸ hq)) (by simp))); have BXB := am hx; have KB := am (KeepBut.trans KA.out hk (.inl rfl)); have WB := am (WA.out.trans hw); clear hx hk hw; (try dsimp only)))
         go_ret
         exact ⟨rfl, BXB.out, KB.out, WB.out⟩
        ·have d2 : ((rd_T58 l i).f0 != 2) = true := bne_iff_ne.mpr (by omega)
         have d3 : ((rd_T58 l i).f0 != 3) = false := bne_eq_false_iff_eq.mpr c4
         clear c4
         go_wp2_with (first | ((with_reducible refine (impl_stmtValid.callsP k1 (ad.add (i.toNat * 8)) _ _ _ _ _ A5 c5 _ A6 _ c6 A7 _ c7 _ _ _ x0 x1 x2 x3 x4 x5 x6 x7 G5.out L5.out HT.out).mono ?_); rintro e wa ⟨rfl, hb⟩; have y0 := pw_cell_below hb x0; have y6 := pw_cell_below hb x6; have y7 := pw_cell_below hb x7; have BXA := am (blk_below HBQ.out hb); have KA := am (KeepBut.trans HKQ.out (KeepBut.of_below hb gc none) (.inl rfl)); have WA := am (HWQ.out.trans (hb.mono (Nat.le_of_lt (Nat.lt_of_le_of_lt HGB.out (blk_lt HBQ.out))))); have G6A := am (Kd.F_below G6.out hb); have G7A := am (Kd.F_below G7.out hb); clear hb; (try dsimp only)) | ((with_reducible refine (ih k1 (by have := HK.out; omega) A6 c6 _ boxes (wrap64 (blocks + 1)) cq gc B ok _ _ _ G6A.out L6.out HNO.out HGB.out BXA.out HP.out).mono ?_); rintro e wb ⟨rfl, hx, hk, hw⟩; have ne7 := am hk; have u7 := cell_keep hk y7 NE7.out; have G7B := am (Kd.F_step G7A.out (fun q hq hlt => hk.2 q hlt (fun e => HNO.out (e ▸ hq)) (by simp))); have BXB := am hx; have KB := am (KeepBut.trans KA.out hk (.inl rfl)); have WB := am (WA.out.trans hw); clear hx hk hw; (try dsimp only)))
         go_ret
         exact ⟨rfl, BXB.out, KB.out, WB.out⟩
       | true =>
        rw [if_pos rfl] at H
        obtain ⟨⟨r2, c2_⟩, hq, H⟩ := bsm H
        have HQ := am hq
        clear hq
        cases r2 with
        | false =>
         rw [if_neg Bool.false_ne_true] at H
         have h1 := Option.some.inj H
         injection h1 with h1 h2
         subst h1
         subst h2
         clear H
         rcases c4 with c4 | c4
         ·have d2 : ((rd_T58 l i).f0 != 2) = false := bne_eq_false_iff_eq.mpr c4
          clear c4
          go_wp2_with (first | ((with_reducible refine (impl_stmtValid.callsP k1 (ad.add (i.toNat * 8)) _ _ _ _ _ A5 c5 _ A6 _ c6 A7 _ c7 _ _ _ x0 x1 x2 x3 x4 x5 x6 x7 G5.out L5.out HT.out).mono ?_); rintro e wa ⟨rfl, hb⟩; have y0 := pw_cell_below hb x0; have y6 := pw_cell_below hb x6; have y7 := pw_cell_below hb x7; have BXA := am (blk_below HBQ.out hb); have KA := am (KeepBut.trans HKQ.out (KeepBut.of_below hb gc none) (.inl rfl)); have WA := am (HWQ.out.trans (hb.mono (Nat.le_of_lt (Nat.lt_of_le_of_lt HGB.out (blk_lt HBQ.out))))); have G6A := am (Kd.F_below G6.out hb); have G7A := am (Kd.F_below G7.out hb); clear hb; (try dsimp only)) | ((with_reducible refine (ih k1 (by have := HK.out; omega) A6 c6 _ boxes (wrap64 (blocks + 1)) cq gc B ok _ _ _ G6A.out L6.out HNO.out HGB.out BXA.out HP.out).mono ?_); rintro e wb ⟨rfl, hx, hk, hw⟩; have ne7 := am hk; have u7 := cell_keep hk y7 NE7.out; have G7B := am (Kd.F_step G7A.out (fun q hq hlt => hk.2 q hlt (fun e => HNO.out (e ▸ hq)) (by simp))); have BXB := am hx; have KB := am (KeepBut.trans KA.out hk (.inl rfl)); have WB := am (WA.out.trans hw); clear hx hk hw; (try dsimp only)) | ((with_reducible refine (ih k1 (by have := HK.out; omega) A7 c7 _ boxes (wrap64 (blocks + 1)) _ gc B ok _ _ _ G7B.out L7.out HNO.out HGB.out BXB.out HQ.out).mono ?_); rintro e wd ⟨rfl, hx, hk, hw⟩; have BXD := am hx; have KD := am (KeepBut.trans KB.out hk (.inl rfl)); have WD := am (WB.out.trans hw); clear hx hk hw; (try dsimp only)))
          go_ret
          exact ⟨rfl, BXD.out, KD.out, WD.out⟩
         ·have d2 : ((rd_T58 l i).f0 != 2) = true := bne_iff_ne.mpr (by omega)
          have d3 : ((rd_T58 l i).f0 != 3) = false := bne_eq_false_iff_eq.mpr c4
          clear c4
          go_wp2_with (first | ((with_reducible refine (impl_stmtValid.callsP k1 (ad.add (i.toNat * 8)) _ _ _ _ _ A5 c5 _ A6 _ c6 A7 _ c7 _ _ _ x0 x1 x2 x3 x4 x5 x6 x7 G5.out L5.out HT.out).mono ?_); rintro e wa ⟨rfl, hb⟩; have y0 := pw_cell_below hb x0; have y6 := pw_cell_below hb x6; have y7 := pw_cell_below hb x7; have BXA := am (blk_below HBQ.out hb); have KA := am (KeepBut.trans HKQ.out (KeepBut.of_below hb gc none) (.inl rfl)); have WA := am (HWQ.out.trans (hb.mono (Nat.le_of_lt (Nat.lt_of_le_of_lt HGB.out (blk_lt HBQ.out))))); have G6A := am (Kd.F_below G6.out hb); have G7A := am (Kd.F_below G7.out hb); clear hb; (try dsimp only)) | ((with_reducible refine (ih k1 (by have := HK.out; omega) A6 c6 _ boxes (wrap64 (blocks + 1)) cq gc B ok _ _ _ G6A.out L6.out HNO.out HGB.out BXA.out HP.out).mono ?_); rintro e wb ⟨rfl, hx, hk, hw⟩; have ne7 := am hk; have u7 := cell_keep hk y7 NE7.out; have G7B := am (Kd.F_step G7A.out (fun q hq hlt => hk.2 q hlt (fun e => HNO.out (e ▸ hq)) (by simp))); have BXB := am hx; have KB := am (KeepBut.trans KA.out hk (.inl rfl)); have WB := am (WA.out.trans hw); clear hx hk hw; (try dsimp only)) | ((with_reducible refine (ih k1 (by have := HK.out; omega) A7 c7 _ boxes (wrap64 (blocks + 1)) _ gc B ok _ _ _ G7B.out L7.out HNO.out HGB.out BXB.out HQ.out).mono ?_); rintro e wd ⟨rfl, hx, hk, hw⟩; have BXD := am hx; have KD := am (KeepBut.trans KB.out hk (.inl rfl)); have WD := am (WB.out.trans hw); clear hx hk hw; (try dsimp only)))
          go_ret
          exact ⟨rfl, BXD.out, KD.out, WD.out⟩
        | true =>
         rw [if_pos rfl] at H
         have H' := am H
         clear H
         rcases c4 with c4 | c4
         ·have d2 : ((rd_T58 l i).f0 != 2) = false := bne_eq_false_iff_eq.mpr c4
          clear c4
          go_wp2_with (first | ((with_reducible refine (impl_stmtValid.callsP k1 (ad.add (i.toNat * 8)) _ _ _ _ _ A5 c5 _ A6 _ c6 A7 _ c7 _ _ _ x0 x1 x2 x3 x4 x5 x6 x7 G5.out L5.out HT.out).mono ?_); rintro e wa ⟨rfl, hb⟩; have y0 := pw_cell_below hb x0; have y6 := pw_cell_below hb x6; have y7 := pw_cell_below hb x7; have BXA := am (blk_below HBQ.out hb); have KA := am (KeepBut.trans HKQ.out (KeepBut.of_below hb gc none) (.inl rfl)); have WA := am (HWQ.out.trans (hb.mono (Nat.le_of_lt (Nat.lt_of_le_of_lt HGB.out (blk_lt HBQ.out))))); have G6A := am (Kd.F_below G6.out hb); have G7A := am (Kd.F_below G7.out hb); clear hb; (try dsimp only)) | ((with_reducible refine (ih k1 (by have := HK.out; omega) A6 c6 _ boxes (wrap64 (blocks + 1)) cq gc B ok _ _ _ G6A.out L6.out HNO.out HGB.out BXA.out HP.out).mono ?_); rintro e wb ⟨rfl, hx, hk, hw⟩; have ne7 := am hk; have u7 := cell_keep hk y7 NE7.out; have G7B := am (Kd.F_step G7A.out (fun q hq hlt => hk.2 q hlt (fun e => HNO.out (e ▸ hq)) (by simp))); have BXB := am hx; have KB := am (KeepBut.trans KA.out hk (.inl rfl)); have WB := am (WA.out.trans hw); clear hx hk hw; (try dsimp only)) | ((with_reducible refine (ih k1 (by have := HK.out; omega) A7 c7 _ boxes (wrap64 (blocks + 1)) _ gc B ok _ _ _ G7B.out L7.out HNO.out HGB.out BXB.out HQ.out).mono ?_); rintro e wd ⟨rfl, hx, hk, hw⟩; have BXD := am hx; have KD := am (KeepBut.trans KB.out hk (.inl rfl)); have WD := am (WB.out.trans hw); clear hx hk hw; (try dsimp only)))
          go_roundg k1
          case measure => have := HK.out; omega
          case rel => exact ⟨wrap64 (i + 1), c2_, sd_, H', ⟨by have := HK.out; omega⟩, BXD, KD, WD⟩
         ·have d2 : ((rd_T58 l i).f0 != 2) = true := bne_iff_ne.mpr (by omega)
          have d3 : ((rd_T58 l i).f0 != 3) = false := bne_eq_false_iff_eq.mpr c4
          clear c4
          go_wp2_with (first | ((with_reducible refine (impl_stmtValid.callsP k1 (ad.add (i.toNat * 8)) _ _ _ _ _ A5 c5 _ A6 _ c6 A7 _ c7 _ _ _ x0 x1 x2 x3 x4 x5 x6 x7 G5.out L5.out HT.out).mono ?_); rintro e wa ⟨rfl, hb⟩; have y0 := pw_cell_below hb x0; have y6 := pw_cell_below hb x6; have y7 := pw_cell_below hb x7; have BXA := am (blk_below HBQ.out hb); have KA := am (KeepBut.trans HKQ.out (KeepBut.of_below hb gc none) (.inl rfl)); have WA := am (HWQ.out.trans (hb.mono (Nat.le_of_lt (Nat.lt_of_le_of_lt HGB.out (blk_lt HBQ.out))))); have G6A := am (Kd.F_below G6.out hb); have G7A := am (Kd.F_below G7.out hb); clear hb; (try dsimp only)) | ((with_reducible refine (ih k1 (by have := HK.out; omega) A6 c6 _ boxes (wrap64 (blocks + 1)) cq gc B ok _ _ _ G6A.out L6.out HNO.out HGB.out BXA.out HP.out).mono ?_); rintro e wb ⟨rfl, hx, hk, hw⟩; have ne7 := am hk; have u7 := cell_keep hk y7 NE7.out; have G7B := am (Kd.F_step G7A.out (fun q hq hlt => hk.2 q hlt (fun e => HNO.out (e ▸ hq)) (by simp))); have BXB := am hx; have KB := am (KeepBut.trans KA.out hk (.inl rfl)); have WB := am (WA.out.trans hw); clear hx hk hw; (try dsimp only)) | ((with_reducible refine (ih k1 (by have := HK.out; omega) A7 c7 _ boxes (wrap64 (blocks + 1)) _ gc B ok _ _ _ G7B.out L7.out HNO.out HGB.out BXB.out HQ.out).mono ?_); rintro e wd ⟨rfl, hx, hk, hw⟩; have BXD := am hx; have KD := am (KeepBut.trans KB.out hk (.inl rfl)); have WD := am (WB.out.trans hw); clear hx hk hw; (try dsimp only)))
          go_roundg k1
          case measure => have := HK.out; omega
          case rel => exact ⟨wrap64 (i + 1), c2_, sd_, H', ⟨by have := HK.out; omega⟩, BXD, KD, WD⟩
      rw [if_neg c4] at H
      have d2 : ((rd_T58 l i).f0 != 2) = true := bne_iff_ne.mpr (fun e => c4 (.inl e))
      have d3 : ((rd_T58 l i).f0 != 3) = true := bne_iff_ne.mpr (fun e => c4 (.inr e))
      have H' := am H
      clear H c3 c4
      go_wp2_with (first | ((with_reducible refine (impl_stmtValid.callsP k1 (ad.add (i.toNat * 8)) _ _ _ _ _ A5 c5 _ A6 _ c6 A7 _ c7 _ _ _ x0 x1 x2 x3 x4 x5 x6 x7 G5.out L5.out HT.out).mono ?_); rintro e wa ⟨rfl, hb⟩; have y0 := pw_cell_below hb x0; have y6 := pw_cell_below hb x6; have y7 := pw_cell_below hb x7; have BXA := am (blk_below HBQ.out hb); have KA := am (KeepBut.trans HKQ.out (KeepBut.of_below hb gc none) (.inl rfl)); have WA := am (HWQ.out.trans (hb.mono (Nat.le_of_lt (Nat.lt_of_le_of_lt HGB.out (blk_lt HBQ.out))))); have G6A := am (Kd.F_below G6.out hb); have G7A := am (Kd.F_below G7.out hb); clear hb; (try dsimp only)))
      go_roundg k1
      case measure => have := HK.out; omega
      case rel => exact ⟨wrap64 (i + 1), cq, sd_, H', ⟨by have := HK.out; omega⟩, BXA, KA, WA⟩
    rw [if_neg c2] at H
    exact absurd H (by simp)
   rw [if_neg c1] at H
   have c1b : decide (i < (l.length : Int)) = false := decide_eq_false c1
   have h1 := Option.some.inj H
   injection h1 with h1 h2
   subst h1
   subst h2
   clear H
   go_wp2
   go_ret
   exact ⟨rfl, HBQ.out, HKQ.out, HWQ.out⟩
theorem impl_stmtsValid.mono : ∀ l0 a1 k, LeO (impl_stmtsValid.f k l0 a1) (impl_stmtsValid.f (k + 1) l0 a1) := by
 intro l0 a1 k
 unfold impl_stmtsValid.f
 exact LeO.bind (impl_blockValid.mono _ _ _ _ _) (fun _ => LeO.refl _)
theorem impl_stmtsValid.calls (k : Nat) (A0 : Option Addr) (c0 : Nat) (l0 : List (S58)) (a1 : Int) (r : Bool) (w : World) (hr0 : Kd.C k58 w A0 l0.length l0) (hc0 : l0.length ≤ c0) (h : impl_stmtsValid.f k l0 a1 = some r) :
  Calls Tryz.prog 40 #[.slice A0 l0.length c0, .int .i64 a1] w fun e w' => e = .returned (.bool r) ∧ Below w.heap.size w w' := by
 unfold impl_stmtsValid.f at h
 replace h := Option.bind_eq_some_iff.mp h
 obtain ⟨⟨r', cnt'⟩, hv, h⟩ := h
 obtain rfl := Option.some.inj h
 have HV := am hv
 have HF := am (Kd.C_F k58_heap hr0)
 have HC0 := am hc0
 clear hr0 hc0 h hv
 go_enter Tryz.func40, Tryz.ntmps40
 go_upto_region 2 with (first | ((with_reducible refine gate_dst (N := 5) rfl ?_); refine box_event (N := 5) rfl rfl (cs := #[.int .i64 0]) (t := 3) rn_ ?_; intro gb hg w1 hbox hb; have z0 : w1.cell? ⟨gb, 0, none⟩ = some (.int .i64 0) := blk_cell hbox 0; have f0 := blk_frozen hbox 0; have HG := am (Nat.le_of_eq hg.symm); have HBX := am (blk_put (cs' := #[.int .i64 0]) hbox 0 (.int .i64 0) rfl); have HB := am (below_set (j := 0) (v := .int .i64 0) hb (Nat.le_of_eq hg.symm)); clear hbox hb hg) | fail)
 go_wp2_with (first | ((with_reducible refine (impl_blockValid.callsP k A0 c0 l0 a1 0 0 _ w.heap.size (fun q => q < w.heap.size) r' cnt' _ (Kd.F_below HF.out HB.out) HC0.out (Nat.not_lt.mpr HG.out) HG.out HBX.out HV.out).mono ?_); rintro e w2 ⟨rfl, _, _, hw⟩; have HW := am (HB.out.trans hw); clear hw; (try dsimp only)) | fail)
 go_ret
 exact ⟨rfl, HW.out⟩
theorem impl_ProgramValid.mono_l : ∀ k, (∀ y0 y1 y2, LeO (impl_ProgramValid.j0 k y0 y1 y2) (impl_ProgramValid.j0 (k + 1) y0 y1 y2)) ∧ (∀ y0 y1 y2 y3 y4, LeO (impl_ProgramValid.l0 k y0 y1 y2 y3 y4) (impl_ProgramValid.l0 (k + 1) y0 y1 y2 y3 y4))
 | 0 => ⟨fun _ _ _ r h => by simp [impl_ProgramValid.j0] at h, fun _ _ _ _ _ r h => by simp [impl_ProgramValid.l0] at h⟩
 | k + 1 => by
  obtain ⟨ih0, ih1⟩ := impl_ProgramValid.mono_l k
  refine ⟨?_, ?_⟩
  ·intro y0 y1 y2
   unfold impl_ProgramValid.j0
   have m0 := @impl_roomsValid.mono
   have m1 := @impl_stmtsValid.mono
   exact mo_
  ·intro y0 y1 y2 y3 y4
   unfold impl_ProgramValid.l0
   have m0 := @impl_roomsValid.mono
   have m1 := @impl_stmtsValid.mono
   exact mo_
theorem impl_ProgramValid.mono : ∀ a0 a1 k, LeO (impl_ProgramValid.f k a0 a1) (impl_ProgramValid.f (k + 1) a0 a1) := by
 intro a0 a1 k
 obtain ⟨ih0, ih1⟩ := impl_ProgramValid.mono_l k
 unfold impl_ProgramValid.f
 have m0 := @impl_roomsValid.mono
 have m1 := @impl_stmtsValid.mono
 exact mo_
theorem impl_ProgramValid.calls (k : Nat) (A0_0 : Option Addr) (c0_0 : Nat) (l0_0 : List Int) (A0_1 : Option Addr) (c0_1 : Nat) (l0_1 : List (List (S58))) (r : Bool) (w : World) (hr0_0 : Kd.C (Kd.int .i64) w A0_0 l0_0.length l0_0) (hc0_0 : l0_0.length ≤ c0_0) (hr0_1 : Kd.C (Kd.slice 58 k58) w A0_1 l0_1.length l0_1) (hc0_1 : l0_1.length ≤ c0_1) (h : impl_ProgramValid.f k l0_0 l0_1 = some r) :
  Calls Tryz.prog 19 #[.agg #[.slice A0_0 l0_0.length c0_0, .slice A0_1 l0_1.length c0_1]] w fun e w' => e = .returned (.bool r) ∧ Below w.heap.size w w' := by
 have hu26 := Tryz.underlying26
 have HR0_0 := am hr0_0
 have HC0_0 := am hc0_0
 clear hr0_0 hc0_0
 have HR0_1 := am hr0_1
 have HC0_1 := am hc0_1
 clear hr0_1 hc0_1
 have HB := am (Below.refl w.heap.size w)
 have H : ((impl_roomsValid.f k l0_0).bind fun t21 => (if t21 = true then (if (l0_1.length : Int) < 1 then (impl_ProgramValid.j0 k true l0_0 l0_1) else (impl_ProgramValid.j0 k (decide ((l0_1.length : Int) > 3)) l0_0 l0_1)) else (impl_ProgramValid.j0 k true l0_0 l0_1))) = some r := h
 clear h
 have HC2 := am H
 clear H
 go_enter Tryz.func19, Tryz.ntmps19
 go_upto_region 1 with (first | ((with_reducible refine gate_dst (N := 1) rfl ?_); (try (refine gate_guard (by rfl) ?_; dsimp only)); refine box_event rfl (N := 1) rfl (cs := #[.slice A0_0 l0_0.length c0_0, .slice A0_1 l0_1.length c0_1]) (t := 26) rn_ ?_; intro gb22 hg w3 hbox hb; have BK22 := am (hbox); have GW22 := am ((by rw [hg]; exact (below_size ab2_) : w.heap.size ≤ gb22)); have GE22 := am ((by rw [hg]; exact (below_size ab2_) : w.heap.size ≤ gb22)); replace HB := am (below_step ab2_ hb); clear hb hbox hg))
 (try simp only [Act.put, List.setIfInBounds_toArray, List.set_cons_zero, List.set_cons_succ])
 go_cut [20] (fun v20 wc => ∃ (kq : Nat) (x20_1 : Bool), v20 = .bool x20_1 ∧ Aside0 (impl_ProgramValid.j0 kq x20_1 l0_0 l0_1 = some r) ∧ Aside0 (kq ≤ k) ∧ Aside0 (wc.heap[gb22]? = some (.cells #[(.slice A0_0 l0_0.length c0_0), (.slice A0_1 l0_1.length c0_1)] 26 (0, 0))) ∧ Aside0 (Below w.heap.size w wc))
 case first =>
  have H := HC2.out
  clear HC2
  obtain ⟨t21, A4, H⟩ := bsa H
  (try dsimp only at H)
  by_cases c5 : t21 = true
  ·subst c5
   rw [if_pos rfl] at H
   by_cases c6 : (l0_1.length : Int) < 1
   ·rw [if_pos c6] at H
    have c6b0 : decide ((l0_1.length : Int) < 1) = true := decide_eq_true c6
    have c6b1 : decide (l0_1.length < 1) = true := decide_eq_true (by omega)
    clear c6
    (first | rw [c6b0] | (simp only [i64_w, i32_w]; rw [c6b0]) | skip)
    have H' := am H
    clear H
    obtain ⟨hcz7_0, hcz7_1, hfz7_0, hfz7_1⟩ := bcf2_ BK22.out
    go_wp2_with (first | ((with_reducible refine gate_callee (f := 39) rfl ?_); refine gl_ 7 Tryz.func39 #[.slice A0_0 l0_0.length c0_0] ?_; (with_reducible refine (impl_roomsValid.calls k _ _ l0_0 true _ (aC_ (Kd.C_below HR0_0.out HB.out)) HC0_0.out A4.out).mono ?_); rintro e w' ⟨rfl, ⟨nd, rfl⟩⟩; refine ⟨_, rfl, ?_⟩))
    go_meet
    case rel => exact ⟨_, (true), sd_, H', ⟨by first | omega | exact Nat.le_refl _⟩, ⟨by (with_reducible repeat (first | refine blk_drewN ?_ _ | refine blk_drew ?_ | refine blk_alloc ?_ _)); exact BK22.out⟩, ⟨ab30_⟩⟩
   rw [if_neg c6] at H
   have c6b0 : decide ((l0_1.length : Int) < 1) = false := decide_eq_false c6
   have c6b1 : decide (l0_1.length < 1) = false := decide_eq_false (by omega)
   clear c6
   (first | rw [c6b0] | (simp only [i64_w, i32_w]; rw [c6b0]) | skip)
   have H' := am H
   clear H
   obtain ⟨hcz8_0, hcz8_1, hfz8_0, hfz8_1⟩ := bcf2_ BK22.out
   go_wp2_with (first | ((with_reducible refine gate_callee (f := 39) rfl ?_); refine gl_ 7 Tryz.func39 #[.slice A0_0 l0_0.length c0_0] ?_; (with_reducible refine (impl_roomsValid.calls k _ _ l0_0 true _ (aC_ (Kd.C_below HR0_0.out HB.out)) HC0_0.out A4.out).mono ?_); rintro e w' ⟨rfl, ⟨nd, rfl⟩⟩; refine ⟨_, rfl, ?_⟩))
   go_meet
   case rel => exact ⟨_, (decide ((l0_1.length : Int) > 3)), sd_, H', ⟨by first | omega | exact Nat.le_refl _⟩, ⟨by (with_reducible repeat (first | refine blk_drewN ?_ _ | refine blk_drew ?_ | refine blk_alloc ?_ _)); exact BK22.out⟩, ⟨ab30_⟩⟩
  replace c5 := Bool.eq_false_iff.mpr c5
  subst c5
  rw [if_neg (show ¬ (false = true) by decide)] at H
  have H' := am H
  clear H
  obtain ⟨hcz9_0, hcz9_1, hfz9_0, hfz9_1⟩ := bcf2_ BK22.out
  go_wp2_with (first | ((with_reducible refine gate_callee (f := 39) rfl ?_); refine gl_ 7 Tryz.func39 #[.slice A0_0 l0_0.length c0_0] ?_; (with_reducible refine (impl_roomsValid.calls k _ _ l0_0 false _ (aC_ (Kd.C_below HR0_0.out HB.out)) HC0_0.out A4.out).mono ?_); rintro e w' ⟨rfl, ⟨nd, rfl⟩⟩; refine ⟨_, rfl, ?_⟩))
  go_meet
  case rel => exact ⟨_, (true), sd_, H', ⟨by first | omega | exact Nat.le_refl _⟩, ⟨by (with_reducible repeat (first | refine blk_drewN ?_ _ | refine blk_drew ?_ | refine blk_alloc ?_ _)); exact BK22.out⟩, ⟨ab30_⟩⟩
 case rest =>
  clear HC2
  obtain ⟨kq, x20_1, rfl, HA, HJ1, BK22, HB⟩ := hcut
  cases kq with
  | zero => exact absurd HA.out (by simp [impl_ProgramValid.j0])
  | succ kj1 =>
   have H := HA.out
   clear HA
   simp only [impl_ProgramValid.j0] at H
   by_cases c10 : x20_1 = true
   ·subst c10
    rw [if_pos rfl] at H
    obtain rfl := Option.some.inj H
    go_wp2
    go_ret
    exact ⟨rr_, ab30_⟩
   replace c10 := Bool.eq_false_iff.mpr c10
   subst c10
   rw [if_neg (show ¬ (false = true) by decide)] at H
   have H' := am H
   clear H
   obtain ⟨hcz11_0, hcz11_1, hfz11_0, hfz11_1⟩ := bcf2_ BK22.out
   go_wp2
   go_loopg [24] kj1 (fun kq v24 w' => ∃ (x24_2 : Int), v24 = .int .i64 x24_2 ∧ Aside0 (impl_ProgramValid.l0 kq l0_1 (l0_1.length : Int) x24_2 l0_0 l0_1 = some r) ∧ Aside0 (kq ≤ kj1) ∧ Aside0 (w'.heap[gb22]? = some (.cells #[(.slice A0_0 l0_0.length c0_0), (.slice A0_1 l0_1.length c0_1)] 26 (0, 0))) ∧ Aside0 (Below w.heap.size w w'))
   case atStart => exact ⟨(0), sd_, H', ⟨Nat.le_refl _⟩, ⟨by (with_reducible repeat (first | refine blk_drewN ?_ _ | refine blk_drew ?_ | refine blk_alloc ?_ _)); exact BK22.out⟩, ⟨ab30_⟩⟩
   case round =>
    clear H'
    try clear c10
    try clear hcz11_0
    try clear hcz11_1
    try clear hfz11_0
    try clear hfz11_1
    obtain ⟨x24_2, rfl, HA, HK2, BK22, HB⟩ := hrel
    cases gk with
    | zero => exact absurd HA.out (by simp [impl_ProgramValid.l0])
    | succ k2 =>
     have H := HA.out
     clear HA
     simp only [impl_ProgramValid.l0] at H
     by_cases c12 : x24_2 < (l0_1.length : Int)
     ·rw [if_pos c12] at H
      have c12b0 : decide (x24_2 < (l0_1.length : Int)) = true := decide_eq_true c12
      clear c12
      by_cases c13 : 0 ≤ x24_2
      ·rw [if_pos c13] at H
       have c13b0 : decide (0 ≤ x24_2) = true := decide_eq_true c13
       clear c13
       by_cases c14 : x24_2 < (l0_1.length : Int)
       ·rw [if_pos c14] at H
        have c14b0 : decide (x24_2 < (l0_1.length : Int)) = true := decide_eq_true c14
        clear c14
        obtain ⟨t23, A25, H⟩ := bsm H
        (try dsimp only at H)
        have A15 := am A25
        clear A25
        by_cases c16 : t23 = true
        ·subst c16
         rw [if_pos rfl] at H
         have H' := am H
         clear H
         have p27 : 0 ≤ (x24_2 : Int) := of_decide_eq_true asm_
         have q27 : x24_2 < (l0_1.length : Int) := of_decide_eq_true asm_
         obtain ⟨ad27, A27_0, c27_0, e27, hx27_0, hl27_0, hi27_0⟩ := at_L4 HR0_1.out x24_2 p27 q27
         cases e27
         replace hx27_0 := (HB.out.cell (World.block_lt_of_cell? w _ hx27_0)).trans hx27_0
         have HR27_0 := am hi27_0
         have HC27_0 := am hl27_0
         clear hi27_0 hl27_0
         replace p27 := eq_true p27
         replace q27 := eq_true q27
         obtain ⟨hcz17_0, hcz17_1, hfz17_0, hfz17_1⟩ := bcf2_ BK22.out
         go_wp2_with (first | ((with_reducible refine gate_callee (f := 40) rfl ?_); refine gl_ 32 Tryz.func40 #[.slice A27_0 (rd_L4 l0_1 x24_2).length c27_0, .int .i64 (l0_0.length : Int)] ?_; (with_reducible refine (impl_stmtsValid.calls k2 _ _ (rd_L4 l0_1 x24_2) (l0_0.length : Int) true _ (aC_ (Kd.C_below HR27_0.out HB.out)) HC27_0.out A15.out).mono ?_); rintro e w18 ⟨rfl, hb⟩; refine ⟨_, rfl, ?_⟩; replace BK22 := am (bbl_ BK22.out hb); replace HB := am (below_step ab30_ hb); (try clear hb)))
         go_roundg k2
         case measure => have := HJ1.out; have := HK2.out; omega
         case rel => exact ⟨(wrap64 (x24_2 + 1)), sd_, H', ⟨by have := HJ1.out; have := HK2.out; omega⟩, ⟨by (with_reducible repeat (first | refine blk_drewN ?_ _ | refine blk_drew ?_ | refine blk_alloc ?_ _)); exact BK22.out⟩, ⟨ab30_⟩⟩
        replace c16 := Bool.eq_false_iff.mpr c16
        subst c16
        rw [if_neg (show ¬ (false = true) by decide)] at H
        obtain rfl := Option.some.inj H
        have p27 : 0 ≤ (x24_2 : Int) := of_decide_eq_true asm_
        have q27 : x24_2 < (l0_1.length : Int) := of_decide_eq_true asm_
        obtain ⟨ad27, A27_0, c27_0, e27, hx27_0, hl27_0, hi27_0⟩ := at_L4 HR0_1.out x24_2 p27 q27
        cases e27
        replace hx27_0 := (HB.out.cell (World.block_lt_of_cell? w _ hx27_0)).trans hx27_0
        have HR27_0 := am hi27_0
        have HC27_0 := am hl27_0
        clear hi27_0 hl27_0
        replace p27 := eq_true p27
        replace q27 := eq_true q27
        obtain ⟨hcz19_0, hcz19_1, hfz19_0, hfz19_1⟩ := bcf2_ BK22.out
        go_wp2_with (first | ((with_reducible refine gate_callee (f := 40) rfl ?_); refine gl_ 32 Tryz.func40 #[.slice A27_0 (rd_L4 l0_1 x24_2).length c27_0, .int .i64 (l0_0.length : Int)] ?_; (with_reducible refine (impl_stmtsValid.calls k2 _ _ (rd_L4 l0_1 x24_2) (l0_0.length : Int) false _ (aC_ (Kd.C_below HR27_0.out HB.out)) HC27_0.out A15.out).mono ?_); rintro e w20 ⟨rfl, hb⟩; refine ⟨_, rfl, ?_⟩; replace BK22 := am (bbl_ BK22.out hb); replace HB := am (below_step ab30_ hb); (try clear hb)))
        go_ret
        exact ⟨rr_, ab30_⟩
       rw [if_neg c14] at H
       exact absurd H (by simp)
      rw [if_neg c13] at H
      exact absurd H (by simp)
     rw [if_neg c12] at H
     have c12b0 : decide (x24_2 < (l0_1.length : Int)) = false := decide_eq_false c12
     clear c12
     obtain rfl := Option.some.inj H
     go_wp2
     go_ret
     exact ⟨rr_, ab30_⟩
theorem strconv_Itoa_20.calls (a0 : Int) (r : ByteArray) (w : World) (ht_ : Tab w) (h : strconv_Itoa_20.f a0 = some r) :
  Calls Tryz.prog 20 #[.int .i64 a0] w fun e w' => e = .returned (.string r) ∧ Below w.heap.size w w' := by
 unfold strconv_Itoa_20.f at h
 by_cases h1 : 0 ≤ a0
 case neg => rw [if_neg h1] at h; cases h
 rw [if_pos h1] at h
 by_cases h2 : a0 ≤ 9223372036854775807
 case neg => rw [if_neg h2] at h; cases h
 rw [if_pos h2] at h
 obtain rfl := Option.some.inj h
 refine (Tryz.strconv_Itoa a0 (by omega) h2 w ht_.pow).mono ?_
 rintro e w' ⟨rfl, k, os, rfl⟩
 exact ⟨rfl, Lib.below_grow _ _ (Nat.le_refl _) _ _⟩
theorem impl_OpLevel.mono_l : ∀ k, (∀ y0 y1, LeO (impl_OpLevel.j0 k y0 y1) (impl_OpLevel.j0 (k + 1) y0 y1)) ∧ (∀ y0 y1, LeO (impl_OpLevel.j1 k y0 y1) (impl_OpLevel.j1 (k + 1) y0 y1))
 | 0 => ⟨fun _ _ r h => by simp [impl_OpLevel.j0] at h, fun _ _ r h => by simp [impl_OpLevel.j1] at h⟩
 | k + 1 => by
  obtain ⟨ih0, ih1⟩ := impl_OpLevel.mono_l k
  refine ⟨?_, ?_⟩
  ·intro y0 y1
   unfold impl_OpLevel.j0
   exact mo_
  ·intro y0 y1
   unfold impl_OpLevel.j1
   exact mo_
theorem impl_OpLevel.mono : ∀ a0 k, LeO (impl_OpLevel.f k a0) (impl_OpLevel.f (k + 1) a0) := by
 intro a0 k
 obtain ⟨ih0, ih1⟩ := impl_OpLevel.mono_l k
 unfold impl_OpLevel.f
 exact mo_
theorem impl_OpLevel.calls (k : Nat) (a0 : Int) (r : Int) (w : World) (h : impl_OpLevel.f k a0 = some r) :
  Calls Tryz.prog 88 #[.int .i64 a0] w fun e w' => e = .returned (.int .i64 r) ∧ Drawn0 w w' := by
 have H : (if a0 = 1 then (some 1) else (if a0 = 2 then (some 2) else (if a0 = 3 then (some 3) else (if a0 = 4 then (some 4) else (if a0 = 5 then (some 5) else (if a0 = 6 then (impl_OpLevel.j0 k a0 (a0 == 6)) else (impl_OpLevel.j0 k a0 (a0 == 7)))))))) = some r := h
 clear h
 by_cases c2 : a0 = 1
 ·rw [if_pos c2] at H
  have c2b0 : (a0 == 1) = true := beq_iff_eq.mpr c2
  have c2b1 : (a0 != 1) = false := bne_eq_false_iff_eq.mpr c2
  clear c2
  obtain rfl := Option.some.inj H
  go_enter Tryz.func88, Tryz.ntmps88
  go_wp2
  go_ret
  exact ⟨sd_, ab18_⟩
 rw [if_neg c2] at H
 have c2b0 : (a0 == 1) = false := beq_eq_false_iff_ne.mpr c2
 have c2b1 : (a0 != 1) = true := bne_iff_ne.mpr c2
 by_cases c3 : a0 = 2
 ·rw [if_pos c3] at H
  have c3b0 : (a0 == 2) = true := beq_iff_eq.mpr c3
  have c3b1 : (a0 != 2) = false := bne_eq_false_iff_eq.mpr c3
  clear c3
  obtain rfl := Option.some.inj H
  go_enter Tryz.func88, Tryz.ntmps88
  go_wp2
  go_ret
  exact ⟨sd_, ab18_⟩
 rw [if_neg c3] at H
 have c3b0 : (a0 == 2) = false := beq_eq_false_iff_ne.mpr c3
 have c3b1 : (a0 != 2) = true := bne_iff_ne.mpr c3
 by_cases c4 : a0 = 3
 ·rw [if_pos c4] at H
  have c4b0 : (a0 == 3) = true := beq_iff_eq.mpr c4
  have c4b1 : (a0 != 3) = false := bne_eq_false_iff_eq.mpr c4
  clear c4
  obtain rfl := Option.some.inj H
  go_enter Tryz.func88, Tryz.ntmps88
  go_wp2
  go_ret
  exact ⟨sd_, ab18_⟩
 rw [if_neg c4] at H
 have c4b0 : (a0 == 3) = false := beq_eq_false_iff_ne.mpr c4
 have c4b1 : (a0 != 3) = true := bne_iff_ne.mpr c4
 by_cases c5 : a0 = 4
 ·rw [if_pos c5] at H
  have c5b0 : (a0 == 4) = true := beq_iff_eq.mpr c5
  have c5b1 : (a0 != 4) = false := bne_eq_false_iff_eq.mpr c5
  clear c5
  obtain rfl := Option.some.inj H
  go_enter Tryz.func88, Tryz.ntmps88
  go_wp2
  go_ret
  exact ⟨sd_, ab18_⟩
 rw [if_neg c5] at H
 have c5b0 : (a0 == 4) = false := beq_eq_false_iff_ne.mpr c5
 have c5b1 : (a0 != 4) = true := bne_iff_ne.mpr c5
 by_cases c6 : a0 = 5
 ·rw [if_pos c6] at H
  have c6b0 : (a0 == 5) = true := beq_iff_eq.mpr c6
  have c6b1 : (a0 != 5) = false := bne_eq_false_iff_eq.mpr c6
  clear c6
  obtain rfl := Option.some.inj H
  go_enter Tryz.func88, Tryz.ntmps88
  go_wp2
  go_ret
  exact ⟨sd_, ab18_⟩
 rw [if_neg c6] at H
 have c6b0 : (a0 == 5) = false := beq_eq_false_iff_ne.mpr c6
 have c6b1 : (a0 != 5) = true := bne_iff_ne.mpr c6
 have HC7 := am H
 clear H
 go_enter Tryz.func88, Tryz.ntmps88
 go_upto_if 14 with (fail)
 go_cut [14] (fun v14 wc => ∃ (kq : Nat) (x14_6 : Bool), v14 = .bool x14_6 ∧ Aside0 (impl_OpLevel.j0 kq a0 x14_6 = some r) ∧ Aside0 (kq ≤ k) ∧ Drawn0 w wc)
 case first =>
  have H := HC7.out
  clear HC7
  by_cases c8 : a0 = 6
  ·rw [if_pos c8] at H
   have c8b0 : (a0 == 6) = true := beq_iff_eq.mpr c8
   have c8b1 : (a0 != 6) = false := bne_eq_false_iff_eq.mpr c8
   clear c8
   (first | rw [c8b0] | (simp only [i64_w, i32_w]; rw [c8b0]) | skip)
   have H' := am H
   clear H
   go_wp2
   go_meet
   case rel => exact ⟨_, ((a0 == 6)), sd_, H', ⟨by first | omega | exact Nat.le_refl _⟩, ab18_⟩
  rw [if_neg c8] at H
  have c8b0 : (a0 == 6) = false := beq_eq_false_iff_ne.mpr c8
  have c8b1 : (a0 != 6) = true := bne_iff_ne.mpr c8
  (first | rw [c8b0] | (simp only [i64_w, i32_w]; rw [c8b0]) | skip)
  have H' := am H
  clear H
  go_wp2
  go_meet
  case rel => exact ⟨_, ((a0 == 7)), sd_, H', ⟨by first | omega | exact Nat.le_refl _⟩, ab18_⟩
 case rest =>
  clear HC7
  try clear c2
  try clear c2b0
  try clear c2b1
  try clear c3
  try clear c3b0
  try clear c3b1
  try clear c4
  try clear c4b0
  try clear c4b1
  try clear c5
  try clear c5b0
  try clear c5b1
  try clear c6
  try clear c6b0
  try clear c6b1
  obtain ⟨kq, x14_6, rfl, HA, HJ6, ⟨mc6, rfl⟩⟩ := hcut
  cases kq with
  | zero => exact absurd HA.out (by simp [impl_OpLevel.j0])
  | succ kj6 =>
   have H := HA.out
   clear HA
   simp only [impl_OpLevel.j0] at H
   by_cases c9 : x14_6 = true
   ·subst c9
    rw [if_pos rfl] at H
    obtain rfl := Option.some.inj H
    go_wp2
    go_ret
    exact ⟨sd_, ab18_⟩
   replace c9 := Bool.eq_false_iff.mpr c9
   subst c9
   rw [if_neg (show ¬ (false = true) by decide)] at H
   have HC10 := am H
   clear H
   go_upto_if 17 with (fail)
   go_cut [17] (fun v17 wc => ∃ (kq : Nat) (x17_9 : Bool), v17 = .bool x17_9 ∧ Aside0 (impl_OpLevel.j1 kq a0 x17_9 = some r) ∧ Aside0 (kq ≤ kj6) ∧ Drawn0 w wc)
   case first =>
    have H := HC10.out
    clear HC10
    by_cases c11 : a0 = 8
    ·rw [if_pos c11] at H
     have c11b0 : (a0 == 8) = true := beq_iff_eq.mpr c11
     have c11b1 : (a0 != 8) = false := bne_eq_false_iff_eq.mpr c11
     clear c11
     (first | rw [c11b0] | (simp only [i64_w, i32_w]; rw [c11b0]) | skip)
     have H' := am H
     clear H
     go_wp2
     go_meet
     case rel => exact ⟨_, ((a0 == 8)), sd_, H', ⟨by have := HJ6.out; first | omega | exact Nat.le_refl _⟩, ab18_⟩
    rw [if_neg c11] at H
    have c11b0 : (a0 == 8) = false := beq_eq_false_iff_ne.mpr c11
    have c11b1 : (a0 != 8) = true := bne_iff_ne.mpr c11
    (first | rw [c11b0] | (simp only [i64_w, i32_w]; rw [c11b0]) | skip)
    have H' := am H
    clear H
    go_wp2
    go_meet
    case rel => exact ⟨_, ((a0 == 9)), sd_, H', ⟨by have := HJ6.out; first | omega | exact Nat.le_refl _⟩, ab18_⟩
   case rest =>
    clear HC10
    try clear c2
    try clear c2b0
    try clear c2b1
    try clear c3
    try clear c3b0
    try clear c3b1
    try clear c4
    try clear c4b0
    try clear c4b1
    try clear c5
    try clear c5b0
    try clear c5b1
    try clear c6
    try clear c6b0
    try clear c6b1
    try clear c9
    obtain ⟨kq, x17_9, rfl, HA, HJ9, ⟨mc9, rfl⟩⟩ := hcut
    cases kq with
    | zero => exact absurd HA.out (by simp [impl_OpLevel.j1])
    | succ kj9 =>
     have H := HA.out
     clear HA
     simp only [impl_OpLevel.j1] at H
     by_cases c12 : x17_9 = true
     ·subst c12
      rw [if_pos rfl] at H
      obtain rfl := Option.some.inj H
      go_wp2
      go_ret
      exact ⟨sd_, ab18_⟩
     replace c12 := Bool.eq_false_iff.mpr c12
     subst c12
     rw [if_neg (show ¬ (false = true) by decide)] at H
     by_cases c13 : a0 = 10
     ·rw [if_pos c13] at H
      have c13b0 : (a0 == 10) = true := beq_iff_eq.mpr c13
      have c13b1 : (a0 != 10) = false := bne_eq_false_iff_eq.mpr c13
      clear c13
      obtain rfl := Option.some.inj H
      go_wp2
      go_ret
      exact ⟨sd_, ab18_⟩
     rw [if_neg c13] at H
     have c13b0 : (a0 == 10) = false := beq_eq_false_iff_ne.mpr c13
     have c13b1 : (a0 != 10) = true := bne_iff_ne.mpr c13
     by_cases c14 : a0 = 11
     ·rw [if_pos c14] at H
      have c14b0 : (a0 == 11) = true := beq_iff_eq.mpr c14
      have c14b1 : (a0 != 11) = false := bne_eq_false_iff_eq.mpr c14
      clear c14
      obtain rfl := Option.some.inj H
      go_wp2
      go_ret
      exact ⟨sd_, ab18_⟩
     rw [if_neg c14] at H
     have c14b0 : (a0 == 11) = false := beq_eq_false_iff_ne.mpr c14
     have c14b1 : (a0 != 11) = true := bne_iff_ne.mpr c14
     by_cases c15 : a0 = 12
     ·rw [if_pos c15] at H
      have c15b0 : (a0 == 12) = true := beq_iff_eq.mpr c15
      have c15b1 : (a0 != 12) = false := bne_eq_false_iff_eq.mpr c15
      clear c15
      obtain rfl := Option.some.inj H
      go_wp2
      go_ret
      exact ⟨sd_, ab18_⟩
     rw [if_neg c15] at H
     have c15b0 : (a0 == 12) = false := beq_eq_false_iff_ne.mpr c15
     have c15b1 : (a0 != 12) = true := bne_iff_ne.mpr c15
     obtain rfl := Option.some.inj H
     go_wp2
     go_ret
     exact ⟨sd_, ab18_⟩
theorem impl_operandTokens.mono_all : ∀ k, (∀ y0 y1 y2 y3 y4, LeO (impl_operandTokens.f k y0 y1 y2 y3 y4) (impl_operandTokens.f (k + 1) y0 y1 y2 y3 y4)) ∧ (∀ y0 y1 y2 y3 y4, LeO (impl_operandTokens.j0 k y0 y1 y2 y3 y4) (impl_operandTokens.j0 (k + 1) y0 y1 y2 y3 y4)) ∧ (∀ y0 y1 y2 y3, LeO (impl_exprTokens.f k y0 y1 y2 y3) (impl_exprTokens.f (k + 1) y0 y1 y2 y3))
 | 0 => ⟨fun _ _ _ _ _ r h => by simp [impl_operandTokens.f] at h, fun _ _ _ _ _ r h => by simp [impl_operandTokens.j0] at h, fun _ _ _ _ r h => by simp [impl_exprTokens.f] at h⟩
 | k + 1 => by
  obtain ⟨ih0, ih1, ih2⟩ := impl_operandTokens.mono_all k
  refine ⟨?_, ?_, ?_⟩
  ·intro y0 y1 y2 y3 y4
   unfold impl_operandTokens.f
   have m0 := @impl_OpLevel.mono
   exact mo_
  ·intro y0 y1 y2 y3 y4
   unfold impl_operandTokens.j0
   have m0 := @impl_OpLevel.mono
   exact mo_
  ·intro y0 y1 y2 y3
   unfold impl_exprTokens.f
   have m0 := @impl_OpLevel.mono
   exact mo_
theorem impl_operandTokens.mono : ∀ a0 a1 a2 a3 a4 k, LeO (impl_operandTokens.f k a0 a1 a2 a3 a4) (impl_operandTokens.f (k + 1) a0 a1 a2 a3 a4) := by
 intro a0 a1 a2 a3 a4 k
 obtain ⟨ih0, ih1, ih2⟩ := impl_operandTokens.mono_all k
 exact ih0 a0 a1 a2 a3 a4
theorem impl_exprTokens.mono : ∀ a0 a1 a2 a3 k, LeO (impl_exprTokens.f k a0 a1 a2 a3) (impl_exprTokens.f (k + 1) a0 a1 a2 a3) := by
 intro a0 a1 a2 a3 k
 obtain ⟨ih0, ih1, ih2⟩ := impl_operandTokens.mono_all k
 exact ih2 a0 a1 a2 a3
abbrev impl_operandTokens.CallsAt (k : Nat) : Prop := ∀ (a0_0 : Int) (a0_1 : Int) (A0_2 : Option Addr) (c0_2 : Nat) (l0_2 : List (S56)) (a1 : Int) (P2_ : Nat → Prop) (u20_ : Value) (l2 : List ByteArray) (r : List ByteArray) (w0 w : World) (hB : Below w0.heap.size w0 w) (hr0_2 : ∀ W_, Kept w W_ (fun k_ => P2_ k_) → Kd.C k56 W_ A0_2 l0_2.length l0_2) (hc0_2 : l0_2.length ≤ c0_2) (ho2 : Kd.R Kd.string 9 w w0.heap.size P2_ u20_ l2) (ht_ : Tab w0) (h : impl_operandTokens.f k a0_0 a0_1 l0_2 a1 l2 = some r),
  Calls Tryz.prog 89 #[.agg #[.int .i64 a0_0, .int .i64 a0_1, .slice A0_2 l0_2.length c0_2], .int .i64 a1, u20_] w fun e w' => ∃ v0_ : Value, e = .returned (v0_) ∧ Kd.R Kd.string 9 w' w0.heap.size (fun k_ => (P2_ k_ ∨ w.heap.size ≤ k_)) v0_ r ∧ Below w0.heap.size w0 w' ∧ Kept w w' (fun k_ => P2_ k_)
abbrev impl_exprTokens.CallsAt (k : Nat) : Prop := ∀ (a0_0 : Int) (a0_1 : Int) (A0_2 : Option Addr) (c0_2 : Nat) (l0_2 : List (S56)) (P1_ : Nat → Prop) (u20_ : Value) (l1 : List ByteArray) (r : List ByteArray) (w0 w : World) (hB : Below w0.heap.size w0 w) (hr0_2 : ∀ W_, Kept w W_ (fun k_ => P1_ k_) → Kd.C k56 W_ A0_2 l0_2.length l0_2) (hc0_2 : l0_2.length ≤ c0_2) (ho1 : Kd.R Kd.string 9 w w0.heap.size P1_ u20_ l1) (ht_ : Tab w0) (h : impl_exprTokens.f k a0_0 a0_1 l0_2 l1 = some r),
  Calls Tryz.prog 65 #[.agg #[.int .i64 a0_0, .int .i64 a0_1, .slice A0_2 l0_2.length c0_2], u20_] w fun e w' => ∃ v0_ : Value, e = .returned (v0_) ∧ Kd.R Kd.string 9 w' w0.heap.size (fun k_ => (P1_ k_ ∨ w.heap.size ≤ k_)) v0_ r ∧ Below w0.heap.size w0 w' ∧ Kept w w' (fun k_ => P1_ k_)
theorem impl_stmtTokens.mono_all : ∀ k, (∀ y0 y1 y2 y3 y4 y5 y6 y7 y8, LeO (impl_stmtTokens.f k y0 y1 y2 y3 y4 y5 y6 y7 y8) (impl_stmtTokens.f (k + 1) y0 y1 y2 y3 y4 y5 y6 y7 y8)) ∧ (∀ y0 y1, LeO (impl_blockTokens.f k y0 y1) (impl_blockTokens.f (k + 1) y0 y1)) ∧ (∀ y0 y1 y2 y3, LeO (impl_blockTokens.l0 k y0 y1 y2 y3) (impl_blockTokens.l0 (k + 1) y0 y1 y2 y3))
 | 0 => ⟨fun _ _ _ _ _ _ _ _ _ r h => by simp [impl_stmtTokens.f] at h, fun _ _ r h => by simp [impl_blockTokens.f] at h, fun _ _ _ _ r h => by simp [impl_blockTokens.l0] at h⟩
 | k + 1 => by
  obtain ⟨ih0, ih1, ih2⟩ := impl_stmtTokens.mono_all k
  refine ⟨?_, ?_, ?_⟩
  ·intro y0 y1 y2 y3 y4 y5 y6 y7 y8
   unfold impl_stmtTokens.f
   have m0 := @impl_exprTokens.mono
   exact mo_
  ·intro y0 y1
   unfold impl_blockTokens.f
   have m0 := @impl_exprTokens.mono
   exact mo_
  ·intro y0 y1 y2 y3
   unfold impl_blockTokens.l0
   have m0 := @impl_exprTokens.mono
   exact mo_
theorem impl_stmtTokens.mono : ∀ a0 a1 a2 a3 a4 a5 a6 a7 a8 k, LeO (impl_stmtTokens.f k a0 a1 a2 a3 a4 a5 a6 a7 a8) (impl_stmtTokens.f (k + 1) a0 a1 a2 a3 a4 a5 a6 a7 a8) := by
 intro a0 a1 a2 a3 a4 a5 a6 a7 a8 k
 obtain ⟨ih0, ih1, ih2⟩ := impl_stmtTokens.mono_all k
 exact ih0 a0 a1 a2 a3 a4 a5 a6 a7 a8
theorem impl_blockTokens.mono : ∀ a0 a1 k, LeO (impl_blockTokens.f k a0 a1) (impl_blockTokens.f (k + 1) a0 a1) := by
 intro a0 a1 k
 obtain ⟨ih0, ih1, ih2⟩ := impl_stmtTokens.mono_all k
 exact ih1 a0 a1
abbrev impl_stmtTokens.CallsAt (k : Nat) : Prop := ∀ (a0_0 : Int) (a0_1 : Int) (a0_2 : Int) (a0_3 : Int) (a0_4 : Int) (A0_5 : Option Addr) (c0_5 : Nat) (l0_5 : List (S56)) (A0_6 : Option Addr) (c0_6 : Nat) (l0_6 : List (S58)) (A0_7 : Option Addr) (c0_7 : Nat) (l0_7 : List (S58)) (P1_ : Nat → Prop) (u20_ : Value) (l1 : List ByteArray) (r : List ByteArray) (w0 w : World) (hB : Below w0.heap.size w0 w) (hr0_5 : ∀ W_, Kept w W_ (fun k_ => P1_ k_) → Kd.C k56 W_ A0_5 l0_5.length l0_5) (hc0_5 : l0_5.length ≤ c0_5) (hr0_6 : ∀ W_, Kept w W_ (fun k_ => P1_ k_) → Kd.C k58 W_ A0_6 l0_6.length l0_6) (hc0_6 : l0_6.length ≤ c0_6) (hr0_7 : ∀ W_, Kept w W_ (fun k_ => P1_ k_) → Kd.C k58 W_ A0_7 l0_7.length l0_7) (hc0_7 : l0_7.length ≤ c0_7) (ho1 : Kd.R Kd.string 9 w w0.heap.size P1_ u20_ l1) (ht_ : Tab w0) (h : impl_stmtTokens.f k a0_0 a0_1 a0_2 a0_3 a0_4 l0_5 l0_6 l0_7 l1 = some r),
  Calls Tryz.prog 42 #[.agg #[.int .i64 a0_0, .int .i64 a0_1, .int .i64 a0_2, .int .i64 a0_3, .int .i64 a0_4, .slice A0_5 l0_5.length c0_5, .slice A0_6 l0_6.length c0_6, .slice A0_7 l0_7.length c0_7], u20_] w fun e w' => ∃ v0_ : Value, e = .returned (v0_) ∧ Kd.R Kd.string 9 w' w0.heap.size (fun k_ => (P1_ k_ ∨ w.heap.size ≤ k_)) v0_ r ∧ Below w0.heap.size w0 w' ∧ Kept w w' (fun k_ => P1_ k_)
abbrev impl_blockTokens.CallsAt (k : Nat) : Prop := ∀ (A0 : Option Addr) (c0 : Nat) (l0 : List (S58)) (P1_ : Nat → Prop) (u20_ : Value) (l1 : List ByteArray) (r : List ByteArray) (w0 w : World) (hB : Below w0.heap.size w0 w) (hr0 : ∀ W_, Kept w W_ (fun k_ => P1_ k_) → Kd.C k58 W_ A0 l0.length l0) (hc0 : l0.length ≤ c0) (ho1 : Kd.R Kd.string 9 w w0.heap.size P1_ u20_ l1) (ht_ : Tab w0) (h : impl_blockTokens.f k l0 l1 = some r),
  Calls Tryz.prog 21 #[.slice A0 l0.length c0, u20_] w fun e w' => ∃ v0_ : Value, e = .returned (v0_) ∧ Kd.R Kd.string 9 w' w0.heap.size (fun k_ => (P1_ k_ ∨ w.heap.size ≤ k_)) v0_ r ∧ Below w0.heap.size w0 w' ∧ Kept w w' (fun k_ => P1_ k_)
theorem impl_varText.calls (a0 : Int) (r : ByteArray) (w : World) (h : impl_varText.f a0 = some r) :
  Calls Tryz.prog 66 #[.int .i64 a0] w fun e w' => e = .returned (.string r) ∧ Drawn0 w w' := by
 unfold impl_varText.f at h
 by_cases h1 : 0 ≤ a0 ∧ a0 ≤ 3
 case neg => rw [if_neg h1] at h; cases h
 rw [if_pos h1] at h
 obtain rfl := Option.some.inj h
 have h4 : a0 = 0 ∨ a0 = 1 ∨ a0 = 2 ∨ a0 = 3 := by omega
 clear h1
 rcases h4 with rfl | rfl | rfl | rfl
 all_goals
  go_enter Tryz.func66, Tryz.ntmps66
  go_wp2
  go_ret
  exact ⟨rfl, Drawn0.refl _⟩
theorem impl_operandTokens.step (k : Nat) (ih_impl_operandTokens : ∀ m, m < k → impl_operandTokens.CallsAt m) (ih_impl_exprTokens : ∀ m, m < k → impl_exprTokens.CallsAt m) : impl_operandTokens.CallsAt k := by
 intro a0_0 a0_1 A0_2 c0_2 l0_2 a1 P2_ u28_ l2 r w0 w hB hr0_2 hc0_2 ho2 ht_ h
 cases k with
 | zero => exact absurd h (by simp [impl_operandTokens.f])
 | succ k =>
 simp only [impl_operandTokens.f] at h
 have hu56 := Tryz.underlying56
 have HR0_2 := am hr0_2
 have HC0_2 := am hc0_2
 clear hr0_2 hc0_2
 have HO2 := am (show Kd.R Kd.string 9 w w0.heap.size (fun k_ => (P2_ k_ ∨ w.heap.size ≤ k_)) u28_ l2 from Kd.R_mono ho2 (fun k_ hk => (.inl hk)))
 have HK := am (Kept.refl w (fun k_ => P2_ k_))
 have HW0 := am hB.size
 have HB := am hB
 clear hB
 have H : ((impl_OpValid.f a0_0).bind fun t30 => (if t30 = true then ((impl_OpLevel.f k a0_0).bind fun t31 => (impl_operandTokens.j0 k l2 (decide (t31 ≥ a1)) a0_0 a0_1 l0_2)) else (impl_operandTokens.j0 k l2 true a0_0 a0_1 l0_2))) = some r := h
 clear h
 have HC4 := am H
 clear H
 go_enter Tryz.func89, Tryz.ntmps89
 go_upto_region 1 with (first | ((with_reducible refine gate_dst (N := 3) rfl ?_); refine box_event rfl (N := 3) rfl (cs := #[.int .i64 a0_0, .int .i64 a0_1, .slice A0_2 l0_2.length c0_2]) (t := 56) rn_ ?_; intro gb33 hg w5 hbox hb; replace HO2 := am (Kd.R_below (aR_ HO2.out) hb); have BK33 := am (hbox); have GW33 := am ((by rw [hg]; exact (by first | exact HK.out.1 | exact (show Kept w _ (fun k_ => P2_ k_) from ab36_).1) : w.heap.size ≤ gb33)); replace HK := am (Kept.below (S := (fun k_ => P2_ k_)) ab36_ hb); have GE33 := am ((by rw [hg]; exact (below_size ab2_) : w0.heap.size ≤ gb33)); replace HB := am (below_step ab2_ hb); clear hb hbox hg))
 (try simp only [Act.put, List.setIfInBounds_toArray, List.set_cons_zero, List.set_cons_succ])
 go_cut [17] (fun v17 wc => ∃ (kq : Nat) (x17_3 : Bool), v17 = .bool x17_3 ∧ Aside0 (impl_operandTokens.j0 kq l2 x17_3 a0_0 a0_1 l0_2 = some r) ∧ Aside0 (kq ≤ k) ∧ Aside0 (Kd.R Kd.string 9 wc w0.heap.size (fun k_ => (P2_ k_ ∨ w.heap.size ≤ k_)) u28_ l2) ∧ Aside0 (wc.heap[gb33]? = some (.cells #[.int .i64 a0_0, .int .i64 a0_1, (.slice A0_2 l0_2.length c0_2)] 56 (0, 0))) ∧ Aside0 (Kept w wc (fun k_ => P2_ k_)) ∧ Aside0 (Below w0.heap.size w0 wc))
 case first =>
  have H := HC4.out
  clear HC4
  obtain ⟨t30, A6, H⟩ := bsa H
  (try dsimp only at H)
  by_cases c7 : t30 = true
  ·subst c7
   rw [if_pos rfl] at H
   obtain ⟨t31, A8, H⟩ := bsa H
   (try dsimp only at H)
   have H' := am H
   clear H
   obtain ⟨hcz9_0, hcz9_1, hcz9_2, hfz9_0, hfz9_1, hfz9_2⟩ := bcf3_ BK33.out
   go_wp2_with (first | ((with_reducible refine gate_callee (f := 115) rfl ?_); refine gl_ 9 Tryz.func115 #[.int .i64 a0_0] ?_; (with_reducible refine (impl_OpValid.calls a0_0 true _ A6.out).mono ?_); rintro e w' ⟨rfl, ⟨nd, rfl⟩⟩; refine ⟨_, rfl, ?_⟩) | (go_at_call 88; (with_reducible refine (impl_OpLevel.calls k a0_0 t31 _ A8.out).mono ?_); rintro e w' ⟨rfl, ⟨nd, rfl⟩⟩))
   go_meet
   case rel => exact ⟨_, (decide (t31 ≥ a1)), sd_, H', ⟨by first | omega | exact Nat.le_refl _⟩, ⟨aRw_ HO2.out⟩, ⟨by (with_reducible repeat (first | refine blk_drewN ?_ _ | refine blk_drew ?_ | refine blk_alloc ?_ _)); exact BK33.out⟩, ⟨ab51_⟩, ⟨ab35_⟩⟩
  replace c7 := Bool.eq_false_iff.mpr c7
  subst c7
  rw [if_neg (show ¬ (false = true) by decide)] at H
  have H' := am H
  clear H
  obtain ⟨hcz10_0, hcz10_1, hcz10_2, hfz10_0, hfz10_1, hfz10_2⟩ := bcf3_ BK33.out
  go_wp2_with (first | ((with_reducible refine gate_callee (f := 115) rfl ?_); refine gl_ 9 Tryz.func115 #[.int .i64 a0_0] ?_; (with_reducible refine (impl_OpValid.calls a0_0 false _ A6.out).mono ?_); rintro e w' ⟨rfl, ⟨nd, rfl⟩⟩; refine ⟨_, rfl, ?_⟩))
  go_meet
  case rel => exact ⟨_, (true), sd_, H', ⟨by first | omega | exact Nat.le_refl _⟩, ⟨aRw_ HO2.out⟩, ⟨by (with_reducible repeat (first | refine blk_drewN ?_ _ | refine blk_drew ?_ | refine blk_alloc ?_ _)); exact BK33.out⟩, ⟨ab51_⟩, ⟨ab35_⟩⟩
 case rest =>
  clear HC4
  obtain ⟨kq, x17_3, rfl, HA, HJ3, HO_2, BK33, HK, HB⟩ := hcut
  cases kq with
  | zero => exact absurd HA.out (by simp [impl_operandTokens.j0])
  | succ kj3 =>
   have H := HA.out
   clear HA
   simp only [impl_operandTokens.j0] at H
   by_cases c11 : x17_3 = true
   ·subst c11
    rw [if_pos rfl] at H
    obtain ⟨t34, A35, H⟩ := bsm H
    (try dsimp only at H)
    have A12 := am A35
    clear A35
    obtain rfl := Option.some.inj H
    obtain ⟨hcz13_0, hcz13_1, hcz13_2, hfz13_0, hfz13_1, hfz13_2⟩ := bcf3_ BK33.out
    obtain ⟨Ao14, co14, eo14⟩ := Kd.R_slice HO_2.out
    subst eo14
    go_wp2_with (first | ((with_reducible refine gate_callee (f := 65) rfl ?_); refine gl_ 20 Tryz.func65 #[.agg #[.int .i64 a0_0, .int .i64 a0_1, .slice A0_2 l0_2.length c0_2], .slice Ao14 l2.length co14] ?_; (with_reducible refine (ih_impl_exprTokens kj3 (by have := HJ3.out; omega) a0_0 a0_1 _ _ l0_2 (fun k_ => some k_ = (.slice Ao14 l2.length co14 : Value).ownBlock) (.slice Ao14 l2.length co14) l2 t34 w0 _ ?side1 ?side2 HC0_2.out ?side4 ?sideT A12.out).mono ?_); (case sideT => first | exact ht_ | exact Tab.below ht_ HB.out | exact Tab.below ht_ ab35_); (case side1 => exact ab35_); (case side2 => exact Kd.C_kept_call HR0_2.out ab51_ (fun k_ hs_ => (fun e_ => (HO_2.out.1 k_ e_.symm)) hs_)); (case side4 => exact Kd.R_tight rfl HO_2.out); rintro e w15 ⟨v36, rfl, ho0, hb, hkp⟩; refine ⟨_, rfl, ?_⟩; replace BK33 := am (blk_kept (aG_ BK33.out) hkp (fun hs_ => (fun e_ => (Kd.R_ne HO_2.out BK33.out (by decide)) e_) hs_)); have HO37 := am (Kd.R_mono (ok' := fun k_ => (P2_ k_ ∨ w.heap.size ≤ k_)) ho0 (fun k_ hk_ => Or.elim hk_ (fun hs_ => (HO_2.out.1 k_ (hs_).symm)) (fun hn_ => (.inr (Nat.le_trans (by first | exact HK.out.1 | exact (show Kept w _ (fun k_ => P2_ k_) from ab51_).1) hn_))))); replace HK := am (Kept.then_ (S := (fun k_ => P2_ k_)) ab51_ hkp (fun k_ hs_ => (fun e_ => (HO_2.out.1 k_ e_.symm)) hs_)); replace HB := am (hb); clear HO_2; (try clear hb); (try clear hkp); (try clear ho0)))
    go_ret
    exact ⟨_, ab13_, aRw_ HO37.out, ab35_, ab51_⟩
   replace c11 := Bool.eq_false_iff.mpr c11
   subst c11
   rw [if_neg (show ¬ (false = true) by decide)] at H
   by_cases c16 : l2.length < 8796093022208
   ·rw [if_pos c16] at H
    have LMc16 := am c16
    clear c16
    obtain ⟨y39, hy_⟩ : ∃ y_ : List ByteArray, y_ = (l2 ++ [(⟨#[40]⟩ : ByteArray)]) := ⟨_, rfl⟩
    replace H : ((impl_exprTokens.f kj3 a0_0 a0_1 l0_2 y39).bind fun t38 => (if t38.length < 8796093022208 then (some (t38 ++ [(⟨#[41]⟩ : ByteArray)])) else (none))) = some r := rx_
    have Ny39 := am hy_
    clear hy_
    obtain ⟨t38, A42, H⟩ := bsm H
    (try dsimp only at H)
    have A17 := am A42
    clear A42
    by_cases c18 : t38.length < 8796093022208
    ·rw [if_pos c18] at H
     have LMc18 := am c18
     clear c18
     obtain ⟨y43, hy_⟩ : ∃ y_ : List ByteArray, y_ = (t38 ++ [(⟨#[41]⟩ : ByteArray)]) := ⟨_, rfl⟩
     replace H : (some y43) = some r := rx_
     have Ny43 := am hy_
     clear hy_
     obtain rfl := Option.some.inj H
     try go_wp2
     replace HO_2 := am (Kd.R_drew HO_2.out)
     replace BK33 := am (blk_drew BK33.out)
     replace HK := am (Kept.drew HK.out)
     replace HB := am (below_drew1 HB.out)
     refine start_ (n := 6) (S := fun w' => w'.cell? ⟨gb33, 0, none⟩ = some (.int .i64 a0_0) ∧ w'.cell? ⟨gb33, 1, none⟩ = some (.int .i64 a0_1) ∧ w'.cell? ⟨gb33, 2, none⟩ = some (.slice A0_2 l0_2.length c0_2)) (ds := []) (bz 6 0) (by kernel_rfl) rfl rfl ⟨(blk_cell BK33.out 0).trans rfl, (blk_cell BK33.out 1).trans rfl, (blk_cell BK33.out 2).trans rfl⟩ (fun hHeld => ?_)
     generalize wc.drew = w19 at HO_2 BK33 HK HB hHeld ⊢
     refine pure_ (i := 1) (N := some 22) (v := ?_) (a' := ?_) (bz 6 2) rfl rfl (by kernel_rfl) (fun _ _ _ h => h) (Or.inl ⟨by rfl, ?_⟩) ?_ ?_
     rotate_left
     ·intro w'
      go_simp
      with_reducible rfl
     rotate_left
     ·simp only [Act.put, List.setIfInBounds_toArray, List.set_cons_zero, List.set_cons_succ, i64_w, i32_w]
      rfl
     refine take_ (i := 0) (N := some 21) (v := ?_) (a' := ?_) (bz 6 3) rfl rfl (by kernel_rfl) (fun _ _ _ h => h) (Or.inl ⟨by rfl, ?_⟩) hHeld ?_ ?_
     rotate_left
     ·rintro w' ⟨s0, s1, s2⟩
      go_simp
      with_reducible rfl
     rotate_left
     ·simp only [Act.put, List.setIfInBounds_toArray, List.set_cons_zero, List.set_cons_succ, i64_w, i32_w]
      rfl
     refine one_ (i := 2) (N := some 23) (bz 6 7) rfl rfl (by kernel_rfl) (by decide) (fun K hK => ?_)
     refine value_ (w1 := ?_) (v := ?_) (by rfl) rfl ?_ ?_
     rotate_left 2
     ·go_simp
      constructor
      ·rfl
      ·rfl
     refine hK.out _ _ ⟨(blk_cell (blk_alloc BK33.out _) 0).trans rfl, (blk_cell (blk_alloc BK33.out _) 1).trans rfl, (blk_cell (blk_alloc BK33.out _) 2).trans rfl⟩ (fun hHeld => ?_)
     clear hK K
     refine norm_ (a' := ?_) ?_ ?_
     rotate_left
     ·show Act.put _ (some 23) _ = _
      simp only [Act.put, List.setIfInBounds_toArray, List.set_cons_zero, List.set_cons_succ, i64_w, i32_w]
      rfl
     refine one_ (i := 3) (N := some 24) (bz 6 15) rfl rfl (by kernel_rfl) (by decide) (fun K hK => ?_)
     refine Kd.R_append_step Kd.string (w0 := w0) w0.heap.size (by rfl) (.tmp 22) (.tmp 23) 29 9 (.string ⟨#[]⟩) 16 rfl Tryz.underlying29 info9 rfl (by decide) (by omega) u28_ l2 (⟨#[40]⟩ : ByteArray) [.string (⟨#[40]⟩ : ByteArray)] (fun k_ => (P2_ k_ ∨ w.heap.size ≤ k_)) (fun _ => False) rfl rfl ?aP (fun _ hk => hk.elim) ?aF ?aO ?aB ?aS ?aL ?_
     (case aP => exact rfl)
     (case aB => exact ab35_)
     (case aF => exact (fun k_ hk => (.inr (Nat.le_trans (by first | exact HK.out.1 | exact (show Kept w _ (fun k_ => P2_ k_) from ab51_).1) hk))))
     (case aO => exact (aR_ HO_2.out))
     (case aS => exact (below_size ab35_))
     (case aL => have := LMc16.out; omega)
     intro v44 w20 ho hb hg hat
     rw [← Ny39.out] at ho
     replace BK33 := am (blk_grown (g := gb33) (o := .cells #[.int .i64 a0_0, .int .i64 a0_1, .slice A0_2 l0_2.length c0_2] 56 (0, 0)) (aG_ BK33.out) hg (Kd.R_ne HO_2.out BK33.out (by decide)))
     replace HB := am (hb)
     replace HK := am (Kept.of_grown (S := (fun k_ => P2_ k_)) hg ab51_ (fun k_ e_ => (HO_2.out.1 k_ e_)))
     have HO45 := am (ho)
     clear HO_2
     clear ho hb hg hat
     obtain ⟨Ao21, co21, eo21⟩ := Kd.R_slice HO45.out
     (first | subst eo21 | (injection eo21 with f1_ f2_ f3_; have f4_ := f1_.symm; have f5_ := f3_.symm; clear f1_ f2_ f3_; subst f4_; subst f5_))
     refine hK.out _ _ ⟨(blk_cell BK33.out 0).trans rfl, (blk_cell BK33.out 1).trans rfl, (blk_cell BK33.out 2).trans rfl⟩ (fun hHeld => ?_)
     clear hK K
     refine norm_ (a' := ?_) ?_ ?_
     rotate_left
     ·show Act.put _ (some 24) _ = _
      simp only [Act.put, List.setIfInBounds_toArray, List.set_cons_zero, List.set_cons_succ, i64_w, i32_w]
      rfl
     refine one_ (i := 4) (N := some 25) (bz 6 31) rfl rfl (by kernel_rfl) (by decide) (fun K hK => ?_)
     refine goes_ Tryz.func65 (by kernel_rfl) rfl #[.agg #[.int .i64 a0_0, .int .i64 a0_1, .slice A0_2 l0_2.length c0_2], .slice Ao21 y39.length co21] (by rfl) rfl rfl ab1_ ?_
     with_reducible refine (ih_impl_exprTokens kj3 (by have := HJ3.out; omega) a0_0 a0_1 _ _ l0_2 (fun k_ => some k_ = (.slice Ao21 y39.length co21 : Value).ownBlock) (.slice Ao21 y39.length co21) y39 t38 w0 _ ?side1 ?side2 HC0_2.out ?side4 ?sideT A17.out).mono ?_
     (case sideT => first | exact ht_ | exact Tab.below ht_ HB.out | exact Tab.below ht_ ab35_)
     (case side1 => exact ab35_)
     (case side2 => exact Kd.C_kept_call HR0_2.out ab51_ (fun k_ hs_ => (fun e_ => (HO45.out.1 k_ e_.symm)) hs_))
     (case side4 => exact Kd.R_tight rfl HO45.out)
     rintro e w22 ⟨v46, rfl, ho0, hb, hkp⟩
     refine ⟨_, rfl, ?_⟩
     replace BK33 := am (blk_kept (aG_ BK33.out) hkp (fun hs_ => (fun e_ => (Kd.R_ne HO45.out BK33.out (by decide)) e_) hs_))
     have HO47 := am (Kd.R_mono (ok' := fun k_ => (P2_ k_ ∨ w.heap.size ≤ k_)) ho0 (fun k_ hk_ => Or.elim hk_ (fun hs_ => (HO45.out.1 k_ (hs_).symm)) (fun hn_ => (.inr (Nat.le_trans (by first | exact HK.out.1 | exact (show Kept w _ (fun k_ => P2_ k_) from ab51_).1) hn_)))))
     replace HK := am (Kept.then_ (S := (fun k_ => P2_ k_)) ab51_ hkp (fun k_ hs_ => (fun e_ => (HO45.out.1 k_ e_.symm)) hs_))
     replace HB := am (hb)
     clear HO45
     (try clear hb)
     (try clear hkp)
     (try clear ho0)
     refine hK.out _ _ ⟨(blk_cell BK33.out 0).trans rfl, (blk_cell BK33.out 1).trans rfl, (blk_cell BK33.out 2).trans rfl⟩ (fun hHeld => ?_)
     clear hK K
     refine norm_ (a' := ?_) ?_ ?_
     rotate_left
     ·show Act.put _ (some 25) _ = _
      simp only [Act.put, List.setIfInBounds_toArray, List.set_cons_zero, List.set_cons_succ, i64_w, i32_w]
      rfl
     refine pure_ (i := 5) (N := some 2) (v := ?_) (a' := ?_) (bz 6 63) rfl rfl (by kernel_rfl) (fun _ _ _ h => h) (Or.inl ⟨by rfl, ?_⟩) ?_ ?_
     rotate_left
     ·intro w'
      go_simp
      with_reducible rfl
     rotate_left
     ·simp only [Act.put, List.setIfInBounds_toArray, List.set_cons_zero, List.set_cons_succ, i64_w, i32_w]
      rfl
     refine done_ (by kernel_rfl) ?_
     try go_wp2_with (first | ((with_reducible refine gate_builtin (b := .append) (xs := #[.tmp 26, .tmp 27]) rfl ?_); at_builtin; refine Kd.R_append Kd.string (w0 := w0) w0.heap.size rfl (.tmp 26) (.tmp 27) 29 9 (.string ⟨#[]⟩) 16 rfl Tryz.underlying29 info9 rfl (by decide) (by omega) v46 t38 (⟨#[41]⟩ : ByteArray) [.string (⟨#[41]⟩ : ByteArray)] (fun k_ => (P2_ k_ ∨ w.heap.size ≤ k_)) (fun _ => False) rfl rfl ?aP (fun _ hk => hk.elim) ?aF ?aO ?aB ?aS ?aL ?_; (case aP => exact rfl); (case aB => exact ab35_); (case aF => exact (fun k_ hk => (.inr (Nat.le_trans (by first | exact HK.out.1 | exact (show Kept w _ (fun k_ => P2_ k_) from ab51_).1) hk)))); (case aO => exact (aR_ HO47.out)); (case aS => exact (below_size ab35_)); (case aL => have := LMc18.out; omega); intro v48 w23 ho hb hg hat; rw [← Ny43.out] at ho; replace BK33 := am (blk_grown (g := gb33) (o := .cells #[.int .i64 a0_0, .int .i64 a0_1, .slice A0_2 l0_2.length c0_2] 56 (0, 0)) (aG_ BK33.out) hg (Kd.R_ne HO47.out BK33.out (by decide))); replace HB := am (hb); replace HK := am (Kept.of_grown (S := (fun k_ => P2_ k_)) hg ab51_ (fun k_ e_ => (HO47.out.1 k_ e_))); have HO49 := am (ho); clear HO47 ho hb hg hat))
     go_ret
     exact ⟨_, ab13_, aRw_ HO49.out, ab35_, ab51_⟩
    rw [if_neg c18] at H
    exact absurd H (by simp)
   rw [if_neg c16] at H
   exact absurd H (by simp)
theorem impl_OpText.calls (a0 : Int) (r : ByteArray) (w : World) (ht_ : Tab w) (h : impl_OpText.f a0 = some r) :
  Calls Tryz.prog 90 #[.int .i64 a0] w fun e w' => e = .returned (.string r) ∧ Below w.heap.size w w' := by
 unfold impl_OpText.f at h
 by_cases h1 : 1 ≤ a0 ∧ a0 ≤ 12
 case neg => rw [if_neg h1] at h; cases h
 rw [if_pos h1] at h
 obtain rfl := Option.some.inj h
 have hv : impl_OpValid.f a0 = some true := by
  unfold impl_OpValid.f
  simp [h1.1, h1.2]
 have HV := am hv
 rw [show (a0 - 1).toNat = a0.toNat - 1 by omega]
 have hc := opCell ht_ (a0.toNat - 1) (by omega)
 have hw : wrap64 (a0 - 1) = a0 - 1 := by unfold wrap64; omega
 have p0 : decide (0 ≤ a0 - 1) = true := decide_eq_true (by omega)
 have p1 : decide (a0 - 1 < 12) = true := decide_eq_true (by omega)
 have q0 : (0 ≤ a0 - 1) = True := eq_true (by omega)
 have q1 : (a0 - 1 < 12) = True := eq_true (by omega)
 have q2 : (1 ≤ a0) = True := eq_true h1.1
 have q3 : (a0 < 13) = True := eq_true (by omega)
 clear hv h1
 go_enter Tryz.func90, Tryz.ntmps90
 go_wp2_with (first | (go_at_call 115; (with_reducible refine (impl_OpValid.calls a0 true _ HV.out).mono ?_); rintro e w' ⟨rfl, ⟨nd, rfl⟩⟩))
 go_ret
 exact ⟨rfl, by first | exact Below.refl _ _ | exact pw_below_drewN (Below.refl _ _) _⟩
end Go.Proofs.YtjamfkpgmkhbnaaGreatDoor.PA

