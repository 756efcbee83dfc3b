/- Part 2. -/
import Derived.Test.YtjamfkpgmkhbnaaDoorQFnExactExprText0
import Derived.Shelf.Strings.Builder1
import Derived.Shelf.Strings.Builder2
import Derived.Shelf.Strings.OnBuilder
import Derived.Shelf.Small.Strs
import Derived.Shelf.Strconv.Itoa0
import Derived.Shelf.Strconv.Itoa1
import Derived.Shelf.LaysM
import Derived.Shelf.Strconv.Itoa2
import Derived.Shelf.Strconv.Itoa3
import Derived.Shelf.Strings.Search1
import Derived.Shelf.Strings.Prefix
import Derived.Test.YtjamfkpgmkhbnaaDoorProg
import Derived.Below
import Derived.Deep.Draws
import Derived.Deep.AppendLies
import Derived.Maps.AppendAt
import Derived.OwnWalk
import Derived.Laws.BytesArg
import Derived.Laws.MakeOwn
import Derived.Laws.OwnMore
import Derived.Deep.OwnRows
import Derived.Tactics
import Derived.Lib.ConvBytes
import Derived.Laws.Slices
import Derived.WalkKit
import Derived.KernelRfl
import Derived.RowKit3
import Derived.Deep.LoopGhost
import Derived.Deep.QuietTactic
import Derived.BigQuiet
import Derived.WideLaws
import Derived.Deep.DeepCutAuto
import Derived.Deep.CutBlock
import Derived.Deep.RegionHeld3
import Derived.Laws.Rows
import Derived.Lib.AppendStr
import Derived.ArgAppend
import Derived.Laws.IdiomCopy
import Derived.OrdersHeld
import Derived.Laws.BitsLemmas
import Derived.RowKit
import Derived.Lib.SliceRun
import Derived.Lib.LaidTab
import Derived.Lib.AppendIntMem
import Derived.Deep.Slices
import Derived.ChangeArms
import Derived.ChangeSame
import Derived.WideShapes
set_option maxHeartbeats 8000000
set_option maxRecDepth 100000
namespace Go.Proofs
open Go.Shelf
open Go.RowKit in
open Go.RowKit in
open Go.RowKit in
open Go.RowKit in
open Go.RowKit in
def Tryd.lays156_ren : Go.Shelf.Ren := ⟨fun | 156 => 38 | 165 => 58 | 166 => 59 | 169 => 60 | 240 => 67 | 241 => 68 | 276 => 71 | 277 => 72 | n => n, fun | 31 => 37 | 9 => 9 | 3 => 3 | 4 => 4 | 0 => 0 | 20 => 20 | 72 => 74 | 76 => 78 | 70 => 72 | 37 => 33 | 75 => 77 | 127 => 83 | 164 => 85 | 5 => 5 | 80 => 80 | n => n, fun | n => n⟩
theorem Tryd.lays156 : Go.Proofs.Lays.n156 Tryd.prog Tryd.lays156_ren := {
 mixed := by kernel_rfl
 f156 := Tryd.func38.trans (congrArg some (by kernel_rfl))
 f165 := Tryd.func58.trans (congrArg some (by kernel_rfl))
 f166 := Tryd.func59.trans (congrArg some (by kernel_rfl))
 f169 := Tryd.func60.trans (congrArg some (by kernel_rfl))
 f240 := Tryd.func67.trans (congrArg some (by kernel_rfl))
 f241 := Tryd.func68.trans (congrArg some (by kernel_rfl))
 f276 := Tryd.func71.trans (congrArg some (by kernel_rfl))
 f277 := Tryd.func72.trans (congrArg some (by kernel_rfl))
 t0 := Tryd.underlying0
 a0 := Tryd.isAgg0
 z0 := Tryd.sizeOf0
 v0 := Tryd.zeroValue0
 t3 := Tryd.underlying3
 a3 := Tryd.isAgg3
 z3 := Tryd.sizeOf3
 v3 := Tryd.zeroValue3
 t4 := Tryd.underlying4
 a4 := Tryd.isAgg4
 z4 := Tryd.sizeOf4
 v4 := Tryd.zeroValue4
 t9 := Tryd.underlying9
 a9 := Tryd.isAgg9
 z9 := Tryd.sizeOf9
 v9 := Tryd.zeroValue9
 t20 := Tryd.underlying20
 a20 := Tryd.isAgg20
 z20 := Tryd.sizeOf20
 v20 := Tryd.zeroValue20
 t31 := Tryd.underlying37
 a31 := Tryd.isAgg37
 z31 := Tryd.sizeOf37
 v31 := Tryd.zeroValue37
 t37 := Tryd.underlying33
 a37 := Tryd.isAgg33
 z37 := Tryd.sizeOf33
 v37 := Tryd.zeroValue33
 t70 := Tryd.underlying72
 a70 := Tryd.isAgg72
 z70 := Tryd.sizeOf72
 v70 := Tryd.zeroValue72
 t72 := Tryd.underlying74
 a72 := Tryd.isAgg74
 z72 := Tryd.sizeOf74
 v72 := Tryd.zeroValue74
 t75 := Tryd.underlying77
 a75 := Tryd.isAgg77
 z75 := Tryd.sizeOf77
 v75 := Tryd.zeroValue77
 t76 := Tryd.underlying78
 a76 := Tryd.isAgg78
 z76 := Tryd.sizeOf78
 v76 := Tryd.zeroValue78
 t127 := Tryd.underlying83
 a127 := Tryd.isAgg83
 z127 := Tryd.sizeOf83
 v127 := Tryd.zeroValue83
 t164 := Tryd.underlying85
 a164 := Tryd.isAgg85
 z164 := Tryd.sizeOf85
 v164 := Tryd.zeroValue85 }
theorem Tryd.Builder_Extra_156 : Builder.Extra Tryd.prog Tryd.lays156_ren := {
 sizeBuilder := by kernel_rfl
 liesBuilder := by kernel_rfl
 t5 := Tryd.underlying5
 a5 := Tryd.isAgg5
 z5 := Tryd.sizeOf5
 v5 := Tryd.zeroValue5
 infoByte := by kernel_rfl
 cellsByte := by kernel_rfl
 sizeByte := by kernel_rfl
 neB5 := by decide }
open Go.RowKit in
theorem Tryd.strings_Join_none (a : Option Addr) (c : Nat) (sep : ByteArray) (w : World) :
  Calls Tryd.prog 38 #[.slice a 0 c, .string sep] w fun e w' => e = .returned (.string ⟨#[]⟩) ∧ w' = w := Any.strings_Join_none Tryd.lays156 Tryd.Builder_Extra_156 a c sep w
open Go.RowKit in
theorem Tryd.strings_Join (bk o c : Nat) (xs : List ByteArray) (sep : ByteArray) (w : World) (hcells : ∀ (j : Nat) x, xs[j]? = some x → w.cell? ⟨bk, o + j, none⟩ = some (.string x)) (hbk : bk < w.heap.size) (hN : xs.length ≤ 140737488355328) (hcap : xs.length ≤ c) (hlen : (Lib.join (xs.map (·.data.toList)) sep.data.toList).length ≤ 140737488355328) :
    Calls Tryd.prog 38 #[.slice (some ⟨bk, o, none⟩) xs.length c, .string sep] w fun e w' => e = .returned (.string ⟨(Lib.join (xs.map (·.data.toList)) sep.data.toList).toArray⟩) ∧ Below w.heap.size w w' := Any.strings_Join Tryd.lays156 Tryd.Builder_Extra_156 bk o c xs sep w hcells hbk hN hcap hlen
def Tryd.lays137_ren : Go.Shelf.Ren := ⟨fun | 137 => 53 | 217 => 63 | 266 => 70 | n => n, fun | 9 => 9 | 5 => 5 | 3 => 3 | n => n, fun | n => n⟩
theorem Tryd.lays137 : Go.Proofs.Lays.n137 Tryd.prog Tryd.lays137_ren := {
 mixed := by kernel_rfl
 f137 := Tryd.func53.trans (congrArg some (by kernel_rfl))
 f217 := Tryd.func63.trans (congrArg some (by kernel_rfl))
 f266 := Tryd.func70.trans (congrArg some (by kernel_rfl))
 t3 := Tryd.underlying3
 a3 := Tryd.isAgg3
 z3 := Tryd.sizeOf3
 v3 := Tryd.zeroValue3
 t5 := Tryd.underlying5
 a5 := Tryd.isAgg5
 z5 := Tryd.sizeOf5
 v5 := Tryd.zeroValue5
 t9 := Tryd.underlying9
 a9 := Tryd.isAgg9
 z9 := Tryd.sizeOf9
 v9 := Tryd.zeroValue9 }
open Go.RowKit in
theorem Tryd.strings_IndexByte (s : ByteArray) (c : Int) (w : World) :
  Calls Tryd.prog 53 #[.string s, .int .u8 c] w fun e w' => e = .returned (.int .i64 (Lib.indexByte s.data.toList c.toNat.toUInt8)) ∧ w' = w := Any.strings_IndexByte Tryd.lays137 s c w
def Tryd.lays129_ren : Go.Shelf.Ren := ⟨fun | 129 => 78 | n => n, fun | 53 => 89 | 3 => 3 | 4 => 4 | 46 => 98 | 5 => 5 | 9 => 9 | n => n, fun | n => n⟩
theorem Tryd.lays129 : Go.Proofs.Lays.n129 Tryd.prog Tryd.lays129_ren := {
 mixed := by kernel_rfl
 f129 := Tryd.func78.trans (congrArg some (by kernel_rfl))
 t3 := Tryd.underlying3
 a3 := Tryd.isAgg3
 z3 := Tryd.sizeOf3
 v3 := Tryd.zeroValue3
 t4 := Tryd.underlying4
 a4 := Tryd.isAgg4
 z4 := Tryd.sizeOf4
 v4 := Tryd.zeroValue4
 t5 := Tryd.underlying5
 a5 := Tryd.isAgg5
 z5 := Tryd.sizeOf5
 v5 := Tryd.zeroValue5
 t9 := Tryd.underlying9
 a9 := Tryd.isAgg9
 z9 := Tryd.sizeOf9
 v9 := Tryd.zeroValue9
 t46 := Tryd.underlying98
 a46 := Tryd.isAgg98
 z46 := Tryd.sizeOf98
 v46 := Tryd.zeroValue98
 t53 := Tryd.underlying89
 a53 := Tryd.isAgg89
 z53 := Tryd.sizeOf89
 v53 := Tryd.zeroValue89 }
theorem Tryd.bits_Len64 (x : Int) (w : World) (h0 : 0 ≤ x) (h1 : x ≤ 18446744073709551615) :
  Calls Tryd.prog 78 #[.int .u64 x] w fun e w' => e = .returned (.int .i64 (Lib.bitLen x.toNat)) ∧ w' = w := Any.bits_Len64 Tryd.lays129 x w h0 h1
open Go.Lib in
open Go.Lib in
open Go.Lib in
open Go.Lib in
open Go.RowKit Go.Sort Go.Lib in
open Go.RowKit Go.Sort Go.Lib in
open Go.RowKit Go.Sort Go.Lib in
open Go.RowKit Go.Sort Go.Lib in
open Go.RowKit Go.Sort Go.Lib in
def Tryd.laysM171_ren : Go.Shelf.Ren := ⟨fun | 171 => 39 | 243 => 61 | 246 => 69 | 283 => 73 | 284 => 74 | 285 => 75 | 286 => 76 | 129 => 78 | 317 => 77 | 318 => 79 | 319 => 80 | 320 => 81 | 337 => 82 | 338 => 83 | n => n, fun | 3 => 3 | 9 => 9 | 2 => 2 | 4 => 4 | 171 => 88 | 0 => 0 | 53 => 89 | 37 => 33 | 5 => 5 | 173 => 92 | 212 => 95 | 51 => 96 | 20 => 20 | 213 => 97 | 46 => 98 | 232 => 101 | 233 => 102 | n => n, fun | 17 => 2 | 18 => 3 | 19 => 4 | n => n⟩
theorem Tryd.laysM171 : Go.Proofs.LaysM.n171 Tryd.prog Tryd.laysM171_ren := {
 mixed := by kernel_rfl
 f129 := Tryd.func78.trans (congrArg some (by kernel_rfl))
 f171 := Tryd.func39.trans (congrArg some (by kernel_rfl))
 f243 := Tryd.func61.trans (congrArg some (by kernel_rfl))
 f246 := Tryd.func69.trans (congrArg some (by kernel_rfl))
 f283 := Tryd.func73.trans (congrArg some (by kernel_rfl))
 f284 := Tryd.func74.trans (congrArg some (by kernel_rfl))
 f285 := Tryd.func75.trans (congrArg some (by kernel_rfl))
 f286 := Tryd.func76.trans (congrArg some (by kernel_rfl))
 f317 := Tryd.func77.trans (congrArg some (by kernel_rfl))
 f318 := Tryd.func79.trans (congrArg some (by kernel_rfl))
 f319 := Tryd.func80.trans (congrArg some (by kernel_rfl))
 f320 := Tryd.func81.trans (congrArg some (by kernel_rfl))
 f337 := Tryd.func82.trans (congrArg some (by kernel_rfl))
 f338 := Tryd.func83.trans (congrArg some (by kernel_rfl))
 t0 := Tryd.underlying0
 a0 := Tryd.isAgg0
 z0 := Tryd.sizeOf0
 v0 := Tryd.zeroValue0
 t2 := Tryd.underlying2
 a2 := Tryd.isAgg2
 z2 := Tryd.sizeOf2
 v2 := Tryd.zeroValue2
 t3 := Tryd.underlying3
 a3 := Tryd.isAgg3
 z3 := Tryd.sizeOf3
 v3 := Tryd.zeroValue3
 t4 := Tryd.underlying4
 a4 := Tryd.isAgg4
 z4 := Tryd.sizeOf4
 v4 := Tryd.zeroValue4
 t5 := Tryd.underlying5
 a5 := Tryd.isAgg5
 z5 := Tryd.sizeOf5
 v5 := Tryd.zeroValue5
 t9 := Tryd.underlying9
 a9 := Tryd.isAgg9
 z9 := Tryd.sizeOf9
 v9 := Tryd.zeroValue9
 t20 := Tryd.underlying20
 a20 := Tryd.isAgg20
 z20 := Tryd.sizeOf20
 v20 := Tryd.zeroValue20
 t37 := Tryd.underlying33
 a37 := Tryd.isAgg33
 z37 := Tryd.sizeOf33
 v37 := Tryd.zeroValue33
 t46 := Tryd.underlying98
 a46 := Tryd.isAgg98
 z46 := Tryd.sizeOf98
 v46 := Tryd.zeroValue98
 t51 := Tryd.underlying96
 a51 := Tryd.isAgg96
 z51 := Tryd.sizeOf96
 v51 := Tryd.zeroValue96
 t53 := Tryd.underlying89
 a53 := Tryd.isAgg89
 z53 := Tryd.sizeOf89
 v53 := Tryd.zeroValue89
 t171 := Tryd.underlying88
 a171 := Tryd.isAgg88
 z171 := Tryd.sizeOf88
 v171 := Tryd.zeroValue88
 t173 := Tryd.underlying92
 a173 := Tryd.isAgg92
 z173 := Tryd.sizeOf92
 v173 := Tryd.zeroValue92
 t212 := Tryd.underlying95
 a212 := Tryd.isAgg95
 z212 := Tryd.sizeOf95
 v212 := Tryd.zeroValue95
 t213 := Tryd.underlying97
 a213 := Tryd.isAgg97
 z213 := Tryd.sizeOf97
 t232 := Tryd.underlying101
 a232 := Tryd.isAgg101
 z232 := Tryd.sizeOf101
 v232 := Tryd.zeroValue101
 t233 := Tryd.underlying102
 a233 := Tryd.isAgg102
 z233 := Tryd.sizeOf102
 v233 := Tryd.zeroValue102
 g17 := by kernel_rfl
 g18 := by kernel_rfl
 g19 := by kernel_rfl
 i0 := by kernel_rfl
 i2 := by kernel_rfl
 i3 := by kernel_rfl
 i4 := by kernel_rfl
 i5 := by kernel_rfl
 i9 := by kernel_rfl
 i20 := by kernel_rfl
 i37 := by kernel_rfl
 i46 := by kernel_rfl
 i51 := by kernel_rfl
 i53 := by kernel_rfl
 i171 := by kernel_rfl
 i173 := by kernel_rfl
 i212 := by kernel_rfl
 i232 := by kernel_rfl
 i233 := by kernel_rfl
 m17 := by kernel_rfl
 m18 := by kernel_rfl
 m19 := by kernel_rfl }
open Go.RowKit Go.Sort Go.Lib in
theorem Tryd.strconv_Itoa (n : Int) (h0 : -9223372036854775808 ≤ n) (h1 : n ≤ 9223372036854775807) (w : World) (htab : Lib.TabIs Tryd.prog w "internal/strconv.uint64pow10" .u64 Lib.pow10Tab) :
  Calls Tryd.prog 39 #[.int .i64 n] w fun e w' => e = .returned (.string ⟨(Lib.itoa n).toArray⟩) ∧ ∃ k os, w' = grow (w.drewN k) os := Any.strconv_Itoa Tryd.laysM171 n h0 h1 w htab
open Go.RowKit Go.Sort Go.Lib in
open Go.RowKit Go.Lib in
def Tryd.lays206_ren : Go.Shelf.Ren := ⟨fun | 206 => 62 | n => n, fun | 9 => 9 | 4 => 4 | 3 => 3 | n => n, fun | n => n⟩
theorem Tryd.lays206 : Go.Proofs.Lays.n206 Tryd.prog Tryd.lays206_ren := {
 mixed := by kernel_rfl
 f206 := Tryd.func62.trans (congrArg some (by kernel_rfl))
 t3 := Tryd.underlying3
 a3 := Tryd.isAgg3
 z3 := Tryd.sizeOf3
 v3 := Tryd.zeroValue3
 t4 := Tryd.underlying4
 a4 := Tryd.isAgg4
 z4 := Tryd.sizeOf4
 v4 := Tryd.zeroValue4
 t9 := Tryd.underlying9
 a9 := Tryd.isAgg9
 z9 := Tryd.sizeOf9
 v9 := Tryd.zeroValue9 }
open Go.RowKit Go.Lib in
theorem Tryd.stringslite_HasPrefix (s p : ByteArray) (w : World) :
  Calls Tryd.prog 62 #[.string s, .string p] w fun e w' => e = .returned (.bool (Lib.hasPrefix s.data.toList p.data.toList)) ∧ w' = w := Any.stringslite_HasPrefix Tryd.lays206 s p w
def Tryd.lays99_ren : Go.Shelf.Ren := ⟨fun | 99 => 52 | 206 => 62 | n => n, fun | 9 => 9 | 4 => 4 | 3 => 3 | n => n, fun | n => n⟩
theorem Tryd.lays99 : Go.Proofs.Lays.n99 Tryd.prog Tryd.lays99_ren := {
 mixed := by kernel_rfl
 f99 := Tryd.func52.trans (congrArg some (by kernel_rfl))
 f206 := Tryd.func62.trans (congrArg some (by kernel_rfl))
 t3 := Tryd.underlying3
 a3 := Tryd.isAgg3
 z3 := Tryd.sizeOf3
 v3 := Tryd.zeroValue3
 t4 := Tryd.underlying4
 a4 := Tryd.isAgg4
 z4 := Tryd.sizeOf4
 v4 := Tryd.zeroValue4
 t9 := Tryd.underlying9
 a9 := Tryd.isAgg9
 z9 := Tryd.sizeOf9
 v9 := Tryd.zeroValue9 }
open Go.RowKit Go.Lib in
theorem Tryd.strings_HasPrefix (s p : ByteArray) (w : World) :
  Calls Tryd.prog 52 #[.string s, .string p] w fun e w' => e = .returned (.bool (Lib.hasPrefix s.data.toList p.data.toList)) ∧ w' = w := Any.strings_HasPrefix Tryd.lays99 s p w
end Go.Proofs

namespace Go.Proofs.YtjamfkpgmkhbnaaDoor.PA
open Go.RowKit Go.Proofs.YtjamfkpgmkhbnaaDoorW.PrintWords Go.Proofs.YtjamfkpgmkhbnaaDoorW.PrintLast Go.Proofs.YtjamfkpgmkhbnaaDoorW.PrintMore
attribute [local go_sem] max2_int min2_int max_two min_two max_three min_three max_four min_four
set_option linter.unusedVariables false
set_option linter.unusedSimpArgs false
def errW : Option Int → Value
 | none => .nilIface
 | some c => .iface 0 (.int .i64 c)
theorem errW_none : errW none = .nilIface := rfl
theorem errW_some (c : Int) : errW (some c) = .iface 0 (.int .i64 c) := rfl
theorem info9 : (Tryd.prog.info? 9).map (fun i => (i.zero, i.size, i.bytes)) = some (some (.string ⟨#[]⟩), 1, 16) := by kernel_rfl
theorem info29 : (Tryd.prog.info? 29).map (fun i => (i.zero, i.size, i.bytes)) = some (some (.agg #[(.int .i64 0), (.int .i64 0), (.slice none 0 0)]), 3, 40) := by kernel_rfl
structure S24 where
 f0 : Int
 f1 : Int
 f2 : (List S24)
def z24 : S24 := ⟨(0 : Int), (0 : Int), ([] : List S24)⟩
def F24 (d : Kd S24) : Kd S24 := Kd.iso (Kd.pair (Kd.int .i64) (Kd.pair (Kd.int .i64) (Kd.slice 24 d))) (fun x : S24 => (x.f0, x.f1, x.f2))
theorem mono24 : Kd.Mono F24 := Kd.mono_iso _ (Kd.mono_pair (Kd.mono_const _) (Kd.mono_pair (Kd.mono_const _) (Kd.mono_slice 24 Kd.mono_id)))
theorem sub24 : Kd.Sub F24 [24] := Kd.sub_iso _ (Kd.sub_pair (Kd.sub_const _ (by decide)) (Kd.sub_pair (Kd.sub_const _ (by decide)) (Kd.sub_slice 24 (by decide) Kd.sub_id)))
theorem sz24 : ∀ n, (Kd.upto F24 3 [24] n).sz = 3 := Kd.upto_sz (fun _ => rfl)
def k24 : Kd S24 := Kd.fix F24 3 [24] sz24 (Kd.upto_E sub24)
theorem k24_open {w : World} {x : S24} {cs : List Value} (h : k24.K w x cs) : ∃ A2 c2, cs = [.int .i64 x.f0, .int .i64 x.f1, .slice A2 x.f2.length c2] ∧ x.f2.length ≤ c2 ∧ k24.C w A2 x.f2.length x.f2 := by
 obtain ⟨n, h⟩ := h
 cases n with
 | zero => exact h.elim
 | succ n =>
  obtain ⟨_, _, rfl, rfl, ⟨_, _, rfl, rfl, ⟨A2, c2, rfl, l2, g2⟩⟩⟩ := h
  exact ⟨A2, c2, rfl, l2, Kd.fix_C g2⟩
theorem k24_mk (w : World) (x : S24) {A2 : Option Addr} {c2 : Nat} (l2 : x.f2.length ≤ c2) (g2 : k24.C w A2 x.f2.length x.f2) : k24.K w x [.int .i64 x.f0, .int .i64 x.f1, .slice A2 x.f2.length c2] := by
 obtain ⟨n2, q2⟩ := Kd.fix_C_back mono24 g2
 have r2 := Kd.upto_C_le mono24 sz24 (show n2 ≤ n2 by omega) q2
 exact ⟨n2 + 1, ⟨[.int .i64 x.f0], [.int .i64 x.f1, .slice A2 x.f2.length c2], rfl, rfl, ⟨[.int .i64 x.f1], [.slice A2 x.f2.length c2], rfl, rfl, ⟨A2, c2, rfl, l2, r2⟩⟩⟩⟩
def rd_T24 (xs : List S24) (i : Int) : S24 := xs.getD i.toNat z24
theorem at_T24 {w : World} {A : Option Addr} {n : Nat} {xs : List S24} (h : Kd.C k24 w A n xs) (i : Int) (h0 : 0 ≤ i) (h1 : i < n) : ∃ ad A2 c2, A = some ad ∧ w.cell? (ad.add (i.toNat * 3)) = some (.int .i64 (rd_T24 xs i).f0) ∧ w.cell? ⟨(ad.add (i.toNat * 3)).block, (ad.add (i.toNat * 3)).off + 1, none⟩ = some (.int .i64 (rd_T24 xs i).f1) ∧ w.cell? ⟨(ad.add (i.toNat * 3)).block, (ad.add (i.toNat * 3)).off + 2, none⟩ = some (.slice A2 (rd_T24 xs i).f2.length c2) ∧ (rd_T24 xs i).f2.length ≤ c2 ∧ k24.C w A2 (rd_T24 xs i).f2.length (rd_T24 xs i).f2 := by
 obtain ⟨ad, c, e, _, hK, hc0⟩ := Kd.C_get h z24 i h0 h1
 have hc : ∀ j u, c[j]? = some u → w.cell? (ad.add (i.toNat * 3 + j)) = some u := hc0
 obtain ⟨A2, c2, rfl, l2, g2⟩ := k24_open hK
 exact ⟨ad, A2, c2, e, hc 0 _ rfl, by rw [← add_field _ _ 1 (by omega)]; exact hc 1 _ rfl, by rw [← add_field _ _ 2 (by omega)]; exact hc 2 _ rfl, l2, g2⟩
structure S29 where
 f0 : Int
 f1 : Int
 f2 : (List S29)
def z29 : S29 := ⟨(0 : Int), (0 : Int), ([] : List S29)⟩
def F29 (d : Kd S29) : Kd S29 := Kd.iso (Kd.pair (Kd.int .i64) (Kd.pair (Kd.int .i64) (Kd.slice 29 d))) (fun x : S29 => (x.f0, x.f1, x.f2))
theorem mono29 : Kd.Mono F29 := Kd.mono_iso _ (Kd.mono_pair (Kd.mono_const _) (Kd.mono_pair (Kd.mono_const _) (Kd.mono_slice 29 Kd.mono_id)))
theorem sub29 : Kd.Sub F29 [29] := Kd.sub_iso _ (Kd.sub_pair (Kd.sub_const _ (by decide)) (Kd.sub_pair (Kd.sub_const _ (by decide)) (Kd.sub_slice 29 (by decide) Kd.sub_id)))
theorem sz29 : ∀ n, (Kd.upto F29 3 [29] n).sz = 3 := Kd.upto_sz (fun _ => rfl)
def k29 : Kd S29 := Kd.fix F29 3 [29] sz29 (Kd.upto_E sub29)
theorem k29_heap : Kd.Heap k29 := Kd.heap_fix (fun _ h_ => Kd.heap_iso _ (Kd.heap_pair (Kd.heap_int .i64) (Kd.heap_pair (Kd.heap_int .i64) (Kd.heap_slice 29 h_))))
theorem k29_open {w : World} {x : S29} {cs : List Value} (h : k29.K w x cs) : ∃ A2 c2, cs = [.int .i64 x.f0, .int .i64 x.f1, .slice A2 x.f2.length c2] ∧ x.f2.length ≤ c2 ∧ k29.C w A2 x.f2.length x.f2 := by
 obtain ⟨n, h⟩ := h
 cases n with
 | zero => exact h.elim
 | succ n =>
  obtain ⟨_, _, rfl, rfl, ⟨_, _, rfl, rfl, ⟨A2, c2, rfl, l2, g2⟩⟩⟩ := h
  exact ⟨A2, c2, rfl, l2, Kd.fix_C g2⟩
theorem k29_openM {w : World} {base : Nat} {ok : Nat → Prop} {x : S29} {cs : List Value} (h : k29.M w base ok x cs) : ∃ v2, cs = [.int .i64 x.f0, .int .i64 x.f1, v2] ∧ k29.R 29 w base ok v2 x.f2 := by
 obtain ⟨n, h⟩ := h
 cases n with
 | zero => exact h.elim
 | succ n =>
  obtain ⟨_, _, rfl, rfl, ⟨_, _, rfl, rfl, ⟨v2, rfl, g2⟩⟩⟩ := h
  exact ⟨v2, rfl, Kd.fix_R g2⟩
theorem k29_mkM (w : World) (base : Nat) (ok : Nat → Prop) (x : S29) {v2 : Value} (g2 : k29.R 29 w base ok v2 x.f2) : k29.M w base ok x [.int .i64 x.f0, .int .i64 x.f1, v2] := by
 obtain ⟨n2, q2⟩ := Kd.fix_R_back mono29 g2
 have r2 := Kd.upto_R_le mono29 sz29 (show n2 ≤ n2 by omega) q2
 exact ⟨n2 + 1, ⟨[.int .i64 x.f0], [.int .i64 x.f1, v2], rfl, rfl, ⟨[.int .i64 x.f1], [v2], rfl, rfl, ⟨v2, rfl, r2⟩⟩⟩⟩
def rd_T29 (xs : List S29) (i : Int) : S29 := xs.getD i.toNat z29
theorem at_T29 {w : World} {A : Option Addr} {n : Nat} {xs : List S29} (h : Kd.C k29 w A n xs) (i : Int) (h0 : 0 ≤ i) (h1 : i < n) : ∃ ad A2 c2, A = some ad ∧ w.cell? (ad.add (i.toNat * 3)) = some (.int .i64 (rd_T29 xs i).f0) ∧ w.cell? ⟨(ad.add (i.toNat * 3)).block, (ad.add (i.toNat * 3)).off + 1, none⟩ = some (.int .i64 (rd_T29 xs i).f1) ∧ w.cell? ⟨(ad.add (i.toNat * 3)).block, (ad.add (i.toNat * 3)).off + 2, none⟩ = some (.slice A2 (rd_T29 xs i).f2.length c2) ∧ (rd_T29 xs i).f2.length ≤ c2 ∧ k29.C w A2 (rd_T29 xs i).f2.length (rd_T29 xs i).f2 := by
 obtain ⟨ad, c, e, _, hK, hc0⟩ := Kd.C_get h z29 i h0 h1
 have hc : ∀ j u, c[j]? = some u → w.cell? (ad.add (i.toNat * 3 + j)) = some u := hc0
 obtain ⟨A2, c2, rfl, l2, g2⟩ := k29_open hK
 exact ⟨ad, A2, c2, e, hc 0 _ rfl, by rw [← add_field _ _ 1 (by omega)]; exact hc 1 _ rfl, by rw [← add_field _ _ 2 (by omega)]; exact hc 2 _ rfl, l2, g2⟩
theorem ab1_ {p : Prop} (h : p := by (try simp only [List.map_toArray, List.map_cons, List.map_nil]); first | done | rfl | (simp only [List.length_drop, List.length_take]; rfl)) : p := h
theorem ab2_ {p : Prop} (h : p := by repeat (first | (with_reducible first | exact HB.out | apply below_alloc | apply pw_below_drewN | apply below_drew1) | exact HB.out)) : p := h
theorem ab6_ {p : Prop} (h : p := by repeat (first | exact Drawn0.refl _ | apply Drawn0.step)) : p := h
theorem ab7_ {p : Prop} (h : p := by repeat (first | (with_reducible first | exact HB.out | apply below_alloc | apply pw_below_drewN | apply below_drew1 | refine below_set ?_ GE66.out) | exact HB.out)) : p := h
theorem ab8_ {p : Prop} (h : p := by repeat (first | (with_reducible first | exact HB.out | apply below_alloc | apply pw_below_drewN | apply below_drew1 | refine below_set ?_ GE23.out) | exact HB.out)) : p := h
theorem ab10_ {p : Prop} (h : p := by repeat (first | (with_reducible first | exact HB.out | apply below_alloc | apply pw_below_drewN | apply below_drew1 | refine below_set ?_ GE68.out) | exact HB.out)) : p := h
theorem ab12_ {p : Prop} (h : p := by repeat (first | (with_reducible first | exact HB.out | apply below_alloc | apply pw_below_drewN | apply below_drew1 | refine below_set ?_ GE66.out | refine below_set ?_ GE82.out) | exact HB.out)) : p := h
theorem ab13_ {p : Prop} (h : p := by repeat (first | (with_reducible first | exact HK.out | apply Kept.alloc | apply Kept.drewN | apply Kept.drew | refine Kept.setCell ?_ (.inr GW48.out) _) | exact HK.out)) : p := h
theorem ab14_ {p : Prop} (h : p := by repeat (first | (with_reducible first | exact HB.out | apply below_alloc | apply pw_below_drewN | apply below_drew1 | refine below_set ?_ GE48.out) | exact HB.out)) : p := h
theorem ab16_ {p : Prop} (h : p := by first | rfl | (simp [errW_none, errW_some] <;> rfl) | (simp [*, errW_none, errW_some] <;> rfl)) : p := h
theorem ab18_ {p : Prop} (h : p := by repeat (first | (with_reducible first | exact HB.out | apply below_alloc | apply pw_below_drewN | apply below_drew1 | refine below_set ?_ GE21.out) | exact HB.out)) : p := h
theorem ab20_ {p : Prop} (h : p := by repeat (first | (with_reducible first | exact HB.out | apply below_alloc | apply pw_below_drewN | apply below_drew1 | refine below_set ?_ GE44.out) | exact HB.out)) : p := h
theorem ab22_ {p : Prop} (h : p := by repeat (first | (with_reducible first | exact HK.out | apply Kept.alloc | apply Kept.drewN | apply Kept.drew | refine Kept.setCell ?_ (.inr GW33.out) _) | exact HK.out)) : p := h
theorem ab27_ {p : Prop} (h : p := by repeat (first | (with_reducible first | exact HB.out | apply below_alloc | apply pw_below_drewN | apply below_drew1 | refine below_set ?_ GE33.out) | exact HB.out)) : p := h
theorem ab29_ {p : Prop} (h : p := by repeat (first | (with_reducible first | exact HB.out | apply below_alloc | apply pw_below_drewN | apply below_drew1 | refine below_set ?_ GE21.out | refine below_set ?_ GE22.out) | exact HB.out)) : p := h
theorem ab34_ {p : Prop} (h : p := by repeat (first | (with_reducible first | exact HK.out | apply Kept.alloc | apply Kept.drewN | apply Kept.drew) | exact HK.out)) : p := h
theorem ab36_ {p : Prop} (h : p := by repeat (first | (with_reducible first | exact HB.out | apply below_alloc | apply pw_below_drewN | apply below_drew1 | refine below_set ?_ GE22.out) | exact HB.out)) : p := h
theorem ab37_ {p : Prop} (h : p := by repeat (first | (with_reducible first | exact HB.out | apply below_alloc | apply pw_below_drewN | apply below_drew1 | refine below_set ?_ GE26.out) | exact HB.out)) : p := h
theorem ab40_ {p : Prop} (h : p := by repeat (first | (with_reducible first | exact HB.out | apply below_alloc | apply pw_below_drewN | apply below_drew1 | refine below_set ?_ GE24.out) | exact HB.out)) : p := h
theorem ab42_ {p : Prop} (h : p := by repeat (first | (with_reducible first | exact HB.out | apply below_alloc | apply pw_below_drewN | apply below_drew1 | refine below_set ?_ GE22.out | refine below_set ?_ GE23.out | refine below_set ?_ GE25.out) | exact HB.out)) : p := h
theorem ab49_ {p : Prop} (h : p := by repeat (first | (with_reducible first | exact HB.out | apply below_alloc | apply pw_below_drewN | apply below_drew1 | refine below_set ?_ GE22.out | refine below_set ?_ GE23.out) | exact HB.out)) : p := h
theorem aR_ {p q : Prop} (x : q) (h : q → p := by intro hx_; (with_reducible repeat (first | apply Kd.R_alloc | apply Kd.R_drewN | apply Kd.R_drew)); exact hx_) : p := h x
theorem aG_ {p q : Prop} (x : q) (h : q → p := by intro hx_; (with_reducible repeat (first | refine blk_drewN ?_ _ | refine blk_drew ?_ | refine blk_alloc ?_ _)); exact hx_) : p := h x
theorem rr_ {p : Prop} (h : p := by first | rfl | (simp [errW_none, errW_some] <;> rfl) | (simp [*, errW_none, errW_some] <;> rfl)) : p := h
theorem bsm {α β : Type} {o : Option α} {f : α → Option β} {b : β} (h : o.bind f = some b) : ∃ a, o = some a ∧ f a = some b := Option.bind_eq_some_iff.mp h
theorem am {p : Prop} (h : p) : Aside0 p := ⟨h⟩
theorem bcf3_ {w : World} {g : Nat} {t : TypeId} {x0 x1 x2 : Value} (h : w.heap[g]? = some (.cells #[x0, x1, x2] t (0, 0))) : w.cell? ⟨g, 0, none⟩ = some x0 ∧ w.cell? ⟨g, 1, none⟩ = some x1 ∧ w.cell? ⟨g, 2, none⟩ = some x2 ∧ w.frozen? ⟨g, 0, none⟩ = false ∧ w.frozen? ⟨g, 1, none⟩ = false ∧ w.frozen? ⟨g, 2, none⟩ = false := ⟨(blk_cell h 0).trans rfl, (blk_cell h 1).trans rfl, (blk_cell h 2).trans rfl, blk_frozen h 0, blk_frozen h 1, blk_frozen h 2⟩
theorem bbl_ {W0 W W1 : World} {g : Nat} {o : Obj} (x : W0.heap[g]? = some o) (hb : Below W.heap.size W W1) (h : W0.heap[g]? = some o → W.heap[g]? = some o := by intro hx_; (with_reducible repeat (first | refine blk_drewN ?_ _ | refine blk_drew ?_ | refine blk_alloc ?_ _)); exact hx_) : W1.heap[g]? = some o := blk_below (h x) hb
theorem blt_ {W0 W : World} {g : Nat} {o : Obj} (x : W0.heap[g]? = some o) (h : W0.heap[g]? = some o → W.heap[g]? = some o := by intro hx_; (with_reducible repeat (first | refine blk_drewN ?_ _ | refine blk_drew ?_ | refine blk_alloc ?_ _)); exact hx_) : g < W.heap.size := blk_lt (h x)
theorem aC_ {p q : Prop} (x : q) (h : q → p := by intro hx_; repeat (first | exact hx_ | (with_reducible refine Kd.C_alloc ?_ _) | (with_reducible refine Kd.C_drewN ?_ _) | (with_reducible refine Kd.C_drew ?_))) : p := h x
theorem rn_ {p : Prop} (h : p := by first | (go_simp; done) | (go_simp; rfl)) : p := h
theorem sd_ {p : Prop} (h : p := by first | rfl | (simp; done) | (simp [*]; done)) : p := h
theorem asm_ {p : Prop} (h : p := by first | (with_reducible assumption) | assumption) : p := h
theorem pr_ (i N : Nat) (l' : Array Bool) {P : Program} {md : Region.Mode} {ops : Array Oper} {Q : Exit → Act → World → Prop} {S : World → Prop} {ds : List Nat} {oi : Oper} {v : Value} {fuel : Nat} {l : Array Bool} {a a' : Act} {w : World} {T : Bool × List (List Nat × List Nat)} (HT : Aside0 (rtab md ops = T)) (h : wpAnyLast P md ops Q S ds fuel l' a' w) (hi : ops[i]? = some oi := by rfl) (hN : oi.dst = some N := by rfl) (hc : anyT T l.toList l'.toList i = true := by kernel_rfl) (hQ : ∀ c a w, Q (.panic c) (a.put oi.dst v) w → Q (.panic c) a w := by exact fun _ _ _ h_ => h_) (hg : Region.wanted oi (yielded ops a.tmps) = true := by rfl) (hy : ∀ w, (execOp a.eval oi).run P w = .ok (.value v) w := by (intro w'; go_simp; with_reducible rfl)) (ha : a.put (some N) v = a' := by first | (simp only [Act.put, List.setIfInBounds_toArray, List.set_cons_zero, List.set_cons_succ, i64_w, i32_w]; rfl) | rfl) : wpAnyLast P md ops Q S ds (fuel + 1) l a w := pure_ l' hi hN (any_of HT.out hc) hQ (Or.inl ⟨hg, hy⟩) ha h
theorem tk6_ (i N : Nat) (l' : Array Bool) {P : Program} {md : Region.Mode} {ops : Array Oper} {Q : Exit → Act → World → Prop} {S : World → Prop} {ds : List Nat} {oi : Oper} {v : Value} {fuel : Nat} {l : Array Bool} {a a' : Act} {w : World} {T : Bool × List (List Nat × List Nat)} {B : List Nat} (HT : Aside0 (rtab md ops = T)) (HW : Aside0 (waitsOk T.2 B = true)) (hS : S w) (h : wpAnyLast P md ops Q S ds fuel l' a' w) (hi : ops[i]? = some oi := by rfl) (hN : oi.dst = some N := by rfl) (hc : takeW T B ds l.toList l'.toList i = true := by kernel_rfl) (hQ : ∀ c a w, Q (.panic c) (a.put oi.dst v) w → Q (.panic c) a w := by exact fun _ _ _ h_ => h_) (hg : Region.wanted oi (yielded ops a.tmps) = true := by rfl) (hy : ∀ w, S w → (execOp a.eval oi).run P w = .ok (.value v) w := by (rintro w' ⟨s0, s1, s2, s3, s4, s5⟩; go_simp; with_reducible rfl)) (ha : a.put (some N) v = a' := by first | (simp only [Act.put, List.setIfInBounds_toArray, List.set_cons_zero, List.set_cons_succ, i64_w, i32_w]; rfl) | rfl) : wpAnyLast P md ops Q S ds (fuel + 1) l a w := take_ l' hi hN (take_ofW HT.out HW.out hc) hQ (Or.inl ⟨hg, hy⟩) hS ha h
theorem tk9_ (i N : Nat) (l' : Array Bool) {P : Program} {md : Region.Mode} {ops : Array Oper} {Q : Exit → Act → World → Prop} {S : World → Prop} {ds : List Nat} {oi : Oper} {v : Value} {fuel : Nat} {l : Array Bool} {a a' : Act} {w : World} {T : Bool × List (List Nat × List Nat)} {B : List Nat} (HT : Aside0 (rtab md ops = T)) (HW : Aside0 (waitsOk T.2 B = true)) (hS : S w) (h : wpAnyLast P md ops Q S ds fuel l' a' w) (hi : ops[i]? = some oi := by rfl) (hN : oi.dst = some N := by rfl) (hc : takeW T B ds l.toList l'.toList i = true := by kernel_rfl) (hQ : ∀ c a w, Q (.panic c) (a.put oi.dst v) w → Q (.panic c) a w := by exact fun _ _ _ h_ => h_) (hg : Region.wanted oi (yielded ops a.tmps) = true := by rfl) (hy : ∀ w, S w → (execOp a.eval oi).run P w = .ok (.value v) w := by (rintro w' ⟨s0, s1, s2, s3, s4, s5, s6, s7, s8⟩; go_simp; with_reducible rfl)) (ha : a.put (some N) v = a' := by first | (simp only [Act.put, List.setIfInBounds_toArray, List.set_cons_zero, List.set_cons_succ, i64_w, i32_w]; rfl) | rfl) : wpAnyLast P md ops Q S ds (fuel + 1) l a w := take_ l' hi hN (take_ofW HT.out HW.out hc) hQ (Or.inl ⟨hg, hy⟩) hS ha h
theorem aRw_ {α : Type} {d : Kd α} {e : Nat} {W0 W : World} {base : Nat} {ok : Nat → Prop} {v : Value} {xs : List α} (x : Kd.R d e W0 base ok v xs) (h : Kd.R d e W0 base ok v xs → Kd.R d e W base ok v xs := by intro hx_; (with_reducible repeat (first | apply Kd.R_alloc | apply Kd.R_drewN | apply Kd.R_drew)); exact hx_) : Kd.R d e W base ok v xs := h x
def bz (n m : Nat) : Array Bool := ((List.range n).map (fun i => m.testBit i)).toArray
theorem rx_ {p : Prop} (h : p := by first | (rw [hy_]; with_reducible exact H) | (have H2_ := (Option.bind_some _ _).symm.trans H; rw [hy_]; with_reducible exact H2_) | (have H2_ := (Option.bind_some _ _).symm.trans H; with_reducible exact H2_) | with_reducible exact H | (rw [hy_]; exact H) | exact H) : p := h
theorem bsa {α β : Type} {o : Option α} {f : α → Option β} {b : β} (h : o.bind f = some b) : ∃ a, Aside0 (o = some a) ∧ f a = some b := by
 obtain ⟨a, h1, h2⟩ := Option.bind_eq_some_iff.mp h
 exact ⟨a, ⟨h1⟩, h2⟩
theorem gl_ {P : Program} {ops : Array Oper} {Q : Exit → Act → World → Prop} {rest : List Oper} {oi : Oper} {a : Act} {w : World} (N : Nat) {f : FuncId} {fn : Func} {as_ : Array Operand} {ts : Array TypeId} (hf : P.funcs[f]? = some fn) (args : Array Value) (h : Calls P f args w fun e w' => ∃ v, e = .returned v ∧ wpList P ops Q rest (a.put (some N) v) w') (hd : oi.dst = some N := by rfl) (hg : oi.guard = none := by rfl) (hname : (fn.name == "runtime.NumGoroutine") = false := by kernel_rfl) (hb : fn.body.isSome = true := by rfl) (hop : oi.op = .call { callee := .value (.func f), args := as_, argTypes := ts } := by rfl) (hargs : as_.map a.eval = args := by (try simp only [List.map_toArray, List.map_cons, List.map_nil]); first | done | rfl | (simp only [List.length_drop, List.length_take]; rfl)) : wpList P ops Q (oi :: rest) a w := goesL_ (some N) hd hg hf hname hb args hop hargs h
theorem mo_ {p : Prop} (h : p := by repeat' first | (with_reducible exact ih0 ..) | (with_reducible exact ih1 ..) | (with_reducible exact ih2 ..) | (with_reducible exact ih3 ..) | (with_reducible exact ih4 ..) | (with_reducible exact ih5 ..) | (with_reducible exact ih6 ..) | (with_reducible exact ih7 ..) | (with_reducible exact m0 ..) | (with_reducible exact m1 ..) | (with_reducible exact m2 ..) | (with_reducible exact m3 ..) | (with_reducible exact m4 ..) | (with_reducible exact m5 ..) | (with_reducible exact m6 ..) | (with_reducible exact LeO.refl _) | (with_reducible exact LeO.none _) | (with_reducible refine LeO.ite ?_ ?_) | (with_reducible refine LeO.bind ?_ (fun _ => ?_))) : p := h
mutual
def laws_szExprS.l0 : Nat → List (S24) → Int → Int → Option (Int)
 | 0, _, _, _ => none
 | k + 1, x0, x1, x5 => if x5 < (x0.length : Int) then (if 0 ≤ x5 then ((laws_szExpr.f k ((rd_T24 x0 x5).f0) ((rd_T24 x0 x5).f1) ((rd_T24 x0 x5).f2) x1).bind fun t102 => (if t102 < 0 then (some (-1)) else (laws_szExprS.l0 k x0 t102 (wrap64 (x5 + 1))))) else (none)) else (some x1)
def laws_szExprS.f : Nat → List (S24) → Int → Option (Int)
 | 0, _, _ => none
 | k + 1, l0, a1 => if (wrap64 (a1 - (l0.length : Int))) < 0 then (some (-1)) else (laws_szExprS.l0 k l0 (wrap64 (a1 - (l0.length : Int))) 0)
def laws_szExpr.f : Nat → Int → Int → List (S24) → Int → Option (Int)
 | 0, _, _, _, _ => none
 | k + 1, a0_0, a0_1, l0_2, a1 => (laws_szExprS.f k l0_2 a1).bind fun t104 => (if t104 < 0 then (some (-1)) else (some t104))
end
def spec_l6In.f (a0 : Int) (a1 : Int) (a2 : Int) : Option (Bool) := if a0 ≥ a1 then (some (decide (a0 ≤ a2))) else (some false)
def spec_OpValid.f (a0 : Int) : Option (Bool) := (spec_l6In.f a0 1 12).bind fun t105 => (some t105)
def spec_l4Ok.f : Nat → Int → Int → List (S29) → Int → Option (Bool)
 | 0, _, _, _, _ => none
 | k + 1, a0_0, a0_1, l0_2, a1 => if a1 < 1 then (some false) else (if a0_0 = 0 then ((spec_l6In.f a0_1 0 99999).bind fun t107 => (if t107 = true then (some ((l0_2.length : Int) == 0)) else (some false))) else (if a0_0 = 13 then ((spec_l6In.f a0_1 0 3).bind fun t108 => (if t108 = true then (some ((l0_2.length : Int) == 0)) else (some false))) else ((spec_OpValid.f a0_0).bind fun t109 => (if t109 = true then (if a0_1 = 0 then (if (l0_2.length : Int) = 2 then (if 0 < (l0_2.length : Int) then ((spec_l4Ok.f k ((rd_T29 l0_2 0).f0) ((rd_T29 l0_2 0).f1) ((rd_T29 l0_2 0).f2) (wrap64 (a1 - 1))).bind fun t111 => (if t111 = true then (if 1 < (l0_2.length : Int) then ((spec_l4Ok.f k ((rd_T29 l0_2 1).f0) ((rd_T29 l0_2 1).f1) ((rd_T29 l0_2 1).f2) (wrap64 (a1 - 1))).bind fun t113 => (some t113)) else (none)) else (some false))) else (none)) else (some false)) else (some false)) else (some false)))))
def spec_ExprValid.f (k : Nat) (a0_0 : Int) (a0_1 : Int) (l0_2 : List (S29)) : Option (Bool) := (spec_l4Ok.f k a0_0 a0_1 l0_2 5).bind fun t115 => (some t115)
mutual
def spec_l3Kind.j0 : Nat → Int → Bool → Option (Int)
 | 0, _, _ => none
 | k + 1, x0, x5 => if x5 = true then (some 1) else (if x0 ≥ 97 then (spec_l3Kind.j1 k x0 (decide (x0 ≤ 122))) else (spec_l3Kind.j1 k x0 false))
def spec_l3Kind.j1 : Nat → Int → Bool → Option (Int)
 | 0, _, _ => none
 | k + 1, x0, x12 => if x12 = true then (some 2) else (if x0 = 32 then (some 3) else (if x0 = 10 then (some 3) else (spec_l3Kind.l0 k x0 (⟨#[43, 45, 42, 47, 37, 38, 124, 94, 60, 62, 40, 41, 123, 125, 61, 59]⟩ : ByteArray) 0)))
def spec_l3Kind.l0 : Nat → Int → ByteArray → Int → Option (Int)
 | 0, _, _, _ => none
 | k + 1, x0, x3, x4 => if x4 < (x3.size : Int) then (if 0 ≤ x4 then (if (bt x3 x4) = x0 then (some 4) else (spec_l3Kind.l0 k x0 x3 (wrap64 (x4 + 1)))) else (none)) else (some 0)
end
def spec_l3Kind.f (k : Nat) (a0 : Int) : Option (Int) := if a0 ≥ 48 then (spec_l3Kind.j0 k a0 (decide (a0 ≤ 57))) else (spec_l3Kind.j0 k a0 false)
def spec_l3Run.l0 : Nat → ByteArray → Int → Int → Option (Int)
 | 0, _, _, _ => none
 | k + 1, x0, x1, x5 => if x5 < (x0.size : Int) then (if 0 ≤ x5 then ((spec_l3Kind.f k (bt x0 x5)).bind fun t116 => (if 0 ≤ x1 then (if x1 < (x0.size : Int) then ((spec_l3Kind.f k (bt x0 x1)).bind fun t117 => (if t116 = t117 then (spec_l3Run.l0 k x0 x1 (wrap64 (x5 + 1))) else (some x5))) else (none)) else (none))) else (none)) else (some x5)
def spec_l3Run.f (k : Nat) (a0 : ByteArray) (a1 : Int) : Option (Int) := spec_l3Run.l0 k a0 a1 a1
def spec_l3Two.f (a0 : ByteArray) : Option (Bool) := if a0.toList = ([60, 60] : List UInt8) then (some true) else (if a0.toList = ([62, 62] : List UInt8) then (some true) else (some (a0.toList == ([61, 61] : List UInt8))))
mutual
def spec_l3End.j0 : Nat → ByteArray → Int → Int → Bool → Option (Int)
 | 0, _, _, _, _ => none
 | k + 1, x0, x1, x5, x15 => if x15 = true then ((spec_l3Run.f k x0 x1).bind fun t119 => (some t119)) else (if x5 = 4 then (if (wrap64 (x1 + 2)) ≤ (x0.size : Int) then (if 0 ≤ x1 then (if x1 ≤ (wrap64 (x1 + 2)) then ((spec_l3Two.f (x0.extract (x1 : Int).toNat ((wrap64 (x1 + 2)) : Int).toNat)).bind fun t120 => (spec_l3End.j1 k x0 x1 t120)) else (none)) else (none)) else (spec_l3End.j1 k x0 x1 false)) else (some (-1)))
def spec_l3End.j1 : Nat → ByteArray → Int → Bool → Option (Int)
 | 0, _, _, _ => none
 | k + 1, x0, x1, x33 => if x33 = true then (some (wrap64 (x1 + 2))) else (if 0 ≤ x1 then (if x1 < (x0.size : Int) then (if (bt x0 x1) = 62 then (some (-1)) else (some (wrap64 (x1 + 1)))) else (none)) else (none))
end
def spec_l3End.f (k : Nat) (a0 : ByteArray) (a1 : Int) : Option (Int) := if 0 ≤ a1 then (if a1 < (a0.size : Int) then ((spec_l3Kind.f k (bt a0 a1)).bind fun t118 => (if t118 = 1 then (spec_l3End.j0 k a0 a1 t118 true) else (spec_l3End.j0 k a0 a1 t118 (t118 == 2)))) else (none)) else (none)
def spec_TokenValid.f (k : Nat) (a0 : ByteArray) : Option (Bool) := if a0.toList = ([] : List UInt8) then (some false) else ((spec_l3End.f k a0 0).bind fun t121 => (some (t121 == (a0.size : Int))))
def spec_TokensText.l0 : Nat → List ByteArray → ByteArray → Int → Option (ByteArray)
 | 0, _, _, _ => none
 | k + 1, x0, x3, x4 => if x4 < (x0.length : Int) then (if 0 ≤ x4 then ((spec_TokenValid.f k (rdOf ByteArray.empty x0 x4)).bind fun t123 => (if t123 = true then (if x4 > 0 then (if x3.size + 1 ≤ 9223372036854775807 then (if (x3 ++ (⟨#[32]⟩ : ByteArray)).size + (rdOf ByteArray.empty x0 x4).size ≤ 9223372036854775807 then (spec_TokensText.l0 k x0 ((x3 ++ (⟨#[32]⟩ : ByteArray)) ++ (rdOf ByteArray.empty x0 x4)) (wrap64 (x4 + 1))) else (none)) else (none)) else (if x3.size + (rdOf ByteArray.empty x0 x4).size ≤ 9223372036854775807 then (spec_TokensText.l0 k x0 (x3 ++ (rdOf ByteArray.empty x0 x4)) (wrap64 (x4 + 1))) else (none))) else (some (⟨#[]⟩ : ByteArray)))) else (none)) else (some x3)
def spec_TokensText.f (k : Nat) (l0 : List ByteArray) : Option (ByteArray) := spec_TokensText.l0 k l0 (⟨#[]⟩ : ByteArray) 0
def spec_l6Dec.f : Nat → Int → Option (ByteArray)
 | 0, _ => none
 | k + 1, a0 => if a0 < (-9223372036854775807) then (some (⟨#[45, 57, 50, 50, 51, 51, 55, 50, 48, 51, 54, 56, 53, 52, 55, 55, 53, 56, 48, 56]⟩ : ByteArray)) else (if a0 < 0 then ((spec_l6Dec.f k (wrap64 (-a0))).bind fun t126 => (if 1 + t126.size ≤ 9223372036854775807 then (some ((⟨#[45]⟩ : ByteArray) ++ t126)) else (none))) else (if a0 < 10 then (some (strOfNums (([(wrap64 (48 + a0)) % 256] : List Int)))) else ((spec_l6Dec.f k (wrap64 (Int.tdiv a0 10))).bind fun t130 => ((some (([(wrap64 (48 + (Int.tmod a0 10))) % 256] : List Int) : List Int)).bind fun y131 => (if t130.size + (strOfNums y131).size ≤ 9223372036854775807 then (some (t130 ++ (strOfNums y131))) else (none))))))
def spec_l5Name.f (a0 : Int) : Option (ByteArray) := some (strOfNums (([(wrap64 (97 + a0)) % 256] : List Int)))
def spec_OpLevel.f (a0 : Int) : Option (Int) := (spec_OpValid.f a0).bind fun t137 => (if t137 = true then ((some (([1, 2, 3, 4, 5, 6, 6, 7, 7, 8, 8, 8] : List Int) : List Int)).bind fun y138 => (if 0 ≤ (wrap64 (a0 - 1)) then (if (wrap64 (a0 - 1)) < (y138.length : Int) then (some (rd y138 (wrap64 (a0 - 1)))) else (none)) else (none))) else (some 0))
def spec_l5Wrap.f (l0 : List ByteArray) (a1 : Bool) : Option (List ByteArray) := if a1 = true then ((some (([(⟨#[40]⟩ : ByteArray)] : List ByteArray) : List ByteArray)).bind fun y142 => (if y142.length + l0.length < 8796093022208 then ((some (y142 ++ l0 : List ByteArray)).bind fun y145 => (if y145.length < 8796093022208 then (some (y145 ++ [(⟨#[41]⟩ : ByteArray)])) else (none))) else (none))) else (some l0)
def spec_l5Level.f (a0_0 : Int) (a0_1 : Int) (l0_2 : List (S29)) : Option (Int) := if (l0_2.length : Int) = 0 then (some 9) else ((spec_OpLevel.f a0_0).bind fun t152 => (some t152))
def spec_OpText.f (a0 : Int) : Option (ByteArray) := (spec_OpValid.f a0).bind fun t153 => (if t153 = true then ((some (([(⟨#[124]⟩ : ByteArray), (⟨#[94]⟩ : ByteArray), (⟨#[38]⟩ : ByteArray), (⟨#[61, 61]⟩ : ByteArray), (⟨#[60]⟩ : ByteArray), (⟨#[60, 60]⟩ : ByteArray), (⟨#[62, 62]⟩ : ByteArray), (⟨#[43]⟩ : ByteArray), (⟨#[45]⟩ : ByteArray), (⟨#[42]⟩ : ByteArray), (⟨#[47]⟩ : ByteArray), (⟨#[37]⟩ : ByteArray)] : List ByteArray) : List ByteArray)).bind fun y154 => (if 0 ≤ (wrap64 (a0 - 1)) then (if (wrap64 (a0 - 1)) < (y154.length : Int) then (some (rdOf ByteArray.empty y154 (wrap64 (a0 - 1)))) else (none)) else (none))) else (some (⟨#[]⟩ : ByteArray)))
def spec_l5Tokens.f : Nat → Int → Int → List (S29) → Option (List ByteArray)
 | 0, _, _, _ => none
 | k + 1, a0_0, a0_1, l0_2 => if a0_0 = 0 then ((spec_l6Dec.f k a0_1).bind fun t159 => (some (([t159] : List ByteArray)))) else (if a0_0 = 13 then ((spec_l5Name.f a0_1).bind fun t163 => (some (([t163] : List ByteArray)))) else ((spec_OpLevel.f a0_0).bind fun t167 => (if 0 < (l0_2.length : Int) then ((spec_l5Tokens.f k ((rd_T29 l0_2 0).f0) ((rd_T29 l0_2 0).f1) ((rd_T29 l0_2 0).f2)).bind fun t169 => ((spec_l5Level.f ((rd_T29 l0_2 0).f0) ((rd_T29 l0_2 0).f1) ((rd_T29 l0_2 0).f2)).bind fun t173 => ((spec_l5Wrap.f t169 (decide (t173 < t167))).bind fun t174 => ((spec_OpText.f a0_0).bind fun t177 => (if t174.length < 8796093022208 then ((some (t174 ++ [t177] : List ByteArray)).bind fun y178 => (if 1 < (l0_2.length : Int) then ((spec_l5Tokens.f k ((rd_T29 l0_2 1).f0) ((rd_T29 l0_2 1).f1) ((rd_T29 l0_2 1).f2)).bind fun t182 => ((spec_l5Level.f ((rd_T29 l0_2 1).f0) ((rd_T29 l0_2 1).f1) ((rd_T29 l0_2 1).f2)).bind fun t186 => ((spec_l5Wrap.f t182 (decide (t186 ≤ t167))).bind fun t187 => (if y178.length + t187.length < 8796093022208 then (some (y178 ++ t187)) else (none))))) else (none))) else (none)))))) else (none))))
def spec_ExprText.f (k : Nat) (a0_0 : Int) (a0_1 : Int) (l0_2 : List (S29)) : Option (ByteArray) := (spec_ExprValid.f k a0_0 a0_1 l0_2).bind fun t194 => (if t194 = true then ((spec_l5Tokens.f k a0_0 a0_1 l0_2).bind fun t195 => ((spec_TokensText.f k t195).bind fun t198 => (some t198))) else (some (⟨#[]⟩ : ByteArray)))
mutual
def laws_toExprS.l0 : Nat → List (S24) → List (S29) → Int → Option ((List (S29)))
 | 0, _, _, _ => none
 | k + 1, x0, x3, x4 => if x4 < (x0.length : Int) then (if 0 ≤ x4 then ((laws_toExpr.f k ((rd_T24 x0 x4).f0) ((rd_T24 x0 x4).f1) ((rd_T24 x0 x4).f2)).bind fun bt203 => (if x4 < (x3.length : Int) then (laws_toExprS.l0 k x0 (x3.set (x4 : Int).toNat (⟨bt203.1, bt203.2.1, bt203.2.2⟩ : S29)) (wrap64 (x4 + 1))) else (none))) else (none)) else (some x3)
def laws_toExprS.f : Nat → List (S24) → Option ((List (S29)))
 | 0, _ => none
 | k + 1, l0 => if 0 ≤ (l0.length : Int) then (if ((l0.length : Int) : Int).toNat ≤ 7036874417766 then (laws_toExprS.l0 k l0 (List.replicate ((l0.length : Int) : Int).toNat z29) 0) else (none)) else (none)
def laws_toExpr.f : Nat → Int → Int → List (S24) → Option (Int × Int × (List (S29)))
 | 0, _, _, _ => none
 | k + 1, a0_0, a0_1, l0_2 => (laws_toExprS.f k l0_2).bind fun t212 => (some (a0_0, a0_1, t212))
end
def impl_OpValid.f (a0 : Int) : Option (Bool) := if a0 ≥ 1 then (some (decide (a0 ≤ 12))) else (some false)
def impl_exprValid.f : Nat → Int → Int → List (S29) → Int → Option (Bool)
 | 0, _, _, _, _ => none
 | k + 1, a0_0, a0_1, l0_2, a1 => if a0_0 = 0 then (if a0_1 ≥ 0 then (if a0_1 ≤ 99999 then (if (l0_2.length : Int) = 0 then (some (decide (a1 > 0))) else (some false)) else (some false)) else (some false)) else (if a0_0 = 13 then (if a0_1 ≥ 0 then (if a0_1 < 4 then (if (l0_2.length : Int) = 0 then (some (decide (a1 > 0))) else (some false)) else (some false)) else (some false)) else ((impl_OpValid.f a0_0).bind fun t216 => (if t216 = true then (if a0_1 = 0 then (if (l0_2.length : Int) = 2 then (if a1 > 1 then (if 0 < (l0_2.length : Int) then ((impl_exprValid.f k ((rd_T29 l0_2 0).f0) ((rd_T29 l0_2 0).f1) ((rd_T29 l0_2 0).f2) (wrap64 (a1 - 1))).bind fun t218 => (if t218 = true then (if 1 < (l0_2.length : Int) then ((impl_exprValid.f k ((rd_T29 l0_2 1).f0) ((rd_T29 l0_2 1).f1) ((rd_T29 l0_2 1).f2) (wrap64 (a1 - 1))).bind fun t220 => (some t220)) else (none)) else (some false))) else (none)) else (some false)) else (some false)) else (some false)) else (some false))))
def impl_ExprValid.f (k : Nat) (a0_0 : Int) (a0_1 : Int) (l0_2 : List (S29)) : Option (Bool) := (impl_exprValid.f k a0_0 a0_1 l0_2 5).bind fun t222 => (some t222)
def impl_isDigit.f (a0 : Int) : Option (Bool) := if a0 ≥ 48 then (some (decide (a0 ≤ 57))) else (some false)
def impl_isLetter.f (a0 : Int) : Option (Bool) := if a0 ≥ 97 then (some (decide (a0 ≤ 122))) else (some false)
def stringslite_HasPrefix.f (a0 : ByteArray) (a1 : ByteArray) : Option (Bool) := if (a0.size : Int) ≥ (a1.size : Int) then (if 0 ≤ (a1.size : Int) then (if (a1.size : Int) ≤ (a0.size : Int) then (some ((a0.extract 0 ((a1.size : Int) : Int).toNat).toList == a1.toList)) else (none)) else (none)) else (some false)
def strings_HasPrefix.f (a0 : ByteArray) (a1 : ByteArray) : Option (Bool) := (stringslite_HasPrefix.f a0 a1).bind fun t223 => (some t223)
def strings_IndexByte.f (a0 : ByteArray) (a1 : Int) : Option (Int) := some (Lib.indexByte a0.data.toList a1.toNat.toUInt8)
structure Tab (w : World) : Prop where
  pow : Lib.TabIs Tryd.prog w "internal/strconv.uint64pow10" .u64 Lib.pow10Tab
  ops : w.var? Tryd.prog "loop.example/cothreads/impl.opTexts" = some #[.string ⟨#[124]⟩, .string ⟨#[94]⟩, .string ⟨#[38]⟩, .string ⟨#[61, 61]⟩, .string ⟨#[60]⟩, .string ⟨#[60, 60]⟩, .string ⟨#[62, 62]⟩, .string ⟨#[43]⟩, .string ⟨#[45]⟩, .string ⟨#[42]⟩, .string ⟨#[47]⟩, .string ⟨#[37]⟩]
 theorem var_below {P : Program} {w w' : World} {nm : String} {a : Array Value} (h : w.var? P nm = some a) (hb : Below w.heap.size w w') : w'.var? P nm = some a := by
  unfold World.var? at h ⊢
  cases hg : P.globalNamed nm with
  | none => rw [hg] at h; cases h
  | some g =>
    rw [hg] at h
    simp only [Option.bind_some] at h ⊢
    cases ho : w.heap[g]? with
    | none => rw [ho] at h; cases h
    | some o =>
      have hlt : g < w.heap.size := (Array.getElem?_eq_some_iff.1 ho).1
      rw [hb.block g hlt, ho]
      rw [ho] at h
      exact h
 theorem Tab.below {w w' : World} (h : Tab w) (hb : Below w.heap.size w w') : Tab w' := ⟨var_below h.pow hb, var_below h.ops hb⟩
def opTexts : List ByteArray := [⟨#[124]⟩, ⟨#[94]⟩, ⟨#[38]⟩, ⟨#[61, 61]⟩, ⟨#[60]⟩, ⟨#[60, 60]⟩, ⟨#[62, 62]⟩, ⟨#[43]⟩, ⟨#[45]⟩, ⟨#[42]⟩, ⟨#[47]⟩, ⟨#[37]⟩]
 theorem opAt {w : World} (h : Tab w) : ∃ (t : TypeId) (fr : Nat × Nat), w.heap[0]? = some (.cells #[.string ⟨#[124]⟩, .string ⟨#[94]⟩, .string ⟨#[38]⟩, .string ⟨#[61, 61]⟩, .string ⟨#[60]⟩, .string ⟨#[60, 60]⟩, .string ⟨#[62, 62]⟩, .string ⟨#[43]⟩, .string ⟨#[45]⟩, .string ⟨#[42]⟩, .string ⟨#[47]⟩, .string ⟨#[37]⟩] t fr) := by
  have h2 := h.ops
  unfold World.var? at h2
  rw [show Tryd.prog.globalNamed "loop.example/cothreads/impl.opTexts" = some 0 by kernel_rfl] at h2
  simp only [Option.bind_some] at h2
  cases ho : w.heap[0]? with
  | none => rw [ho] at h2; cases h2
  | some o =>
    rw [ho] at h2
    cases o with
    | cells cs t fr =>
      injection h2 with h2
      subst h2
      exact ⟨t, fr, rfl⟩
    | _ => cases h2
 theorem opCell {w : World} (h : Tab w) (i : Nat) (hi : i < 12) : w.cell? ⟨0, i, none⟩ = some (.string (opTexts.getD i ⟨#[]⟩)) := by
  obtain ⟨t, fr, ho⟩ := opAt h
  unfold World.cell?
  rw [ho]
  have : i = 0 ∨ i = 1 ∨ i = 2 ∨ i = 3 ∨ i = 4 ∨ i = 5 ∨ i = 6 ∨ i = 7 ∨ i = 8 ∨ i = 9 ∨ i = 10 ∨ i = 11 := by omega
  rcases this with rfl | rfl | rfl | rfl | rfl | rfl | rfl | rfl | rfl | rfl | rfl | rfl <;> rfl
def impl_tokenLength.l1 : Nat → ByteArray → Bool → Int → Option (Int)
 | 0, _, _, _ => none
 | k + 1, x, m, i => if i < (x.size : Int) then (if 0 ≤ i then ((if m = true then impl_isDigit.f (bt x i) else impl_isLetter.f (bt x i)).bind fun b => if b = true then impl_tokenLength.l1 k x m (wrap64 (i + 1)) else some i) else none) else some i
def impl_tokenLength.fin (a0 : ByteArray) : Option Int := if a0.toList = ([] : List UInt8) then some 0 else (strings_IndexByte.f ⟨#[124, 94, 38, 60, 43, 45, 42, 47, 37, 40, 41, 123, 125, 61, 59]⟩ (bt a0 0)).bind fun j => if 0 ≤ j then some 1 else some 0
def impl_tokenLength.st2 (a0 : ByteArray) : Nat → Option Int
 | 0 => (strings_HasPrefix.f a0 ⟨#[61, 61]⟩).bind fun p => if p = true then some 2 else (strings_HasPrefix.f a0 ⟨#[60, 60]⟩).bind fun q => if q = true then some 2 else (strings_HasPrefix.f a0 ⟨#[62, 62]⟩).bind fun s => if s = true then some 2 else impl_tokenLength.fin a0
 | 1 => (strings_HasPrefix.f a0 ⟨#[60, 60]⟩).bind fun q => if q = true then some 2 else (strings_HasPrefix.f a0 ⟨#[62, 62]⟩).bind fun s => if s = true then some 2 else impl_tokenLength.fin a0
 | 2 => (strings_HasPrefix.f a0 ⟨#[62, 62]⟩).bind fun s => if s = true then some 2 else impl_tokenLength.fin a0
 | _ + 3 => impl_tokenLength.fin a0
def impl_tokenLength.st (k : Nat) (a0 : ByteArray) : Nat → Option Int
 | 0 => (impl_tokenLength.l1 k a0 true 0).bind fun d => if 0 < d then some d else (impl_tokenLength.l1 k a0 false 0).bind fun c => if 0 < c then some c else impl_tokenLength.st2 a0 0
 | 1 => (impl_tokenLength.l1 k a0 false 0).bind fun c => if 0 < c then some c else impl_tokenLength.st2 a0 0
 | _ + 2 => impl_tokenLength.st2 a0 0
def impl_tokenLength.f (k : Nat) (a0 : ByteArray) : Option (Int) := impl_tokenLength.st k a0 0
def impl_TokenValid.f (k : Nat) (a0 : ByteArray) : Option (Bool) := if a0.toList = ([] : List UInt8) then (some false) else ((impl_tokenLength.f k a0).bind fun t224 => (some (t224 == (a0.size : Int))))
def joinB (l : List ByteArray) (s : ByteArray) : List UInt8 := Lib.join (l.map (·.data.toList)) s.data.toList
def strings_Join.f (l0 : List ByteArray) (a1 : ByteArray) : Option (ByteArray) := if l0.length ≤ 140737488355328 then (if (joinB l0 a1).length ≤ 140737488355328 then some ⟨(joinB l0 a1).toArray⟩ else none) else none
def impl_TokensText.l0 : Nat → List ByteArray → List ByteArray → Int → Int → Option (ByteArray)
 | 0, _, _, _, _ => none
 | k + 1, x0, x5, x6, x7 => if x7 < x6 then (if 0 ≤ x7 then (if x7 < (x5.length : Int) then ((impl_TokenValid.f k (rdOf ByteArray.empty x5 x7)).bind fun t226 => (if t226 = true then (impl_TokensText.l0 k x0 x5 x6 (wrap64 (x7 + 1))) else (some (⟨#[]⟩ : ByteArray)))) else (none)) else (none)) else ((strings_Join.f x0 (⟨#[32]⟩ : ByteArray)).bind fun t227 => (some t227))
def impl_TokensText.f (k : Nat) (l0 : List ByteArray) : Option (ByteArray) := impl_TokensText.l0 k l0 l0 (l0.length : Int) 0
def strconv_small.f (a0 : Int) : Option (ByteArray) := if a0 < 10 then (if 0 ≤ a0 then (if a0 ≤ (wrap64 (a0 + 1)) then (if (wrap64 (a0 + 1)) ≤ 36 then (some ((⟨#[48, 49, 50, 51, 52, 53, 54, 55, 56, 57, 97, 98, 99, 100, 101, 102, 103, 104, 105, 106, 107, 108, 109, 110, 111, 112, 113, 114, 115, 116, 117, 118, 119, 120, 121, 122]⟩ : ByteArray).extract (a0 : Int).toNat ((wrap64 (a0 + 1)) : Int).toNat)) else (none)) else (none)) else (none)) else (if 0 ≤ (wrap64 (a0 * 2)) then (if (wrap64 (a0 * 2)) ≤ (wrap64 ((wrap64 (a0 * 2)) + 2)) then (if (wrap64 ((wrap64 (a0 * 2)) + 2)) ≤ 200 then (some ((⟨#[48, 48, 48, 49, 48, 50, 48, 51, 48, 52, 48, 53, 48, 54, 48, 55, 48, 56, 48, 57, 49, 48, 49, 49, 49, 50, 49, 51, 49, 52, 49, 53, 49, 54, 49, 55, 49, 56, 49, 57, 50, 48, 50, 49, 50, 50, 50, 51, 50, 52, 50, 53, 50, 54, 50, 55, 50, 56, 50, 57, 51, 48, 51, 49, 51, 50, 51, 51, 51, 52, 51, 53, 51, 54, 51, 55, 51, 56, 51, 57, 52, 48, 52, 49, 52, 50, 52, 51, 52, 52, 52, 53, 52, 54, 52, 55, 52, 56, 52, 57, 53, 48, 53, 49, 53, 50, 53, 51, 53, 52, 53, 53, 53, 54, 53, 55, 53, 56, 53, 57, 54, 48, 54, 49, 54, 50, 54, 51, 54, 52, 54, 53, 54, 54, 54, 55, 54, 56, 54, 57, 55, 48, 55, 49, 55, 50, 55, 51, 55, 52, 55, 53, 55, 54, 55, 55, 55, 56, 55, 57, 56, 48, 56, 49, 56, 50, 56, 51, 56, 52, 56, 53, 56, 54, 56, 55, 56, 56, 56, 57, 57, 48, 57, 49, 57, 50, 57, 51, 57, 52, 57, 53, 57, 54, 57, 55, 57, 56, 57, 57]⟩ : ByteArray).extract ((wrap64 (a0 * 2)) : Int).toNat ((wrap64 ((wrap64 (a0 * 2)) + 2)) : Int).toNat)) else (none)) else (none)) else (none))
def strconv_log10Pow2.f (a0 : Int) : Option (Int) := some ((wrap64 (a0 * 78913)) / 262144)
def bits_Len64.j0 : Nat → Int → Int → Option (Int)
 | 0, _, _ => none
 | k + 1, x0, x2 => if x0 ≥ 65536 then (if (x0 / 65536) ≥ 256 then (if 0 ≤ (((x0 / 65536) / 256) % 256) then (if (((x0 / 65536) / 256) % 256) < 256 then (some (wrap64 ((wrap64 ((wrap64 (x2 + 16)) + 8)) + (wrap64 (bt (⟨#[0, 1, 2, 2, 3, 3, 3, 3, 4, 4, 4, 4, 4, 4, 4, 4, 5, 5, 5, 5, 5, 5, 5, 5, 5, 5, 5, 5, 5, 5, 5, 5, 6, 6, 6, 6, 6, 6, 6, 6, 6, 6, 6, 6, 6, 6, 6, 6, 6, 6, 6, 6, 6, 6, 6, 6, 6, 6, 6, 6, 6, 6, 6, 6, 7, 7, 7, 7, 7, 7, 7, 7, 7, 7, 7, 7, 7, 7, 7, 7, 7, 7, 7, 7, 7, 7, 7, 7, 7, 7, 7, 7, 7, 7, 7, 7, 7, 7, 7, 7, 7, 7, 7, 7, 7, 7, 7, 7, 7, 7, 7, 7, 7, 7, 7, 7, 7, 7, 7, 7, 7, 7, 7, 7, 7, 7, 7, 7, 8, 8, 8, 8, 8, 8, 8, 8, 8, 8, 8, 8, 8, 8, 8, 8, 8, 8, 8, 8, 8, 8, 8, 8, 8, 8, 8, 8, 8, 8, 8, 8, 8, 8, 8, 8, 8, 8, 8, 8, 8, 8, 8, 8, 8, 8, 8, 8, 8, 8, 8, 8, 8, 8, 8, 8, 8, 8, 8, 8, 8, 8, 8, 8, 8, 8, 8, 8, 8, 8, 8, 8, 8, 8, 8, 8, 8, 8, 8, 8, 8, 8, 8, 8, 8, 8, 8, 8, 8, 8, 8, 8, 8, 8, 8, 8, 8, 8, 8, 8, 8, 8, 8, 8, 8, 8, 8, 8, 8, 8, 8, 8, 8, 8, 8, 8, 8, 8, 8, 8, 8, 8, 8, 8, 8, 8, 8, 8]⟩ : ByteArray) (((x0 / 65536) / 256) % 256)))))) else (none)) else (none)) else (if 0 ≤ ((x0 / 65536) % 256) then (if ((x0 / 65536) % 256) < 256 then (some (wrap64 ((wrap64 (x2 + 16)) + (wrap64 (bt (⟨#[0, 1, 2, 2, 3, 3, 3, 3, 4, 4, 4, 4, 4, 4, 4, 4, 5, 5, 5, 5, 5, 5, 5, 5, 5, 5, 5, 5, 5, 5, 5, 5, 6, 6, 6, 6, 6, 6, 6, 6, 6, 6, 6, 6, 6, 6, 6, 6, 6, 6, 6, 6, 6, 6, 6, 6, 6, 6, 6, 6, 6, 6, 6, 6, 7, 7, 7, 7, 7, 7, 7, 7, 7, 7, 7, 7, 7, 7, 7, 7, 7, 7, 7, 7, 7, 7, 7, 7, 7, 7, 7, 7, 7, 7, 7, 7, 7, 7, 7, 7, 7, 7, 7, 7, 7, 7, 7, 7, 7, 7, 7, 7, 7, 7, 7, 7, 7, 7, 7, 7, 7, 7, 7, 7, 7, 7, 7, 7, 8, 8, 8, 8, 8, 8, 8, 8, 8, 8, 8, 8, 8, 8, 8, 8, 8, 8, 8, 8, 8, 8, 8, 8, 8, 8, 8, 8, 8, 8, 8, 8, 8, 8, 8, 8, 8, 8, 8, 8, 8, 8, 8, 8, 8, 8, 8, 8, 8, 8, 8, 8, 8, 8, 8, 8, 8, 8, 8, 8, 8, 8, 8, 8, 8, 8, 8, 8, 8, 8, 8, 8, 8, 8, 8, 8, 8, 8, 8, 8, 8, 8, 8, 8, 8, 8, 8, 8, 8, 8, 8, 8, 8, 8, 8, 8, 8, 8, 8, 8, 8, 8, 8, 8, 8, 8, 8, 8, 8, 8, 8, 8, 8, 8, 8, 8, 8, 8, 8, 8, 8, 8, 8, 8, 8, 8, 8, 8]⟩ : ByteArray) ((x0 / 65536) % 256)))))) else (none)) else (none))) else (if x0 ≥ 256 then (if 0 ≤ ((x0 / 256) % 256) then (if ((x0 / 256) % 256) < 256 then (some (wrap64 ((wrap64 (x2 + 8)) + (wrap64 (bt (⟨#[0, 1, 2, 2, 3, 3, 3, 3, 4, 4, 4, 4, 4, 4, 4, 4, 5, 5, 5, 5, 5, 5, 5, 5, 5, 5, 5, 5, 5, 5, 5, 5, 6, 6, 6, 6, 6, 6, 6, 6, 6, 6, 6, 6, 6, 6, 6, 6, 6, 6, 6, 6, 6, 6, 6, 6, 6, 6, 6, 6, 6, 6, 6, 6, 7, 7, 7, 7, 7, 7, 7, 7, 7, 7, 7, 7, 7, 7, 7, 7, 7, 7, 7, 7, 7, 7, 7, 7, 7, 7, 7, 7, 7, 7, 7, 7, 7, 7, 7, 7, 7, 7, 7, 7, 7, 7, 7, 7, 7, 7, 7, 7, 7, 7, 7, 7, 7, 7, 7, 7, 7, 7, 7, 7, 7, 7, 7, 7, 8, 8, 8, 8, 8, 8, 8, 8, 8, 8, 8, 8, 8, 8, 8, 8, 8, 8, 8, 8, 8, 8, 8, 8, 8, 8, 8, 8, 8, 8, 8, 8, 8, 8, 8, 8, 8, 8, 8, 8, 8, 8, 8, 8, 8, 8, 8, 8, 8, 8, 8, 8, 8, 8, 8, 8, 8, 8, 8, 8, 8, 8, 8, 8, 8, 8, 8, 8, 8, 8, 8, 8, 8, 8, 8, 8, 8, 8, 8, 8, 8, 8, 8, 8, 8, 8, 8, 8, 8, 8, 8, 8, 8, 8, 8, 8, 8, 8, 8, 8, 8, 8, 8, 8, 8, 8, 8, 8, 8, 8, 8, 8, 8, 8, 8, 8, 8, 8, 8, 8, 8, 8, 8, 8, 8, 8, 8, 8]⟩ : ByteArray) ((x0 / 256) % 256)))))) else (none)) else (none)) else (if 0 ≤ ((x0) % 256) then (if ((x0) % 256) < 256 then (some (wrap64 (x2 + (wrap64 (bt (⟨#[0, 1, 2, 2, 3, 3, 3, 3, 4, 4, 4, 4, 4, 4, 4, 4, 5, 5, 5, 5, 5, 5, 5, 5, 5, 5, 5, 5, 5, 5, 5, 5, 6, 6, 6, 6, 6, 6, 6, 6, 6, 6, 6, 6, 6, 6, 6, 6, 6, 6, 6, 6, 6, 6, 6, 6, 6, 6, 6, 6, 6, 6, 6, 6, 7, 7, 7, 7, 7, 7, 7, 7, 7, 7, 7, 7, 7, 7, 7, 7, 7, 7, 7, 7, 7, 7, 7, 7, 7, 7, 7, 7, 7, 7, 7, 7, 7, 7, 7, 7, 7, 7, 7, 7, 7, 7, 7, 7, 7, 7, 7, 7, 7, 7, 7, 7, 7, 7, 7, 7, 7, 7, 7, 7, 7, 7, 7, 7, 8, 8, 8, 8, 8, 8, 8, 8, 8, 8, 8, 8, 8, 8, 8, 8, 8, 8, 8, 8, 8, 8, 8, 8, 8, 8, 8, 8, 8, 8, 8, 8, 8, 8, 8, 8, 8, 8, 8, 8, 8, 8, 8, 8, 8, 8, 8, 8, 8, 8, 8, 8, 8, 8, 8, 8, 8, 8, 8, 8, 8, 8, 8, 8, 8, 8, 8, 8, 8, 8, 8, 8, 8, 8, 8, 8, 8, 8, 8, 8, 8, 8, 8, 8, 8, 8, 8, 8, 8, 8, 8, 8, 8, 8, 8, 8, 8, 8, 8, 8, 8, 8, 8, 8, 8, 8, 8, 8, 8, 8, 8, 8, 8, 8, 8, 8, 8, 8, 8, 8, 8, 8, 8, 8, 8, 8, 8, 8]⟩ : ByteArray) ((x0) % 256)))))) else (none)) else (none)))
def bits_Len64.f (k : Nat) (a0 : Int) : Option (Int) := if a0 ≥ 4294967296 then (bits_Len64.j0 k (a0 / 4294967296) 32) else (bits_Len64.j0 k a0 0)
def strconv_bool2_int.f (a0 : Bool) : Option (Int) := if a0 = true then (some 1) else (some 0)
def strconv_isPowerOfTwo.f (a0 : Int) : Option (Bool) := some ((Go.bits .and .i64 a0 (wrap64 (a0 - 1))) == 0)
def strconv_Itoa_39.f (a0 : Int) : Option (ByteArray) := if 0 ≤ a0 then (if a0 ≤ 9223372036854775807 then some ⟨(Lib.itoa a0).toArray⟩ else none) else none
def impl_varText.f (a0 : Int) : Option (ByteArray) := if 0 ≤ a0 ∧ a0 ≤ 3 then some (⟨#[(97 + a0).toNat.toUInt8]⟩ : ByteArray) else none
mutual
def impl_OpLevel.j0 : Nat → Int → Bool → Option (Int)
 | 0, _, _ => none
 | k + 1, x3, x14 => if x14 = true then (some 6) else (if x3 = 8 then (impl_OpLevel.j1 k x3 (x3 == 8)) else (impl_OpLevel.j1 k x3 (x3 == 9)))
def impl_OpLevel.j1 : Nat → Int → Bool → Option (Int)
 | 0, _, _ => none
 | k + 1, x3, x17 => if x17 = true then (some 7) else (if x3 = 10 then (some 8) else (if x3 = 11 then (some 8) else (if x3 = 12 then (some 8) else (some 0))))
end
def impl_OpLevel.f (k : Nat) (a0 : Int) : Option (Int) := if a0 = 1 then (some 1) else (if a0 = 2 then (some 2) else (if a0 = 3 then (some 3) else (if a0 = 4 then (some 4) else (if a0 = 5 then (some 5) else (if a0 = 6 then (impl_OpLevel.j0 k a0 (a0 == 6)) else (impl_OpLevel.j0 k a0 (a0 == 7)))))))
def impl_OpText.f (a0 : Int) : Option (ByteArray) := if 1 ≤ a0 ∧ a0 ≤ 12 then some (opTexts.getD (a0 - 1).toNat ⟨#[]⟩) else none
mutual
def impl_operandTokens.j0 : Nat → List ByteArray → Bool → Int → Int → List (S29) → Option (List ByteArray)
 | 0, _, _, _, _, _ => none
 | k + 1, x2, x17, x248000, x248001, x248002 => if x17 = true then ((impl_exprTokens.f k x248000 x248001 x248002 x2).bind fun t250 => (some t250)) else (if x2.length < 8796093022208 then ((impl_exprTokens.f k x248000 x248001 x248002 (x2 ++ [(⟨#[40]⟩ : ByteArray)])).bind fun t256 => (if t256.length < 8796093022208 then (some (t256 ++ [(⟨#[41]⟩ : ByteArray)])) else (none))) else (none))
def impl_operandTokens.f : Nat → Int → Int → List (S29) → Int → List ByteArray → Option (List ByteArray)
 | 0, _, _, _, _, _ => none
 | k + 1, a0_0, a0_1, l0_2, a1, l2 => (impl_OpValid.f a0_0).bind fun t248 => (if t248 = true then ((impl_OpLevel.f k a0_0).bind fun t249 => (impl_operandTokens.j0 k l2 (decide (t249 ≥ a1)) a0_0 a0_1 l0_2)) else (impl_operandTokens.j0 k l2 true a0_0 a0_1 l0_2))
def impl_exprTokens.f : Nat → Int → Int → List (S29) → List ByteArray → Option (List ByteArray)
 | 0, _, _, _, _ => none
 | k + 1, a0_0, a0_1, l0_2, l1 => if a0_0 = 0 then ((strconv_Itoa_39.f a0_1).bind fun t263 => (if l1.length < 8796093022208 then (some (l1 ++ [t263])) else (none))) else (if a0_0 = 13 then ((impl_varText.f a0_1).bind fun t267 => (if l1.length < 8796093022208 then (some (l1 ++ [t267])) else (none))) else ((impl_OpLevel.f k a0_0).bind fun t271 => (if 0 < (l0_2.length : Int) then ((impl_operandTokens.f k ((rd_T29 l0_2 0).f0) ((rd_T29 l0_2 0).f1) ((rd_T29 l0_2 0).f2) t271 l1).bind fun t273 => ((impl_OpText.f a0_0).bind fun t276 => (if t273.length < 8796093022208 then (if 1 < (l0_2.length : Int) then ((impl_operandTokens.f k ((rd_T29 l0_2 1).f0) ((rd_T29 l0_2 1).f1) ((rd_T29 l0_2 1).f2) (wrap64 (t271 + 1)) (t273 ++ [t276])).bind fun t281 => (some t281)) else (none)) else (none)))) else (none))))
end
def impl_ExprText.f (k : Nat) (a0_0 : Int) (a0_1 : Int) (l0_2 : List (S29)) : Option (ByteArray) := (impl_ExprValid.f k a0_0 a0_1 l0_2).bind fun t285 => (if t285 = true then ((impl_exprTokens.f k a0_0 a0_1 l0_2 ([] : List ByteArray)).bind fun t286 => ((impl_TokensText.f k t286).bind fun t289 => (some t289))) else (some (⟨#[]⟩ : ByteArray)))
mutual
def laws_eqExprS.l0 : Nat → List (S29) → List (S29) → Int → Option (Bool)
 | 0, _, _, _ => none
 | k + 1, x0, x1, x5 => if x5 < (x0.length : Int) then (if 0 ≤ x5 then (if x5 < (x1.length : Int) then ((laws_eqExpr.f k ((rd_T29 x0 x5).f0) ((rd_T29 x0 x5).f1) ((rd_T29 x0 x5).f2) ((rd_T29 x1 x5).f0) ((rd_T29 x1 x5).f1) ((rd_T29 x1 x5).f2)).bind fun t292 => (if t292 = true then (laws_eqExprS.l0 k x0 x1 (wrap64 (x5 + 1))) else (some false))) else (none)) else (none)) else (some true)
def laws_eqExprS.f : Nat → List (S29) → List (S29) → Option (Bool)
 | 0, _, _ => none
 | k + 1, l0, l1 => if (l0.length : Int) = (l1.length : Int) then (laws_eqExprS.l0 k l0 l1 0) else (some false)
def laws_eqExpr.f : Nat → Int → Int → List (S29) → Int → Int → List (S29) → Option (Bool)
 | 0, _, _, _, _, _, _ => none
 | k + 1, a0_0, a0_1, l0_2, a1_0, a1_1, l1_2 => if a0_0 = a1_0 then (if a0_1 = a1_1 then ((laws_eqExprS.f k l0_2 l1_2).bind fun t295 => (if t295 = true then (some true) else (some false))) else (some false)) else (some false)
end
def laws_FnExactExprText.f (k : Nat) (a0_0 : Int) (a0_1 : Int) (l0_2 : List (S24)) : Option (Bool) := (laws_szExpr.f k a0_0 a0_1 l0_2 1048576).bind fun t297 => (if t297 < 0 then (some true) else ((laws_toExpr.f k a0_0 a0_1 l0_2).bind fun bt298 => ((spec_ExprText.f k bt298.1 bt298.2.1 bt298.2.2).bind fun t303 => ((laws_toExpr.f k a0_0 a0_1 l0_2).bind fun bt304 => ((impl_ExprText.f k bt304.1 bt304.2.1 bt304.2.2).bind fun t310 => (if t310.toList = t303.toList then ((laws_toExpr.f k a0_0 a0_1 l0_2).bind fun bt311 => ((laws_eqExpr.f k bt304.1 bt304.2.1 bt304.2.2 bt311.1 bt311.2.1 bt311.2.2).bind fun t316 => (if t316 = true then (some true) else (some false)))) else (some false)))))))
def spec_l6Rd_pick.j0 : Nat → Int → Bool → List Int → Int → Option (Int × Int)
 | 0, _, _, _, _ => none
 | k + 1, x1, x24, x1000, x1001 => if x24 = true then (some (0, x1001)) else (if (wrap64 (x1001 - 1)) < (x1000.length : Int) then (if 0 ≤ (wrap64 (x1001 - 1)) then (if x1 = 0 then (none) else (some (Int.tmod (wrap64 (rd x1000 (wrap64 (x1001 - 1)))) x1, x1001))) else (none)) else (if (x1000.length : Int) = 0 then (none) else (if 0 ≤ (Int.tmod (wrap64 (x1001 - 1)) (x1000.length : Int)) then (if (Int.tmod (wrap64 (x1001 - 1)) (x1000.length : Int)) < (x1000.length : Int) then (if 0 ≤ (Int.tmod (wrap64 ((wrap64 ((wrap64 (x1001 - 1)) * 7)) + 3)) (x1000.length : Int)) then (if (Int.tmod (wrap64 ((wrap64 ((wrap64 (x1001 - 1)) * 7)) + 3)) (x1000.length : Int)) < (x1000.length : Int) then (if x1 = 0 then (none) else (some (Int.tmod (Go.bits .xor .i64 (wrap64 ((wrap64 ((wrap64 ((wrap64 ((wrap64 (rd x1000 (Int.tmod (wrap64 (x1001 - 1)) (x1000.length : Int)))) * 131)) + (wrap64 ((wrap64 (rd x1000 (Int.tmod (wrap64 ((wrap64 ((wrap64 (x1001 - 1)) * 7)) + 3)) (x1000.length : Int)))) * 1117)))) + (wrap64 ((wrap64 (x1001 - 1)) * 29)))) + (wrap64 ((wrap64 (Int.tdiv (wrap64 (x1001 - 1)) (x1000.length : Int))) * 53)))) (wrap64 (Int.tdiv (wrap64 ((wrap64 ((wrap64 ((wrap64 ((wrap64 (rd x1000 (Int.tmod (wrap64 (x1001 - 1)) (x1000.length : Int)))) * 131)) + (wrap64 ((wrap64 (rd x1000 (Int.tmod (wrap64 ((wrap64 ((wrap64 (x1001 - 1)) * 7)) + 3)) (x1000.length : Int)))) * 1117)))) + (wrap64 ((wrap64 (x1001 - 1)) * 29)))) + (wrap64 ((wrap64 (Int.tdiv (wrap64 (x1001 - 1)) (x1000.length : Int))) * 53)))) 64))) x1, x1001))) else (none)) else (none)) else (none)) else (none))))
def spec_l6Rd_pick.f (k : Nat) (s0_0 : List Int) (s0_1 : Int) (a1 : Int) : Option (Int × Int) := if a1 < 1 then (spec_l6Rd_pick.j0 k a1 true s0_0 (wrap64 (s0_1 + 1))) else (spec_l6Rd_pick.j0 k a1 ((s0_0.length : Int) == 0) s0_0 (wrap64 (s0_1 + 1)))
def spec_l4Leaf.f (a0 : Int) (a1 : Int) : Option (Int × Int × (List (S29))) := some (a0, a1, (([] : List (S29))))
def spec_l91Leaf.f (k : Nat) (s0_0 : List Int) (s0_1 : Int) : Option (Int × Int × (List (S29)) × Int) := (spec_l6Rd_pick.f k s0_0 s0_1 4).bind fun bt325 => (if bt325.1 = 0 then ((spec_l6Rd_pick.f k s0_0 bt325.2 4).bind fun bt327 => ((spec_l4Leaf.f 0 bt327.1).bind fun bt329 => (some (bt329.1, bt329.2.1, bt329.2.2, bt327.2)))) else (if bt325.1 = 1 then ((some (([5, 31, 32, 100, 2047, 2048, 65536, 99999] : List Int) : List Int)).bind fun y334 => ((spec_l6Rd_pick.f k s0_0 bt325.2 8).bind fun bt337 => (if 0 ≤ bt337.1 then (if bt337.1 < (y334.length : Int) then ((spec_l4Leaf.f 0 (rd y334 bt337.1)).bind fun bt340 => (some (bt340.1, bt340.2.1, bt340.2.2, bt337.2))) else (none)) else (none)))) else ((spec_l6Rd_pick.f k s0_0 bt325.2 4).bind fun bt345 => ((spec_l4Leaf.f 13 bt345.1).bind fun bt347 => (some (bt347.1, bt347.2.1, bt347.2.2, bt345.2))))))
def spec_l4Both.f (a0 : Int) (a1_0 : Int) (a1_1 : Int) (l1_2 : List (S29)) (a2_0 : Int) (a2_1 : Int) (l2_2 : List (S29)) : Option (Int × Int × (List (S29))) := some (a0, 0, (([(⟨a1_0, a1_1, l1_2⟩ : S29), (⟨a2_0, a2_1, l2_2⟩ : S29)] : List (S29))))
def spec_l91Op.f (k : Nat) (s0_0 : List Int) (s0_1 : Int) : Option (Int × Int) := (spec_l6Rd_pick.f k s0_0 s0_1 12).bind fun bt358 => (some (wrap64 (1 + bt358.1), bt358.2))
mutual
def spec_l91Expr.j0 : Nat → Int → Bool → List Int → Int → Option (Int × Int × (List (S29)) × Int)
 | 0, _, _, _, _ => none
 | k + 1, x1, x13, x1000, x1001 => if x13 = true then ((spec_l91Leaf.f k x1000 x1001).bind fun bt363 => (some (bt363.1, bt363.2.1, bt363.2.2.1, bt363.2.2.2))) else ((spec_l91Op.f k x1000 x1001).bind fun bt369 => ((spec_l91Expr.f k x1000 bt369.2 (wrap64 (x1 - 1))).bind fun bt371 => ((spec_l91Expr.f k x1000 bt371.2.2.2 (wrap64 (x1 - 1))).bind fun bt378 => ((spec_l4Both.f bt369.1 bt371.1 bt371.2.1 bt371.2.2.1 bt378.1 bt378.2.1 bt378.2.2.1).bind fun bt384 => (some (bt384.1, bt384.2.1, bt384.2.2, bt378.2.2.2))))))
def spec_l91Expr.f : Nat → List Int → Int → Int → Option (Int × Int × (List (S29)) × Int)
 | 0, _, _, _ => none
 | k + 1, s0_0, s0_1, a1 => if a1 < 2 then (spec_l91Expr.j0 k a1 true s0_0 s0_1) else ((spec_l6Rd_pick.f k s0_0 s0_1 3).bind fun bt361 => (spec_l91Expr.j0 k a1 (bt361.1 == 0) s0_0 bt361.2))
end
def spec_l91Spoilt.f (k : Nat) (s0_0 : List Int) (s0_1 : Int) : Option (Int × Int × (List (S29)) × Int) := (spec_l6Rd_pick.f k s0_0 s0_1 4).bind fun bt390 => ((spec_l91Expr.f k s0_0 bt390.2 (wrap64 (2 + bt390.1))).bind fun bt392 => ((spec_l6Rd_pick.f k s0_0 bt392.2.2.2 40).bind fun bt399 => (if bt399.1 = 0 then ((some (([(-1), 100000] : List Int) : List Int)).bind fun y401 => ((spec_l6Rd_pick.f k s0_0 bt399.2 2).bind fun bt404 => (if 0 ≤ bt404.1 then (if bt404.1 < (y401.length : Int) then (some (bt392.1, rd y401 bt404.1, bt392.2.2.1, bt404.2)) else (none)) else (none)))) else (if bt399.1 = 1 then ((some (([(-1), 14] : List Int) : List Int)).bind fun y407 => ((spec_l6Rd_pick.f k s0_0 bt399.2 2).bind fun bt410 => (if 0 ≤ bt410.1 then (if bt410.1 < (y407.length : Int) then (some (rd y407 bt410.1, bt392.2.1, bt392.2.2.1, bt410.2)) else (none)) else (none)))) else (if bt399.1 = 2 then ((spec_l91Leaf.f k s0_0 bt399.2).bind fun bt413 => (if bt392.2.2.1.length < 3518437208883 then (some (bt392.1, bt392.2.1, (bt392.2.2.1 ++ [(⟨bt413.1, bt413.2.1, bt413.2.2.1⟩ : S29)]), bt413.2.2.2)) else (none))) else (if bt399.1 = 3 then ((spec_l91Leaf.f k s0_0 bt399.2).bind fun bt422 => ((spec_l4Both.f 8 bt392.1 bt392.2.1 bt392.2.2.1 bt422.1 bt422.2.1 bt422.2.2.1).bind fun bt428 => ((spec_l91Expr.f k s0_0 bt422.2.2.2 5).bind fun bt433 => ((spec_l4Both.f 8 bt428.1 bt428.2.1 bt428.2.2 bt433.1 bt433.2.1 bt433.2.2.1).bind fun bt439 => (some (bt439.1, bt439.2.1, bt439.2.2, bt433.2.2.2)))))) else (if bt399.1 = 4 then ((spec_l91Op.f k s0_0 bt399.2).bind fun bt444 => ((spec_l91Expr.f k s0_0 bt444.2 4).bind fun bt446 => ((spec_l4Leaf.f 13 4).bind fun bt452 => ((spec_l4Both.f bt444.1 bt446.1 bt446.2.1 bt446.2.2.1 bt452.1 bt452.2.1 bt452.2.2).bind fun bt457 => (some (bt457.1, bt457.2.1, bt457.2.2, bt446.2.2.2)))))) else (some (bt392.1, bt392.2.1, bt392.2.2.1, bt399.2)))))))))
def spec_l6Open.f (l0 : List Int) : Option (List Int × Int) := if (l0.length : Int) > 2000 then (if 2000 ≤ (l0.length : Int) then (some (l0.take 2000, 0)) else (none)) else (some (l0, 0))
def spec_DrawExprText.f (k : Nat) (l0 : List Int) : Option (Int × Int × (List (S29))) := (spec_l6Open.f l0).bind fun bt466 => ((spec_l91Spoilt.f k bt466.1 bt466.2).bind fun bt469 => (some (bt469.1, bt469.2.1, bt469.2.2.1)))
def laws_bytesOf.l0 : Nat → ByteArray → Int → Int → Int → Option (Int)
 | 0, _, _, _, _ => none
 | k + 1, x0, x1, x5, x6 => if x6 < (x0.size : Int) then (if 0 ≤ x6 then (if (bt x0 x6) = x1 then (laws_bytesOf.l0 k x0 x1 (wrap64 (x5 + 1)) (wrap64 (x6 + 1))) else (laws_bytesOf.l0 k x0 x1 x5 (wrap64 (x6 + 1)))) else (none)) else (some x5)
def laws_bytesOf.f (k : Nat) (a0 : ByteArray) (a1 : Int) : Option (Int) := laws_bytesOf.l0 k a0 a1 0 0
def laws_FnTextLeft.j0 : Nat → ByteArray → ByteArray → Bool → Int → Int → List (S29) → Option (Bool)
 | 0, _, _, _, _, _, _ => none
 | k + 1, x4, x5, x23, x481000, x481001, x481002 => if x23 = true then (some (x4.toList == x5.toList)) else (if (x481002.length : Int) = 0 then ((laws_bytesOf.f k x4 32).bind fun t483 => (some (t483 == 0))) else (if 0 < (x481002.length : Int) then ((impl_ExprText.f k ((rd_T29 x481002 0).f0) ((rd_T29 x481002 0).f1) ((rd_T29 x481002 0).f2)).bind fun t485 => (if 2 + t485.size ≤ 9223372036854775807 then (if ((⟨#[40, 32]⟩ : ByteArray) ++ t485).size + 2 ≤ 9223372036854775807 then (if (x4.size : Int) > (t485.size : Int) then (if 0 ≤ (t485.size : Int) then (if (t485.size : Int) ≤ (x4.size : Int) then (if (x4.extract 0 ((t485.size : Int) : Int).toNat).toList = t485.toList then (some true) else (if (x4.size : Int) > ((((⟨#[40, 32]⟩ : ByteArray) ++ t485) ++ (⟨#[32, 41]⟩ : ByteArray)).size : Int) then (if 0 ≤ ((((⟨#[40, 32]⟩ : ByteArray) ++ t485) ++ (⟨#[32, 41]⟩ : ByteArray)).size : Int) then (if ((((⟨#[40, 32]⟩ : ByteArray) ++ t485) ++ (⟨#[32, 41]⟩ : ByteArray)).size : Int) ≤ (x4.size : Int) then (some ((x4.extract 0 (((((⟨#[40, 32]⟩ : ByteArray) ++ t485) ++ (⟨#[32, 41]⟩ : ByteArray)).size : Int) : Int).toNat).toList == (((⟨#[40, 32]⟩ : ByteArray) ++ t485) ++ (⟨#[32, 41]⟩ : ByteArray)).toList)) else (none)) else (none)) else (some false))) else (none)) else (none)) else (if (x4.size : Int) > ((((⟨#[40, 32]⟩ : ByteArray) ++ t485) ++ (⟨#[32, 41]⟩ : ByteArray)).size : Int) then (if 0 ≤ ((((⟨#[40, 32]⟩ : ByteArray) ++ t485) ++ (⟨#[32, 41]⟩ : ByteArray)).size : Int) then (if ((((⟨#[40, 32]⟩ : ByteArray) ++ t485) ++ (⟨#[32, 41]⟩ : ByteArray)).size : Int) ≤ (x4.size : Int) then (some ((x4.extract 0 (((((⟨#[40, 32]⟩ : ByteArray) ++ t485) ++ (⟨#[32, 41]⟩ : ByteArray)).size : Int) : Int).toNat).toList == (((⟨#[40, 32]⟩ : ByteArray) ++ t485) ++ (⟨#[32, 41]⟩ : ByteArray)).toList)) else (none)) else (none)) else (some false))) else (none)) else (none))) else (none)))
def laws_FnTextLeft.f (k : Nat) (l0 : List Int) : Option (Bool) := if (l0.length : Int) > 1048576 then (some true) else ((spec_DrawExprText.f k l0).bind fun bt475 => ((impl_ExprText.f k bt475.1 bt475.2.1 bt475.2.2).bind fun t481 => ((spec_ExprText.f k bt475.1 bt475.2.1 bt475.2.2).bind fun t482 => (if t481.toList = t482.toList then (laws_FnTextLeft.j0 k t481 t482 (t481.toList == ([] : List UInt8)) bt475.1 bt475.2.1 bt475.2.2) else (laws_FnTextLeft.j0 k t481 t482 true bt475.1 bt475.2.1 bt475.2.2)))))
mutual
def impl_Tokens.l0 : Nat → ByteArray → List ByteArray → Int → Option (List ByteArray × Bool)
 | 0, _, _, _ => none
 | k + 1, x0, x4, x5 => if x5 < (x0.size : Int) then (if 0 ≤ x5 then (if (bt x0 x5) = 32 then (impl_Tokens.j1 k x0 x4 x5 true) else (impl_Tokens.j1 k x0 x4 x5 ((bt x0 x5) == 10))) else (none)) else (some (x4, true))
def impl_Tokens.j1 : Nat → ByteArray → List ByteArray → Int → Bool → Option (List ByteArray × Bool)
 | 0, _, _, _, _ => none
 | k + 1, x0, x4, x5, x23 => if x23 = true then (impl_Tokens.l0 k x0 x4 (wrap64 (x5 + 1))) else (if 0 ≤ x5 then (if x5 ≤ (x0.size : Int) then ((impl_tokenLength.f k (x0.extract (x5 : Int).toNat x0.size)).bind fun t486 => (if t486 = 0 then (some (([] : List ByteArray), false)) else (if x5 ≤ (wrap64 (x5 + t486)) then (if (wrap64 (x5 + t486)) ≤ (x0.size : Int) then (if x4.length < 8796093022208 then (impl_Tokens.l0 k x0 (x4 ++ [x0.extract (x5 : Int).toNat ((wrap64 (x5 + t486)) : Int).toNat]) (wrap64 (x5 + t486))) else (none)) else (none)) else (none)))) else (none)) else (none))
end
def impl_Tokens.f (k : Nat) (a0 : ByteArray) : Option (List ByteArray × Bool) := if (a0.size : Int) > 20000 then (some (([] : List ByteArray), false)) else (impl_Tokens.l0 k a0 ([] : List ByteArray) 0)
mutual
def impl_exprSize.l0 : Nat → Int → List (S29) → Int → Int → Option (Int)
 | 0, _, _, _, _ => none
 | k + 1, x3, x7, x8, x9 => if x9 < x8 then (if 0 ≤ x9 then (if x9 < (x7.length : Int) then ((impl_exprSize.f k ((rd_T29 x7 x9).f0) ((rd_T29 x7 x9).f1) ((rd_T29 x7 x9).f2)).bind fun t493 => (impl_exprSize.l0 k (wrap64 (x3 + t493)) x7 x8 (wrap64 (x9 + 1)))) else (none)) else (none)) else (some x3)
def impl_exprSize.f : Nat → Int → Int → List (S29) → Option (Int)
 | 0, _, _, _ => none
 | k + 1, a0_0, a0_1, l0_2 => impl_exprSize.l0 k 1 l0_2 (l0_2.length : Int) 0
end
def impl_ExprSize.f (k : Nat) (a0_0 : Int) (a0_1 : Int) (l0_2 : List (S29)) : Option (Int) := (impl_ExprValid.f k a0_0 a0_1 l0_2).bind fun t495 => (if t495 = true then ((impl_exprSize.f k a0_0 a0_1 l0_2).bind fun t496 => (some t496)) else (some 0))
def laws_FnTextTokens.j0 : Nat → ByteArray → ByteArray → Bool → Int → Int → List (S29) → Option (Bool)
 | 0, _, _, _, _, _, _ => none
 | k + 1, x4, x5, x24, x503000, x503001, x503002 => if x24 = true then (some (x4.toList == x5.toList)) else ((impl_Tokens.f k x4).bind fun bt505 => ((laws_bytesOf.f k x4 40).bind fun t509 => (if bt505.2 = true then ((impl_ExprSize.f k x503000 x503001 x503002).bind fun t510 => (if (bt505.1.length : Int) = (wrap64 (t510 + (wrap64 (2 * t509)))) then ((laws_bytesOf.f k x4 41).bind fun t511 => (some (t511 == t509))) else (some false))) else (some false))))
def laws_FnTextTokens.f (k : Nat) (l0 : List Int) : Option (Bool) := if (l0.length : Int) > 1048576 then (some true) else ((spec_DrawExprText.f k l0).bind fun bt497 => ((impl_ExprText.f k bt497.1 bt497.2.1 bt497.2.2).bind fun t503 => ((spec_ExprText.f k bt497.1 bt497.2.1 bt497.2.2).bind fun t504 => (if t503.toList = t504.toList then (laws_FnTextTokens.j0 k t503 t504 (t503.toList == ([] : List UInt8)) bt497.1 bt497.2.1 bt497.2.2) else (laws_FnTextTokens.j0 k t503 t504 true bt497.1 bt497.2.1 bt497.2.2)))))
end Go.Proofs.YtjamfkpgmkhbnaaDoor.PA

namespace Go.Proofs.YtjamfkpgmkhbnaaDoor.Open
open Go.ChangeShapes Go.WideShapes Go.RowKit Go.Proofs.YtjamfkpgmkhbnaaDoorW.PrintWords
section
variable {H : Type} {enc : TypeId × Value → H} {P : Program} {w : World} {base : Nat} {spare : Nat → Bool} {held : Bool}
def Opn {α : Type} (enc : TypeId × Value → H) (P : Program) (w : World) (base : Nat) (spare : Nat → Bool) (held : Bool) (F : Nat) (t : TypeId) (d : Kd α) (G : α → Prop) : Prop :=
 ∀ f, f ≤ F → ∀ cs x, DataW.trod enc P w base spare held f t cs = some x → ∃ a, d.K w a cs ∧ G a
theorem Opn.int {F : Nat} {t : TypeId} {k : IntKind} (hu : P.underlying t = some (.int k)) : Opn enc P w base spare held F t (Kd.int k) (fun n => (Lit.int k n).wf = true) := by
 intro f _ cs x h
 cases f with
 | zero => simp [DataW.trod] at h
 | succ n =>
  obtain ⟨m, rfl, hw⟩ : ∃ m, cs = [.int k m] ∧ (Lit.int k m).wf = true := by
   unfold DataW.trod at h
   rw [hu] at h
   split at h <;> simp_all
  exact ⟨m, rfl, hw⟩
theorem collect {α : Type} {Q : Nat → α → Prop} : ∀ m, (∀ i, i < m → ∃ a, Q i a) → ∃ l : List α, l.length = m ∧ ∀ i p, l[i]? = some p → Q i p
 | 0, _ => ⟨[], rfl, fun i p h => by simp at h⟩
 | m + 1, h => by
  obtain ⟨l, hl, hq⟩ := collect m (fun i hi => h i (by omega))
  obtain ⟨a, ha⟩ := h m (by omega)
  refine ⟨l ++ [a], by simp [hl], fun i p hp => ?_⟩
  rcases Nat.lt_or_ge i l.length with hlt | hge
  ·rw [List.getElem?_append_left hlt] at hp
   exact hq i p hp
  ·rw [List.getElem?_append_right hge] at hp
   have hi : i - l.length = 0 := by
    rcases Nat.eq_zero_or_pos (i - l.length) with h0 | h0
    ·exact h0
    ·rw [List.getElem?_eq_none (by simp; omega)] at hp
     cases hp
   rw [hi] at hp
   simp at hp
   subst hp
   have : i = m := by omega
   subst this
   exact ha
theorem Opn.slice {α : Type} {F : Nat} {t e : TypeId} {d : Kd α} {G : α → Prop} (hu : P.underlying t = some (.slice e)) (hc : P.cellsOf e = d.sz) (h : ∀ F', F' < F → Opn enc P w base spare held F' e d G) :
  Opn enc P w base spare held F t (Kd.slice e d) (fun l => l.length ≤ maxLen ∧ ∀ x ∈ l, G x) := by
 intro f hfF cs x hx
 rcases DataW.trod_slice hu hx with ⟨rfl, _⟩ | ⟨a, len, cap, elems, rest, n, rfl, rfl, _, _, hl, hm, hlen, hel, _, _⟩
 ·exact ⟨[], ⟨none, 0, rfl, Nat.le_refl _, rfl, by simp, fun hp => absurd hp (Nat.lt_irrefl 0)⟩, by simp, fun x hx => by simp at hx⟩
 ·obtain ⟨l, hll, hq⟩ := collect (Q := fun i p => (∃ c, c.length = d.sz ∧ d.K w p c ∧ ∀ j u, c[j]? = some u → w.cell? (a.add (i * d.sz + j)) = some u) ∧ G p) len (fun i hi => by
   have h1 := hel i hi
   have h2 : elems[i]? = some (elems[i]'(by omega)) := List.getElem?_eq_getElem (by omega)
   rw [h2] at h1
   obtain ⟨c, hc1, hc2⟩ := Option.bind_eq_some_iff.1 h1
   obtain ⟨p, hp, hg⟩ := h n (by omega) n (Nat.le_refl _) c _ hc2
   obtain ⟨_, hcl, hat⟩ := World.cells?_some hc1
   refine ⟨p, ⟨c, d.K_len hp, hp, fun j u hj => ?_⟩, hg⟩
   have hjl : j < c.length := (List.getElem?_eq_some_iff.1 hj).1
   have h3 := hat j (by omega)
   rw [hj] at h3
   rw [← hc, ← Go.Deep.add_add]
   exact h3)
  have hml : maxLen = 9223372036854775807 := rfl
  refine ⟨l, ⟨some a, cap, by rw [hll], by omega, rfl, by omega, fun _ => ⟨a, rfl, fun j p hj => (hq j p hj).1⟩⟩, by omega, fun x hx => ?_⟩
  obtain ⟨i, hi, rfl⟩ := List.getElem_of_mem hx
  exact (hq i _ (List.getElem?_eq_getElem hi)).2
theorem field {α : Type} {n o s j : Nat} {t : TypeId} {fs : Array Field} {f : Field} {cs : List Value} {xs : List (DataW H × List MemPlace)} {d : Kd α} {G : α → Prop}
  (hg : ∀ (i : Nat) (f : Field), fs[i]? = some f → DataW.trod enc P w base spare held n f.type ((cs.drop f.offset).take (P.cellsOf f.type)) = xs[i]?) (hxl : xs.length = fs.size)
  (hj : fs[j]? = some f) (ho : f.offset = o) (hs : P.cellsOf f.type = s) (ht : f.type = t) (h : Opn enc P w base spare held n t d G) : ∃ a, d.K w a ((cs.drop o).take s) ∧ G a := by
 have h1 := hg j f hj
 have hjl : j < fs.size := (Array.getElem?_eq_some_iff.1 hj).1
 rw [List.getElem?_eq_getElem (by omega), ho, hs, ht] at h1
 exact h n (Nat.le_refl _) _ _ h1
theorem parts_cons {o s o' : Nat} {cs c0 : List Value} (h : (cs.drop o).take s = c0) (ho : o + s = o') : cs.drop o = c0 ++ cs.drop o' := by
 rw [← h, ← ho, ← List.drop_drop, List.take_append_drop]
theorem parts_nil {o : Nat} {cs : List Value} (h : cs.length = o) : cs.drop o = [] := by rw [List.drop_eq_nil_iff]; omega
end
end Go.Proofs.YtjamfkpgmkhbnaaDoor.Open

namespace Go.Proofs.YtjamfkpgmkhbnaaDoor.PA
open Go.RowKit Go.Proofs.YtjamfkpgmkhbnaaDoorW.PrintWords Go.Proofs.YtjamfkpgmkhbnaaDoor.Open
set_option linter.unusedVariables false
inductive WF24 : S24 → Prop
 | mk (x : S24) (h0 : (Lit.int .i64 x.f0).wf = true) (h1 : (Lit.int .i64 x.f1).wf = true) (h2 : x.f2.length ≤ maxLen) (g2 : ∀ y ∈ x.f2, WF24 y) : WF24 x
theorem opn24 {H : Type} {enc : TypeId × Value → H} {w : World} {base : Nat} {spare : Nat → Bool} {held : Bool} (F : Nat) : Opn enc Tryd.prog w base spare held F 24 k24 WF24 := by
 induction F using Nat.strongRecOn with
 | _ F ih =>
 intro f hfF cs x h
 obtain ⟨xs, n, rfl, _, hcs, hxl, hg⟩ := DataW.trod_struct Tryd.underlying24 h
 replace hcs : cs.length = 3 := hcs.trans (by kernel_rfl)
 obtain ⟨a0, K0, G0⟩ := field (j := 0) (o := 0) (s := 1) (t := 3) hg hxl rfl rfl (by kernel_rfl) rfl (Opn.int Tryd.underlying3)
 have E0 : (cs.drop 0).take 1 = [.int .i64 a0] := K0
 obtain ⟨a1, K1, G1⟩ := field (j := 1) (o := 1) (s := 1) (t := 3) hg hxl rfl rfl (by kernel_rfl) rfl (Opn.int Tryd.underlying3)
 have E1 : (cs.drop 1).take 1 = [.int .i64 a1] := K1
 obtain ⟨a2, K2, G2⟩ := field (j := 2) (o := 2) (s := 1) (t := 22) hg hxl rfl rfl (by kernel_rfl) rfl (Opn.slice Tryd.underlying22 (by kernel_rfl) (fun F' hF' => (ih F' (by omega))))
 obtain ⟨A2, c2, E2, L2, C2⟩ := K2
 have e : cs = [.int .i64 a0, .int .i64 a1, .slice A2 a2.length c2] := by
  rw [show cs = cs.drop 0 from rfl, (parts_cons (o' := 1) E0 rfl), (parts_cons (o' := 2) E1 rfl), (parts_cons (o' := 3) E2 rfl), parts_nil hcs]
  rfl
 subst e
 exact ⟨⟨a0, a1, a2⟩, k24_mk w ⟨a0, a1, a2⟩ L2 C2, WF24.mk _ G0 G1 G2.1 G2.2⟩
end Go.Proofs.YtjamfkpgmkhbnaaDoor.PA

namespace Go.Proofs.YtjamfkpgmkhbnaaDoor.PA
open Go.RowKit Go.Proofs.YtjamfkpgmkhbnaaDoorW.PrintWords
def laws_FnExactExprText.Pure : Prop := ∀ (a0_0 : Int) (a0_1 : Int) (l0_2 : List (S24)), (Lit.int .i64 a0_0).wf = true → (Lit.int .i64 a0_1).wf = true → (l0_2.length ≤ maxLen ∧ ∀ y ∈ l0_2, WF24 y) → ∃ k, laws_FnExactExprText.f k a0_0 a0_1 l0_2 = some true
end Go.Proofs.YtjamfkpgmkhbnaaDoor.PA

namespace Go.Proofs.YtjamfkpgmkhbnaaDoor.PA
open Go.RowKit Go.Proofs.YtjamfkpgmkhbnaaDoorW.PrintWords Go.Proofs.YtjamfkpgmkhbnaaDoorW.PrintLast Go.Proofs.YtjamfkpgmkhbnaaDoorW.PrintMore
attribute [local go_sem] max2_int min2_int max_two min_two max_three min_three max_four min_four
set_option linter.unusedVariables false
set_option linter.unusedSimpArgs false
theorem laws_szExprS.mono_all : ∀ k, (∀ y0 y1, LeO (laws_szExprS.f k y0 y1) (laws_szExprS.f (k + 1) y0 y1)) ∧ (∀ y0 y1 y2, LeO (laws_szExprS.l0 k y0 y1 y2) (laws_szExprS.l0 (k + 1) y0 y1 y2)) ∧ (∀ y0 y1 y2 y3, LeO (laws_szExpr.f k y0 y1 y2 y3) (laws_szExpr.f (k + 1) y0 y1 y2 y3))
 | 0 => ⟨fun _ _ r h => by simp [laws_szExprS.f] at h, fun _ _ _ r h => by simp [laws_szExprS.l0] at h, fun _ _ _ _ r h => by simp [laws_szExpr.f] at h⟩
 | k + 1 => by
  obtain ⟨ih0, ih1, ih2⟩ := laws_szExprS.mono_all k
  refine ⟨?_, ?_, ?_⟩
  ·intro y0 y1
   unfold laws_szExprS.f
   exact mo_
  ·intro y0 y1 y2
   unfold laws_szExprS.l0
   exact mo_
  ·intro y0 y1 y2 y3
   unfold laws_szExpr.f
   exact mo_
theorem laws_szExprS.mono : ∀ a0 a1 k, LeO (laws_szExprS.f k a0 a1) (laws_szExprS.f (k + 1) a0 a1) := by
 intro a0 a1 k
 obtain ⟨ih0, ih1, ih2⟩ := laws_szExprS.mono_all k
 exact ih0 a0 a1
theorem laws_szExpr.mono : ∀ a0 a1 a2 a3 k, LeO (laws_szExpr.f k a0 a1 a2 a3) (laws_szExpr.f (k + 1) a0 a1 a2 a3) := by
 intro a0 a1 a2 a3 k
 obtain ⟨ih0, ih1, ih2⟩ := laws_szExprS.mono_all k
 exact ih2 a0 a1 a2 a3
abbrev laws_szExprS.CallsAt (k : Nat) : Prop := ∀ (A0 : Option Addr) (c0 : Nat) (l0 : List (S24)) (a1 : Int) (r : Int) (w : World) (hr0 : Kd.C k24 w A0 l0.length l0) (hc0 : l0.length ≤ c0) (h : laws_szExprS.f k l0 a1 = some r),
  Calls Tryd.prog 15 #[.slice A0 l0.length c0, .int .i64 a1] w fun e w' => e = .returned (.int .i64 r) ∧ Below w.heap.size w w'
abbrev laws_szExpr.CallsAt (k : Nat) : Prop := ∀ (a0_0 : Int) (a0_1 : Int) (A0_2 : Option Addr) (c0_2 : Nat) (l0_2 : List (S24)) (a1 : Int) (r : Int) (w : World) (hr0_2 : Kd.C k24 w A0_2 l0_2.length l0_2) (hc0_2 : l0_2.length ≤ c0_2) (h : laws_szExpr.f k a0_0 a0_1 l0_2 a1 = some r),
  Calls Tryd.prog 6 #[.agg #[.int .i64 a0_0, .int .i64 a0_1, .slice A0_2 l0_2.length c0_2], .int .i64 a1] w fun e w' => e = .returned (.int .i64 r) ∧ Below w.heap.size w w'
theorem laws_szExprS.step (k : Nat) (ih_laws_szExprS : ∀ m, m < k → laws_szExprS.CallsAt m) (ih_laws_szExpr : ∀ m, m < k → laws_szExpr.CallsAt m) : laws_szExprS.CallsAt k := by
 intro A0 c0 l0 a1 r w hr0 hc0 h
 cases k with
 | zero => exact absurd h (by simp [laws_szExprS.f])
 | succ k =>
 simp only [laws_szExprS.f] at h
 have hu24 := Tryd.underlying24
 have HR0 := am hr0
 have HC0 := am hc0
 clear hr0 hc0
 have HB := am (Below.refl w.heap.size w)
 have H : (if (wrap64 (a1 - (l0.length : Int))) < 0 then (some (-1)) else (laws_szExprS.l0 k l0 (wrap64 (a1 - (l0.length : Int))) 0)) = some r := h
 clear h
 by_cases c3 : (wrap64 (a1 - (l0.length : Int))) < 0
 ·rw [if_pos c3] at H
  have c3b0 : decide ((wrap64 (a1 - (l0.length : Int))) < 0) = true := decide_eq_true c3
  clear c3
  obtain rfl := Option.some.inj H
  go_enter Tryd.func15, Tryd.ntmps15
  go_wp2
  go_ret
  exact ⟨rr_, ab2_⟩
 rw [if_neg c3] at H
 have c3b0 : decide ((wrap64 (a1 - (l0.length : Int))) < 0) = false := decide_eq_false c3
 clear c3
 have H' := am H
 clear H
 go_enter Tryd.func15, Tryd.ntmps15
 go_wp2
 go_loopg [1, 5] k (fun kq v1 v5 w' => ∃ (x1_1 : Int) (x5_1 : Int), v1 = .int .i64 x1_1 ∧ v5 = .int .i64 x5_1 ∧ Aside0 (laws_szExprS.l0 kq l0 x1_1 x5_1 = some r) ∧ Aside0 (kq ≤ k) ∧ Aside0 (Below w.heap.size w w'))
 case atStart => exact ⟨(wrap64 (a1 - (l0.length : Int))), (0), sd_, sd_, H', ⟨Nat.le_refl _⟩, ⟨ab2_⟩⟩
 case round =>
  clear H'
  try clear c3
  try clear c3b0
  obtain ⟨x1_1, x5_1, rfl, rfl, HA, HK1, HB⟩ := hrel
  cases gk with
  | zero => exact absurd HA.out (by simp [laws_szExprS.l0])
  | succ k1 =>
   have H := HA.out
   clear HA
   simp only [laws_szExprS.l0] at H
   by_cases c4 : x5_1 < (l0.length : Int)
   ·rw [if_pos c4] at H
    have c4b0 : decide (x5_1 < (l0.length : Int)) = true := decide_eq_true c4
    clear c4
    by_cases c5 : 0 ≤ x5_1
    ·rw [if_pos c5] at H
     have c5b0 : decide (0 ≤ x5_1) = true := decide_eq_true c5
     clear c5
     obtain ⟨t20, A6, H⟩ := bsa H
     (try dsimp only at H)
     by_cases c7 : t20 < 0
     ·rw [if_pos c7] at H
      have c7b0 : decide (t20 < 0) = true := decide_eq_true c7
      clear c7
      obtain rfl := Option.some.inj H
      have p21 : 0 ≤ (x5_1 : Int) := of_decide_eq_true asm_
      have q21 : x5_1 < (l0.length : Int) := of_decide_eq_true asm_
      obtain ⟨ad21, A21_2, c21_2, e21, hx21_0, hx21_1, hx21_2, hl21_2, hi21_2⟩ := at_T24 HR0.out x5_1 p21 q21
      cases e21
      replace hx21_0 := (HB.out.cell (World.block_lt_of_cell? w _ hx21_0)).trans hx21_0
      replace hx21_1 := (HB.out.cell (World.block_lt_of_cell? w _ hx21_1)).trans hx21_1
      replace hx21_2 := (HB.out.cell (World.block_lt_of_cell? w _ hx21_2)).trans hx21_2
      have HR21_2 := am hi21_2
      have HC21_2 := am hl21_2
      clear hi21_2 hl21_2
      replace p21 := eq_true p21
      replace q21 := eq_true q21
      go_wp2_with (first | ((with_reducible refine gate_callee (f := 6) rfl ?_); refine gl_ 23 Tryd.func6 #[.agg #[.int .i64 ((rd_T24 l0 x5_1).f0), .int .i64 ((rd_T24 l0 x5_1).f1), .slice A21_2 ((rd_T24 l0 x5_1).f2).length c21_2], .int .i64 x1_1] ?_; (with_reducible refine (ih_laws_szExpr k1 (by have := HK1.out; omega) ((rd_T24 l0 x5_1).f0) ((rd_T24 l0 x5_1).f1) _ _ ((rd_T24 l0 x5_1).f2) x1_1 t20 _ (aC_ (Kd.C_below HR21_2.out HB.out)) HC21_2.out A6.out).mono ?_); rintro e w8 ⟨rfl, hb⟩; refine ⟨_, rfl, ?_⟩; replace HB := am (below_step ab2_ hb); (try clear hb)))
      go_ret
      exact ⟨rr_, ab2_⟩
     rw [if_neg c7] at H
     have c7b0 : decide (t20 < 0) = false := decide_eq_false c7
     clear c7
     have H' := am H
     clear H
     have p21 : 0 ≤ (x5_1 : Int) := of_decide_eq_true asm_
     have q21 : x5_1 < (l0.length : Int) := of_decide_eq_true asm_
     obtain ⟨ad21, A21_2, c21_2, e21, hx21_0, hx21_1, hx21_2, hl21_2, hi21_2⟩ := at_T24 HR0.out x5_1 p21 q21
     cases e21
     replace hx21_0 := (HB.out.cell (World.block_lt_of_cell? w _ hx21_0)).trans hx21_0
     replace hx21_1 := (HB.out.cell (World.block_lt_of_cell? w _ hx21_1)).trans hx21_1
     replace hx21_2 := (HB.out.cell (World.block_lt_of_cell? w _ hx21_2)).trans hx21_2
     have HR21_2 := am hi21_2
     have HC21_2 := am hl21_2
     clear hi21_2 hl21_2
     replace p21 := eq_true p21
     replace q21 := eq_true q21
     go_wp2_with (first | ((with_reducible refine gate_callee (f := 6) rfl ?_); refine gl_ 23 Tryd.func6 #[.agg #[.int .i64 ((rd_T24 l0 x5_1).f0), .int .i64 ((rd_T24 l0 x5_1).f1), .slice A21_2 ((rd_T24 l0 x5_1).f2).length c21_2], .int .i64 x1_1] ?_; (with_reducible refine (ih_laws_szExpr k1 (by have := HK1.out; omega) ((rd_T24 l0 x5_1).f0) ((rd_T24 l0 x5_1).f1) _ _ ((rd_T24 l0 x5_1).f2) x1_1 t20 _ (aC_ (Kd.C_below HR21_2.out HB.out)) HC21_2.out A6.out).mono ?_); rintro e w9 ⟨rfl, hb⟩; refine ⟨_, rfl, ?_⟩; replace HB := am (below_step ab2_ hb); (try clear hb)))
     go_roundg k1
     case measure => have := HK1.out; omega
     case rel => exact ⟨(t20), (wrap64 (x5_1 + 1)), sd_, sd_, H', ⟨by have := HK1.out; omega⟩, ⟨ab2_⟩⟩
    rw [if_neg c5] at H
    exact absurd H (by simp)
   rw [if_neg c4] at H
   have c4b0 : decide (x5_1 < (l0.length : Int)) = false := decide_eq_false c4
   clear c4
   obtain rfl := Option.some.inj H
   go_wp2
   go_ret
   exact ⟨rr_, ab2_⟩
theorem laws_szExpr.step (k : Nat) (ih_laws_szExprS : ∀ m, m < k → laws_szExprS.CallsAt m) (ih_laws_szExpr : ∀ m, m < k → laws_szExpr.CallsAt m) : laws_szExpr.CallsAt k := by
 intro a0_0 a0_1 A0_2 c0_2 l0_2 a1 r w hr0_2 hc0_2 h
 cases k with
 | zero => exact absurd h (by simp [laws_szExpr.f])
 | succ k =>
 simp only [laws_szExpr.f] at h
 have hu24 := Tryd.underlying24
 have HR0_2 := am hr0_2
 have HC0_2 := am hc0_2
 clear hr0_2 hc0_2
 have HB := am (Below.refl w.heap.size w)
 have H : ((laws_szExprS.f k l0_2 a1).bind fun t20 => (if t20 < 0 then (some (-1)) else (some t20))) = some r := h
 clear h
 obtain ⟨t20, A3, H⟩ := bsa H
 (try dsimp only at H)
 have HH_ := am H
 clear H
 go_enter Tryd.func6, Tryd.ntmps6
 go_upto_region 2 with (first | ((with_reducible refine gate_dst (N := 2) rfl ?_); refine box_event rfl (N := 2) rfl (cs := #[.int .i64 a0_0, .int .i64 a0_1, .slice A0_2 l0_2.length c0_2]) (t := 24) rn_ ?_; intro gb21 hg w5 hbox hb; have BK21 := am (hbox); have GW21 := am ((by rw [hg]; exact (below_size ab2_) : w.heap.size ≤ gb21)); have GE21 := am ((by rw [hg]; exact (below_size ab2_) : w.heap.size ≤ gb21)); replace HB := am (below_step ab2_ hb); clear hb hbox hg; obtain ⟨hcz6_0, hcz6_1, hcz6_2, hfz6_0, hfz6_1, hfz6_2⟩ := bcf3_ BK21.out) | ((with_reducible refine gate_callee (f := 15) rfl ?_); refine gl_ 8 Tryd.func15 #[.slice A0_2 l0_2.length c0_2, .int .i64 a1] ?_; (with_reducible refine (ih_laws_szExprS k (by omega) _ _ l0_2 a1 t20 _ (aC_ (Kd.C_below HR0_2.out HB.out)) HC0_2.out A3.out).mono ?_); rintro e w7 ⟨rfl, hb⟩; refine ⟨_, rfl, ?_⟩; replace BK21 := am (bbl_ BK21.out hb); replace HB := am (below_step ab18_ hb); (try clear hb)))
 have H := HH_.out
 clear HH_
 by_cases c4 : t20 < 0
 ·rw [if_pos c4] at H
  have c4b0 : decide (t20 < 0) = true := decide_eq_true c4
  clear c4
  obtain rfl := Option.some.inj H
  go_wp2
  go_ret
  exact ⟨rr_, ab18_⟩
 rw [if_neg c4] at H
 have c4b0 : decide (t20 < 0) = false := decide_eq_false c4
 clear c4
 obtain rfl := Option.some.inj H
 go_wp2
 go_ret
 exact ⟨rr_, ab18_⟩
theorem laws_szExprS.calls_all (k : Nat) : laws_szExprS.CallsAt k ∧ laws_szExpr.CallsAt k := by
 induction k using Nat.strongRecOn with
 | _ k ih => exact ⟨laws_szExprS.step k (ih_laws_szExprS := fun m hm => (ih m hm).1) (ih_laws_szExpr := fun m hm => (ih m hm).2), laws_szExpr.step k (ih_laws_szExprS := fun m hm => (ih m hm).1) (ih_laws_szExpr := fun m hm => (ih m hm).2)⟩
theorem laws_szExprS.calls (k : Nat) : laws_szExprS.CallsAt k := (laws_szExprS.calls_all k).1
theorem laws_szExpr.calls (k : Nat) : laws_szExpr.CallsAt k := (laws_szExprS.calls_all k).2
theorem spec_l6In.calls (a0 : Int) (a1 : Int) (a2 : Int) (r : Bool) (w : World) (h : spec_l6In.f a0 a1 a2 = some r) :
  Calls Tryd.prog 54 #[.int .i64 a0, .int .i64 a1, .int .i64 a2] w fun e w' => e = .returned (.bool r) ∧ Drawn0 w w' := by
 have H : (if a0 ≥ a1 then (some (decide (a0 ≤ a2))) else (some false)) = some r := h
 clear h
 by_cases c4 : a0 ≥ a1
 ·rw [if_pos c4] at H
  have c4b0 : decide (a1 ≤ a0) = true := decide_eq_true c4
  clear c4
  obtain rfl := Option.some.inj H
  go_enter Tryd.func54, Tryd.ntmps54
  go_wp2
  go_ret
  exact ⟨sd_, ab6_⟩
 rw [if_neg c4] at H
 have c4b0 : decide (a1 ≤ a0) = false := decide_eq_false c4
 clear c4
 obtain rfl := Option.some.inj H
 go_enter Tryd.func54, Tryd.ntmps54
 go_wp2
 go_ret
 exact ⟨sd_, ab6_⟩
theorem spec_OpValid.calls (a0 : Int) (r : Bool) (w : World) (h : spec_OpValid.f a0 = some r) :
  Calls Tryd.prog 55 #[.int .i64 a0] w fun e w' => e = .returned (.bool r) ∧ Drawn0 w w' := by
 have H : ((spec_l6In.f a0 1 12).bind fun t21 => (some t21)) = some r := h
 clear h
 obtain ⟨t21, A2, H⟩ := bsa H
 (try dsimp only at H)
 obtain rfl := Option.some.inj H
 go_enter Tryd.func55, Tryd.ntmps55
 go_wp2_with (first | ((with_reducible refine gate_callee (f := 54) rfl ?_); refine gl_ 4 Tryd.func54 #[.int .i64 a0, .int .i64 1, .int .i64 12] ?_; (with_reducible refine (spec_l6In.calls a0 1 12 t21 _ A2.out).mono ?_); rintro e w' ⟨rfl, ⟨nd, rfl⟩⟩; refine ⟨_, rfl, ?_⟩))
 go_ret
 exact ⟨sd_, ab6_⟩
theorem spec_l4Ok.mono_l : ∀ k, (∀ y0 y1 y2 y3, LeO (spec_l4Ok.f k y0 y1 y2 y3) (spec_l4Ok.f (k + 1) y0 y1 y2 y3))
 | 0 => fun _ _ _ _ r h => by simp [spec_l4Ok.f] at h
 | k + 1 => by
  have ih0 := spec_l4Ok.mono_l k
  ·intro y0 y1 y2 y3
   unfold spec_l4Ok.f
   exact mo_
theorem spec_l4Ok.mono : ∀ a0 a1 a2 a3 k, LeO (spec_l4Ok.f k a0 a1 a2 a3) (spec_l4Ok.f (k + 1) a0 a1 a2 a3) := by
 intro a0 a1 a2 a3 k
 have ih0 := spec_l4Ok.mono_l k
 exact ih0 a0 a1 a2 a3
theorem spec_l4Ok.calls (k : Nat) : ∀ (a0_0 : Int) (a0_1 : Int) (A0_2 : Option Addr) (c0_2 : Nat) (l0_2 : List (S29)) (a1 : Int) (r : Bool) (w : World) (hr0_2 : Kd.C k29 w A0_2 l0_2.length l0_2) (hc0_2 : l0_2.length ≤ c0_2) (h : spec_l4Ok.f k a0_0 a0_1 l0_2 a1 = some r),
  Calls Tryd.prog 28 #[.agg #[.int .i64 a0_0, .int .i64 a0_1, .slice A0_2 l0_2.length c0_2], .int .i64 a1] w fun e w' => e = .returned (.bool r) ∧ Below w.heap.size w w' := by
 induction k using Nat.strongRecOn with
 | _ k ih =>
 intro a0_0 a0_1 A0_2 c0_2 l0_2 a1 r w hr0_2 hc0_2 h
 cases k with
 | zero => exact absurd h (by simp [spec_l4Ok.f])
 | succ k =>
 simp only [spec_l4Ok.f] at h
 have hu29 := Tryd.underlying29
 have HR0_2 := am hr0_2
 have HC0_2 := am hc0_2
 clear hr0_2 hc0_2
 have HB := am (Below.refl w.heap.size w)
 have H : (if a1 < 1 then (some false) else (if a0_0 = 0 then ((spec_l6In.f a0_1 0 99999).bind fun t36 => (if t36 = true then (some ((l0_2.length : Int) == 0)) else (some false))) else (if a0_0 = 13 then ((spec_l6In.f a0_1 0 3).bind fun t38 => (if t38 = true then (some ((l0_2.length : Int) == 0)) else (some false))) else ((spec_OpValid.f a0_0).bind fun t40 => (if t40 = true then (if a0_1 = 0 then (if (l0_2.length : Int) = 2 then (if 0 < (l0_2.length : Int) then ((spec_l4Ok.f k ((rd_T29 l0_2 0).f0) ((rd_T29 l0_2 0).f1) ((rd_T29 l0_2 0).f2) (wrap64 (a1 - 1))).bind fun t42 => (if t42 = true then (if 1 < (l0_2.length : Int) then ((spec_l4Ok.f k ((rd_T29 l0_2 1).f0) ((rd_T29 l0_2 1).f1) ((rd_T29 l0_2 1).f2) (wrap64 (a1 - 1))).bind fun t43 => (some t43)) else (none)) else (some false))) else (none)) else (some false)) else (some false)) else (some false)))))) = some r := h
 clear h
 have HH_ := am H
 clear H
 go_enter Tryd.func28, Tryd.ntmps28
 go_upto_region 1 with (first | ((with_reducible refine gate_dst (N := 2) rfl ?_); (try (refine gate_guard (by rfl) ?_; dsimp only)); refine box_event rfl (N := 2) rfl (cs := #[.int .i64 a0_0, .int .i64 a0_1, .slice A0_2 l0_2.length c0_2]) (t := 29) rn_ ?_; intro gb44 hg w4 hbox hb; have BK44 := am (hbox); have GW44 := am ((by rw [hg]; exact (below_size ab2_) : w.heap.size ≤ gb44)); have GE44 := am ((by rw [hg]; exact (below_size ab2_) : w.heap.size ≤ gb44)); replace HB := am (below_step ab2_ hb); clear hb hbox hg))
 have H := HH_.out
 clear HH_
 by_cases c3 : a1 < 1
 ·rw [if_pos c3] at H
  have c3b0 : decide (a1 < 1) = true := decide_eq_true c3
  clear c3
  obtain rfl := Option.some.inj H
  go_wp2
  go_ret
  exact ⟨rr_, ab20_⟩
 rw [if_neg c3] at H
 have c3b0 : decide (a1 < 1) = false := decide_eq_false c3
 clear c3
 by_cases c5 : a0_0 = 0
 ·rw [if_pos c5] at H
  have c5b0 : (a0_0 == 0) = true := beq_iff_eq.mpr c5
  have c5b1 : (a0_0 != 0) = false := bne_eq_false_iff_eq.mpr c5
  clear c5
  obtain ⟨t36, A6, H⟩ := bsa H
  (try dsimp only at H)
  by_cases c7 : t36 = true
  ·subst c7
   rw [if_pos rfl] at H
   obtain rfl := Option.some.inj H
   obtain ⟨hcz9_0, hcz9_1, hcz9_2, hfz9_0, hfz9_1, hfz9_2⟩ := bcf3_ BK44.out
   go_wp2_with (first | ((with_reducible refine gate_callee (f := 54) rfl ?_); refine gl_ 12 Tryd.func54 #[.int .i64 a0_1, .int .i64 0, .int .i64 99999] ?_; (with_reducible refine (spec_l6In.calls a0_1 0 99999 true _ A6.out).mono ?_); rintro e w' ⟨rfl, ⟨nd, rfl⟩⟩; refine ⟨_, rfl, ?_⟩))
   go_ret
   exact ⟨rr_, ab20_⟩
  replace c7 := Bool.eq_false_iff.mpr c7
  subst c7
  rw [if_neg (show ¬ (false = true) by decide)] at H
  obtain rfl := Option.some.inj H
  obtain ⟨hcz11_0, hcz11_1, hcz11_2, hfz11_0, hfz11_1, hfz11_2⟩ := bcf3_ BK44.out
  go_wp2_with (first | ((with_reducible refine gate_callee (f := 54) rfl ?_); refine gl_ 12 Tryd.func54 #[.int .i64 a0_1, .int .i64 0, .int .i64 99999] ?_; (with_reducible refine (spec_l6In.calls a0_1 0 99999 false _ A6.out).mono ?_); rintro e w' ⟨rfl, ⟨nd, rfl⟩⟩; refine ⟨_, rfl, ?_⟩))
  go_ret
  exact ⟨rr_, ab20_⟩
 rw [if_neg c5] at H
 have c5b0 : (a0_0 == 0) = false := beq_eq_false_iff_ne.mpr c5
 have c5b1 : (a0_0 != 0) = true := bne_iff_ne.mpr c5
 by_cases c12 : a0_0 = 13
 ·rw [if_pos c12] at H
  have c12b0 : (a0_0 == 13) = true := beq_iff_eq.mpr c12
  have c12b1 : (a0_0 != 13) = false := bne_eq_false_iff_eq.mpr c12
  clear c12
  obtain ⟨t38, A45, H⟩ := bsm H
  (try dsimp only at H)
  have A13 := am A45
  clear A45
  by_cases c14 : t38 = true
  ·subst c14
   rw [if_pos rfl] at H
   obtain rfl := Option.some.inj H
   obtain ⟨hcz16_0, hcz16_1, hcz16_2, hfz16_0, hfz16_1, hfz16_2⟩ := bcf3_ BK44.out
   go_wp2_with (first | ((with_reducible refine gate_callee (f := 54) rfl ?_); refine gl_ 24 Tryd.func54 #[.int .i64 a0_1, .int .i64 0, .int .i64 3] ?_; (with_reducible refine (spec_l6In.calls a0_1 0 3 true _ A13.out).mono ?_); rintro e w' ⟨rfl, ⟨nd, rfl⟩⟩; refine ⟨_, rfl, ?_⟩))
   go_ret
   exact ⟨rr_, ab20_⟩
  replace c14 := Bool.eq_false_iff.mpr c14
  subst c14
  rw [if_neg (show ¬ (false = true) by decide)] at H
  obtain rfl := Option.some.inj H
  obtain ⟨hcz18_0, hcz18_1, hcz18_2, hfz18_0, hfz18_1, hfz18_2⟩ := bcf3_ BK44.out
  go_wp2_with (first | ((with_reducible refine gate_callee (f := 54) rfl ?_); refine gl_ 24 Tryd.func54 #[.int .i64 a0_1, .int .i64 0, .int .i64 3] ?_; (with_reducible refine (spec_l6In.calls a0_1 0 3 false _ A13.out).mono ?_); rintro e w' ⟨rfl, ⟨nd, rfl⟩⟩; refine ⟨_, rfl, ?_⟩))
  go_ret
  exact ⟨rr_, ab20_⟩
 rw [if_neg c12] at H
 have c12b0 : (a0_0 == 13) = false := beq_eq_false_iff_ne.mpr c12
 have c12b1 : (a0_0 != 13) = true := bne_iff_ne.mpr c12
 obtain ⟨t40, A46, H⟩ := bsm H
 (try dsimp only at H)
 have A19 := am A46
 clear A46
 by_cases c20 : t40 = true
 ·subst c20
  rw [if_pos rfl] at H
  by_cases c21 : a0_1 = 0
  ·rw [if_pos c21] at H
   have c21b0 : (a0_1 == 0) = true := beq_iff_eq.mpr c21
   have c21b1 : (a0_1 != 0) = false := bne_eq_false_iff_eq.mpr c21
   clear c21
   by_cases c22 : (l0_2.length : Int) = 2
   ·rw [if_pos c22] at H
    have c22b0 : ((l0_2.length : Int) == 2) = true := beq_iff_eq.mpr c22
    have c22b1 : ((l0_2.length : Int) != 2) = false := bne_eq_false_iff_eq.mpr c22
    clear c22
    by_cases c23 : 0 < (l0_2.length : Int)
    ·rw [if_pos c23] at H
     have c23b0 : decide (0 < (l0_2.length : Int)) = true := decide_eq_true c23
     have c23b1 : decide (0 < l0_2.length) = true := decide_eq_true (by omega)
     clear c23
     obtain ⟨t42, A47, H⟩ := bsm H
     (try dsimp only at H)
     have A24 := am A47
     clear A47
     by_cases c25 : t42 = true
     ·subst c25
      rw [if_pos rfl] at H
      by_cases c26 : 1 < (l0_2.length : Int)
      ·rw [if_pos c26] at H
       have c26b0 : decide (1 < (l0_2.length : Int)) = true := decide_eq_true c26
       have c26b1 : decide (1 < l0_2.length) = true := decide_eq_true (by omega)
       clear c26
       obtain ⟨t43, A48, H⟩ := bsm H
       (try dsimp only at H)
       have A27 := am A48
       clear A48
       obtain rfl := Option.some.inj H
       obtain ⟨hcz29_0, hcz29_1, hcz29_2, hfz29_0, hfz29_1, hfz29_2⟩ := bcf3_ BK44.out
       go_wp2_with (first | ((with_reducible refine gate_callee (f := 55) rfl ?_); refine gl_ 33 Tryd.func55 #[.int .i64 a0_0] ?_; (with_reducible refine (spec_OpValid.calls a0_0 true _ A19.out).mono ?_); rintro e w' ⟨rfl, ⟨nd, rfl⟩⟩; refine ⟨_, rfl, ?_⟩; have p49 : 0 ≤ (0 : Int) := (by omega); have q49 : 0 < (l0_2.length : Int) := of_decide_eq_true asm_; obtain ⟨ad49, A49_2, c49_2, e49, hx49_0, hx49_1, hx49_2, hl49_2, hi49_2⟩ := at_T29 HR0_2.out 0 p49 q49; cases e49; have qi49 : (0 < l0_2.length) = True := eq_true (by omega); (try rw [show ((0 : Int)).toNat = 0 from rfl] at hx49_0); (try rw [show 0 * 3 = 0 from rfl] at hx49_0); (try rw [Addr.add_zero'] at hx49_0); (try rw [show ((0 : Int)).toNat = 0 from rfl] at hx49_1); (try rw [show 0 * 3 = 0 from rfl] at hx49_1); (try rw [Addr.add_zero'] at hx49_1); (try rw [show ((0 : Int)).toNat = 0 from rfl] at hx49_2); (try rw [show 0 * 3 = 0 from rfl] at hx49_2); (try rw [Addr.add_zero'] at hx49_2); replace hx49_0 := (HB.out.cell (World.block_lt_of_cell? w _ hx49_0)).trans hx49_0; replace hx49_1 := (HB.out.cell (World.block_lt_of_cell? w _ hx49_1)).trans hx49_1; replace hx49_2 := (HB.out.cell (World.block_lt_of_cell? w _ hx49_2)).trans hx49_2; have HR49_2 := am hi49_2; have HC49_2 := am hl49_2; clear hi49_2 hl49_2; replace p49 := eq_true p49; replace q49 := eq_true q49) | (go_at_call 28; (with_reducible refine (ih k (by omega) ((rd_T29 l0_2 0).f0) ((rd_T29 l0_2 0).f1) _ _ ((rd_T29 l0_2 0).f2) (wrap64 (a1 - 1)) true _ (aC_ (Kd.C_below HR49_2.out ab20_)) HC49_2.out A24.out).mono ?_); rintro e w30 ⟨rfl, hb⟩; replace BK44 := am (bbl_ BK44.out hb); replace HB := am (below_step ab20_ hb); (try clear hb); obtain ⟨hcz31_0, hcz31_1, hcz31_2, hfz31_0, hfz31_1, hfz31_2⟩ := bcf3_ BK44.out; have p50 : 0 ≤ (1 : Int) := (by omega); have q50 : 1 < (l0_2.length : Int) := of_decide_eq_true asm_; obtain ⟨ad50, A50_2, c50_2, e50, hx50_0, hx50_1, hx50_2, hl50_2, hi50_2⟩ := at_T29 HR0_2.out 1 p50 q50; obtain rfl : ad49 = ad50 := (by injection e50); (try simp only [show (1 : Int).toNat = 1 from rfl, Nat.reduceMul, Nat.reduceEqDiff, Go.Addr.add, ↓reduceIte] at hx50_0); (try simp only [show (1 : Int).toNat = 1 from rfl, Nat.reduceMul, Nat.reduceEqDiff, Go.Addr.add, ↓reduceIte] at hx50_1); (try simp only [show (1 : Int).toNat = 1 from rfl, Nat.reduceMul, Nat.reduceEqDiff, Go.Addr.add, ↓reduceIte] at hx50_2); have qi50 : (1 < l0_2.length) = True := eq_true (by omega); (try rw [show ((1 : Int)).toNat = 1 from rfl] at hx50_0); (try rw [show 1 * 3 = 3 from rfl] at hx50_0); (try rw [show ((1 : Int)).toNat = 1 from rfl] at hx50_1); (try rw [show 1 * 3 = 3 from rfl] at hx50_1); (try rw [show ((1 : Int)).toNat = 1 from rfl] at hx50_2); (try rw [show 1 * 3 = 3 from rfl] at hx50_2); replace hx50_0 := (HB.out.cell (World.block_lt_of_cell? w _ hx50_0)).trans hx50_0; replace hx50_1 := (HB.out.cell (World.block_lt_of_cell? w _ hx50_1)).trans hx50_1; replace hx50_2 := (HB.out.cell (World.block_lt_of_cell? w _ hx50_2)).trans hx50_2; have HR50_2 := am hi50_2; have HC50_2 := am hl50_2; clear hi50_2 hl50_2; replace p50 := eq_true p50; replace q50 := eq_true q50) | (go_at_call 28; (with_reducible refine (ih k (by omega) ((rd_T29 l0_2 1).f0) ((rd_T29 l0_2 1).f1) _ _ ((rd_T29 l0_2 1).f2) (wrap64 (a1 - 1)) t43 _ (aC_ (Kd.C_below HR50_2.out HB.out)) HC50_2.out A27.out).mono ?_); rintro e w32 ⟨rfl, hb⟩; replace BK44 := am (bbl_ BK44.out hb); replace HB := am (below_step ab20_ hb); (try clear hb)))
       go_ret
       exact ⟨rr_, ab20_⟩
      rw [if_neg c26] at H
      exact absurd H (by simp)
     replace c25 := Bool.eq_false_iff.mpr c25
     subst c25
     rw [if_neg (show ¬ (false = true) by decide)] at H
     obtain rfl := Option.some.inj H
     obtain ⟨hcz34_0, hcz34_1, hcz34_2, hfz34_0, hfz34_1, hfz34_2⟩ := bcf3_ BK44.out
     go_wp2_with (first | ((with_reducible refine gate_callee (f := 55) rfl ?_); refine gl_ 33 Tryd.func55 #[.int .i64 a0_0] ?_; (with_reducible refine (spec_OpValid.calls a0_0 true _ A19.out).mono ?_); rintro e w' ⟨rfl, ⟨nd, rfl⟩⟩; refine ⟨_, rfl, ?_⟩; have p49 : 0 ≤ (0 : Int) := (by omega); have q49 : 0 < (l0_2.length : Int) := of_decide_eq_true asm_; obtain ⟨ad49, A49_2, c49_2, e49, hx49_0, hx49_1, hx49_2, hl49_2, hi49_2⟩ := at_T29 HR0_2.out 0 p49 q49; cases e49; have qi49 : (0 < l0_2.length) = True := eq_true (by omega); (try rw [show ((0 : Int)).toNat = 0 from rfl] at hx49_0); (try rw [show 0 * 3 = 0 from rfl] at hx49_0); (try rw [Addr.add_zero'] at hx49_0); (try rw [show ((0 : Int)).toNat = 0 from rfl] at hx49_1); (try rw [show 0 * 3 = 0 from rfl] at hx49_1); (try rw [Addr.add_zero'] at hx49_1); (try rw [show ((0 : Int)).toNat = 0 from rfl] at hx49_2); (try rw [show 0 * 3 = 0 from rfl] at hx49_2); (try rw [Addr.add_zero'] at hx49_2); replace hx49_0 := (HB.out.cell (World.block_lt_of_cell? w _ hx49_0)).trans hx49_0; replace hx49_1 := (HB.out.cell (World.block_lt_of_cell? w _ hx49_1)).trans hx49_1; replace hx49_2 := (HB.out.cell (World.block_lt_of_cell? w _ hx49_2)).trans hx49_2; have HR49_2 := am hi49_2; have HC49_2 := am hl49_2; clear hi49_2 hl49_2; replace p49 := eq_true p49; replace q49 := eq_true q49) | (go_at_call 28; (with_reducible refine (ih k (by omega) ((rd_T29 l0_2 0).f0) ((rd_T29 l0_2 0).f1) _ _ ((rd_T29 l0_2 0).f2) (wrap64 (a1 - 1)) false _ (aC_ (Kd.C_below HR49_2.out ab20_)) HC49_2.out A24.out).mono ?_); rintro e w35 ⟨rfl, hb⟩; replace BK44 := am (bbl_ BK44.out hb); replace HB := am (below_step ab20_ hb); (try clear hb)))
     go_ret
     exact ⟨rr_, ab20_⟩
    rw [if_neg c23] at H
    exact absurd H (by simp)
   rw [if_neg c22] at H
   have c22b0 : ((l0_2.length : Int) == 2) = false := beq_eq_false_iff_ne.mpr c22
   have c22b1 : ((l0_2.length : Int) != 2) = true := bne_iff_ne.mpr c22
   obtain rfl := Option.some.inj H
   obtain ⟨hcz37_0, hcz37_1, hcz37_2, hfz37_0, hfz37_1, hfz37_2⟩ := bcf3_ BK44.out
   go_wp2_with (first | ((with_reducible refine gate_callee (f := 55) rfl ?_); refine gl_ 33 Tryd.func55 #[.int .i64 a0_0] ?_; (with_reducible refine (spec_OpValid.calls a0_0 true _ A19.out).mono ?_); rintro e w' ⟨rfl, ⟨nd, rfl⟩⟩; refine ⟨_, rfl, ?_⟩))
   go_ret
   exact ⟨rr_, ab20_⟩
  rw [if_neg c21] at H
  have c21b0 : (a0_1 == 0) = false := beq_eq_false_iff_ne.mpr c21
  have c21b1 : (a0_1 != 0) = true := bne_iff_ne.mpr c21
  obtain rfl := Option.some.inj H
  obtain ⟨hcz39_0, hcz39_1, hcz39_2, hfz39_0, hfz39_1, hfz39_2⟩ := bcf3_ BK44.out
  go_wp2_with (first | ((with_reducible refine gate_callee (f := 55) rfl ?_); refine gl_ 33 Tryd.func55 #[.int .i64 a0_0] ?_; (with_reducible refine (spec_OpValid.calls a0_0 true _ A19.out).mono ?_); rintro e w' ⟨rfl, ⟨nd, rfl⟩⟩; refine ⟨_, rfl, ?_⟩))
  go_ret
  exact ⟨rr_, ab20_⟩
 replace c20 := Bool.eq_false_iff.mpr c20
 subst c20
 rw [if_neg (show ¬ (false = true) by decide)] at H
 obtain rfl := Option.some.inj H
 obtain ⟨hcz41_0, hcz41_1, hcz41_2, hfz41_0, hfz41_1, hfz41_2⟩ := bcf3_ BK44.out
 go_wp2_with (first | ((with_reducible refine gate_callee (f := 55) rfl ?_); refine gl_ 33 Tryd.func55 #[.int .i64 a0_0] ?_; (with_reducible refine (spec_OpValid.calls a0_0 false _ A19.out).mono ?_); rintro e w' ⟨rfl, ⟨nd, rfl⟩⟩; refine ⟨_, rfl, ?_⟩))
 go_ret
 exact ⟨rr_, ab20_⟩
theorem spec_ExprValid.mono : ∀ a0 a1 a2 k, LeO (spec_ExprValid.f k a0 a1 a2) (spec_ExprValid.f (k + 1) a0 a1 a2) := by
 intro a0 a1 a2 k
 unfold spec_ExprValid.f
 have m0 := @spec_l4Ok.mono
 exact mo_
theorem spec_ExprValid.calls (k : Nat) (a0_0 : Int) (a0_1 : Int) (A0_2 : Option Addr) (c0_2 : Nat) (l0_2 : List (S29)) (r : Bool) (w : World) (hr0_2 : Kd.C k29 w A0_2 l0_2.length l0_2) (hc0_2 : l0_2.length ≤ c0_2) (h : spec_ExprValid.f k a0_0 a0_1 l0_2 = some r) :
  Calls Tryd.prog 16 #[.agg #[.int .i64 a0_0, .int .i64 a0_1, .slice A0_2 l0_2.length c0_2]] w fun e w' => e = .returned (.bool r) ∧ Below w.heap.size w w' := by
 have hu29 := Tryd.underlying29
 have HR0_2 := am hr0_2
 have HC0_2 := am hc0_2
 clear hr0_2 hc0_2
 have HB := am (Below.refl w.heap.size w)
 have H : ((spec_l4Ok.f k a0_0 a0_1 l0_2 5).bind fun t21 => (some t21)) = some r := h
 clear h
 obtain ⟨t21, A2, H⟩ := bsa H
 (try dsimp only at H)
 obtain rfl := Option.some.inj H
 go_enter Tryd.func16, Tryd.ntmps16
 go_wp2_with (first | ((with_reducible refine gate_dst (N := 1) rfl ?_); refine box_event rfl (N := 1) rfl (cs := #[.int .i64 a0_0, .int .i64 a0_1, .slice A0_2 l0_2.length c0_2]) (t := 29) rn_ ?_; intro gb22 hg w3 hbox hb; have BK22 := am (hbox); have GW22 := am ((by rw [hg]; exact (below_size ab2_) : w.heap.size ≤ gb22)); have GE22 := am ((by rw [hg]; exact (below_size ab2_) : w.heap.size ≤ gb22)); replace HB := am (below_step ab2_ hb); clear hb hbox hg; obtain ⟨hcz4_0, hcz4_1, hcz4_2, hfz4_0, hfz4_1, hfz4_2⟩ := bcf3_ BK22.out) | ((with_reducible refine gate_callee (f := 28) rfl ?_); refine gl_ 4 Tryd.func28 #[.agg #[.int .i64 a0_0, .int .i64 a0_1, .slice A0_2 l0_2.length c0_2], .int .i64 5] ?_; (with_reducible refine (spec_l4Ok.calls k a0_0 a0_1 _ _ l0_2 5 t21 _ (aC_ (Kd.C_below HR0_2.out HB.out)) HC0_2.out A2.out).mono ?_); rintro e w5 ⟨rfl, hb⟩; refine ⟨_, rfl, ?_⟩; replace BK22 := am (bbl_ BK22.out hb); replace HB := am (below_step ab36_ hb); (try clear hb)))
 go_ret
 exact ⟨rr_, ab36_⟩
theorem spec_l3Kind.mono_l : ∀ k, (∀ y0 y1, LeO (spec_l3Kind.j0 k y0 y1) (spec_l3Kind.j0 (k + 1) y0 y1)) ∧ (∀ y0 y1, LeO (spec_l3Kind.j1 k y0 y1) (spec_l3Kind.j1 (k + 1) y0 y1)) ∧ (∀ y0 y1 y2, LeO (spec_l3Kind.l0 k y0 y1 y2) (spec_l3Kind.l0 (k + 1) y0 y1 y2))
 | 0 => ⟨fun _ _ r h => by simp [spec_l3Kind.j0] at h, fun _ _ r h => by simp [spec_l3Kind.j1] at h, fun _ _ _ r h => by simp [spec_l3Kind.l0] at h⟩
 | k + 1 => by
  obtain ⟨ih0, ih1, ih2⟩ := spec_l3Kind.mono_l k
  refine ⟨?_, ?_, ?_⟩
  ·intro y0 y1
   unfold spec_l3Kind.j0
   exact mo_
  ·intro y0 y1
   unfold spec_l3Kind.j1
   exact mo_
  ·intro y0 y1 y2
   unfold spec_l3Kind.l0
   exact mo_
theorem spec_l3Kind.mono : ∀ a0 k, LeO (spec_l3Kind.f k a0) (spec_l3Kind.f (k + 1) a0) := by
 intro a0 k
 obtain ⟨ih0, ih1, ih2⟩ := spec_l3Kind.mono_l k
 unfold spec_l3Kind.f
 exact mo_
theorem spec_l3Kind.calls (k : Nat) (a0 : Int) (r : Int) (w : World) (h : spec_l3Kind.f k a0 = some r) :
  Calls Tryd.prog 64 #[.int .u8 a0] w fun e w' => e = .returned (.int .i64 r) ∧ Drawn0 w w' := by
 have H : (if a0 ≥ 48 then (spec_l3Kind.j0 k a0 (decide (a0 ≤ 57))) else (spec_l3Kind.j0 k a0 false)) = some r := h
 clear h
 have HC2 := am H
 clear H
 go_enter Tryd.func64, Tryd.ntmps64
 go_upto_region 1 with (fail)
 go_cut [5] (fun v5 wc => ∃ (kq : Nat) (x5_1 : Bool), v5 = .bool x5_1 ∧ Aside0 (spec_l3Kind.j0 kq a0 x5_1 = some r) ∧ Aside0 (kq ≤ k) ∧ Drawn0 w wc)
 case first =>
  have H := HC2.out
  clear HC2
  by_cases c3 : a0 ≥ 48
  ·rw [if_pos c3] at H
   have c3b0 : decide (48 ≤ a0) = true := decide_eq_true c3
   clear c3
   (first | rw [c3b0] | (simp only [i64_w, i32_w]; rw [c3b0]) | skip)
   have H' := am H
   clear H
   go_wp2
   go_meet
   case rel => exact ⟨_, (decide (a0 ≤ 57)), sd_, H', ⟨by first | omega | exact Nat.le_refl _⟩, ab6_⟩
  rw [if_neg c3] at H
  have c3b0 : decide (48 ≤ a0) = false := decide_eq_false c3
  clear c3
  (first | rw [c3b0] | (simp only [i64_w, i32_w]; rw [c3b0]) | skip)
  have H' := am H
  clear H
  go_wp2
  go_meet
  case rel => exact ⟨_, (false), sd_, H', ⟨by first | omega | exact Nat.le_refl _⟩, ab6_⟩
 case rest =>
  clear HC2
  obtain ⟨kq, x5_1, rfl, HA, HJ1, ⟨mc1, rfl⟩⟩ := hcut
  cases kq with
  | zero => exact absurd HA.out (by simp [spec_l3Kind.j0])
  | succ kj1 =>
   have H := HA.out
   clear HA
   simp only [spec_l3Kind.j0] at H
   by_cases c4 : x5_1 = true
   ·subst c4
    rw [if_pos rfl] at H
    obtain rfl := Option.some.inj H
    go_wp2
    go_ret
    exact ⟨sd_, ab6_⟩
   replace c4 := Bool.eq_false_iff.mpr c4
   subst c4
   rw [if_neg (show ¬ (false = true) by decide)] at H
   have HC5 := am H
   clear H
   go_upto_region 3 with (fail)
   go_cut [12] (fun v12 wc => ∃ (kq : Nat) (x12_4 : Bool), v12 = .bool x12_4 ∧ Aside0 (spec_l3Kind.j1 kq a0 x12_4 = some r) ∧ Aside0 (kq ≤ kj1) ∧ Drawn0 w wc)
   case first =>
    have H := HC5.out
    clear HC5
    by_cases c6 : a0 ≥ 97
    ·rw [if_pos c6] at H
     have c6b0 : decide (97 ≤ a0) = true := decide_eq_true c6
     clear c6
     (first | rw [c6b0] | (simp only [i64_w, i32_w]; rw [c6b0]) | skip)
     have H' := am H
     clear H
     go_wp2
     go_meet
     case rel => exact ⟨_, (decide (a0 ≤ 122)), sd_, H', ⟨by have := HJ1.out; first | omega | exact Nat.le_refl _⟩, ab6_⟩
    rw [if_neg c6] at H
    have c6b0 : decide (97 ≤ a0) = false := decide_eq_false c6
    clear c6
    (first | rw [c6b0] | (simp only [i64_w, i32_w]; rw [c6b0]) | skip)
    have H' := am H
    clear H
    go_wp2
    go_meet
    case rel => exact ⟨_, (false), sd_, H', ⟨by have := HJ1.out; first | omega | exact Nat.le_refl _⟩, ab6_⟩
   case rest =>
    clear HC5
    try clear c4
    obtain ⟨kq, x12_4, rfl, HA, HJ4, ⟨mc4, rfl⟩⟩ := hcut
    cases kq with
    | zero => exact absurd HA.out (by simp [spec_l3Kind.j1])
    | succ kj4 =>
     have H := HA.out
     clear HA
     simp only [spec_l3Kind.j1] at H
     by_cases c7 : x12_4 = true
     ·subst c7
      rw [if_pos rfl] at H
      obtain rfl := Option.some.inj H
      go_wp2
      go_ret
      exact ⟨sd_, ab6_⟩
     replace c7 := Bool.eq_false_iff.mpr c7
     subst c7
     rw [if_neg (show ¬ (false = true) by decide)] at H
     by_cases c8 : a0 = 32
     ·rw [if_pos c8] at H
      have c8b0 : (a0 == 32) = true := beq_iff_eq.mpr c8
      have c8b1 : (a0 != 32) = false := bne_eq_false_iff_eq.mpr c8
      clear c8
      obtain rfl := Option.some.inj H
      go_wp2
      go_ret
      exact ⟨sd_, ab6_⟩
     rw [if_neg c8] at H
     have c8b0 : (a0 == 32) = false := beq_eq_false_iff_ne.mpr c8
     have c8b1 : (a0 != 32) = true := bne_iff_ne.mpr c8
     by_cases c9 : a0 = 10
     ·rw [if_pos c9] at H
      have c9b0 : (a0 == 10) = true := beq_iff_eq.mpr c9
      have c9b1 : (a0 != 10) = false := bne_eq_false_iff_eq.mpr c9
      clear c9
      obtain rfl := Option.some.inj H
      go_wp2
      go_ret
      exact ⟨sd_, ab6_⟩
     rw [if_neg c9] at H
     have c9b0 : (a0 == 10) = false := beq_eq_false_iff_ne.mpr c9
     have c9b1 : (a0 != 10) = true := bne_iff_ne.mpr c9
     have H' := am H
     clear H
     go_wp2
     go_loopg [4] kj4 (fun kq v4 w' => ∃ (x4_3 : Int), v4 = .int .i64 x4_3 ∧ Aside0 (spec_l3Kind.l0 kq a0 (⟨#[43, 45, 42, 47, 37, 38, 124, 94, 60, 62, 40, 41, 123, 125, 61, 59]⟩ : ByteArray) x4_3 = some r) ∧ Aside0 (kq ≤ kj4) ∧ Drawn0 w w')
     case atStart => exact ⟨(0), sd_, H', ⟨Nat.le_refl _⟩, ab6_⟩
     case round =>
      clear H'
      try clear c4
      try clear c7
      try clear c8
      try clear c8b0
      try clear c8b1
      try clear c9
      try clear c9b0
      try clear c9b1
      obtain ⟨x4_3, rfl, HA, HK3, ⟨m3, rfl⟩⟩ := hrel
      cases gk with
      | zero => exact absurd HA.out (by simp [spec_l3Kind.l0])
      | succ k3 =>
       have H := HA.out
       clear HA
       simp only [spec_l3Kind.l0] at H
       by_cases c10 : x4_3 < ((⟨#[43, 45, 42, 47, 37, 38, 124, 94, 60, 62, 40, 41, 123, 125, 61, 59]⟩ : ByteArray).size : Int)
       ·rw [if_pos c10] at H
        have c10b0 : decide (x4_3 < ((⟨#[43, 45, 42, 47, 37, 38, 124, 94, 60, 62, 40, 41, 123, 125, 61, 59]⟩ : ByteArray).size : Int)) = true := decide_eq_true c10
        have c10bz : (x4_3 < 16) = True := eq_true (show x4_3 < 16 from c10)
        clear c10
        by_cases c11 : 0 ≤ x4_3
        ·rw [if_pos c11] at H
         have c11b0 : decide (0 ≤ x4_3) = true := decide_eq_true c11
         clear c11
         by_cases c13 : (bt (⟨#[43, 45, 42, 47, 37, 38, 124, 94, 60, 62, 40, 41, 123, 125, 61, 59]⟩ : ByteArray) x4_3) = a0
         ·rw [if_pos c13] at H
          have c13b0 : ((bt (⟨#[43, 45, 42, 47, 37, 38, 124, 94, 60, 62, 40, 41, 123, 125, 61, 59]⟩ : ByteArray) x4_3) == a0) = true := beq_iff_eq.mpr c13
          have c13b1 : ((bt (⟨#[43, 45, 42, 47, 37, 38, 124, 94, 60, 62, 40, 41, 123, 125, 61, 59]⟩ : ByteArray) x4_3) != a0) = false := bne_eq_false_iff_eq.mpr c13
          clear c13
          obtain rfl := Option.some.inj H
          have p12 : 0 ≤ (x4_3 : Int) := of_decide_eq_true asm_
          have q12 : x4_3 < (16 : Int) := of_decide_eq_true asm_
          have hx12 := bt_at (⟨#[43, 45, 42, 47, 37, 38, 124, 94, 60, 62, 40, 41, 123, 125, 61, 59]⟩ : ByteArray) x4_3
          replace p12 := eq_true p12
          replace q12 := eq_true q12
          go_wp2
          go_ret
          exact ⟨sd_, ab6_⟩
         rw [if_neg c13] at H
         have c13b0 : ((bt (⟨#[43, 45, 42, 47, 37, 38, 124, 94, 60, 62, 40, 41, 123, 125, 61, 59]⟩ : ByteArray) x4_3) == a0) = false := beq_eq_false_iff_ne.mpr c13
         have c13b1 : ((bt (⟨#[43, 45, 42, 47, 37, 38, 124, 94, 60, 62, 40, 41, 123, 125, 61, 59]⟩ : ByteArray) x4_3) != a0) = true := bne_iff_ne.mpr c13
         have H' := am H
         clear H
         have p12 : 0 ≤ (x4_3 : Int) := of_decide_eq_true asm_
         have q12 : x4_3 < (16 : Int) := of_decide_eq_true asm_
         have hx12 := bt_at (⟨#[43, 45, 42, 47, 37, 38, 124, 94, 60, 62, 40, 41, 123, 125, 61, 59]⟩ : ByteArray) x4_3
         replace p12 := eq_true p12
         replace q12 := eq_true q12
         go_wp2
         go_roundg k3
         case measure => have := HJ1.out; have := HJ4.out; have := HK3.out; omega
         case rel => exact ⟨(wrap64 (x4_3 + 1)), sd_, H', ⟨by have := HJ1.out; have := HJ4.out; have := HK3.out; omega⟩, ab6_⟩
        rw [if_neg c11] at H
        exact absurd H (by simp)
       rw [if_neg c10] at H
       have c10b0 : decide (x4_3 < ((⟨#[43, 45, 42, 47, 37, 38, 124, 94, 60, 62, 40, 41, 123, 125, 61, 59]⟩ : ByteArray).size : Int)) = false := decide_eq_false c10
       have c10bz : (x4_3 < 16) = False := eq_false (show ¬ (x4_3 < 16) from c10)
       clear c10
       obtain rfl := Option.some.inj H
       go_wp2
       go_ret
       exact ⟨sd_, ab6_⟩
theorem spec_l3Run.mono_l : ∀ k, (∀ y0 y1 y2, LeO (spec_l3Run.l0 k y0 y1 y2) (spec_l3Run.l0 (k + 1) y0 y1 y2))
 | 0 => fun _ _ _ r h => by simp [spec_l3Run.l0] at h
 | k + 1 => by
  have ih0 := spec_l3Run.mono_l k
  ·intro y0 y1 y2
   unfold spec_l3Run.l0
   have m0 := @spec_l3Kind.mono
   exact mo_
theorem spec_l3Run.mono : ∀ a0 a1 k, LeO (spec_l3Run.f k a0 a1) (spec_l3Run.f (k + 1) a0 a1) := by
 intro a0 a1 k
 have ih0 := spec_l3Run.mono_l k
 unfold spec_l3Run.f
 have m0 := @spec_l3Kind.mono
 exact mo_
theorem spec_l3Run.calls (k : Nat) (a0 : ByteArray) (a1 : Int) (r : Int) (w : World) (h : spec_l3Run.f k a0 a1 = some r) :
  Calls Tryd.prog 65 #[.string a0, .int .i64 a1] w fun e w' => e = .returned (.int .i64 r) ∧ Drawn0 w w' := by
 have H : (spec_l3Run.l0 k a0 a1 a1) = some r := h
 clear h
 have H' := am H
 clear H
 go_enter Tryd.func65, Tryd.ntmps65
 go_wp2
 repeat (go_quiet (fail); try go_wp2)
 go_loopg [5] k (fun kq v5 w' => ∃ (x5_1 : Int), v5 = .int .i64 x5_1 ∧ Aside0 (spec_l3Run.l0 kq a0 a1 x5_1 = some r) ∧ Aside0 (kq ≤ k) ∧ Drawn0 w w')
 case atStart => exact ⟨(a1), sd_, H', ⟨Nat.le_refl _⟩, ab6_⟩
 case round =>
  clear H'
  obtain ⟨x5_1, rfl, HA, HK1, ⟨m1, rfl⟩⟩ := hrel
  cases gk with
  | zero => exact absurd HA.out (by simp [spec_l3Run.l0])
  | succ k1 =>
   have H := HA.out
   clear HA
   simp only [spec_l3Run.l0] at H
   by_cases c3 : x5_1 < (a0.size : Int)
   ·rw [if_pos c3] at H
    have c3b0 : decide (x5_1 < (a0.size : Int)) = true := decide_eq_true c3
    clear c3
    by_cases c4 : 0 ≤ x5_1
    ·rw [if_pos c4] at H
     have c4b0 : decide (0 ≤ x5_1) = true := decide_eq_true c4
     clear c4
     obtain ⟨t20, A6, H⟩ := bsa H
     (try dsimp only at H)
     by_cases c7 : 0 ≤ a1
     ·rw [if_pos c7] at H
      have c7b0 : decide (0 ≤ a1) = true := decide_eq_true c7
      clear c7
      by_cases c8 : a1 < (a0.size : Int)
      ·rw [if_pos c8] at H
       have c8b0 : decide (a1 < (a0.size : Int)) = true := decide_eq_true c8
       clear c8
       obtain ⟨t21, A22, H⟩ := bsm H
       (try dsimp only at H)
       have A10 := am A22
       clear A22
       by_cases c11 : t20 = t21
       ·rw [if_pos c11] at H
        have c11b0 : (t20 == t21) = true := beq_iff_eq.mpr c11
        have c11b1 : (t20 != t21) = false := bne_eq_false_iff_eq.mpr c11
        clear c11
        have H' := am H
        clear H
        have p5 : 0 ≤ (x5_1 : Int) := of_decide_eq_true asm_
        have q5 : x5_1 < (a0.size : Int) := of_decide_eq_true asm_
        have hx5 := bt_at a0 x5_1
        replace p5 := eq_true p5
        replace q5 := eq_true q5
        go_wp2_with (first | (go_at_call 64; (with_reducible refine (spec_l3Kind.calls k1 (bt a0 x5_1) t20 _ A6.out).mono ?_); rintro e w' ⟨rfl, ⟨nd, rfl⟩⟩; (try first | exact ⟨rfl, _, World.drewN_drewN _ _ _⟩ | exact ⟨rfl, _, Eq.trans (World.drewN_drewN _ _ _) (congrArg (World.drewN _) (Nat.add_assoc _ _ _))⟩); have p9 : 0 ≤ (a1 : Int) := of_decide_eq_true asm_; have q9 : a1 < (a0.size : Int) := of_decide_eq_true asm_; have hx9 := bt_at a0 a1; replace p9 := eq_true p9; replace q9 := eq_true q9) | (go_at_call 64; (with_reducible refine (spec_l3Kind.calls k1 (bt a0 a1) t21 _ A10.out).mono ?_); rintro e w' ⟨rfl, ⟨nd, rfl⟩⟩; (try first | exact ⟨rfl, _, World.drewN_drewN _ _ _⟩ | exact ⟨rfl, _, Eq.trans (World.drewN_drewN _ _ _) (congrArg (World.drewN _) (Nat.add_assoc _ _ _))⟩)))
        repeat (go_quiet (first | (go_at_call 64; (with_reducible refine (spec_l3Kind.calls k1 (bt a0 x5_1) t20 _ A6.out).mono ?_); rintro e w' ⟨rfl, ⟨nd, rfl⟩⟩; (try first | exact ⟨rfl, _, World.drewN_drewN _ _ _⟩ | exact ⟨rfl, _, Eq.trans (World.drewN_drewN _ _ _) (congrArg (World.drewN _) (Nat.add_assoc _ _ _))⟩); have p9 : 0 ≤ (a1 : Int) := of_decide_eq_true asm_; have q9 : a1 < (a0.size : Int) := of_decide_eq_true asm_; have hx9 := bt_at a0 a1; replace p9 := eq_true p9; replace q9 := eq_true q9) | (go_at_call 64; (with_reducible refine (spec_l3Kind.calls k1 (bt a0 a1) t21 _ A10.out).mono ?_); rintro e w' ⟨rfl, ⟨nd, rfl⟩⟩; (try first | exact ⟨rfl, _, World.drewN_drewN _ _ _⟩ | exact ⟨rfl, _, Eq.trans (World.drewN_drewN _ _ _) (congrArg (World.drewN _) (Nat.add_assoc _ _ _))⟩))); try go_wp2_with (first | (go_at_call 64; (with_reducible refine (spec_l3Kind.calls k1 (bt a0 x5_1) t20 _ A6.out).mono ?_); rintro e w' ⟨rfl, ⟨nd, rfl⟩⟩; (try first | exact ⟨rfl, _, World.drewN_drewN _ _ _⟩ | exact ⟨rfl, _, Eq.trans (World.drewN_drewN _ _ _) (congrArg (World.drewN _) (Nat.add_assoc _ _ _))⟩); have p9 : 0 ≤ (a1 : Int) := of_decide_eq_true asm_; have q9 : a1 < (a0.size : Int) := of_decide_eq_true asm_; have hx9 := bt_at a0 a1; replace p9 := eq_true p9; replace q9 := eq_true q9) | (go_at_call 64; (with_reducible refine (spec_l3Kind.calls k1 (bt a0 a1) t21 _ A10.out).mono ?_); rintro e w' ⟨rfl, ⟨nd, rfl⟩⟩; (try first | exact ⟨rfl, _, World.drewN_drewN _ _ _⟩ | exact ⟨rfl, _, Eq.trans (World.drewN_drewN _ _ _) (congrArg (World.drewN _) (Nat.add_assoc _ _ _))⟩))))
        go_roundg k1
        case measure => have := HK1.out; omega
        case rel => exact ⟨(wrap64 (x5_1 + 1)), sd_, H', ⟨by have := HK1.out; omega⟩, ab6_⟩
       rw [if_neg c11] at H
       have c11b0 : (t20 == t21) = false := beq_eq_false_iff_ne.mpr c11
       have c11b1 : (t20 != t21) = true := bne_iff_ne.mpr c11
       obtain rfl := Option.some.inj H
       have p5 : 0 ≤ (x5_1 : Int) := of_decide_eq_true asm_
       have q5 : x5_1 < (a0.size : Int) := of_decide_eq_true asm_
       have hx5 := bt_at a0 x5_1
       replace p5 := eq_true p5
       replace q5 := eq_true q5
       go_wp2_with (first | (go_at_call 64; (with_reducible refine (spec_l3Kind.calls k1 (bt a0 x5_1) t20 _ A6.out).mono ?_); rintro e w' ⟨rfl, ⟨nd, rfl⟩⟩; (try first | exact ⟨rfl, _, World.drewN_drewN _ _ _⟩ | exact ⟨rfl, _, Eq.trans (World.drewN_drewN _ _ _) (congrArg (World.drewN _) (Nat.add_assoc _ _ _))⟩); have p9 : 0 ≤ (a1 : Int) := of_decide_eq_true asm_; have q9 : a1 < (a0.size : Int) := of_decide_eq_true asm_; have hx9 := bt_at a0 a1; replace p9 := eq_true p9; replace q9 := eq_true q9) | (go_at_call 64; (with_reducible refine (spec_l3Kind.calls k1 (bt a0 a1) t21 _ A10.out).mono ?_); rintro e w' ⟨rfl, ⟨nd, rfl⟩⟩; (try first | exact ⟨rfl, _, World.drewN_drewN _ _ _⟩ | exact ⟨rfl, _, Eq.trans (World.drewN_drewN _ _ _) (congrArg (World.drewN _) (Nat.add_assoc _ _ _))⟩)))
       repeat (go_quiet (first | (go_at_call 64; (with_reducible refine (spec_l3Kind.calls k1 (bt a0 x5_1) t20 _ A6.out).mono ?_); rintro e w' ⟨rfl, ⟨nd, rfl⟩⟩; (try first | exact ⟨rfl, _, World.drewN_drewN _ _ _⟩ | exact ⟨rfl, _, Eq.trans (World.drewN_drewN _ _ _) (congrArg (World.drewN _) (Nat.add_assoc _ _ _))⟩); have p9 : 0 ≤ (a1 : Int) := of_decide_eq_true asm_; have q9 : a1 < (a0.size : Int) := of_decide_eq_true asm_; have hx9 := bt_at a0 a1; replace p9 := eq_true p9; replace q9 := eq_true q9) | (go_at_call 64; (with_reducible refine (spec_l3Kind.calls k1 (bt a0 a1) t21 _ A10.out).mono ?_); rintro e w' ⟨rfl, ⟨nd, rfl⟩⟩; (try first | exact ⟨rfl, _, World.drewN_drewN _ _ _⟩ | exact ⟨rfl, _, Eq.trans (World.drewN_drewN _ _ _) (congrArg (World.drewN _) (Nat.add_assoc _ _ _))⟩))); try go_wp2_with (first | (go_at_call 64; (with_reducible refine (spec_l3Kind.calls k1 (bt a0 x5_1) t20 _ A6.out).mono ?_); rintro e w' ⟨rfl, ⟨nd, rfl⟩⟩; (try first | exact ⟨rfl, _, World.drewN_drewN _ _ _⟩ | exact ⟨rfl, _, Eq.trans (World.drewN_drewN _ _ _) (congrArg (World.drewN _) (Nat.add_assoc _ _ _))⟩); have p9 : 0 ≤ (a1 : Int) := of_decide_eq_true asm_; have q9 : a1 < (a0.size : Int) := of_decide_eq_true asm_; have hx9 := bt_at a0 a1; replace p9 := eq_true p9; replace q9 := eq_true q9) | (go_at_call 64; (with_reducible refine (spec_l3Kind.calls k1 (bt a0 a1) t21 _ A10.out).mono ?_); rintro e w' ⟨rfl, ⟨nd, rfl⟩⟩; (try first | exact ⟨rfl, _, World.drewN_drewN _ _ _⟩ | exact ⟨rfl, _, Eq.trans (World.drewN_drewN _ _ _) (congrArg (World.drewN _) (Nat.add_assoc _ _ _))⟩))))
       go_ret
       exact ⟨sd_, ab6_⟩
      rw [if_neg c8] at H
      exact absurd H (by simp)
     rw [if_neg c7] at H
     exact absurd H (by simp)
    rw [if_neg c4] at H
    exact absurd H (by simp)
   rw [if_neg c3] at H
   have c3b0 : decide (x5_1 < (a0.size : Int)) = false := decide_eq_false c3
   clear c3
   obtain rfl := Option.some.inj H
   go_wp2
   repeat (go_quiet (fail); try go_wp2)
   go_ret
   exact ⟨sd_, ab6_⟩
theorem spec_l3Two.calls (a0 : ByteArray) (r : Bool) (w : World) (h : spec_l3Two.f a0 = some r) :
  Calls Tryd.prog 66 #[.string a0] w fun e w' => e = .returned (.bool r) ∧ Drawn0 w w' := by
 have H : (if a0.toList = ([60, 60] : List UInt8) then (some true) else (if a0.toList = ([62, 62] : List UInt8) then (some true) else (some (a0.toList == ([61, 61] : List UInt8))))) = some r := h
 clear h
 by_cases c2 : a0.toList = ([60, 60] : List UInt8)
 ·rw [if_pos c2] at H
  have c2b0 : (a0.toList == ([60, 60] : List UInt8)) = true := beq_iff_eq.mpr c2
  have c2b1 : (a0.toList != ([60, 60] : List UInt8)) = false := bne_eq_false_iff_eq.mpr c2
  clear c2
  obtain rfl := Option.some.inj H
  go_enter Tryd.func66, Tryd.ntmps66
  go_wp2
  go_ret
  exact ⟨sd_, ab6_⟩
 rw [if_neg c2] at H
 have c2b0 : (a0.toList == ([60, 60] : List UInt8)) = false := beq_eq_false_iff_ne.mpr c2
 have c2b1 : (a0.toList != ([60, 60] : List UInt8)) = true := bne_iff_ne.mpr c2
 by_cases c3 : a0.toList = ([62, 62] : List UInt8)
 ·rw [if_pos c3] at H
  have c3b0 : (a0.toList == ([62, 62] : List UInt8)) = true := beq_iff_eq.mpr c3
  have c3b1 : (a0.toList != ([62, 62] : List UInt8)) = false := bne_eq_false_iff_eq.mpr c3
  clear c3
  obtain rfl := Option.some.inj H
  go_enter Tryd.func66, Tryd.ntmps66
  go_wp2
  go_ret
  exact ⟨sd_, ab6_⟩
 rw [if_neg c3] at H
 have c3b0 : (a0.toList == ([62, 62] : List UInt8)) = false := beq_eq_false_iff_ne.mpr c3
 have c3b1 : (a0.toList != ([62, 62] : List UInt8)) = true := bne_iff_ne.mpr c3
 obtain rfl := Option.some.inj H
 go_enter Tryd.func66, Tryd.ntmps66
 go_wp2
 go_ret
 exact ⟨sd_, ab6_⟩
theorem spec_l3End.mono_l : ∀ k, (∀ y0 y1 y2 y3, LeO (spec_l3End.j0 k y0 y1 y2 y3) (spec_l3End.j0 (k + 1) y0 y1 y2 y3)) ∧ (∀ y0 y1 y2, LeO (spec_l3End.j1 k y0 y1 y2) (spec_l3End.j1 (k + 1) y0 y1 y2))
 | 0 => ⟨fun _ _ _ _ r h => by simp [spec_l3End.j0] at h, fun _ _ _ r h => by simp [spec_l3End.j1] at h⟩
 | k + 1 => by
  obtain ⟨ih0, ih1⟩ := spec_l3End.mono_l k
  refine ⟨?_, ?_⟩
  ·intro y0 y1 y2 y3
   unfold spec_l3End.j0
   have m0 := @spec_l3Kind.mono
   have m1 := @spec_l3Run.mono
   exact mo_
  ·intro y0 y1 y2
   unfold spec_l3End.j1
   have m0 := @spec_l3Kind.mono
   have m1 := @spec_l3Run.mono
   exact mo_
theorem spec_l3End.mono : ∀ a0 a1 k, LeO (spec_l3End.f k a0 a1) (spec_l3End.f (k + 1) a0 a1) := by
 intro a0 a1 k
 obtain ⟨ih0, ih1⟩ := spec_l3End.mono_l k
 unfold spec_l3End.f
 have m0 := @spec_l3Kind.mono
 have m1 := @spec_l3Run.mono
 exact mo_
theorem spec_l3End.calls (k : Nat) (a0 : ByteArray) (a1 : Int) (r : Int) (w : World) (h : spec_l3End.f k a0 a1 = some r) :
  Calls Tryd.prog 56 #[.string a0, .int .i64 a1] w fun e w' => e = .returned (.int .i64 r) ∧ Drawn0 w w' := by
 have H : (if 0 ≤ a1 then (if a1 < (a0.size : Int) then ((spec_l3Kind.f k (bt a0 a1)).bind fun t23 => (if t23 = 1 then (spec_l3End.j0 k a0 a1 t23 true) else (spec_l3End.j0 k a0 a1 t23 (t23 == 2)))) else (none)) else (none)) = some r := h
 clear h
 by_cases c3 : 0 ≤ a1
 ·rw [if_pos c3] at H
  have c3b0 : decide (0 ≤ a1) = true := decide_eq_true c3
  clear c3
  by_cases c4 : a1 < (a0.size : Int)
  ·rw [if_pos c4] at H
   have c4b0 : decide (a1 < (a0.size : Int)) = true := decide_eq_true c4
   clear c4
   obtain ⟨t23, A6, H⟩ := bsa H
   (try dsimp only at H)
   have HC7 := am H
   clear H
   have p5 : 0 ≤ (a1 : Int) := of_decide_eq_true asm_
   have q5 : a1 < (a0.size : Int) := of_decide_eq_true asm_
   have hx5 := bt_at a0 a1
   replace p5 := eq_true p5
   replace q5 := eq_true q5
   go_enter Tryd.func56, Tryd.ntmps56
   go_upto_region 2 with (first | ((with_reducible refine gate_callee (f := 64) rfl ?_); refine gl_ 9 Tryd.func64 #[.int .u8 (bt a0 a1)] ?_; (with_reducible refine (spec_l3Kind.calls k (bt a0 a1) t23 _ A6.out).mono ?_); rintro e w' ⟨rfl, ⟨nd, rfl⟩⟩; refine ⟨_, rfl, ?_⟩))
   (try simp only [Act.put, List.setIfInBounds_toArray, List.set_cons_zero, List.set_cons_succ])
   go_cut [15] (fun v15 wc => ∃ (kq : Nat) (x15_6 : Bool), v15 = .bool x15_6 ∧ Aside0 (spec_l3End.j0 kq a0 a1 t23 x15_6 = some r) ∧ Aside0 (kq ≤ k) ∧ Drawn0 w wc)
   case first =>
    have H := HC7.out
    clear HC7
    by_cases c8 : t23 = 1
    ·rw [if_pos c8] at H
     have c8b0 : (t23 == 1) = true := beq_iff_eq.mpr c8
     have c8b1 : (t23 != 1) = false := bne_eq_false_iff_eq.mpr c8
     clear c8
     (first | rw [c8b0] | (simp only [i64_w, i32_w]; rw [c8b0]) | skip)
     have H' := am H
     clear H
     go_wp2
     go_meet
     case rel => exact ⟨_, (true), sd_, H', ⟨by first | omega | exact Nat.le_refl _⟩, ab6_⟩
    rw [if_neg c8] at H
    have c8b0 : (t23 == 1) = false := beq_eq_false_iff_ne.mpr c8
    have c8b1 : (t23 != 1) = true := bne_iff_ne.mpr c8
    (first | rw [c8b0] | (simp only [i64_w, i32_w]; rw [c8b0]) | skip)
    have H' := am H
    clear H
    go_wp2
    go_meet
    case rel => exact ⟨_, ((t23 == 2)), sd_, H', ⟨by first | omega | exact Nat.le_refl _⟩, ab6_⟩
   case rest =>
    clear HC7
    try clear c3
    try clear c3b0
    try clear c4
    try clear c4b0
    try clear p5
    try clear q5
    try clear hx5
    try clear p5
    try clear q5
    obtain ⟨kq, x15_6, rfl, HA, HJ6, ⟨mc6, rfl⟩⟩ := hcut
    cases kq with
    | zero => exact absurd HA.out (by simp [spec_l3End.j0])
    | succ kj6 =>
     have H := HA.out
     clear HA
     simp only [spec_l3End.j0] at H
     by_cases c9 : x15_6 = true
     ·subst c9
      rw [if_pos rfl] at H
      obtain ⟨t24, A25, H⟩ := bsm H
      (try dsimp only at H)
      have A10 := am A25
      clear A25
      obtain rfl := Option.some.inj H
      go_wp2_with (first | ((with_reducible refine gate_callee (f := 65) rfl ?_); refine gl_ 18 Tryd.func65 #[.string a0, .int .i64 a1] ?_; (with_reducible refine (spec_l3Run.calls kj6 a0 a1 t24 _ A10.out).mono ?_); rintro e w' ⟨rfl, ⟨nd, rfl⟩⟩; refine ⟨_, rfl, ?_⟩))
      go_ret
      exact ⟨sd_, ab6_⟩
     replace c9 := Bool.eq_false_iff.mpr c9
     subst c9
     rw [if_neg (show ¬ (false = true) by decide)] at H
     by_cases c11 : t23 = 4
     ·rw [if_pos c11] at H
      have c11b0 : (t23 == 4) = true := beq_iff_eq.mpr c11
      have c11b1 : (t23 != 4) = false := bne_eq_false_iff_eq.mpr c11
      clear c11
      have HC12 := am H
      clear H
      go_upto_region 6 with (fail)
      go_cut [33] (fun v33 wc => ∃ (kq : Nat) (x33_11 : Bool), v33 = .bool x33_11 ∧ Aside0 (spec_l3End.j1 kq a0 a1 x33_11 = some r) ∧ Aside0 (kq ≤ kj6) ∧ Drawn0 w wc)
      case first =>
       have H := HC12.out
       clear HC12
       by_cases c13 : (wrap64 (a1 + 2)) ≤ (a0.size : Int)
       ·rw [if_pos c13] at H
        have c13b0 : decide ((wrap64 (a1 + 2)) ≤ (a0.size : Int)) = true := decide_eq_true c13
        clear c13
        (first | rw [c13b0] | (simp only [i64_w, i32_w]; rw [c13b0]) | skip)
        by_cases c14 : 0 ≤ a1
        ·rw [if_pos c14] at H
         have c14b0 := eq_true c14
         have c14b1 : decide (0 ≤ a1) = true := decide_eq_true c14
         clear c14
         by_cases c15 : a1 ≤ (wrap64 (a1 + 2))
         ·rw [if_pos c15] at H
          have c15b0 := eq_true c15
          have c15b1 : decide (a1 ≤ (wrap64 (a1 + 2))) = true := decide_eq_true c15
          have c16b0 := eq_true (of_decide_eq_true asm_ : (wrap64 (a1 + 2)) ≤ (a0.size : Int))
          obtain ⟨t26, A27, H⟩ := bsm H
          (try dsimp only at H)
          have A17 := am A27
          clear A27
          have H' := am H
          clear H
          go_wp2_with (first | (go_at_call 66; (with_reducible refine (spec_l3Two.calls (a0.extract (a1 : Int).toNat ((wrap64 (a1 + 2)) : Int).toNat) t26 _ A17.out).mono ?_); rintro e w' ⟨rfl, ⟨nd, rfl⟩⟩))
          go_meet
          case rel => exact ⟨_, (t26), sd_, H', ⟨by have := HJ6.out; first | omega | exact Nat.le_refl _⟩, ab6_⟩
         rw [if_neg c15] at H
         exact absurd H (by simp)
        rw [if_neg c14] at H
        exact absurd H (by simp)
       rw [if_neg c13] at H
       have c13b0 : decide ((wrap64 (a1 + 2)) ≤ (a0.size : Int)) = false := decide_eq_false c13
       clear c13
       (first | rw [c13b0] | (simp only [i64_w, i32_w]; rw [c13b0]) | skip)
       have H' := am H
       clear H
       go_wp2
       go_meet
       case rel => exact ⟨_, (false), sd_, H', ⟨by have := HJ6.out; first | omega | exact Nat.le_refl _⟩, ab6_⟩
      case rest =>
       clear HC12
       try clear c3
       try clear c3b0
       try clear c4
       try clear c4b0
       try clear p5
       try clear q5
       try clear hx5
       try clear c9
       try clear c11
       try clear c11b0
       try clear c11b1
       try clear p5
       try clear q5
       obtain ⟨kq, x33_11, rfl, HA, HJ11, ⟨mc11, rfl⟩⟩ := hcut
       cases kq with
       | zero => exact absurd HA.out (by simp [spec_l3End.j1])
       | succ kj11 =>
        have H := HA.out
        clear HA
        simp only [spec_l3End.j1] at H
        by_cases c18 : x33_11 = true
        ·subst c18
         rw [if_pos rfl] at H
         obtain rfl := Option.some.inj H
         go_wp2
         go_ret
         exact ⟨sd_, ab6_⟩
        replace c18 := Bool.eq_false_iff.mpr c18
        subst c18
        rw [if_neg (show ¬ (false = true) by decide)] at H
        by_cases c19 : 0 ≤ a1
        ·rw [if_pos c19] at H
         have c19b0 : decide (0 ≤ a1) = true := decide_eq_true c19
         clear c19
         by_cases c20 : a1 < (a0.size : Int)
         ·rw [if_pos c20] at H
          have c20b0 : decide (a1 < (a0.size : Int)) = true := decide_eq_true c20
          clear c20
          by_cases c22 : (bt a0 a1) = 62
          ·rw [if_pos c22] at H
           have c22b0 : ((bt a0 a1) == 62) = true := beq_iff_eq.mpr c22
           have c22b1 : ((bt a0 a1) != 62) = false := bne_eq_false_iff_eq.mpr c22
           clear c22
           obtain rfl := Option.some.inj H
           have p21 : 0 ≤ (a1 : Int) := of_decide_eq_true asm_
           have q21 : a1 < (a0.size : Int) := of_decide_eq_true asm_
           have hx21 := bt_at a0 a1
           replace p21 := eq_true p21
           replace q21 := eq_true q21
           go_wp2
           go_ret
           exact ⟨sd_, ab6_⟩
          rw [if_neg c22] at H
          have c22b0 : ((bt a0 a1) == 62) = false := beq_eq_false_iff_ne.mpr c22
          have c22b1 : ((bt a0 a1) != 62) = true := bne_iff_ne.mpr c22
          obtain rfl := Option.some.inj H
          have p21 : 0 ≤ (a1 : Int) := of_decide_eq_true asm_
          have q21 : a1 < (a0.size : Int) := of_decide_eq_true asm_
          have hx21 := bt_at a0 a1
          replace p21 := eq_true p21
          replace q21 := eq_true q21
          go_wp2
          go_ret
          exact ⟨sd_, ab6_⟩
         rw [if_neg c20] at H
         exact absurd H (by simp)
        rw [if_neg c19] at H
        exact absurd H (by simp)
     rw [if_neg c11] at H
     have c11b0 : (t23 == 4) = false := beq_eq_false_iff_ne.mpr c11
     have c11b1 : (t23 != 4) = true := bne_iff_ne.mpr c11
     obtain rfl := Option.some.inj H
     go_wp2
     go_ret
     exact ⟨sd_, ab6_⟩
  rw [if_neg c4] at H
  exact absurd H (by simp)
 rw [if_neg c3] at H
 exact absurd H (by simp)
theorem spec_TokenValid.mono : ∀ a0 k, LeO (spec_TokenValid.f k a0) (spec_TokenValid.f (k + 1) a0) := by
 intro a0 k
 unfold spec_TokenValid.f
 have m0 := @spec_l3End.mono
 exact mo_
theorem spec_TokenValid.calls (k : Nat) (a0 : ByteArray) (r : Bool) (w : World) (h : spec_TokenValid.f k a0 = some r) :
  Calls Tryd.prog 29 #[.string a0] w fun e w' => e = .returned (.bool r) ∧ Drawn0 w w' := by
 have H : (if a0.toList = ([] : List UInt8) then (some false) else ((spec_l3End.f k a0 0).bind fun t20 => (some (t20 == (a0.size : Int))))) = some r := h
 clear h
 by_cases c2 : a0.toList = ([] : List UInt8)
 ·rw [if_pos c2] at H
  have c2b0 : (a0.toList == ([] : List UInt8)) = true := beq_iff_eq.mpr c2
  have c2b1 : (a0.toList != ([] : List UInt8)) = false := bne_eq_false_iff_eq.mpr c2
  clear c2
  obtain rfl := Option.some.inj H
  go_enter Tryd.func29, Tryd.ntmps29
  go_wp2
  go_ret
  exact ⟨sd_, ab6_⟩
 rw [if_neg c2] at H
 have c2b0 : (a0.toList == ([] : List UInt8)) = false := beq_eq_false_iff_ne.mpr c2
 have c2b1 : (a0.toList != ([] : List UInt8)) = true := bne_iff_ne.mpr c2
 obtain ⟨t20, A3, H⟩ := bsa H
 (try dsimp only at H)
 obtain rfl := Option.some.inj H
 go_enter Tryd.func29, Tryd.ntmps29
 go_wp2_with (first | (go_at_call 56; (with_reducible refine (spec_l3End.calls k a0 0 t20 _ A3.out).mono ?_); rintro e w' ⟨rfl, ⟨nd, rfl⟩⟩))
 go_ret
 exact ⟨sd_, ab6_⟩
theorem spec_TokensText.mono_l : ∀ k, (∀ y0 y1 y2, LeO (spec_TokensText.l0 k y0 y1 y2) (spec_TokensText.l0 (k + 1) y0 y1 y2))
 | 0 => fun _ _ _ r h => by simp [spec_TokensText.l0] at h
 | k + 1 => by
  have ih0 := spec_TokensText.mono_l k
  ·intro y0 y1 y2
   unfold spec_TokensText.l0
   have m0 := @spec_TokenValid.mono
   exact mo_
theorem spec_TokensText.mono : ∀ a0 k, LeO (spec_TokensText.f k a0) (spec_TokensText.f (k + 1) a0) := by
 intro a0 k
 have ih0 := spec_TokensText.mono_l k
 unfold spec_TokensText.f
 have m0 := @spec_TokenValid.mono
 exact mo_
theorem spec_TokensText.calls (k : Nat) (A0 : Option Addr) (c0 : Nat) (l0 : List ByteArray) (r : ByteArray) (w : World) (hr0 : Kd.C Kd.string w A0 l0.length l0) (hc0 : l0.length ≤ c0) (h : spec_TokensText.f k l0 = some r) :
  Calls Tryd.prog 17 #[.slice A0 l0.length c0] w fun e w' => e = .returned (.string r) ∧ Drawn0 w w' := by
 have HR0 := am hr0
 have HC0 := am hc0
 clear hr0 hc0
 have H : (spec_TokensText.l0 k l0 (⟨#[]⟩ : ByteArray) 0) = some r := h
 clear h
 have H' := am H
 clear H
 go_enter Tryd.func17, Tryd.ntmps17
 go_wp2
 go_loopg [3, 4] k (fun kq v3 v4 w' => ∃ (x3_1 : ByteArray) (x4_1 : Int), v3 = .string x3_1 ∧ v4 = .int .i64 x4_1 ∧ Aside0 (spec_TokensText.l0 kq l0 x3_1 x4_1 = some r) ∧ Aside0 (kq ≤ k) ∧ Drawn0 w w')
 case atStart => exact ⟨((⟨#[]⟩ : ByteArray)), (0), sd_, sd_, H', ⟨Nat.le_refl _⟩, ab6_⟩
 case round =>
  clear H'
  obtain ⟨x3_1, x4_1, rfl, rfl, HA, HK1, ⟨m1, rfl⟩⟩ := hrel
  cases gk with
  | zero => exact absurd HA.out (by simp [spec_TokensText.l0])
  | succ k1 =>
   have H := HA.out
   clear HA
   simp only [spec_TokensText.l0] at H
   by_cases c2 : x4_1 < (l0.length : Int)
   ·rw [if_pos c2] at H
    have c2b0 : decide (x4_1 < (l0.length : Int)) = true := decide_eq_true c2
    clear c2
    by_cases c3 : 0 ≤ x4_1
    ·rw [if_pos c3] at H
     have c3b0 : decide (0 ≤ x4_1) = true := decide_eq_true c3
     clear c3
     obtain ⟨t20, A4, H⟩ := bsa H
     (try dsimp only at H)
     by_cases c5 : t20 = true
     ·subst c5
      rw [if_pos rfl] at H
      by_cases c6 : x4_1 > 0
      ·rw [if_pos c6] at H
       have c6b0 : decide (0 < x4_1) = true := decide_eq_true c6
       clear c6
       by_cases c7 : x3_1.size + 1 ≤ 9223372036854775807
       ·rw [if_pos c7] at H
        have c7b0 := eq_true c7
        have c7b1 : decide (x3_1.size + 1 ≤ 9223372036854775807) = true := decide_eq_true c7
        try have c7b2 : (9223372036854775807 < x3_1.size + 1) = False := eq_false (Nat.not_lt.2 c7)
        by_cases c8 : (x3_1 ++ (⟨#[32]⟩ : ByteArray)).size + (rdOf ByteArray.empty l0 x4_1).size ≤ 9223372036854775807
        ·rw [if_pos c8] at H
         have c8b0 := eq_true c8
         have c8b1 : decide ((x3_1 ++ (⟨#[32]⟩ : ByteArray)).size + (rdOf ByteArray.empty l0 x4_1).size ≤ 9223372036854775807) = true := decide_eq_true c8
         try have c8b2 : (9223372036854775807 < (x3_1 ++ (⟨#[32]⟩ : ByteArray)).size + (rdOf ByteArray.empty l0 x4_1).size) = False := eq_false (Nat.not_lt.2 c8)
         have c8y : x3_1.size + 1 + (rdOf ByteArray.empty l0 x4_1).size ≤ 9223372036854775807 := by have h_ := c8; simp only [ByteArray.size_append] at h_; exact h_
         have c8y0 : (9223372036854775807 < x3_1.size + 1 + (rdOf ByteArray.empty l0 x4_1).size) = False := eq_false (by omega)
         have c8y1 : (x3_1.size + 1 + (rdOf ByteArray.empty l0 x4_1).size ≤ 9223372036854775807) = True := eq_true (by omega)
         have H' := am H
         clear H
         have p21 : 0 ≤ (x4_1 : Int) := of_decide_eq_true asm_
         have q21 : x4_1 < (l0.length : Int) := of_decide_eq_true asm_
         obtain ⟨ad21, e21, hx21_0⟩ := Kd.at_string HR0.out x4_1 p21 q21
         cases e21
         replace p21 := eq_true p21
         replace q21 := eq_true q21
         go_wp2_with (first | ((with_reducible refine gate_callee (f := 29) rfl ?_); refine gl_ 15 Tryd.func29 #[.string (rdOf ByteArray.empty l0 x4_1)] ?_; (with_reducible refine (spec_TokenValid.calls k1 (rdOf ByteArray.empty l0 x4_1) true _ A4.out).mono ?_); rintro e w' ⟨rfl, ⟨nd, rfl⟩⟩; refine ⟨_, rfl, ?_⟩; have p22 : 0 ≤ (x4_1 : Int) := of_decide_eq_true asm_; have q22 : x4_1 < (l0.length : Int) := of_decide_eq_true asm_; obtain ⟨ad22, e22, hx22_0⟩ := Kd.at_string HR0.out x4_1 p22 q22; obtain rfl : ad21 = ad22 := (by injection e22); replace p22 := eq_true p22; replace q22 := eq_true q22))
         go_roundg k1
         case measure => have := HK1.out; omega
         case rel => exact ⟨((x3_1 ++ (⟨#[32]⟩ : ByteArray)) ++ (rdOf ByteArray.empty l0 x4_1)), (wrap64 (x4_1 + 1)), sd_, sd_, H', ⟨by have := HK1.out; omega⟩, ab6_⟩
        rw [if_neg c8] at H
        exact absurd H (by simp)
       rw [if_neg c7] at H
       exact absurd H (by simp)
      rw [if_neg c6] at H
      have c6b0 : decide (0 < x4_1) = false := decide_eq_false c6
      clear c6
      by_cases c9 : x3_1.size + (rdOf ByteArray.empty l0 x4_1).size ≤ 9223372036854775807
      ·rw [if_pos c9] at H
       have c9b0 := eq_true c9
       have c9b1 : decide (x3_1.size + (rdOf ByteArray.empty l0 x4_1).size ≤ 9223372036854775807) = true := decide_eq_true c9
       try have c9b2 : (9223372036854775807 < x3_1.size + (rdOf ByteArray.empty l0 x4_1).size) = False := eq_false (Nat.not_lt.2 c9)
       have H' := am H
       clear H
       have p21 : 0 ≤ (x4_1 : Int) := of_decide_eq_true asm_
       have q21 : x4_1 < (l0.length : Int) := of_decide_eq_true asm_
       obtain ⟨ad21, e21, hx21_0⟩ := Kd.at_string HR0.out x4_1 p21 q21
       cases e21
       replace p21 := eq_true p21
       replace q21 := eq_true q21
       go_wp2_with (first | ((with_reducible refine gate_callee (f := 29) rfl ?_); refine gl_ 15 Tryd.func29 #[.string (rdOf ByteArray.empty l0 x4_1)] ?_; (with_reducible refine (spec_TokenValid.calls k1 (rdOf ByteArray.empty l0 x4_1) true _ A4.out).mono ?_); rintro e w' ⟨rfl, ⟨nd, rfl⟩⟩; refine ⟨_, rfl, ?_⟩; have p23 : 0 ≤ (x4_1 : Int) := of_decide_eq_true asm_; have q23 : x4_1 < (l0.length : Int) := of_decide_eq_true asm_; obtain ⟨ad23, e23, hx23_0⟩ := Kd.at_string HR0.out x4_1 p23 q23; obtain rfl : ad21 = ad23 := (by injection e23); replace p23 := eq_true p23; replace q23 := eq_true q23))
       go_roundg k1
       case measure => have := HK1.out; omega
       case rel => exact ⟨(x3_1 ++ (rdOf ByteArray.empty l0 x4_1)), (wrap64 (x4_1 + 1)), sd_, sd_, H', ⟨by have := HK1.out; omega⟩, ab6_⟩
      rw [if_neg c9] at H
      exact absurd H (by simp)
     replace c5 := Bool.eq_false_iff.mpr c5
     subst c5
     rw [if_neg (show ¬ (false = true) by decide)] at H
     obtain rfl := Option.some.inj H
     have p21 : 0 ≤ (x4_1 : Int) := of_decide_eq_true asm_
     have q21 : x4_1 < (l0.length : Int) := of_decide_eq_true asm_
     obtain ⟨ad21, e21, hx21_0⟩ := Kd.at_string HR0.out x4_1 p21 q21
     cases e21
     replace p21 := eq_true p21
     replace q21 := eq_true q21
     go_wp2_with (first | ((with_reducible refine gate_callee (f := 29) rfl ?_); refine gl_ 15 Tryd.func29 #[.string (rdOf ByteArray.empty l0 x4_1)] ?_; (with_reducible refine (spec_TokenValid.calls k1 (rdOf ByteArray.empty l0 x4_1) false _ A4.out).mono ?_); rintro e w' ⟨rfl, ⟨nd, rfl⟩⟩; refine ⟨_, rfl, ?_⟩))
     go_ret
     exact ⟨sd_, ab6_⟩
    rw [if_neg c3] at H
    exact absurd H (by simp)
   rw [if_neg c2] at H
   have c2b0 : decide (x4_1 < (l0.length : Int)) = false := decide_eq_false c2
   clear c2
   obtain rfl := Option.some.inj H
   go_wp2
   go_ret
   exact ⟨sd_, ab6_⟩
theorem spec_l6Dec.mono_l : ∀ k, (∀ y0, LeO (spec_l6Dec.f k y0) (spec_l6Dec.f (k + 1) y0))
 | 0 => fun _ r h => by simp [spec_l6Dec.f] at h
 | k + 1 => by
  have ih0 := spec_l6Dec.mono_l k
  ·intro y0
   unfold spec_l6Dec.f
   exact mo_
theorem spec_l6Dec.mono : ∀ a0 k, LeO (spec_l6Dec.f k a0) (spec_l6Dec.f (k + 1) a0) := by
 intro a0 k
 have ih0 := spec_l6Dec.mono_l k
 exact ih0 a0
def spec_l6Dec.T7 : Bool × List (List Nat × List Nat) := (true, [([], []), ([0], [0]), ([1], [1]), ([], []), ([3], [3]), ([4], [4]), ([5], [5]), ([6], [6]), ([7], [7]), ([2, 8], [2, 8]), ([9, 2, 0, 1, 2, 3, 4, 5, 6, 7, 8, 9], [9])])
def spec_l6Dec.B7 : List Nat := [0, 1, 3, 0, 8, 24, 56, 120, 248, 511, 1023]
theorem spec_l6Dec.tab7 : rtab .any (opsOf Tryd.f30 7) = spec_l6Dec.T7 := by kernel_rfl
theorem spec_l6Dec.bits7 : waitsOk spec_l6Dec.T7.2 spec_l6Dec.B7 = true := by kernel_rfl
theorem spec_l6Dec.calls (k : Nat) : ∀ (a0 : Int) (r : ByteArray) (w : World) (h : spec_l6Dec.f k a0 = some r),
  Calls Tryd.prog 30 #[.int .i64 a0] w fun e w' => e = .returned (.string r) ∧ Below w.heap.size w w' := by
 induction k using Nat.strongRecOn with
 | _ k ih =>
 intro a0 r w h
 cases k with
 | zero => exact absurd h (by simp [spec_l6Dec.f])
 | succ k =>
 simp only [spec_l6Dec.f] at h
 have HB := am (Below.refl w.heap.size w)
 have H : (if a0 < (-9223372036854775807) then (some (⟨#[45, 57, 50, 50, 51, 51, 55, 50, 48, 51, 54, 56, 53, 52, 55, 55, 53, 56, 48, 56]⟩ : ByteArray)) else (if a0 < 0 then ((spec_l6Dec.f k (wrap64 (-a0))).bind fun t28 => (if 1 + t28.size ≤ 9223372036854775807 then (some ((⟨#[45]⟩ : ByteArray) ++ t28)) else (none))) else (if a0 < 10 then (some (strOfNums (([(wrap64 (48 + a0)) % 256] : List Int)))) else ((spec_l6Dec.f k (wrap64 (Int.tdiv a0 10))).bind fun t29 => ((some (([(wrap64 (48 + (Int.tmod a0 10))) % 256] : List Int) : List Int)).bind fun y31 => (if t29.size + (strOfNums y31).size ≤ 9223372036854775807 then (some (t29 ++ (strOfNums y31))) else (none))))))) = some r := h
 clear h
 by_cases c2 : a0 < (-9223372036854775807)
 ·rw [if_pos c2] at H
  have c2b0 : decide (a0 < (-9223372036854775807)) = true := decide_eq_true c2
  clear c2
  obtain rfl := Option.some.inj H
  go_enter Tryd.func30, Tryd.ntmps30
  go_wp2
  go_ret
  exact ⟨rr_, ab2_⟩
 rw [if_neg c2] at H
 have c2b0 : decide (a0 < (-9223372036854775807)) = false := decide_eq_false c2
 clear c2
 by_cases c3 : a0 < 0
 ·rw [if_pos c3] at H
  have c3b0 : decide (a0 < 0) = true := decide_eq_true c3
  clear c3
  obtain ⟨t28, A4, H⟩ := bsa H
  (try dsimp only at H)
  by_cases c5 : 1 + t28.size ≤ 9223372036854775807
  ·rw [if_pos c5] at H
   have c5b0 := eq_true c5
   have c5b1 : decide (1 + t28.size ≤ 9223372036854775807) = true := decide_eq_true c5
   try have c5b2 : (9223372036854775807 < 1 + t28.size) = False := eq_false (Nat.not_lt.2 c5)
   obtain rfl := Option.some.inj H
   go_enter Tryd.func30, Tryd.ntmps30
   go_wp2_with (first | ((with_reducible refine gate_callee (f := 30) rfl ?_); refine gl_ 9 Tryd.func30 #[.int .i64 (wrap64 (-a0))] ?_; (with_reducible refine (ih k (by omega) (wrap64 (-a0)) t28 _ A4.out).mono ?_); rintro e w6 ⟨rfl, hb⟩; refine ⟨_, rfl, ?_⟩; replace HB := am (below_step ab2_ hb); (try clear hb)))
   go_ret
   exact ⟨rr_, ab2_⟩
  rw [if_neg c5] at H
  exact absurd H (by simp)
 rw [if_neg c3] at H
 have c3b0 : decide (a0 < 0) = false := decide_eq_false c3
 clear c3
 by_cases c7 : a0 < 10
 ·rw [if_pos c7] at H
  have c7b0 : decide (a0 < 10) = true := decide_eq_true c7
  clear c7
  obtain ⟨y34, hy_⟩ : ∃ y_ : List Int, y_ = (([(wrap64 (48 + a0)) % 256] : List Int)) := ⟨_, rfl⟩
  replace H : (some (strOfNums y34)) = some r := rx_
  have Ny34 := am hy_
  clear hy_
  obtain rfl := Option.some.inj H
  go_enter Tryd.func30, Tryd.ntmps30
  go_wp2_with (first | ((with_reducible refine gate_dst (N := 16) rfl ?_); refine Kd.R_lit (Kd.int .u8) _ 5 rfl (N := 16) rfl (xs := ([(wrap64 (48 + a0)) % 256] : List Int)) (inner := [.int .u8 ((wrap64 (48 + a0)) % 256)]) (ok := fun _ => True) (okp := fun _ => True) rn_ ?hp (fun _ hk => hk) trivial (Below.refl _ _) (Nat.le_refl _) (by simp) ?_; (case hp => exact (Reps.one (show Kd.M (Kd.int .u8) _ _ _ ((wrap64 (48 + a0)) % 256) [.int .u8 ((wrap64 (48 + a0)) % 256)] from rfl) (Reps.none _ _))); intro v35 w8 ho9 hb hg_ hnew_; clear hg_ hnew_; (first | rw [← Ny34.out] at ho9 | (simp only [Int.reduceToNat] at ho9; rw [← Ny34.out] at ho9)); have HO36 := am (Kd.R_lower ho9 (below_size ab2_)); replace HB := am (below_step ab2_ hb); clear hb ho9; have hcv10 := own_string (P := Tryd.prog) Tryd.underlying33 Tryd.underlying5 Tryd.underlying9 (Kd.own_of_R HO36.out)))
  go_ret
  exact ⟨rr_, ab2_⟩
 rw [if_neg c7] at H
 have c7b0 : decide (a0 < 10) = false := decide_eq_false c7
 clear c7
 obtain ⟨t29, A37, H⟩ := bsm H
 (try dsimp only at H)
 have A11 := am A37
 clear A37
 obtain ⟨y31, hy_⟩ : ∃ y_ : List Int, y_ = (([(wrap64 (48 + (Int.tmod a0 10))) % 256] : List Int)) := ⟨_, rfl⟩
 replace H : (if t29.size + (strOfNums y31).size ≤ 9223372036854775807 then (some (t29 ++ (strOfNums y31))) else (none)) = some r := rx_
 have Ny31 := am hy_
 clear hy_
 by_cases c12 : t29.size + (strOfNums y31).size ≤ 9223372036854775807
 ·rw [if_pos c12] at H
  have c12b0 := eq_true c12
  have c12b1 : decide (t29.size + (strOfNums y31).size ≤ 9223372036854775807) = true := decide_eq_true c12
  try have c12b2 : (9223372036854775807 < t29.size + (strOfNums y31).size) = False := eq_false (Nat.not_lt.2 c12)
  obtain rfl := Option.some.inj H
  go_enter Tryd.func30, Tryd.ntmps30
  try go_wp2
  replace HB := am (below_drew1 HB.out)
  refine start_ (n := 11) (S := fun w' => True) (ds := []) (bz 11 0) (by kernel_rfl) rfl rfl trivial (fun hHeld => ?_); refine with_tabW spec_l6Dec.tab7 spec_l6Dec.bits7 (fun HT_ HW_ => ?_)
  generalize w.drew = w13 at HB hHeld ⊢
  refine pr_ 0 18 (bz 11 1) HT_ ?_
  refine pr_ 1 19 (bz 11 3) HT_ ?_
  refine pr_ 3 21 (bz 11 11) HT_ ?_
  refine pr_ 4 22 (bz 11 27) HT_ ?_
  refine pr_ 5 23 (bz 11 59) HT_ ?_
  refine pr_ 6 24 (bz 11 123) HT_ ?_
  refine join_ (σ := Value) 2 (bz 11 511) (fun s_ => [(20, .string t29), (25, s_), (26, .string (strOfNums y31))]) (fun s_ w' => (Kd.R (Kd.int .u8) 5 w' w.heap.size (fun _ => True) s_ y31) ∧ (Below w.heap.size w w')) ?_ ?_
  rotate_left
  ·intro hCont
   refine two_ (i := 2) (j := 7) (Ni := some 20) (Nj := some 25) (bz 11 127) (bz 11 251) rfl rfl rfl rfl (two_of HT_.out (by kernel_rfl)) (by decide) (by decide) (fun K hK => ?_) (fun K hK => ?_)
   ·skip
    refine goes_ Tryd.func30 (by kernel_rfl) rfl #[.int .i64 (wrap64 (Int.tdiv a0 10))] (by rfl) rfl rfl ab1_ ?_
    with_reducible refine (ih k (by omega) (wrap64 (Int.tdiv a0 10)) t29 _ A11.out).mono ?_
    rintro e w14 ⟨rfl, hb⟩
    refine ⟨_, rfl, ?_⟩
    replace HB := am (below_step ab2_ hb)
    (try clear hb)
    (try clear hb2)
    (try clear hk)
    (try clear hi)
    refine hK.out _ _ trivial (fun hHeld => ?_)
    clear hK K
    refine norm_ (a' := ?_) ?_ ?_
    rotate_left
    ·show Act.put _ (some 20) _ = _
     simp only [Act.put, List.setIfInBounds_toArray, List.set_cons_zero, List.set_cons_succ, i64_w, i32_w]
     rfl
    refine one_ (i := 7) (N := some 25) (bz 11 255) rfl rfl (one_of HT_.out (by kernel_rfl)) (by decide) (fun K hK => ?_)
    refine Kd.R_lit_step (Kd.int .u8) _ 5 rfl (N := 25) rfl (xs := ([(wrap64 (48 + (Int.tmod a0 10))) % 256] : List Int)) (inner := [.int .u8 ((wrap64 (48 + (Int.tmod a0 10))) % 256)]) (ok := fun _ => True) (okp := fun _ => True) rn_ ?hp (fun _ hk => hk) trivial (Below.refl _ _) (Nat.le_refl _) (by simp) ?_; (case hp => exact (Reps.one (show Kd.M (Kd.int .u8) _ _ _ ((wrap64 (48 + (Int.tmod a0 10))) % 256) [.int .u8 ((wrap64 (48 + (Int.tmod a0 10))) % 256)] from rfl) (Reps.none _ _)))
    intro v38 w15 ho16 hb hg_ hnew_
    clear hg_ hnew_
    (first | rw [← Ny31.out] at ho16 | (simp only [Int.reduceToNat] at ho16; rw [← Ny31.out] at ho16))
    have HO39 := am (Kd.R_lower ho16 (below_size ab2_))
    replace HB := am (below_step ab2_ hb)
    clear hb ho16
    refine hK.out _ _ trivial (fun hHeld => ?_)
    clear hK K
    refine norm_ (a' := ?_) ?_ ?_
    rotate_left
    ·show Act.put _ (some 25) _ = _
     simp only [Act.put, List.setIfInBounds_toArray, List.set_cons_zero, List.set_cons_succ, i64_w, i32_w]
     rfl
    refine one_ (i := 8) (N := some 26) (bz 11 511) rfl rfl (one_of HT_.out (by kernel_rfl)) (by decide) (fun K hK => ?_)
    have hcv17 := own_string (P := Tryd.prog) Tryd.underlying33 Tryd.underlying5 Tryd.underlying9 (Kd.own_of_R HO39.out)
    refine value_ (w1 := ?_) (v := ?_) (by rfl) rfl ?_ ?_
    rotate_left 2
    ·go_simp
     constructor
     ·rfl
     ·rfl
    clear hcv17
    refine hK.out _ _ trivial (fun hHeld => ?_)
    clear hK K
    refine norm_ (a' := ?_) ?_ ?_
    rotate_left
    ·show Act.put _ (some 26) _ = _
     simp only [Act.put, List.setIfInBounds_toArray, List.set_cons_zero, List.set_cons_succ, i64_w, i32_w]
     rfl
    exact norm_ (by simp only [putAll, Act.put, List.setIfInBounds_toArray, List.set_cons_zero, List.set_cons_succ]) (hCont (v38) _ ⟨(aR_ HO39.out), ab2_⟩)
   ·skip
    refine Kd.R_lit_step (Kd.int .u8) _ 5 rfl (N := 25) rfl (xs := ([(wrap64 (48 + (Int.tmod a0 10))) % 256] : List Int)) (inner := [.int .u8 ((wrap64 (48 + (Int.tmod a0 10))) % 256)]) (ok := fun _ => True) (okp := fun _ => True) rn_ ?hp (fun _ hk => hk) trivial (Below.refl _ _) (Nat.le_refl _) (by simp) ?_; (case hp => exact (Reps.one (show Kd.M (Kd.int .u8) _ _ _ ((wrap64 (48 + (Int.tmod a0 10))) % 256) [.int .u8 ((wrap64 (48 + (Int.tmod a0 10))) % 256)] from rfl) (Reps.none _ _)))
    intro v38 w14 ho15 hb hg_ hnew_
    clear hg_ hnew_
    (first | rw [← Ny31.out] at ho15 | (simp only [Int.reduceToNat] at ho15; rw [← Ny31.out] at ho15))
    have HO39 := am (Kd.R_lower ho15 (below_size ab2_))
    replace HB := am (below_step ab2_ hb)
    clear hb ho15
    refine hK.out _ _ trivial (fun hHeld => ?_)
    clear hK K
    refine norm_ (a' := ?_) ?_ ?_
    rotate_left
    ·show Act.put _ (some 25) _ = _
     simp only [Act.put, List.setIfInBounds_toArray, List.set_cons_zero, List.set_cons_succ, i64_w, i32_w]
     rfl
    refine two_ (i := 2) (j := 8) (Ni := some 20) (Nj := some 26) (bz 11 255) (bz 11 507) rfl rfl rfl rfl (two_of HT_.out (by kernel_rfl)) (by decide) (by decide) (fun K hK => ?_) (fun K hK => ?_)
    ·skip
     refine goes_ Tryd.func30 (by kernel_rfl) rfl #[.int .i64 (wrap64 (Int.tdiv a0 10))] (by rfl) rfl rfl ab1_ ?_
     with_reducible refine (ih k (by omega) (wrap64 (Int.tdiv a0 10)) t29 _ A11.out).mono ?_
     rintro e w16 ⟨rfl, hb⟩
     refine ⟨_, rfl, ?_⟩
     replace HO39 := am (Kd.R_below (aR_ HO39.out) hb)
     replace HB := am (below_step ab2_ hb)
     (try clear hb)
     (try clear hb2)
     (try clear hk)
     (try clear hi)
     refine hK.out _ _ trivial (fun hHeld => ?_)
     clear hK K
     refine norm_ (a' := ?_) ?_ ?_
     rotate_left
     ·show Act.put _ (some 20) _ = _
      simp only [Act.put, List.setIfInBounds_toArray, List.set_cons_zero, List.set_cons_succ, i64_w, i32_w]
      rfl
     refine one_ (i := 8) (N := some 26) (bz 11 511) rfl rfl (one_of HT_.out (by kernel_rfl)) (by decide) (fun K hK => ?_)
     have hcv17 := own_string (P := Tryd.prog) Tryd.underlying33 Tryd.underlying5 Tryd.underlying9 (Kd.own_of_R HO39.out)
     refine value_ (w1 := ?_) (v := ?_) (by rfl) rfl ?_ ?_
     rotate_left 2
     ·go_simp
      constructor
      ·rfl
      ·rfl
     clear hcv17
     refine hK.out _ _ trivial (fun hHeld => ?_)
     clear hK K
     refine norm_ (a' := ?_) ?_ ?_
     rotate_left
     ·show Act.put _ (some 26) _ = _
      simp only [Act.put, List.setIfInBounds_toArray, List.set_cons_zero, List.set_cons_succ, i64_w, i32_w]
      rfl
     exact norm_ (by simp only [putAll, Act.put, List.setIfInBounds_toArray, List.set_cons_zero, List.set_cons_succ]) (hCont (v38) _ ⟨(aR_ HO39.out), ab2_⟩)
    ·skip
     have hcv16 := own_string (P := Tryd.prog) Tryd.underlying33 Tryd.underlying5 Tryd.underlying9 (Kd.own_of_R HO39.out)
     refine value_ (w1 := ?_) (v := ?_) (by rfl) rfl ?_ ?_
     rotate_left 2
     ·go_simp
      constructor
      ·rfl
      ·rfl
     clear hcv16
     refine hK.out _ _ trivial (fun hHeld => ?_)
     clear hK K
     refine norm_ (a' := ?_) ?_ ?_
     rotate_left
     ·show Act.put _ (some 26) _ = _
      simp only [Act.put, List.setIfInBounds_toArray, List.set_cons_zero, List.set_cons_succ, i64_w, i32_w]
      rfl
     refine one_ (i := 2) (N := some 20) (bz 11 511) rfl rfl (one_of HT_.out (by kernel_rfl)) (by decide) (fun K hK => ?_)
     refine goes_ Tryd.func30 (by kernel_rfl) rfl #[.int .i64 (wrap64 (Int.tdiv a0 10))] (by rfl) rfl rfl ab1_ ?_
     with_reducible refine (ih k (by omega) (wrap64 (Int.tdiv a0 10)) t29 _ A11.out).mono ?_
     rintro e w17 ⟨rfl, hb⟩
     refine ⟨_, rfl, ?_⟩
     replace HO39 := am (Kd.R_below (aR_ HO39.out) hb)
     replace HB := am (below_step ab2_ hb)
     (try clear hb)
     (try clear hb2)
     (try clear hk)
     (try clear hi)
     refine hK.out _ _ trivial (fun hHeld => ?_)
     clear hK K
     refine norm_ (a' := ?_) ?_ ?_
     rotate_left
     ·show Act.put _ (some 20) _ = _
      simp only [Act.put, List.setIfInBounds_toArray, List.set_cons_zero, List.set_cons_succ, i64_w, i32_w]
      rfl
     exact norm_ (by simp only [putAll, Act.put, List.setIfInBounds_toArray, List.set_cons_zero, List.set_cons_succ]) (hCont (v38) _ ⟨(aR_ HO39.out), ab2_⟩)
  rintro v38 w18 ⟨h0_, h1_⟩
  have HO39 : Aside0 (Kd.R (Kd.int .u8) 5 w18 w.heap.size (fun _ => True) v38 y31) := ⟨h0_⟩
  replace HB : Aside0 (Below w.heap.size w w18) := ⟨h1_⟩
  clear h0_ h1_
  have hHeld := trivial
  refine norm_ (a' := ?_) ?_ ?_
  rotate_left
  ·simp only [putAll, Act.put, List.setIfInBounds_toArray, List.set_cons_zero, List.set_cons_succ]
   rfl
  refine pr_ 9 27 (bz 11 1023) HT_ ?_
  refine pr_ 10 2 (bz 11 2047) HT_ ?_
  refine done_ (done_of HT_.out (by kernel_rfl)) ?_
  try go_wp2
  go_ret
  exact ⟨rr_, ab2_⟩
 rw [if_neg c12] at H
 exact absurd H (by simp)
theorem spec_l5Name.calls (a0 : Int) (r : ByteArray) (w : World) (h : spec_l5Name.f a0 = some r) :
  Calls Tryd.prog 31 #[.int .i64 a0] w fun e w' => e = .returned (.string r) ∧ Below w.heap.size w w' := by
 have HB := am (Below.refl w.heap.size w)
 have H : (some (strOfNums (([(wrap64 (97 + a0)) % 256] : List Int)))) = some r := h
 clear h
 obtain ⟨y20, hy_⟩ : ∃ y_ : List Int, y_ = (([(wrap64 (97 + a0)) % 256] : List Int)) := ⟨_, rfl⟩
 replace H : (some (strOfNums y20)) = some r := rx_
 have Ny20 := am hy_
 clear hy_
 obtain rfl := Option.some.inj H
 go_enter Tryd.func31, Tryd.ntmps31
 go_wp2_with (first | ((with_reducible refine gate_dst (N := 6) rfl ?_); refine Kd.R_lit (Kd.int .u8) _ 5 rfl (N := 6) rfl (xs := ([(wrap64 (97 + a0)) % 256] : List Int)) (inner := [.int .u8 ((wrap64 (97 + a0)) % 256)]) (ok := fun _ => True) (okp := fun _ => True) rn_ ?hp (fun _ hk => hk) trivial (Below.refl _ _) (Nat.le_refl _) (by simp) ?_; (case hp => exact (Reps.one (show Kd.M (Kd.int .u8) _ _ _ ((wrap64 (97 + a0)) % 256) [.int .u8 ((wrap64 (97 + a0)) % 256)] from rfl) (Reps.none _ _))); intro v21 w2 ho3 hb hg_ hnew_; clear hg_ hnew_; (first | rw [← Ny20.out] at ho3 | (simp only [Int.reduceToNat] at ho3; rw [← Ny20.out] at ho3)); have HO22 := am (Kd.R_lower ho3 (below_size ab2_)); replace HB := am (below_step ab2_ hb); clear hb ho3; have hcv4 := own_string (P := Tryd.prog) Tryd.underlying33 Tryd.underlying5 Tryd.underlying9 (Kd.own_of_R HO22.out)))
 go_ret
 exact ⟨rr_, ab2_⟩
theorem spec_OpLevel.calls (a0 : Int) (r : Int) (w : World) (h : spec_OpLevel.f a0 = some r) :
  Calls Tryd.prog 32 #[.int .i64 a0] w fun e w' => e = .returned (.int .i64 r) ∧ Below w.heap.size w w' := by
 have HB := am (Below.refl w.heap.size w)
 have H : ((spec_OpValid.f a0).bind fun t21 => (if t21 = true then ((some (([1, 2, 3, 4, 5, 6, 6, 7, 7, 8, 8, 8] : List Int) : List Int)).bind fun y22 => (if 0 ≤ (wrap64 (a0 - 1)) then (if (wrap64 (a0 - 1)) < (y22.length : Int) then (some (rd y22 (wrap64 (a0 - 1)))) else (none)) else (none))) else (some 0))) = some r := h
 clear h
 obtain ⟨t21, A2, H⟩ := bsa H
 (try dsimp only at H)
 by_cases c3 : t21 = true
 ·subst c3
  rw [if_pos rfl] at H
  obtain ⟨y22, hy_⟩ : ∃ y_ : List Int, y_ = (([1, 2, 3, 4, 5, 6, 6, 7, 7, 8, 8, 8] : List Int)) := ⟨_, rfl⟩
  replace H : (if 0 ≤ (wrap64 (a0 - 1)) then (if (wrap64 (a0 - 1)) < (y22.length : Int) then (some (rd y22 (wrap64 (a0 - 1)))) else (none)) else (none)) = some r := rx_
  have Ny22 := am hy_
  clear hy_
  obtain ⟨ji4, hji4⟩ : ∃ j_ : Int, (wrap64 (a0 - 1)) = j_ := ⟨_, rfl⟩
  replace H : (if 0 ≤ (ji4) then (if (ji4) < (y22.length : Int) then (some (rd y22 (ji4))) else (none)) else (none)) = some r := by first | (rw [hji4] at H; exact H) | (simp only [hji4] at H ⊢; exact H)
  (try rw [hji4] at A2)
  have hji4w : (IntKind.i64.wrap (a0 - 1)) = ji4 := (i64_w _).trans hji4
  by_cases c5 : 0 ≤ (ji4)
  ·rw [if_pos c5] at H
   have c5b0 : decide (0 ≤ (ji4)) = true := decide_eq_true c5
   clear c5
   by_cases c6 : (ji4) < (y22.length : Int)
   ·rw [if_pos c6] at H
    have c6b0 : decide ((ji4) < (y22.length : Int)) = true := decide_eq_true c6
    clear c6
    obtain rfl := Option.some.inj H
    go_enter Tryd.func32, Tryd.ntmps32
    go_wp2_with (first | ((with_reducible refine gate_callee (f := 55) rfl ?_); refine gl_ 4 Tryd.func55 #[.int .i64 a0] ?_; (with_reducible refine (spec_OpValid.calls a0 true _ A2.out).mono ?_); rintro e w' ⟨rfl, ⟨nd, rfl⟩⟩; refine ⟨_, rfl, ?_⟩) | ((with_reducible refine gate_dst (N := 6) rfl ?_); refine Kd.R_lit (Kd.int .i64) _ 3 rfl (N := 6) rfl (xs := ([1, 2, 3, 4, 5, 6, 6, 7, 7, 8, 8, 8] : List Int)) (inner := [.int .i64 1, .int .i64 2, .int .i64 3, .int .i64 4, .int .i64 5, .int .i64 6, .int .i64 6, .int .i64 7, .int .i64 7, .int .i64 8, .int .i64 8, .int .i64 8]) (ok := fun _ => True) (okp := fun _ => True) rn_ ?hp (fun _ hk => hk) trivial (Below.refl _ _) (Nat.le_refl _) (by simp) ?_; (case hp => exact (Reps.one (show Kd.M (Kd.int .i64) _ _ _ 1 [.int .i64 1] from rfl) (Reps.one (show Kd.M (Kd.int .i64) _ _ _ 2 [.int .i64 2] from rfl) (Reps.one (show Kd.M (Kd.int .i64) _ _ _ 3 [.int .i64 3] from rfl) (Reps.one (show Kd.M (Kd.int .i64) _ _ _ 4 [.int .i64 4] from rfl) (Reps.one (show Kd.M (Kd.int .i64) _ _ _ 5 [.int .i64 5] from rfl) (Reps.one (show Kd.M (Kd.int .i64) _ _ _ 6 [.int .i64 6] from rfl) (Reps.one (show Kd.M (Kd.int .i64) _ _ _ 6 [.int .i64 6] from rfl) (Reps.one (show Kd.M (Kd.int .i64) _ _ _ 7 [.int .i64 7] from rfl) (Reps.one (show Kd.M (Kd.int .i64) _ _ _ 7 [.int .i64 7] from rfl) (Reps.one (show Kd.M (Kd.int .i64) _ _ _ 8 [.int .i64 8] from rfl) (Reps.one (show Kd.M (Kd.int .i64) _ _ _ 8 [.int .i64 8] from rfl) (Reps.one (show Kd.M (Kd.int .i64) _ _ _ 8 [.int .i64 8] from rfl) (Reps.none _ _)))))))))))))); intro v23 w7 ho8 hb hg_ hnew_; clear hg_ hnew_; (first | rw [← Ny22.out] at ho8 | (simp only [Int.reduceToNat] at ho8; rw [← Ny22.out] at ho8)); have HO24 := am (Kd.R_lower ho8 (below_size ab2_)); replace HB := am (below_step ab2_ hb); clear hb ho8; obtain ⟨Ao9, co9, eo9⟩ := Kd.R_slice HO24.out; subst eo9; have p25 : 0 ≤ ((ji4) : Int) := of_decide_eq_true asm_; have q25 : (ji4) < (y22.length : Int) := of_decide_eq_true asm_; obtain ⟨ad25, e25, hx25_0⟩ := Kd.at_int (Kd.R_reads' HO24.out).2.2 (ji4) p25 q25; cases e25; replace p25 := eq_true p25; replace q25 := eq_true q25))
    go_ret
    exact ⟨by first | rfl | (simp [errW_none, errW_some] <;> rfl) | (simp only [← hji4]; first | rfl | (simp [errW_none, errW_some] <;> rfl)) | (simp [*, errW_none, errW_some] <;> rfl), ab2_⟩
   rw [if_neg c6] at H
   exact absurd H (by simp)
  rw [if_neg c5] at H
  exact absurd H (by simp)
 replace c3 := Bool.eq_false_iff.mpr c3
 subst c3
 rw [if_neg (show ¬ (false = true) by decide)] at H
 obtain rfl := Option.some.inj H
 go_enter Tryd.func32, Tryd.ntmps32
 go_wp2_with (first | ((with_reducible refine gate_callee (f := 55) rfl ?_); refine gl_ 4 Tryd.func55 #[.int .i64 a0] ?_; (with_reducible refine (spec_OpValid.calls a0 false _ A2.out).mono ?_); rintro e w' ⟨rfl, ⟨nd, rfl⟩⟩; refine ⟨_, rfl, ?_⟩))
 go_ret
 exact ⟨rr_, ab2_⟩
theorem spec_l5Wrap.calls (P0_ : Nat → Prop) (u20_ : Value) (l0 : List ByteArray) (a1 : Bool) (r : List ByteArray) (w0 w : World) (hB : Below w0.heap.size w0 w) (ho0 : Kd.R Kd.string 9 w w0.heap.size P0_ u20_ l0) (h : spec_l5Wrap.f l0 a1 = some r) :
  Calls Tryd.prog 33 #[u20_, .bool a1] w fun e w' => ∃ v0_ : Value, e = .returned (v0_) ∧ Kd.R Kd.string 9 w' w0.heap.size (fun k_ => (P0_ k_ ∨ w.heap.size ≤ k_)) v0_ r ∧ Below w0.heap.size w0 w' ∧ Kept w w' (fun k_ => P0_ k_) := by
 have HO0 := am (show Kd.R Kd.string 9 w w0.heap.size (fun k_ => (P0_ k_ ∨ w.heap.size ≤ k_)) u20_ l0 from Kd.R_mono ho0 (fun k_ hk => (.inl hk)))
 have HK := am (Kept.refl w (fun k_ => P0_ k_))
 have HW0 := am hB.size
 have HB := am hB
 clear hB
 have H : (if a1 = true then ((some (([(⟨#[40]⟩ : ByteArray)] : List ByteArray) : List ByteArray)).bind fun y21 => (if y21.length + l0.length < 8796093022208 then ((some (y21 ++ l0 : List ByteArray)).bind fun y22 => (if y22.length < 8796093022208 then (some (y22 ++ [(⟨#[41]⟩ : ByteArray)])) else (none))) else (none))) else (some l0)) = some r := h
 clear h
 by_cases c3 : a1 = true
 ·subst c3
  rw [if_pos rfl] at H
  obtain ⟨y21, hy_⟩ : ∃ y_ : List ByteArray, y_ = (([(⟨#[40]⟩ : ByteArray)] : List ByteArray)) := ⟨_, rfl⟩
  replace H : (if y21.length + l0.length < 8796093022208 then ((some (y21 ++ l0 : List ByteArray)).bind fun y22 => (if y22.length < 8796093022208 then (some (y22 ++ [(⟨#[41]⟩ : ByteArray)])) else (none))) else (none)) = some r := rx_
  have Ny21 := am hy_
  clear hy_
  by_cases c4 : y21.length + l0.length < 8796093022208
  ·rw [if_pos c4] at H
   have LMc4 := am c4
   clear c4
   obtain ⟨y22, hy_⟩ : ∃ y_ : List ByteArray, y_ = (y21 ++ l0) := ⟨_, rfl⟩
   replace H : (if y22.length < 8796093022208 then (some (y22 ++ [(⟨#[41]⟩ : ByteArray)])) else (none)) = some r := rx_
   have Ny22 := am hy_
   clear hy_
   by_cases c5 : y22.length < 8796093022208
   ·rw [if_pos c5] at H
    have LMc5 := am c5
    clear c5
    obtain ⟨y23, hy_⟩ : ∃ y_ : List ByteArray, y_ = (y22 ++ [(⟨#[41]⟩ : ByteArray)]) := ⟨_, rfl⟩
    replace H : (some y23) = some r := rx_
    have Ny23 := am hy_
    clear hy_
    obtain rfl := Option.some.inj H
    go_enter Tryd.func33, Tryd.ntmps33
    go_wp2_with (first | ((with_reducible refine gate_dst (N := 9) rfl ?_); refine Kd.R_lit Kd.string _ 9 rfl (N := 9) rfl (xs := ([(⟨#[40]⟩ : ByteArray)] : List ByteArray)) (inner := [.string (⟨#[40]⟩ : ByteArray)]) (ok := fun _ => True) (okp := fun _ => True) rn_ ?hp (fun _ hk => hk) trivial (Below.refl _ _) (Nat.le_refl _) (by simp) ?_; (case hp => exact (Reps.one (show Kd.M Kd.string _ _ _ (⟨#[40]⟩ : ByteArray) [.string (⟨#[40]⟩ : ByteArray)] from rfl) (Reps.none _ _))); intro v24 w6 ho7 hb hg_ hnew_; clear hg_ hnew_; (first | rw [← Ny21.out] at ho7 | (simp only [Int.reduceToNat] at ho7; rw [← Ny21.out] at ho7)); have HO25 := am (Kd.R_lower (Kd.R_new' (Kd.R_newM (M := fun k_ => (P0_ k_ ∨ w.heap.size ≤ k_)) ho7 (by first | exact HK.out.1 | exact (show Kept w _ (fun k_ => P0_ k_) from ab34_).1) (fun k_ h_ => .inr h_)) (Kd.R_lt (aR_ HO0.out))) (below_size ab2_)); replace HO0 := am (Kd.R_elder' (aR_ HO0.out) (Kd.R_base ho7) hb); replace HK := am (Kept.below (S := (fun k_ => P0_ k_)) ab34_ hb); replace HB := am (below_step ab2_ hb); clear hb ho7; obtain ⟨Ao9, co9, eo9⟩ := Kd.R_slice HO0.out; subst eo9) | ((with_reducible refine gate_builtin (b := .append) (xs := #[.tmp 9, .tmp 10]) rfl ?_); at_builtin; refine Kd.R_append_rows Kd.string (w0 := w0) w0.heap.size rfl (.tmp 9) (.tmp 10) 37 9 (.string ⟨#[]⟩) 16 rfl Tryd.underlying37 info9 rfl (by decide) (by omega) v24 y21 l0 _ _ _ (fun k_ => (P0_ k_ ∨ w.heap.size ≤ k_) ∧ some k_ ≠ (.slice Ao9 l0.length co9 : Value).ownBlock) (fun _ => False) rfl rfl ?aO ?aR (fun _ _ h => h) (fun _ h => h.elim) ?aF ?aB ?aS ?aL ?_; (case aR => repeat (first | exact (Kd.R_reads' HO0.out).2.2 | (with_reducible refine Kd.C_alloc ?_ _) | (with_reducible refine Kd.C_drewN ?_ _) | (with_reducible refine Kd.C_drew ?_))); (case aB => exact ab2_); (case aF => exact (fun k_ hk => ⟨(.inr (Nat.le_trans (by first | exact HK.out.1 | exact (show Kept w _ (fun k_ => P0_ k_) from ab34_).1) hk)), Kd.fresh' (Kd.R_lt (aR_ HO0.out)) k_ hk⟩)); (case aO => exact (aRw_ (Kd.R_mono HO25.out (fun _ hk => ⟨hk.1.1, hk.2⟩)))); (case aS => exact (below_size ab2_)); (case aL => have := LMc4.out; omega); intro v26 w8 ho hb hg hat; rw [← Ny22.out] at ho; replace HO0 := am (Kd.R_after (ok := (fun k_ => (P0_ k_ ∨ w.heap.size ≤ k_))) (aR_ HO0.out) hg hat); replace HB := am (hb); replace HK := am (Kept.of_grown (S := (fun k_ => P0_ k_)) hg ab34_ (fun k_ e_ => (HO25.out.1 k_ e_).1.1)); have HO27 := am (ho); clear HO25 ho hb hg hat) | ((with_reducible refine gate_builtin (b := .append) (xs := #[.tmp 12, .tmp 13]) rfl ?_); at_builtin; refine Kd.R_append Kd.string (w0 := w0) w0.heap.size rfl (.tmp 12) (.tmp 13) 37 9 (.string ⟨#[]⟩) 16 rfl Tryd.underlying37 info9 rfl (by decide) (by omega) v26 y22 (⟨#[41]⟩ : ByteArray) [.string (⟨#[41]⟩ : ByteArray)] (fun k_ => (P0_ k_ ∨ w.heap.size ≤ k_) ∧ some k_ ≠ (.slice Ao9 l0.length co9 : Value).ownBlock) (fun _ => False) rfl rfl ?aP (fun _ hk => hk.elim) ?aF ?aO ?aB ?aS ?aL ?_; (case aP => exact rfl); (case aB => exact ab2_); (case aF => exact (fun k_ hk => ⟨(.inr (Nat.le_trans (by first | exact HK.out.1 | exact (show Kept w _ (fun k_ => P0_ k_) from ab34_).1) hk)), Kd.fresh' (Kd.R_lt (aR_ HO0.out)) k_ hk⟩)); (case aO => exact (aR_ HO27.out)); (case aS => exact (below_size ab2_)); (case aL => have := LMc5.out; omega); intro v28 w10 ho hb hg hat; rw [← Ny23.out] at ho; replace HO0 := am (Kd.R_after (ok := (fun k_ => (P0_ k_ ∨ w.heap.size ≤ k_))) (aR_ HO0.out) hg hat); replace HB := am (hb); replace HK := am (Kept.of_grown (S := (fun k_ => P0_ k_)) hg ab34_ (fun k_ e_ => (HO27.out.1 k_ e_).1)); have HO29 := am (ho); clear HO27 ho hb hg hat))
    go_ret
    exact ⟨_, ab16_, aRw_ (Kd.R_mono HO29.out (fun _ hk => hk.1)), ab2_, ab34_⟩
   rw [if_neg c5] at H
   exact absurd H (by simp)
  rw [if_neg c4] at H
  exact absurd H (by simp)
 replace c3 := Bool.eq_false_iff.mpr c3
 subst c3
 rw [if_neg (show ¬ (false = true) by decide)] at H
 obtain rfl := Option.some.inj H
 go_enter Tryd.func33, Tryd.ntmps33
 go_wp2
 go_ret
 exact ⟨_, ab16_, aRw_ HO0.out, ab2_, ab34_⟩
theorem spec_l5Level.calls (a0_0 : Int) (a0_1 : Int) (A0_2 : Option Addr) (c0_2 : Nat) (l0_2 : List (S29)) (r : Int) (w : World) (hr0_2 : Kd.C k29 w A0_2 l0_2.length l0_2) (hc0_2 : l0_2.length ≤ c0_2) (h : spec_l5Level.f a0_0 a0_1 l0_2 = some r) :
  Calls Tryd.prog 34 #[.agg #[.int .i64 a0_0, .int .i64 a0_1, .slice A0_2 l0_2.length c0_2]] w fun e w' => e = .returned (.int .i64 r) ∧ Below w.heap.size w w' := by
 have hu29 := Tryd.underlying29
 have HR0_2 := am hr0_2
 have HC0_2 := am hc0_2
 clear hr0_2 hc0_2
 have HB := am (Below.refl w.heap.size w)
 have H : (if (l0_2.length : Int) = 0 then (some 9) else ((spec_OpLevel.f a0_0).bind fun t20 => (some t20))) = some r := h
 clear h
 have HH_ := am H
 clear H
 go_enter Tryd.func34, Tryd.ntmps34
 go_upto_region 1 with (first | ((with_reducible refine gate_dst (N := 1) rfl ?_); refine box_event rfl (N := 1) rfl (cs := #[.int .i64 a0_0, .int .i64 a0_1, .slice A0_2 l0_2.length c0_2]) (t := 29) rn_ ?_; intro gb21 hg w3 hbox hb; have BK21 := am (hbox); have GW21 := am ((by rw [hg]; exact (below_size ab2_) : w.heap.size ≤ gb21)); have GE21 := am ((by rw [hg]; exact (below_size ab2_) : w.heap.size ≤ gb21)); replace HB := am (below_step ab2_ hb); clear hb hbox hg; obtain ⟨hcz4_0, hcz4_1, hcz4_2, hfz4_0, hfz4_1, hfz4_2⟩ := bcf3_ BK21.out))
 have H := HH_.out
 clear HH_
 by_cases c2 : (l0_2.length : Int) = 0
 ·rw [if_pos c2] at H
  have c2b0 : ((l0_2.length : Int) == 0) = true := beq_iff_eq.mpr c2
  have c2b1 : ((l0_2.length : Int) != 0) = false := bne_eq_false_iff_eq.mpr c2
  clear c2
  obtain rfl := Option.some.inj H
  go_wp2
  go_ret
  exact ⟨rr_, ab18_⟩
 rw [if_neg c2] at H
 have c2b0 : ((l0_2.length : Int) == 0) = false := beq_eq_false_iff_ne.mpr c2
 have c2b1 : ((l0_2.length : Int) != 0) = true := bne_iff_ne.mpr c2
 have c2b2 : ¬ (l0_2 = []) := fun h_ => c2 (by rw [h_]; rfl)
 obtain ⟨t20, A5, H⟩ := bsa H
 (try dsimp only at H)
 obtain rfl := Option.some.inj H
 go_wp2_with (first | ((with_reducible refine gate_callee (f := 32) rfl ?_); refine gl_ 9 Tryd.func32 #[.int .i64 a0_0] ?_; (with_reducible refine (spec_OpLevel.calls a0_0 t20 _ A5.out).mono ?_); rintro e w8 ⟨rfl, hb⟩; refine ⟨_, rfl, ?_⟩; replace BK21 := am (bbl_ BK21.out hb); replace HB := am (below_step ab18_ hb); (try clear hb)))
 go_ret
 exact ⟨rr_, ab18_⟩
theorem spec_OpText.calls (a0 : Int) (r : ByteArray) (w : World) (h : spec_OpText.f a0 = some r) :
  Calls Tryd.prog 35 #[.int .i64 a0] w fun e w' => e = .returned (.string r) ∧ Below w.heap.size w w' := by
 have HB := am (Below.refl w.heap.size w)
 have H : ((spec_OpValid.f a0).bind fun t21 => (if t21 = true then ((some (([(⟨#[124]⟩ : ByteArray), (⟨#[94]⟩ : ByteArray), (⟨#[38]⟩ : ByteArray), (⟨#[61, 61]⟩ : ByteArray), (⟨#[60]⟩ : ByteArray), (⟨#[60, 60]⟩ : ByteArray), (⟨#[62, 62]⟩ : ByteArray), (⟨#[43]⟩ : ByteArray), (⟨#[45]⟩ : ByteArray), (⟨#[42]⟩ : ByteArray), (⟨#[47]⟩ : ByteArray), (⟨#[37]⟩ : ByteArray)] : List ByteArray) : List ByteArray)).bind fun y22 => (if 0 ≤ (wrap64 (a0 - 1)) then (if (wrap64 (a0 - 1)) < (y22.length : Int) then (some (rdOf ByteArray.empty y22 (wrap64 (a0 - 1)))) else (none)) else (none))) else (some (⟨#[]⟩ : ByteArray)))) = some r := h
 clear h
 obtain ⟨t21, A2, H⟩ := bsa H
 (try dsimp only at H)
 by_cases c3 : t21 = true
 ·subst c3
  rw [if_pos rfl] at H
  obtain ⟨y22, hy_⟩ : ∃ y_ : List ByteArray, y_ = (([(⟨#[124]⟩ : ByteArray), (⟨#[94]⟩ : ByteArray), (⟨#[38]⟩ : ByteArray), (⟨#[61, 61]⟩ : ByteArray), (⟨#[60]⟩ : ByteArray), (⟨#[60, 60]⟩ : ByteArray), (⟨#[62, 62]⟩ : ByteArray), (⟨#[43]⟩ : ByteArray), (⟨#[45]⟩ : ByteArray), (⟨#[42]⟩ : ByteArray), (⟨#[47]⟩ : ByteArray), (⟨#[37]⟩ : ByteArray)] : List ByteArray)) := ⟨_, rfl⟩
  replace H : (if 0 ≤ (wrap64 (a0 - 1)) then (if (wrap64 (a0 - 1)) < (y22.length : Int) then (some (rdOf ByteArray.empty y22 (wrap64 (a0 - 1)))) else (none)) else (none)) = some r := rx_
  have Ny22 := am hy_
  clear hy_
  obtain ⟨ji4, hji4⟩ : ∃ j_ : Int, (wrap64 (a0 - 1)) = j_ := ⟨_, rfl⟩
  replace H : (if 0 ≤ (ji4) then (if (ji4) < (y22.length : Int) then (some (rdOf ByteArray.empty y22 (ji4))) else (none)) else (none)) = some r := by first | (rw [hji4] at H; exact H) | (simp only [hji4] at H ⊢; exact H)
  (try rw [hji4] at A2)
  have hji4w : (IntKind.i64.wrap (a0 - 1)) = ji4 := (i64_w _).trans hji4
  by_cases c5 : 0 ≤ (ji4)
  ·rw [if_pos c5] at H
   have c5b0 : decide (0 ≤ (ji4)) = true := decide_eq_true c5
   clear c5
   by_cases c6 : (ji4) < (y22.length : Int)
   ·rw [if_pos c6] at H
    have c6b0 : decide ((ji4) < (y22.length : Int)) = true := decide_eq_true c6
    clear c6
    obtain rfl := Option.some.inj H
    go_enter Tryd.func35, Tryd.ntmps35
    go_wp2_with (first | ((with_reducible refine gate_callee (f := 55) rfl ?_); refine gl_ 4 Tryd.func55 #[.int .i64 a0] ?_; (with_reducible refine (spec_OpValid.calls a0 true _ A2.out).mono ?_); rintro e w' ⟨rfl, ⟨nd, rfl⟩⟩; refine ⟨_, rfl, ?_⟩) | ((with_reducible refine gate_dst (N := 6) rfl ?_); refine Kd.R_lit Kd.string _ 9 rfl (N := 6) rfl (xs := ([(⟨#[124]⟩ : ByteArray), (⟨#[94]⟩ : ByteArray), (⟨#[38]⟩ : ByteArray), (⟨#[61, 61]⟩ : ByteArray), (⟨#[60]⟩ : ByteArray), (⟨#[60, 60]⟩ : ByteArray), (⟨#[62, 62]⟩ : ByteArray), (⟨#[43]⟩ : ByteArray), (⟨#[45]⟩ : ByteArray), (⟨#[42]⟩ : ByteArray), (⟨#[47]⟩ : ByteArray), (⟨#[37]⟩ : ByteArray)] : List ByteArray)) (inner := [.string (⟨#[124]⟩ : ByteArray), .string (⟨#[94]⟩ : ByteArray), .string (⟨#[38]⟩ : ByteArray), .string (⟨#[61, 61]⟩ : ByteArray), .string (⟨#[60]⟩ : ByteArray), .string (⟨#[60, 60]⟩ : ByteArray), .string (⟨#[62, 62]⟩ : ByteArray), .string (⟨#[43]⟩ : ByteArray), .string (⟨#[45]⟩ : ByteArray), .string (⟨#[42]⟩ : ByteArray), .string (⟨#[47]⟩ : ByteArray), .string (⟨#[37]⟩ : ByteArray)]) (ok := fun _ => True) (okp := fun _ => True) rn_ ?hp (fun _ hk => hk) trivial (Below.refl _ _) (Nat.le_refl _) (by simp) ?_; (case hp => exact (Reps.one (show Kd.M Kd.string _ _ _ (⟨#[124]⟩ : ByteArray) [.string (⟨#[124]⟩ : ByteArray)] from rfl) (Reps.one (show Kd.M Kd.string _ _ _ (⟨#[94]⟩ : ByteArray) [.string (⟨#[94]⟩ : ByteArray)] from rfl) (Reps.one (show Kd.M Kd.string _ _ _ (⟨#[38]⟩ : ByteArray) [.string (⟨#[38]⟩ : ByteArray)] from rfl) (Reps.one (show Kd.M Kd.string _ _ _ (⟨#[61, 61]⟩ : ByteArray) [.string (⟨#[61, 61]⟩ : ByteArray)] from rfl) (Reps.one (show Kd.M Kd.string _ _ _ (⟨#[60]⟩ : ByteArray) [.string (⟨#[60]⟩ : ByteArray)] from rfl) (Reps.one (show Kd.M Kd.string _ _ _ (⟨#[60, 60]⟩ : ByteArray) [.string (⟨#[60, 60]⟩ : ByteArray)] from rfl) (Reps.one (show Kd.M Kd.string _ _ _ (⟨#[62, 62]⟩ : ByteArray) [.string (⟨#[62, 62]⟩ : ByteArray)] from rfl) (Reps.one (show Kd.M Kd.string _ _ _ (⟨#[43]⟩ : ByteArray) [.string (⟨#[43]⟩ : ByteArray)] from rfl) (Reps.one (show Kd.M Kd.string _ _ _ (⟨#[45]⟩ : ByteArray) [.string (⟨#[45]⟩ : ByteArray)] from rfl) (Reps.one (show Kd.M Kd.string _ _ _ (⟨#[42]⟩ : ByteArray) [.string (⟨#[42]⟩ : ByteArray)] from rfl) (Reps.one (show Kd.M Kd.string _ _ _ (⟨#[47]⟩ : ByteArray) [.string (⟨#[47]⟩ : ByteArray)] from rfl) (Reps.one (show Kd.M Kd.string _ _ _ (⟨#[37]⟩ : ByteArray) [.string (⟨#[37]⟩ : ByteArray)] from rfl) (Reps.none _ _)))))))))))))); intro v23 w7 ho8 hb hg_ hnew_; clear hg_ hnew_; (first | rw [← Ny22.out] at ho8 | (simp only [Int.reduceToNat] at ho8; rw [← Ny22.out] at ho8)); have HO24 := am (Kd.R_lower ho8 (below_size ab2_)); replace HB := am (below_step ab2_ hb); clear hb ho8; obtain ⟨Ao9, co9, eo9⟩ := Kd.R_slice HO24.out; subst eo9; have p25 : 0 ≤ ((ji4) : Int) := of_decide_eq_true asm_; have q25 : (ji4) < (y22.length : Int) := of_decide_eq_true asm_; obtain ⟨ad25, e25, hx25_0⟩ := Kd.at_string (Kd.R_reads' HO24.out).2.2 (ji4) p25 q25; cases e25; replace p25 := eq_true p25; replace q25 := eq_true q25))
    go_ret
    exact ⟨by first | rfl | (simp [errW_none, errW_some] <;> rfl) | (simp only [← hji4]; first | rfl | (simp [errW_none, errW_some] <;> rfl)) | (simp [*, errW_none, errW_some] <;> rfl), ab2_⟩
   rw [if_neg c6] at H
   exact absurd H (by simp)
  rw [if_neg c5] at H
  exact absurd H (by simp)
 replace c3 := Bool.eq_false_iff.mpr c3
 subst c3
 rw [if_neg (show ¬ (false = true) by decide)] at H
 obtain rfl := Option.some.inj H
 go_enter Tryd.func35, Tryd.ntmps35
 go_wp2_with (first | ((with_reducible refine gate_callee (f := 55) rfl ?_); refine gl_ 4 Tryd.func55 #[.int .i64 a0] ?_; (with_reducible refine (spec_OpValid.calls a0 false _ A2.out).mono ?_); rintro e w' ⟨rfl, ⟨nd, rfl⟩⟩; refine ⟨_, rfl, ?_⟩))
 go_ret
 exact ⟨rr_, ab2_⟩
theorem spec_l5Tokens.mono_l : ∀ k, (∀ y0 y1 y2, LeO (spec_l5Tokens.f k y0 y1 y2) (spec_l5Tokens.f (k + 1) y0 y1 y2))
 | 0 => fun _ _ _ r h => by simp [spec_l5Tokens.f] at h
 | k + 1 => by
  have ih0 := spec_l5Tokens.mono_l k
  ·intro y0 y1 y2
   unfold spec_l5Tokens.f
   have m0 := @spec_l6Dec.mono
   exact mo_
theorem spec_l5Tokens.mono : ∀ a0 a1 a2 k, LeO (spec_l5Tokens.f k a0 a1 a2) (spec_l5Tokens.f (k + 1) a0 a1 a2) := by
 intro a0 a1 a2 k
 have ih0 := spec_l5Tokens.mono_l k
 exact ih0 a0 a1 a2
def spec_l5Tokens.T6 : Bool × List (List Nat × List Nat) := (true, [([], []), ([0], [0]), ([1], [1]), ([2], [2]), ([3], [3]), ([], []), ([5], [5]), ([6], [6]), ([7], [7]), ([8, 4], [8]), ([], []), ([9, 10], [9, 10]), ([4, 11, 9], [4, 11]), ([12, 12, 0, 1, 2, 3, 4, 5, 6, 7, 8, 9, 10, 11, 12], [12])])
def spec_l5Tokens.B6 : List Nat := [0, 1, 3, 7, 15, 0, 32, 96, 224, 511, 0, 2047, 4095, 8191]
theorem spec_l5Tokens.tab6 : rtab .any (opsOf Tryd.f18 6) = spec_l5Tokens.T6 := by kernel_rfl
theorem spec_l5Tokens.bits6 : waitsOk spec_l5Tokens.T6.2 spec_l5Tokens.B6 = true := by kernel_rfl
def spec_l5Tokens.T8 : Bool × List (List Nat × List Nat) := (true, [([], []), ([], []), ([1], [1]), ([2], [2]), ([3], [3]), ([4], [4]), ([], []), ([6], [6]), ([7], [7]), ([8], [8]), ([9, 5], [9]), ([], []), ([10, 11], [10, 11]), ([5, 12, 10], [5, 12]), ([0, 13, 13], [0, 13]), ([14, 14, 0, 1, 2, 3, 4, 5, 6, 7, 8, 9, 10, 11, 12, 13, 14], [14])])
def spec_l5Tokens.B8 : List Nat := [0, 0, 2, 6, 14, 30, 0, 64, 192, 448, 1022, 0, 4094, 8190, 16383, 32767]
theorem spec_l5Tokens.tab8 : rtab .any (opsOf Tryd.f18 8) = spec_l5Tokens.T8 := by kernel_rfl
theorem spec_l5Tokens.bits8 : waitsOk spec_l5Tokens.T8.2 spec_l5Tokens.B8 = true := by kernel_rfl
theorem spec_l5Tokens.calls (k : Nat) : ∀ (a0_0 : Int) (a0_1 : Int) (A0_2 : Option Addr) (c0_2 : Nat) (l0_2 : List (S29)) (r : List ByteArray) (w : World) (hr0_2 : Kd.C k29 w A0_2 l0_2.length l0_2) (hc0_2 : l0_2.length ≤ c0_2) (h : spec_l5Tokens.f k a0_0 a0_1 l0_2 = some r),
  Calls Tryd.prog 18 #[.agg #[.int .i64 a0_0, .int .i64 a0_1, .slice A0_2 l0_2.length c0_2]] w fun e w' => ∃ v0_ : Value, e = .returned (v0_) ∧ Kd.R Kd.string 9 w' w.heap.size (fun _ => True) v0_ r ∧ Below w.heap.size w w' := by
 induction k using Nat.strongRecOn with
 | _ k ih =>
 intro a0_0 a0_1 A0_2 c0_2 l0_2 r w hr0_2 hc0_2 h
 cases k with
 | zero => exact absurd h (by simp [spec_l5Tokens.f])
 | succ k =>
 simp only [spec_l5Tokens.f] at h
 have hu29 := Tryd.underlying29
 have HR0_2 := am hr0_2
 have HC0_2 := am hc0_2
 clear hr0_2 hc0_2
 have HB := am (Below.refl w.heap.size w)
 have H : (if a0_0 = 0 then ((spec_l6Dec.f k a0_1).bind fun t56 => (some (([t56] : List ByteArray)))) else (if a0_0 = 13 then ((spec_l5Name.f a0_1).bind fun t57 => (some (([t57] : List ByteArray)))) else ((spec_OpLevel.f a0_0).bind fun t58 => (if 0 < (l0_2.length : Int) then ((spec_l5Tokens.f k ((rd_T29 l0_2 0).f0) ((rd_T29 l0_2 0).f1) ((rd_T29 l0_2 0).f2)).bind fun t59 => ((spec_l5Level.f ((rd_T29 l0_2 0).f0) ((rd_T29 l0_2 0).f1) ((rd_T29 l0_2 0).f2)).bind fun t60 => ((spec_l5Wrap.f t59 (decide (t60 < t58))).bind fun t61 => ((spec_OpText.f a0_0).bind fun t62 => (if t61.length < 8796093022208 then ((some (t61 ++ [t62] : List ByteArray)).bind fun y63 => (if 1 < (l0_2.length : Int) then ((spec_l5Tokens.f k ((rd_T29 l0_2 1).f0) ((rd_T29 l0_2 1).f1) ((rd_T29 l0_2 1).f2)).bind fun t65 => ((spec_l5Level.f ((rd_T29 l0_2 1).f0) ((rd_T29 l0_2 1).f1) ((rd_T29 l0_2 1).f2)).bind fun t66 => ((spec_l5Wrap.f t65 (decide (t66 ≤ t58))).bind fun t67 => (if y63.length + t67.length < 8796093022208 then (some (y63 ++ t67)) else (none))))) else (none))) else (none)))))) else (none))))) = some r := h
 clear h
 have HH_ := am H
 clear H
 go_enter Tryd.func18, Tryd.ntmps18
 go_upto_region 1 with (first | ((with_reducible refine gate_dst (N := 1) rfl ?_); refine box_event rfl (N := 1) rfl (cs := #[.int .i64 a0_0, .int .i64 a0_1, .slice A0_2 l0_2.length c0_2]) (t := 29) rn_ ?_; intro gb68 hg w4 hbox hb; have BK68 := am (hbox); have GW68 := am ((by rw [hg]; exact (below_size ab2_) : w.heap.size ≤ gb68)); have GE68 := am ((by rw [hg]; exact (below_size ab2_) : w.heap.size ≤ gb68)); replace HB := am (below_step ab2_ hb); clear hb hbox hg; obtain ⟨hcz5_0, hcz5_1, hcz5_2, hfz5_0, hfz5_1, hfz5_2⟩ := bcf3_ BK68.out))
 have H := HH_.out
 clear HH_
 by_cases c2 : a0_0 = 0
 ·rw [if_pos c2] at H
  have c2b0 : (a0_0 == 0) = true := beq_iff_eq.mpr c2
  have c2b1 : (a0_0 != 0) = false := bne_eq_false_iff_eq.mpr c2
  clear c2
  obtain ⟨t56, A3, H⟩ := bsa H
  (try dsimp only at H)
  obtain ⟨y69, hy_⟩ : ∃ y_ : List ByteArray, y_ = (([t56] : List ByteArray)) := ⟨_, rfl⟩
  replace H : (some y69) = some r := rx_
  have Ny69 := am hy_
  clear hy_
  obtain rfl := Option.some.inj H
  go_wp2_with (first | ((with_reducible refine gate_callee (f := 30) rfl ?_); refine gl_ 10 Tryd.func30 #[.int .i64 a0_1] ?_; (with_reducible refine (spec_l6Dec.calls k a0_1 t56 _ A3.out).mono ?_); rintro e w6 ⟨rfl, hb⟩; refine ⟨_, rfl, ?_⟩; replace BK68 := am (bbl_ BK68.out hb); replace HB := am (below_step ab10_ hb); (try clear hb)) | ((with_reducible refine gate_dst (N := 11) rfl ?_); refine Kd.R_lit Kd.string _ 9 rfl (N := 11) rfl (xs := ([t56] : List ByteArray)) (inner := [.string t56]) (ok := fun _ => True) (okp := fun _ => True) rn_ ?hp (fun _ hk => hk) trivial (Below.refl _ _) (Nat.le_refl _) (by simp) ?_; (case hp => exact (Reps.one (show Kd.M Kd.string _ _ _ t56 [.string t56] from rfl) (Reps.none _ _))); intro v70 w7 ho8 hb hg_ hnew_; clear hg_ hnew_; (first | rw [← Ny69.out] at ho8 | (simp only [Int.reduceToNat] at ho8; rw [← Ny69.out] at ho8)); have HO71 := am (Kd.R_lower ho8 (below_size ab10_)); replace BK68 := am (bbl_ BK68.out hb); replace HB := am (below_step ab10_ hb); clear hb ho8))
  go_ret
  exact ⟨_, ab16_, aRw_ HO71.out, ab10_⟩
 rw [if_neg c2] at H
 have c2b0 : (a0_0 == 0) = false := beq_eq_false_iff_ne.mpr c2
 have c2b1 : (a0_0 != 0) = true := bne_iff_ne.mpr c2
 by_cases c9 : a0_0 = 13
 ·rw [if_pos c9] at H
  have c9b0 : (a0_0 == 13) = true := beq_iff_eq.mpr c9
  have c9b1 : (a0_0 != 13) = false := bne_eq_false_iff_eq.mpr c9
  clear c9
  obtain ⟨t57, A72, H⟩ := bsm H
  (try dsimp only at H)
  have A10 := am A72
  clear A72
  obtain ⟨y73, hy_⟩ : ∃ y_ : List ByteArray, y_ = (([t57] : List ByteArray)) := ⟨_, rfl⟩
  replace H : (some y73) = some r := rx_
  have Ny73 := am hy_
  clear hy_
  obtain rfl := Option.some.inj H
  go_wp2_with (first | ((with_reducible refine gate_callee (f := 31) rfl ?_); refine gl_ 17 Tryd.func31 #[.int .i64 a0_1] ?_; (with_reducible refine (spec_l5Name.calls a0_1 t57 _ A10.out).mono ?_); rintro e w13 ⟨rfl, hb⟩; refine ⟨_, rfl, ?_⟩; replace BK68 := am (bbl_ BK68.out hb); replace HB := am (below_step ab10_ hb); (try clear hb)) | ((with_reducible refine gate_dst (N := 18) rfl ?_); refine Kd.R_lit Kd.string _ 9 rfl (N := 18) rfl (xs := ([t57] : List ByteArray)) (inner := [.string t57]) (ok := fun _ => True) (okp := fun _ => True) rn_ ?hp (fun _ hk => hk) trivial (Below.refl _ _) (Nat.le_refl _) (by simp) ?_; (case hp => exact (Reps.one (show Kd.M Kd.string _ _ _ t57 [.string t57] from rfl) (Reps.none _ _))); intro v74 w14 ho15 hb hg_ hnew_; clear hg_ hnew_; (first | rw [← Ny73.out] at ho15 | (simp only [Int.reduceToNat] at ho15; rw [← Ny73.out] at ho15)); have HO75 := am (Kd.R_lower ho15 (below_size ab10_)); replace BK68 := am (bbl_ BK68.out hb); replace HB := am (below_step ab10_ hb); clear hb ho15))
  go_ret
  exact ⟨_, ab16_, aRw_ HO75.out, ab10_⟩
 rw [if_neg c9] at H
 have c9b0 : (a0_0 == 13) = false := beq_eq_false_iff_ne.mpr c9
 have c9b1 : (a0_0 != 13) = true := bne_iff_ne.mpr c9
 obtain ⟨t58, A69, H⟩ := bsm H
 (try dsimp only at H)
 have A16 := am A69
 clear A69
 by_cases c17 : 0 < (l0_2.length : Int)
 ·rw [if_pos c17] at H
  have c17b0 : decide (0 < (l0_2.length : Int)) = true := decide_eq_true c17
  have c17b1 : decide (0 < l0_2.length) = true := decide_eq_true (by omega)
  clear c17
  obtain ⟨t59, A76, H⟩ := bsm H
  (try dsimp only at H)
  have A18 := am A76
  clear A76
  obtain ⟨t60, A77, H⟩ := bsm H
  (try dsimp only at H)
  have A19 := am A77
  clear A77
  obtain ⟨t61, A78, H⟩ := bsm H
  (try dsimp only at H)
  have A20 := am A78
  clear A78
  obtain ⟨t62, A79, H⟩ := bsm H
  (try dsimp only at H)
  have A21 := am A79
  clear A79
  by_cases c22 : t61.length < 8796093022208
  ·rw [if_pos c22] at H
   have LMc22 := am c22
   clear c22
   obtain ⟨y63, hy_⟩ : ∃ y_ : List ByteArray, y_ = (t61 ++ [t62]) := ⟨_, rfl⟩
   replace H : (if 1 < (l0_2.length : Int) then ((spec_l5Tokens.f k ((rd_T29 l0_2 1).f0) ((rd_T29 l0_2 1).f1) ((rd_T29 l0_2 1).f2)).bind fun t65 => ((spec_l5Level.f ((rd_T29 l0_2 1).f0) ((rd_T29 l0_2 1).f1) ((rd_T29 l0_2 1).f2)).bind fun t66 => ((spec_l5Wrap.f t65 (decide (t66 ≤ t58))).bind fun t67 => (if y63.length + t67.length < 8796093022208 then (some (y63 ++ t67)) else (none))))) else (none)) = some r := rx_
   have Ny63 := am hy_
   clear hy_
   by_cases c23 : 1 < (l0_2.length : Int)
   ·rw [if_pos c23] at H
    have c23b0 : decide (1 < (l0_2.length : Int)) = true := decide_eq_true c23
    have c23b1 : decide (1 < l0_2.length) = true := decide_eq_true (by omega)
    clear c23
    obtain ⟨t65, A24, H⟩ := bsa H
    (try dsimp only at H)
    obtain ⟨t66, A81, H⟩ := bsm H
    (try dsimp only at H)
    have A25 := am A81
    clear A81
    obtain ⟨t67, A82, H⟩ := bsm H
    (try dsimp only at H)
    have A26 := am A82
    clear A82
    by_cases c27 : y63.length + t67.length < 8796093022208
    ·rw [if_pos c27] at H
     have LMc27 := am c27
     clear c27
     obtain ⟨y77, hy_⟩ : ∃ y_ : List ByteArray, y_ = (y63 ++ t67) := ⟨_, rfl⟩
     replace H : (some y77) = some r := rx_
     have Ny77 := am hy_
     clear hy_
     obtain rfl := Option.some.inj H
     try go_wp2_with (first | ((with_reducible refine gate_callee (f := 32) rfl ?_); refine gl_ 21 Tryd.func32 #[.int .i64 a0_0] ?_; (with_reducible refine (spec_OpLevel.calls a0_0 t58 _ A16.out).mono ?_); rintro e w30 ⟨rfl, hb⟩; refine ⟨_, rfl, ?_⟩; replace BK68 := am (bbl_ BK68.out hb); replace HB := am (below_step ab10_ hb); (try clear hb)))
     replace BK68 := am (blk_drew BK68.out)
     replace HB := am (below_drew1 HB.out)
     have p83 : 0 ≤ (0 : Int) := (by omega)
     have q83 : 0 < (l0_2.length : Int) := of_decide_eq_true asm_
     obtain ⟨ad83, A83_2, c83_2, e83, hx83_0, hx83_1, hx83_2, hl83_2, hi83_2⟩ := at_T29 HR0_2.out 0 p83 q83
     have hw83_2 := hx83_2
     (try rw [show ((0 : Int)).toNat = 0 from rfl] at hw83_2)
     (try rw [show 0 * 3 = 0 from rfl] at hw83_2)
     (try rw [Addr.add_zero'] at hw83_2)
     have hw83_1 := hx83_1
     (try rw [show ((0 : Int)).toNat = 0 from rfl] at hw83_1)
     (try rw [show 0 * 3 = 0 from rfl] at hw83_1)
     (try rw [Addr.add_zero'] at hw83_1)
     have hw83_0 := hx83_0
     (try rw [show ((0 : Int)).toNat = 0 from rfl] at hw83_0)
     (try rw [show 0 * 3 = 0 from rfl] at hw83_0)
     (try rw [Addr.add_zero'] at hw83_0)
     cases e83
     have qi83 : (0 < l0_2.length) = True := eq_true (by omega)
     (try rw [show ((0 : Int)).toNat = 0 from rfl] at hx83_0)
     (try rw [show 0 * 3 = 0 from rfl] at hx83_0)
     (try rw [Addr.add_zero'] at hx83_0)
     (try rw [show ((0 : Int)).toNat = 0 from rfl] at hx83_1)
     (try rw [show 0 * 3 = 0 from rfl] at hx83_1)
     (try rw [Addr.add_zero'] at hx83_1)
     (try rw [show ((0 : Int)).toNat = 0 from rfl] at hx83_2)
     (try rw [show 0 * 3 = 0 from rfl] at hx83_2)
     (try rw [Addr.add_zero'] at hx83_2)
     replace hx83_0 := (HB.out.cell (World.block_lt_of_cell? w _ hx83_0)).trans hx83_0
     replace hx83_1 := (HB.out.cell (World.block_lt_of_cell? w _ hx83_1)).trans hx83_1
     replace hx83_2 := (HB.out.cell (World.block_lt_of_cell? w _ hx83_2)).trans hx83_2
     have HR83_2 := am hi83_2
     have HC83_2 := am hl83_2
     clear hi83_2 hl83_2
     replace p83 := eq_true p83
     replace q83 := eq_true q83
     have p84 : 0 ≤ (0 : Int) := (by omega)
     have q84 : 0 < (l0_2.length : Int) := of_decide_eq_true asm_
     obtain ⟨ad84, A84_2, c84_2, e84, hx84_0, hx84_1, hx84_2, hl84_2, hi84_2⟩ := at_T29 HR0_2.out 0 p84 q84
     have hw84_2 := hx84_2
     (try rw [show ((0 : Int)).toNat = 0 from rfl] at hw84_2)
     (try rw [show 0 * 3 = 0 from rfl] at hw84_2)
     (try rw [Addr.add_zero'] at hw84_2)
     have hw84_1 := hx84_1
     (try rw [show ((0 : Int)).toNat = 0 from rfl] at hw84_1)
     (try rw [show 0 * 3 = 0 from rfl] at hw84_1)
     (try rw [Addr.add_zero'] at hw84_1)
     have hw84_0 := hx84_0
     (try rw [show ((0 : Int)).toNat = 0 from rfl] at hw84_0)
     (try rw [show 0 * 3 = 0 from rfl] at hw84_0)
     (try rw [Addr.add_zero'] at hw84_0)
     obtain rfl : ad83 = ad84 := (by injection e84)
     have qi84 : (0 < l0_2.length) = True := eq_true (by omega)
     (try rw [show ((0 : Int)).toNat = 0 from rfl] at hx84_0)
     (try rw [show 0 * 3 = 0 from rfl] at hx84_0)
     (try rw [Addr.add_zero'] at hx84_0)
     (try rw [show ((0 : Int)).toNat = 0 from rfl] at hx84_1)
     (try rw [show 0 * 3 = 0 from rfl] at hx84_1)
     (try rw [Addr.add_zero'] at hx84_1)
     (try rw [show ((0 : Int)).toNat = 0 from rfl] at hx84_2)
     (try rw [show 0 * 3 = 0 from rfl] at hx84_2)
     (try rw [Addr.add_zero'] at hx84_2)
     replace hx84_0 := (HB.out.cell (World.block_lt_of_cell? w _ hx84_0)).trans hx84_0
     replace hx84_1 := (HB.out.cell (World.block_lt_of_cell? w _ hx84_1)).trans hx84_1
     replace hx84_2 := (HB.out.cell (World.block_lt_of_cell? w _ hx84_2)).trans hx84_2
     have HR84_2 := am hi84_2
     have HC84_2 := am hl84_2
     clear hi84_2 hl84_2
     replace p84 := eq_true p84
     replace q84 := eq_true q84
     have ea_ := Option.some.inj (hx83_2.symm.trans hx84_2)
     injection ea_ with ea_ en_ ec_
     subst ea_
     subst ec_
     clear en_
     refine start_ (n := 14) (S := fun w' => w'.cell? ⟨gb68, 0, none⟩ = some (.int .i64 a0_0) ∧ w'.cell? ⟨gb68, 1, none⟩ = some (.int .i64 a0_1) ∧ w'.cell? ⟨gb68, 2, none⟩ = some (.slice (some ad83) l0_2.length c0_2) ∧ w'.cell? ad83 = some (.int .i64 ((rd_T29 l0_2 0).f0)) ∧ w'.cell? ⟨ad83.block, ad83.off + 1, none⟩ = some (.int .i64 ((rd_T29 l0_2 0).f1)) ∧ w'.cell? ⟨ad83.block, ad83.off + 2, none⟩ = some (.slice A83_2 ((rd_T29 l0_2 0).f2).length c83_2) ∧ w'.cell? ad83 = some (.int .i64 ((rd_T29 l0_2 0).f0)) ∧ w'.cell? ⟨ad83.block, ad83.off + 1, none⟩ = some (.int .i64 ((rd_T29 l0_2 0).f1)) ∧ w'.cell? ⟨ad83.block, ad83.off + 2, none⟩ = some (.slice A83_2 ((rd_T29 l0_2 0).f2).length c83_2)) (ds := []) (bz 14 0) (by kernel_rfl) rfl rfl ⟨(blk_cell BK68.out 0).trans rfl, (blk_cell BK68.out 1).trans rfl, (blk_cell BK68.out 2).trans rfl, ((HB.out.cell (World.block_lt_of_cell? w _ hw83_0)).trans hw83_0), ((HB.out.cell (World.block_lt_of_cell? w _ hw83_1)).trans hw83_1), ((HB.out.cell (World.block_lt_of_cell? w _ hw83_2)).trans hw83_2), ((HB.out.cell (World.block_lt_of_cell? w _ hw84_0)).trans hw84_0), ((HB.out.cell (World.block_lt_of_cell? w _ hw84_1)).trans hw84_1), ((HB.out.cell (World.block_lt_of_cell? w _ hw84_2)).trans hw84_2)⟩ (fun hHeld => ?_); refine with_tabW spec_l5Tokens.tab6 spec_l5Tokens.bits6 (fun HT_ HW_ => ?_)
     generalize w30.drew = w31 at BK68 HB HR83_2 HR84_2 hx83_0 hx83_1 hx83_2 hx84_0 hx84_1 hx84_2 hHeld ⊢
     refine pr_ 0 22 (bz 14 1) HT_ ?_
     refine pr_ 5 27 (bz 14 33) HT_ ?_
     refine pr_ 10 32 (bz 14 1057) HT_ ?_
     refine tk9_ 1 23 (bz 14 1059) HT_ HW_ hHeld ?_
     refine pr_ 2 24 (bz 14 1063) HT_ ?_
     refine tk9_ 3 25 (bz 14 1071) HT_ HW_ hHeld ?_
     refine tk9_ 6 28 (bz 14 1135) HT_ HW_ hHeld ?_
     refine pr_ 7 29 (bz 14 1263) HT_ ?_
     refine tk9_ 8 30 (bz 14 1519) HT_ HW_ hHeld ?_
     refine one_ (i := 4) (N := some 26) (bz 14 1535) rfl rfl (one_of HT_.out (by kernel_rfl)) (by decide) (fun K hK => ?_)
     refine goes_ Tryd.func18 (by kernel_rfl) rfl #[.agg #[.int .i64 ((rd_T29 l0_2 0).f0), .int .i64 ((rd_T29 l0_2 0).f1), .slice A83_2 ((rd_T29 l0_2 0).f2).length c83_2]] (by rfl) rfl rfl ab1_ ?_
     with_reducible refine (ih k (by omega) ((rd_T29 l0_2 0).f0) ((rd_T29 l0_2 0).f1) _ _ ((rd_T29 l0_2 0).f2) t59 _ (aC_ (Kd.C_below HR83_2.out HB.out)) HC83_2.out A18.out).mono ?_
     rintro e w32 ⟨v85, rfl, ho0, hb⟩
     refine ⟨_, rfl, ?_⟩
     have HO86 := am (Kd.R_lower ho0 (below_size ab10_))
     replace BK68 := am (bbl_ BK68.out hb)
     replace HB := am (below_step ab10_ hb)
     (try clear hb)
     (try clear hb2)
     (try clear hk)
     (try clear hi)
     (try clear ho0)
     refine hK.out _ _ ⟨(blk_cell BK68.out 0).trans rfl, (blk_cell BK68.out 1).trans rfl, (blk_cell BK68.out 2).trans rfl, ((HB.out.cell (World.block_lt_of_cell? w _ hw83_0)).trans hw83_0), ((HB.out.cell (World.block_lt_of_cell? w _ hw83_1)).trans hw83_1), ((HB.out.cell (World.block_lt_of_cell? w _ hw83_2)).trans hw83_2), ((HB.out.cell (World.block_lt_of_cell? w _ hw84_0)).trans hw84_0), ((HB.out.cell (World.block_lt_of_cell? w _ hw84_1)).trans hw84_1), ((HB.out.cell (World.block_lt_of_cell? w _ hw84_2)).trans hw84_2)⟩ (fun hHeld => ?_)
     clear hK K
     refine norm_ (a' := ?_) ?_ ?_
     rotate_left
     ·show Act.put _ (some 26) _ = _
      simp only [Act.put, List.setIfInBounds_toArray, List.set_cons_zero, List.set_cons_succ, i64_w, i32_w]
      rfl
     refine one_ (i := 9) (N := some 31) (bz 14 2047) rfl rfl (one_of HT_.out (by kernel_rfl)) (by decide) (fun K hK => ?_)
     refine goes_ Tryd.func34 (by kernel_rfl) rfl #[.agg #[.int .i64 ((rd_T29 l0_2 0).f0), .int .i64 ((rd_T29 l0_2 0).f1), .slice A83_2 ((rd_T29 l0_2 0).f2).length c83_2]] (by rfl) rfl rfl ab1_ ?_
     with_reducible refine (spec_l5Level.calls ((rd_T29 l0_2 0).f0) ((rd_T29 l0_2 0).f1) _ _ ((rd_T29 l0_2 0).f2) t60 _ (aC_ (Kd.C_below HR84_2.out HB.out)) HC84_2.out A19.out).mono ?_
     rintro e w33 ⟨rfl, hb⟩
     refine ⟨_, rfl, ?_⟩
     replace HO86 := am (Kd.R_below (aR_ HO86.out) hb)
     replace BK68 := am (bbl_ BK68.out hb)
     replace HB := am (below_step ab10_ hb)
     (try clear hb)
     (try clear hb2)
     (try clear hk)
     (try clear hi)
     obtain ⟨Ao34, co34, eo34⟩ := Kd.R_slice HO86.out
     (first | subst eo34 | (injection eo34 with f1_ f2_ f3_; have f4_ := f1_.symm; have f5_ := f3_.symm; clear f1_ f2_ f3_; subst f4_; subst f5_))
     refine hK.out _ _ ⟨(blk_cell BK68.out 0).trans rfl, (blk_cell BK68.out 1).trans rfl, (blk_cell BK68.out 2).trans rfl, ((HB.out.cell (World.block_lt_of_cell? w _ hw83_0)).trans hw83_0), ((HB.out.cell (World.block_lt_of_cell? w _ hw83_1)).trans hw83_1), ((HB.out.cell (World.block_lt_of_cell? w _ hw83_2)).trans hw83_2), ((HB.out.cell (World.block_lt_of_cell? w _ hw84_0)).trans hw84_0), ((HB.out.cell (World.block_lt_of_cell? w _ hw84_1)).trans hw84_1), ((HB.out.cell (World.block_lt_of_cell? w _ hw84_2)).trans hw84_2)⟩ (fun hHeld => ?_)
     clear hK K
     refine norm_ (a' := ?_) ?_ ?_
     rotate_left
     ·show Act.put _ (some 31) _ = _
      simp only [Act.put, List.setIfInBounds_toArray, List.set_cons_zero, List.set_cons_succ, i64_w, i32_w]
      rfl
     refine pr_ 11 33 (bz 14 4095) HT_ ?_
     refine one_ (i := 12) (N := some 34) (bz 14 8191) rfl rfl (one_of HT_.out (by kernel_rfl)) (by decide) (fun K hK => ?_)
     refine goes_ Tryd.func33 (by kernel_rfl) rfl #[.slice Ao34 t59.length co34, .bool (decide (t60 < t58))] (by rfl) rfl rfl ab1_ ?_
     with_reducible refine (spec_l5Wrap.calls (fun k_ => some k_ = (.slice Ao34 t59.length co34 : Value).ownBlock) (.slice Ao34 t59.length co34) t59 (decide (t60 < t58)) t61 w _ ?side1 ?side2 A20.out).mono ?_
     (case side1 => exact ab10_)
     (case side2 => exact Kd.R_tight rfl HO86.out)
     rintro e w35 ⟨v87, rfl, ho0, hb, hkp⟩
     refine ⟨_, rfl, ?_⟩
     replace BK68 := am (blk_kept (aG_ BK68.out) hkp (fun hs_ => (fun e_ => (Kd.R_ne HO86.out BK68.out (by decide)) e_) hs_))
     have HO88 := am (Kd.R_mono (ok' := fun k_ => True) ho0 (fun k_ hk_ => trivial))
     replace HB := am (hb)
     clear HO86
     (try clear hb)
     (try clear hkp)
     (try clear ho0)
     refine hK.out _ _ ⟨(blk_cell BK68.out 0).trans rfl, (blk_cell BK68.out 1).trans rfl, (blk_cell BK68.out 2).trans rfl, ((HB.out.cell (World.block_lt_of_cell? w _ hw83_0)).trans hw83_0), ((HB.out.cell (World.block_lt_of_cell? w _ hw83_1)).trans hw83_1), ((HB.out.cell (World.block_lt_of_cell? w _ hw83_2)).trans hw83_2), ((HB.out.cell (World.block_lt_of_cell? w _ hw84_0)).trans hw84_0), ((HB.out.cell (World.block_lt_of_cell? w _ hw84_1)).trans hw84_1), ((HB.out.cell (World.block_lt_of_cell? w _ hw84_2)).trans hw84_2)⟩ (fun hHeld => ?_)
     clear hK K
     refine norm_ (a' := ?_) ?_ ?_
     rotate_left
     ·show Act.put _ (some 34) _ = _
      simp only [Act.put, List.setIfInBounds_toArray, List.set_cons_zero, List.set_cons_succ, i64_w, i32_w]
      rfl
     refine pr_ 13 4 (bz 14 16383) HT_ ?_
     refine done_ (done_of HT_.out (by kernel_rfl)) ?_
     obtain ⟨hcz36_0, hcz36_1, hcz36_2, hfz36_0, hfz36_1, hfz36_2⟩ := bcf3_ BK68.out
     try go_wp2_with (first | ((with_reducible refine gate_callee (f := 35) rfl ?_); refine gl_ 38 Tryd.func35 #[.int .i64 a0_0] ?_; (with_reducible refine (spec_OpText.calls a0_0 t62 _ A21.out).mono ?_); rintro e w37 ⟨rfl, hb⟩; refine ⟨_, rfl, ?_⟩; replace HO88 := am (Kd.R_below (aR_ HO88.out) hb); replace BK68 := am (bbl_ BK68.out hb); replace HB := am (below_step ab10_ hb); (try clear hb)) | ((with_reducible refine gate_builtin (b := .append) (xs := #[.tmp 35, .tmp 39]) rfl ?_); at_builtin; refine Kd.R_append Kd.string (w0 := w) w.heap.size rfl (.tmp 35) (.tmp 39) 37 9 (.string ⟨#[]⟩) 16 rfl Tryd.underlying37 info9 rfl (by decide) (by omega) v87 t61 t62 [.string t62] (fun _ => True) (fun _ => False) rfl rfl ?aP (fun _ hk => hk.elim) ?aF ?aO ?aB ?aS ?aL ?_; (case aP => exact rfl); (case aB => exact ab10_); (case aF => exact (fun _ _ => trivial)); (case aO => exact (aR_ HO88.out)); (case aS => exact (below_size ab10_)); (case aL => have := LMc22.out; omega); intro v89 w38 ho hb hg hat; rw [← Ny63.out] at ho; replace BK68 := am (blk_grown (g := gb68) (o := .cells #[.int .i64 a0_0, .int .i64 a0_1, .slice (some ad83) l0_2.length c0_2] 29 (0, 0)) (aG_ BK68.out) hg (Kd.R_ne HO88.out BK68.out (by decide))); replace HB := am (hb); have HO76 := am (ho); clear HO88 ho hb hg hat))
     replace HO76 := am (Kd.R_drew HO76.out)
     replace BK68 := am (blk_drew BK68.out)
     replace HB := am (below_drew1 HB.out)
     have p90 : 0 ≤ (1 : Int) := (by omega)
     have q90 : 1 < (l0_2.length : Int) := of_decide_eq_true asm_
     obtain ⟨ad90, A90_2, c90_2, e90, hx90_0, hx90_1, hx90_2, hl90_2, hi90_2⟩ := at_T29 HR0_2.out 1 p90 q90
     have hw90_2 := hx90_2
     (try rw [show ((1 : Int)).toNat = 1 from rfl] at hw90_2)
     (try rw [show 1 * 3 = 3 from rfl] at hw90_2)
     (try simp only [Nat.reduceMul, Nat.reduceEqDiff, Go.Addr.add, ↓reduceIte] at hw90_2)
     have hw90_1 := hx90_1
     (try rw [show ((1 : Int)).toNat = 1 from rfl] at hw90_1)
     (try rw [show 1 * 3 = 3 from rfl] at hw90_1)
     (try simp only [Nat.reduceMul, Nat.reduceEqDiff, Go.Addr.add, ↓reduceIte] at hw90_1)
     have hw90_0 := hx90_0
     (try rw [show ((1 : Int)).toNat = 1 from rfl] at hw90_0)
     (try rw [show 1 * 3 = 3 from rfl] at hw90_0)
     (try simp only [Nat.reduceMul, Nat.reduceEqDiff, Go.Addr.add, ↓reduceIte] at hw90_0)
     obtain rfl : ad83 = ad90 := (by injection e90)
     (try simp only [show (1 : Int).toNat = 1 from rfl, Nat.reduceMul, Nat.reduceEqDiff, Go.Addr.add, ↓reduceIte] at hx90_0)
     (try simp only [show (1 : Int).toNat = 1 from rfl, Nat.reduceMul, Nat.reduceEqDiff, Go.Addr.add, ↓reduceIte] at hx90_1)
     (try simp only [show (1 : Int).toNat = 1 from rfl, Nat.reduceMul, Nat.reduceEqDiff, Go.Addr.add, ↓reduceIte] at hx90_2)
     have qi90 : (1 < l0_2.length) = True := eq_true (by omega)
     (try rw [show ((1 : Int)).toNat = 1 from rfl] at hx90_0)
     (try rw [show 1 * 3 = 3 from rfl] at hx90_0)
     (try rw [show ((1 : Int)).toNat = 1 from rfl] at hx90_1)
     (try rw [show 1 * 3 = 3 from rfl] at hx90_1)
     (try rw [show ((1 : Int)).toNat = 1 from rfl] at hx90_2)
     (try rw [show 1 * 3 = 3 from rfl] at hx90_2)
     replace hx90_0 := (HB.out.cell (World.block_lt_of_cell? w _ hx90_0)).trans hx90_0
     replace hx90_1 := (HB.out.cell (World.block_lt_of_cell? w _ hx90_1)).trans hx90_1
     replace hx90_2 := (HB.out.cell (World.block_lt_of_cell? w _ hx90_2)).trans hx90_2
     have HR90_2 := am hi90_2
     have HC90_2 := am hl90_2
     clear hi90_2 hl90_2
     replace p90 := eq_true p90
     replace q90 := eq_true q90
     have p91 : 0 ≤ (1 : Int) := (by omega)
     have q91 : 1 < (l0_2.length : Int) := of_decide_eq_true asm_
     obtain ⟨ad91, A91_2, c91_2, e91, hx91_0, hx91_1, hx91_2, hl91_2, hi91_2⟩ := at_T29 HR0_2.out 1 p91 q91
     have hw91_2 := hx91_2
     (try rw [show ((1 : Int)).toNat = 1 from rfl] at hw91_2)
     (try rw [show 1 * 3 = 3 from rfl] at hw91_2)
     (try simp only [Nat.reduceMul, Nat.reduceEqDiff, Go.Addr.add, ↓reduceIte] at hw91_2)
     have hw91_1 := hx91_1
     (try rw [show ((1 : Int)).toNat = 1 from rfl] at hw91_1)
     (try rw [show 1 * 3 = 3 from rfl] at hw91_1)
     (try simp only [Nat.reduceMul, Nat.reduceEqDiff, Go.Addr.add, ↓reduceIte] at hw91_1)
     have hw91_0 := hx91_0
     (try rw [show ((1 : Int)).toNat = 1 from rfl] at hw91_0)
     (try rw [show 1 * 3 = 3 from rfl] at hw91_0)
     (try simp only [Nat.reduceMul, Nat.reduceEqDiff, Go.Addr.add, ↓reduceIte] at hw91_0)
     obtain rfl : ad83 = ad91 := (by injection e91)
     (try simp only [show (1 : Int).toNat = 1 from rfl, Nat.reduceMul, Nat.reduceEqDiff, Go.Addr.add, ↓reduceIte] at hx91_0)
     (try simp only [show (1 : Int).toNat = 1 from rfl, Nat.reduceMul, Nat.reduceEqDiff, Go.Addr.add, ↓reduceIte] at hx91_1)
     (try simp only [show (1 : Int).toNat = 1 from rfl, Nat.reduceMul, Nat.reduceEqDiff, Go.Addr.add, ↓reduceIte] at hx91_2)
     have qi91 : (1 < l0_2.length) = True := eq_true (by omega)
     (try rw [show ((1 : Int)).toNat = 1 from rfl] at hx91_0)
     (try rw [show 1 * 3 = 3 from rfl] at hx91_0)
     (try rw [show ((1 : Int)).toNat = 1 from rfl] at hx91_1)
     (try rw [show 1 * 3 = 3 from rfl] at hx91_1)
     (try rw [show ((1 : Int)).toNat = 1 from rfl] at hx91_2)
     (try rw [show 1 * 3 = 3 from rfl] at hx91_2)
     replace hx91_0 := (HB.out.cell (World.block_lt_of_cell? w _ hx91_0)).trans hx91_0
     replace hx91_1 := (HB.out.cell (World.block_lt_of_cell? w _ hx91_1)).trans hx91_1
     replace hx91_2 := (HB.out.cell (World.block_lt_of_cell? w _ hx91_2)).trans hx91_2
     have HR91_2 := am hi91_2
     have HC91_2 := am hl91_2
     clear hi91_2 hl91_2
     replace p91 := eq_true p91
     replace q91 := eq_true q91
     have ea_ := Option.some.inj (hx90_2.symm.trans hx91_2)
     injection ea_ with ea_ en_ ec_
     subst ea_
     subst ec_
     clear en_
     refine start_ (n := 16) (S := fun w' => w'.cell? ⟨gb68, 0, none⟩ = some (.int .i64 a0_0) ∧ w'.cell? ⟨gb68, 1, none⟩ = some (.int .i64 a0_1) ∧ w'.cell? ⟨gb68, 2, none⟩ = some (.slice (some ad83) l0_2.length c0_2) ∧ w'.cell? ⟨ad83.block, ad83.off + 3, none⟩ = some (.int .i64 ((rd_T29 l0_2 1).f0)) ∧ w'.cell? ⟨ad83.block, ad83.off + 3 + 1, none⟩ = some (.int .i64 ((rd_T29 l0_2 1).f1)) ∧ w'.cell? ⟨ad83.block, ad83.off + 3 + 2, none⟩ = some (.slice A90_2 ((rd_T29 l0_2 1).f2).length c90_2) ∧ w'.cell? ⟨ad83.block, ad83.off + 3, none⟩ = some (.int .i64 ((rd_T29 l0_2 1).f0)) ∧ w'.cell? ⟨ad83.block, ad83.off + 3 + 1, none⟩ = some (.int .i64 ((rd_T29 l0_2 1).f1)) ∧ w'.cell? ⟨ad83.block, ad83.off + 3 + 2, none⟩ = some (.slice A90_2 ((rd_T29 l0_2 1).f2).length c90_2)) (ds := []) (bz 16 0) (by kernel_rfl) rfl rfl ⟨(blk_cell BK68.out 0).trans rfl, (blk_cell BK68.out 1).trans rfl, (blk_cell BK68.out 2).trans rfl, ((HB.out.cell (World.block_lt_of_cell? w _ hw90_0)).trans hw90_0), ((HB.out.cell (World.block_lt_of_cell? w _ hw90_1)).trans hw90_1), ((HB.out.cell (World.block_lt_of_cell? w _ hw90_2)).trans hw90_2), ((HB.out.cell (World.block_lt_of_cell? w _ hw91_0)).trans hw91_0), ((HB.out.cell (World.block_lt_of_cell? w _ hw91_1)).trans hw91_1), ((HB.out.cell (World.block_lt_of_cell? w _ hw91_2)).trans hw91_2)⟩ (fun hHeld => ?_); refine with_tabW spec_l5Tokens.tab8 spec_l5Tokens.bits8 (fun HT_ HW_ => ?_)
     generalize w38.drew = w39 at HO76 BK68 HB HR90_2 HR91_2 hx90_0 hx90_1 hx90_2 hx91_0 hx91_1 hx91_2 hHeld ⊢
     refine pr_ 0 41 (bz 16 1) HT_ ?_
     refine pr_ 1 42 (bz 16 3) HT_ ?_
     refine pr_ 6 47 (bz 16 67) HT_ ?_
     refine pr_ 11 52 (bz 16 2115) HT_ ?_
     refine tk9_ 2 43 (bz 16 2119) HT_ HW_ hHeld ?_
     refine pr_ 3 44 (bz 16 2127) HT_ ?_
     refine tk9_ 4 45 (bz 16 2143) HT_ HW_ hHeld ?_
     refine tk9_ 7 48 (bz 16 2271) HT_ HW_ hHeld ?_
     refine pr_ 8 49 (bz 16 2527) HT_ ?_
     refine tk9_ 9 50 (bz 16 3039) HT_ HW_ hHeld ?_
     refine one_ (i := 5) (N := some 46) (bz 16 3071) rfl rfl (one_of HT_.out (by kernel_rfl)) (by decide) (fun K hK => ?_)
     refine goes_ Tryd.func18 (by kernel_rfl) rfl #[.agg #[.int .i64 ((rd_T29 l0_2 1).f0), .int .i64 ((rd_T29 l0_2 1).f1), .slice A90_2 ((rd_T29 l0_2 1).f2).length c90_2]] (by rfl) rfl rfl ab1_ ?_
     with_reducible refine (ih k (by omega) ((rd_T29 l0_2 1).f0) ((rd_T29 l0_2 1).f1) _ _ ((rd_T29 l0_2 1).f2) t65 _ (aC_ (Kd.C_below HR90_2.out HB.out)) HC90_2.out A24.out).mono ?_
     rintro e w40 ⟨v92, rfl, ho0, hb⟩
     refine ⟨_, rfl, ?_⟩
     have HO93 := am (Kd.R_lower (Kd.R_new' ho0 (Kd.R_lt (aR_ HO76.out))) (below_size ab10_))
     replace HO76 := am (Kd.R_elder' (aR_ HO76.out) (Kd.R_base ho0) hb)
     replace BK68 := am (bbl_ BK68.out hb)
     replace HB := am (below_step ab10_ hb)
     (try clear hb)
     (try clear hb2)
     (try clear hk)
     (try clear hi)
     (try clear ho0)
     refine hK.out _ _ ⟨(blk_cell BK68.out 0).trans rfl, (blk_cell BK68.out 1).trans rfl, (blk_cell BK68.out 2).trans rfl, ((HB.out.cell (World.block_lt_of_cell? w _ hw90_0)).trans hw90_0), ((HB.out.cell (World.block_lt_of_cell? w _ hw90_1)).trans hw90_1), ((HB.out.cell (World.block_lt_of_cell? w _ hw90_2)).trans hw90_2), ((HB.out.cell (World.block_lt_of_cell? w _ hw91_0)).trans hw91_0), ((HB.out.cell (World.block_lt_of_cell? w _ hw91_1)).trans hw91_1), ((HB.out.cell (World.block_lt_of_cell? w _ hw91_2)).trans hw91_2)⟩ (fun hHeld => ?_)
     clear hK K
     refine norm_ (a' := ?_) ?_ ?_
     rotate_left
     ·show Act.put _ (some 46) _ = _
      simp only [Act.put, List.setIfInBounds_toArray, List.set_cons_zero, List.set_cons_succ, i64_w, i32_w]
      rfl
     refine one_ (i := 10) (N := some 51) (bz 16 4095) rfl rfl (one_of HT_.out (by kernel_rfl)) (by decide) (fun K hK => ?_)
     refine goes_ Tryd.func34 (by kernel_rfl) rfl #[.agg #[.int .i64 ((rd_T29 l0_2 1).f0), .int .i64 ((rd_T29 l0_2 1).f1), .slice A90_2 ((rd_T29 l0_2 1).f2).length c90_2]] (by rfl) rfl rfl ab1_ ?_
     with_reducible refine (spec_l5Level.calls ((rd_T29 l0_2 1).f0) ((rd_T29 l0_2 1).f1) _ _ ((rd_T29 l0_2 1).f2) t66 _ (aC_ (Kd.C_below HR91_2.out HB.out)) HC91_2.out A25.out).mono ?_
     rintro e w41 ⟨rfl, hb⟩
     refine ⟨_, rfl, ?_⟩
     replace HO76 := am (Kd.R_below (aR_ HO76.out) hb)
     replace HO93 := am (Kd.R_below (aR_ HO93.out) hb)
     replace BK68 := am (bbl_ BK68.out hb)
     replace HB := am (below_step ab10_ hb)
     (try clear hb)
     (try clear hb2)
     (try clear hk)
     (try clear hi)
     obtain ⟨Ao42, co42, eo42⟩ := Kd.R_slice HO93.out
     (first | subst eo42 | (injection eo42 with f1_ f2_ f3_; have f4_ := f1_.symm; have f5_ := f3_.symm; clear f1_ f2_ f3_; subst f4_; subst f5_))
     refine hK.out _ _ ⟨(blk_cell BK68.out 0).trans rfl, (blk_cell BK68.out 1).trans rfl, (blk_cell BK68.out 2).trans rfl, ((HB.out.cell (World.block_lt_of_cell? w _ hw90_0)).trans hw90_0), ((HB.out.cell (World.block_lt_of_cell? w _ hw90_1)).trans hw90_1), ((HB.out.cell (World.block_lt_of_cell? w _ hw90_2)).trans hw90_2), ((HB.out.cell (World.block_lt_of_cell? w _ hw91_0)).trans hw91_0), ((HB.out.cell (World.block_lt_of_cell? w _ hw91_1)).trans hw91_1), ((HB.out.cell (World.block_lt_of_cell? w _ hw91_2)).trans hw91_2)⟩ (fun hHeld => ?_)
     clear hK K
     refine norm_ (a' := ?_) ?_ ?_
     rotate_left
     ·show Act.put _ (some 51) _ = _
      simp only [Act.put, List.setIfInBounds_toArray, List.set_cons_zero, List.set_cons_succ, i64_w, i32_w]
      rfl
     refine pr_ 12 53 (bz 16 8191) HT_ ?_
     refine one_ (i := 13) (N := some 54) (bz 16 16383) rfl rfl (one_of HT_.out (by kernel_rfl)) (by decide) (fun K hK => ?_)
     refine goes_ Tryd.func33 (by kernel_rfl) rfl #[.slice Ao42 t65.length co42, .bool (decide (t66 ≤ t58))] (by rfl) rfl rfl ab1_ ?_
     with_reducible refine (spec_l5Wrap.calls (fun k_ => some k_ = (.slice Ao42 t65.length co42 : Value).ownBlock) (.slice Ao42 t65.length co42) t65 (decide (t66 ≤ t58)) t67 w _ ?side1 ?side2 A26.out).mono ?_
     (case side1 => exact ab10_)
     (case side2 => exact Kd.R_tight rfl HO93.out)
     rintro e w43 ⟨v94, rfl, ho0, hb, hkp⟩
     refine ⟨_, rfl, ?_⟩
     replace BK68 := am (blk_kept (aG_ BK68.out) hkp (fun hs_ => (fun e_ => (Kd.R_ne HO93.out BK68.out (by decide)) e_) hs_))
     have HO95 := am (Kd.R_mono (ok' := fun k_ => some k_ ≠ (v89 : Value).ownBlock) ho0 (fun k_ hk_ => Or.elim hk_ (fun hs_ => fun e_ => (((HO76.out).1 k_ e_.symm).2) hs_) (fun hn_ => (Kd.fresh' (Kd.R_lt (aR_ HO76.out)) k_ hn_))))
     replace HO76 := am (Kd.R_mono (ok' := fun k_ => some k_ ≠ (v94 : Value).ownBlock) (Kd.R_keptB (HO76.out) hkp (fun k_ hk_ hs_ => (hk_.2) hs_)) (fun k_ hk_ => fun e_ => Or.elim (ho0.1 k_ e_.symm) (fun hs_ => hk_.2.1 hs_) (fun hn_ => Nat.not_le.2 hk_.2.2 hn_)))
     replace HB := am (hb)
     clear HO93
     (try clear hb)
     (try clear hkp)
     (try clear ho0)
     obtain ⟨Ao45, co45, eo45⟩ := Kd.R_slice HO95.out
     (first | subst eo45 | (injection eo45 with f1_ f2_ f3_; have f4_ := f1_.symm; have f5_ := f3_.symm; clear f1_ f2_ f3_; subst f4_; subst f5_))
     refine hK.out _ _ ⟨(blk_cell BK68.out 0).trans rfl, (blk_cell BK68.out 1).trans rfl, (blk_cell BK68.out 2).trans rfl, ((HB.out.cell (World.block_lt_of_cell? w _ hw90_0)).trans hw90_0), ((HB.out.cell (World.block_lt_of_cell? w _ hw90_1)).trans hw90_1), ((HB.out.cell (World.block_lt_of_cell? w _ hw90_2)).trans hw90_2), ((HB.out.cell (World.block_lt_of_cell? w _ hw91_0)).trans hw91_0), ((HB.out.cell (World.block_lt_of_cell? w _ hw91_1)).trans hw91_1), ((HB.out.cell (World.block_lt_of_cell? w _ hw91_2)).trans hw91_2)⟩ (fun hHeld => ?_)
     clear hK K
     refine norm_ (a' := ?_) ?_ ?_
     rotate_left
     ·show Act.put _ (some 54) _ = _
      simp only [Act.put, List.setIfInBounds_toArray, List.set_cons_zero, List.set_cons_succ, i64_w, i32_w]
      rfl
     refine one_ (i := 14) (N := some 55) (bz 16 32767) rfl rfl (one_of HT_.out (by kernel_rfl)) (by decide) (fun K hK => ?_)
     refine Kd.R_append_rows_step Kd.string (w0 := w) w.heap.size (by rfl) (.tmp 41) (.tmp 54) 37 9 (.string ⟨#[]⟩) 16 rfl Tryd.underlying37 info9 rfl (by decide) (by omega) v89 y63 t67 _ _ _ (fun k_ => some k_ ≠ (.slice Ao45 t67.length co45 : Value).ownBlock) (fun _ => False) rfl rfl ?aO ?aR (fun _ _ h => h) (fun _ h => h.elim) ?aF ?aB ?aS ?aL ?_
     (case aR => repeat (first | exact (Kd.R_reads' HO95.out).2.2 | (with_reducible refine Kd.C_alloc ?_ _) | (with_reducible refine Kd.C_drewN ?_ _) | (with_reducible refine Kd.C_drew ?_)))
     (case aB => exact ab10_)
     (case aF => exact (fun k_ hk => Kd.fresh' (Kd.R_lt (aR_ HO95.out)) k_ hk))
     (case aO => exact (aR_ HO76.out))
     (case aS => exact (below_size ab10_))
     (case aL => have := LMc27.out; omega)
     intro v97 w44 ho hb hg hat
     rw [← Ny77.out] at ho
     replace BK68 := am (blk_grown (g := gb68) (o := .cells #[.int .i64 a0_0, .int .i64 a0_1, .slice (some ad83) l0_2.length c0_2] 29 (0, 0)) (aG_ BK68.out) hg (Kd.R_ne HO76.out BK68.out (by decide)))
     replace HO95 := am (Kd.R_after (ok := (fun _ => True)) (aRw_ (Kd.R_mono HO95.out (fun _ hk => ⟨trivial, hk⟩))) hg hat)
     replace HB := am (hb)
     have HO98 := am (ho)
     clear HO76
     clear ho hb hg hat
     refine hK.out _ _ ⟨(blk_cell BK68.out 0).trans rfl, (blk_cell BK68.out 1).trans rfl, (blk_cell BK68.out 2).trans rfl, ((HB.out.cell (World.block_lt_of_cell? w _ hw90_0)).trans hw90_0), ((HB.out.cell (World.block_lt_of_cell? w _ hw90_1)).trans hw90_1), ((HB.out.cell (World.block_lt_of_cell? w _ hw90_2)).trans hw90_2), ((HB.out.cell (World.block_lt_of_cell? w _ hw91_0)).trans hw91_0), ((HB.out.cell (World.block_lt_of_cell? w _ hw91_1)).trans hw91_1), ((HB.out.cell (World.block_lt_of_cell? w _ hw91_2)).trans hw91_2)⟩ (fun hHeld => ?_)
     clear hK K
     refine norm_ (a' := ?_) ?_ ?_
     rotate_left
     ·show Act.put _ (some 55) _ = _
      simp only [Act.put, List.setIfInBounds_toArray, List.set_cons_zero, List.set_cons_succ, i64_w, i32_w]
      rfl
     refine pr_ 15 2 (bz 16 65535) HT_ ?_
     refine done_ (done_of HT_.out (by kernel_rfl)) ?_
     try go_wp2
     go_ret
     exact ⟨_, ab16_, aRw_ (Kd.R_mono HO98.out (fun _ hk => trivial)), ab10_⟩
    rw [if_neg c27] at H
    exact absurd H (by simp)
   rw [if_neg c23] at H
   exact absurd H (by simp)
  rw [if_neg c22] at H
  exact absurd H (by simp)
 rw [if_neg c17] at H
 exact absurd H (by simp)
theorem spec_ExprText.mono : ∀ a0 a1 a2 k, LeO (spec_ExprText.f k a0 a1 a2) (spec_ExprText.f (k + 1) a0 a1 a2) := by
 intro a0 a1 a2 k
 unfold spec_ExprText.f
 have m0 := @spec_ExprValid.mono
 have m1 := @spec_TokensText.mono
 have m2 := @spec_l5Tokens.mono
 exact mo_
theorem spec_ExprText.calls (k : Nat) (a0_0 : Int) (a0_1 : Int) (A0_2 : Option Addr) (c0_2 : Nat) (l0_2 : List (S29)) (r : ByteArray) (w : World) (hr0_2 : Kd.C k29 w A0_2 l0_2.length l0_2) (hc0_2 : l0_2.length ≤ c0_2) (h : spec_ExprText.f k a0_0 a0_1 l0_2 = some r) :
  Calls Tryd.prog 7 #[.agg #[.int .i64 a0_0, .int .i64 a0_1, .slice A0_2 l0_2.length c0_2]] w fun e w' => e = .returned (.string r) ∧ Below w.heap.size w w' := by
 have hu29 := Tryd.underlying29
 have HR0_2 := am hr0_2
 have HC0_2 := am hc0_2
 clear hr0_2 hc0_2
 have HB := am (Below.refl w.heap.size w)
 have H : ((spec_ExprValid.f k a0_0 a0_1 l0_2).bind fun t21 => (if t21 = true then ((spec_l5Tokens.f k a0_0 a0_1 l0_2).bind fun t22 => ((spec_TokensText.f k t22).bind fun t23 => (some t23))) else (some (⟨#[]⟩ : ByteArray)))) = some r := h
 clear h
 obtain ⟨t21, A2, H⟩ := bsa H
 (try dsimp only at H)
 have HH_ := am H
 clear H
 go_enter Tryd.func7, Tryd.ntmps7
 go_upto_region 1 with (first | ((with_reducible refine gate_dst (N := 1) rfl ?_); refine box_event rfl (N := 1) rfl (cs := #[.int .i64 a0_0, .int .i64 a0_1, .slice A0_2 l0_2.length c0_2]) (t := 29) rn_ ?_; intro gb24 hg w6 hbox hb; have BK24 := am (hbox); have GW24 := am ((by rw [hg]; exact (below_size ab2_) : w.heap.size ≤ gb24)); have GE24 := am ((by rw [hg]; exact (below_size ab2_) : w.heap.size ≤ gb24)); replace HB := am (below_step ab2_ hb); clear hb hbox hg; obtain ⟨hcz7_0, hcz7_1, hcz7_2, hfz7_0, hfz7_1, hfz7_2⟩ := bcf3_ BK24.out))
 have H := HH_.out
 clear HH_
 by_cases c3 : t21 = true
 ·subst c3
  rw [if_pos rfl] at H
  obtain ⟨t22, A4, H⟩ := bsa H
  (try dsimp only at H)
  obtain ⟨t23, A5, H⟩ := bsa H
  (try dsimp only at H)
  obtain rfl := Option.some.inj H
  go_wp2_with (first | ((with_reducible refine gate_callee (f := 16) rfl ?_); refine gl_ 4 Tryd.func16 #[.agg #[.int .i64 a0_0, .int .i64 a0_1, .slice A0_2 l0_2.length c0_2]] ?_; (with_reducible refine (spec_ExprValid.calls k a0_0 a0_1 _ _ l0_2 true _ (aC_ (Kd.C_below HR0_2.out HB.out)) HC0_2.out A2.out).mono ?_); rintro e w8 ⟨rfl, hb⟩; refine ⟨_, rfl, ?_⟩; replace BK24 := am (bbl_ BK24.out hb); replace HB := am (below_step ab40_ hb); (try clear hb); obtain ⟨hcz9_0, hcz9_1, hcz9_2, hfz9_0, hfz9_1, hfz9_2⟩ := bcf3_ BK24.out) | ((with_reducible refine gate_callee (f := 18) rfl ?_); refine gl_ 7 Tryd.func18 #[.agg #[.int .i64 a0_0, .int .i64 a0_1, .slice A0_2 l0_2.length c0_2]] ?_; (with_reducible refine (spec_l5Tokens.calls k a0_0 a0_1 _ _ l0_2 t22 _ (aC_ (Kd.C_below HR0_2.out HB.out)) HC0_2.out A4.out).mono ?_); rintro e w10 ⟨v25, rfl, ho0, hb⟩; refine ⟨_, rfl, ?_⟩; have HO26 := am (Kd.R_lower ho0 (below_size ab40_)); replace BK24 := am (bbl_ BK24.out hb); replace HB := am (below_step ab40_ hb); (try clear hb); (try clear ho0); obtain ⟨Ao11, co11, eo11⟩ := Kd.R_slice HO26.out; subst eo11) | ((with_reducible refine gate_callee (f := 17) rfl ?_); refine gl_ 8 Tryd.func17 #[.slice Ao11 t22.length co11] ?_; (with_reducible refine (spec_TokensText.calls k _ _ t22 t23 _ (aC_ (Kd.R_reads' HO26.out).2.2) (Kd.R_reads' HO26.out).2.1 A5.out).mono ?_); rintro e w' ⟨rfl, ⟨nd, rfl⟩⟩; refine ⟨_, rfl, ?_⟩))
  go_ret
  exact ⟨rr_, ab40_⟩
 replace c3 := Bool.eq_false_iff.mpr c3
 subst c3
 rw [if_neg (show ¬ (false = true) by decide)] at H
 obtain rfl := Option.some.inj H
 go_wp2_with (first | ((with_reducible refine gate_callee (f := 16) rfl ?_); refine gl_ 4 Tryd.func16 #[.agg #[.int .i64 a0_0, .int .i64 a0_1, .slice A0_2 l0_2.length c0_2]] ?_; (with_reducible refine (spec_ExprValid.calls k a0_0 a0_1 _ _ l0_2 false _ (aC_ (Kd.C_below HR0_2.out HB.out)) HC0_2.out A2.out).mono ?_); rintro e w14 ⟨rfl, hb⟩; refine ⟨_, rfl, ?_⟩; replace BK24 := am (bbl_ BK24.out hb); replace HB := am (below_step ab40_ hb); (try clear hb)))
 go_ret
 exact ⟨rr_, ab40_⟩
theorem laws_toExprS.mono_all : ∀ k, (∀ y0, LeO (laws_toExprS.f k y0) (laws_toExprS.f (k + 1) y0)) ∧ (∀ y0 y1 y2, LeO (laws_toExprS.l0 k y0 y1 y2) (laws_toExprS.l0 (k + 1) y0 y1 y2)) ∧ (∀ y0 y1 y2, LeO (laws_toExpr.f k y0 y1 y2) (laws_toExpr.f (k + 1) y0 y1 y2))
 | 0 => ⟨fun _ r h => by simp [laws_toExprS.f] at h, fun _ _ _ r h => by simp [laws_toExprS.l0] at h, fun _ _ _ r h => by simp [laws_toExpr.f] at h⟩
 | k + 1 => by
  obtain ⟨ih0, ih1, ih2⟩ := laws_toExprS.mono_all k
  refine ⟨?_, ?_, ?_⟩
  ·intro y0
   unfold laws_toExprS.f
   exact mo_
  ·intro y0 y1 y2
   unfold laws_toExprS.l0
   exact mo_
  ·intro y0 y1 y2
   unfold laws_toExpr.f
   exact mo_
theorem laws_toExprS.mono : ∀ a0 k, LeO (laws_toExprS.f k a0) (laws_toExprS.f (k + 1) a0) := by
 intro a0 k
 obtain ⟨ih0, ih1, ih2⟩ := laws_toExprS.mono_all k
 exact ih0 a0
theorem laws_toExpr.mono : ∀ a0 a1 a2 k, LeO (laws_toExpr.f k a0 a1 a2) (laws_toExpr.f (k + 1) a0 a1 a2) := by
 intro a0 a1 a2 k
 obtain ⟨ih0, ih1, ih2⟩ := laws_toExprS.mono_all k
 exact ih2 a0 a1 a2
abbrev laws_toExprS.CallsAt (k : Nat) : Prop := ∀ (A0 : Option Addr) (c0 : Nat) (l0 : List (S24)) (r : List (S29)) (w : World) (hr0 : Kd.C k24 w A0 l0.length l0) (hc0 : l0.length ≤ c0) (h : laws_toExprS.f k l0 = some r),
  Calls Tryd.prog 19 #[.slice A0 l0.length c0] w fun e w' => ∃ v0_ : Value, e = .returned (v0_) ∧ Kd.R k29 29 w' w.heap.size (fun _ => True) v0_ r ∧ Below w.heap.size w w'
abbrev laws_toExpr.CallsAt (k : Nat) : Prop := ∀ (a0_0 : Int) (a0_1 : Int) (A0_2 : Option Addr) (c0_2 : Nat) (l0_2 : List (S24)) (r1 : Int) (r2 : Int) (r3 : List (S29)) (w : World) (hr0_2 : Kd.C k24 w A0_2 l0_2.length l0_2) (hc0_2 : l0_2.length ≤ c0_2) (h : laws_toExpr.f k a0_0 a0_1 l0_2 = some (r1, r2, r3)),
  Calls Tryd.prog 8 #[.agg #[.int .i64 a0_0, .int .i64 a0_1, .slice A0_2 l0_2.length c0_2]] w fun e w' => ∃ v2_ : Value, e = .returned (.agg #[.int .i64 r1, .int .i64 r2, v2_]) ∧ Kd.R k29 29 w' w.heap.size (fun _ => True) v2_ r3 ∧ Below w.heap.size w w'
theorem laws_toExprS.step (k : Nat) (ih_laws_toExprS : ∀ m, m < k → laws_toExprS.CallsAt m) (ih_laws_toExpr : ∀ m, m < k → laws_toExpr.CallsAt m) : laws_toExprS.CallsAt k := by
 intro A0 c0 l0 r w hr0 hc0 h
 cases k with
 | zero => exact absurd h (by simp [laws_toExprS.f])
 | succ k =>
 simp only [laws_toExprS.f] at h
 have hu24 := Tryd.underlying24
 have hu29 := Tryd.underlying29
 have HR0 := am hr0
 have HC0 := am hc0
 clear hr0 hc0
 have HB := am (Below.refl w.heap.size w)
 have H : (if 0 ≤ (l0.length : Int) then (if ((l0.length : Int) : Int).toNat ≤ 7036874417766 then (laws_toExprS.l0 k l0 (List.replicate ((l0.length : Int) : Int).toNat z29) 0) else (none)) else (none)) = some r := h
 clear h
 by_cases c2 : 0 ≤ (l0.length : Int)
 ·rw [if_pos c2] at H
  have c2b0 := eq_true c2
  have c2b1 : decide (0 ≤ (l0.length : Int)) = true := decide_eq_true c2
  clear c2
  by_cases c3 : ((l0.length : Int) : Int).toNat ≤ 7036874417766
  ·rw [if_pos c3] at H
   have c3b0 := eq_true c3
   have c3b1 : decide (((l0.length : Int) : Int).toNat ≤ 7036874417766) = true := decide_eq_true c3
   clear c3
   obtain ⟨y22, hy_⟩ : ∃ y_ : List (S29), y_ = (List.replicate ((l0.length : Int) : Int).toNat z29) := ⟨_, rfl⟩
   replace H : (laws_toExprS.l0 k l0 y22 0) = some r := rx_
   have Ny22 := am hy_
   clear hy_
   have H' := am H
   clear H
   go_enter Tryd.func19, Tryd.ntmps19
   go_wp2_with (first | ((with_reducible refine gate_dst (N := 7) rfl ?_); refine Kd.R_make k29 _ 29 rfl (N := 7) rfl 27 _ _ rfl (l0.length : Int) rfl rfl Tryd.underlying27 (.agg #[(.int .i64 0), (.int .i64 0), (.slice none 0 0)]) 40 info29 rfl (by decide) (by omega) z29 (ok := fun _ => True) (okp := fun _ => True) (k29_mkM _ _ _ z29 (Kd.R_nil _ _ _ _ _)) (fun _ hk => hk) trivial (of_decide_eq_true asm_) (Nat.le_trans (Nat.mul_le_mul_right _ (of_decide_eq_true asm_ : (l0.length : Int).toNat ≤ 7036874417766)) (by omega)) (Below.refl _ _) (Nat.le_refl _) ?_; intro v23 w4 ho5 hb hg_ hnew_; clear hg_ hnew_; (first | rw [← Ny22.out] at ho5 | (simp only [Int.reduceToNat] at ho5; rw [← Ny22.out] at ho5)); have HO25 := am (Kd.R_lower ho5 (below_size ab2_)); replace HB := am (below_step ab2_ hb); clear hb ho5))
   go_loopg [4] k (fun kq v4 w' => ∃ (x3_1 : List (S29)) (x4_1 : Int), v4 = .int .i64 x4_1 ∧ Aside0 (laws_toExprS.l0 kq l0 x3_1 x4_1 = some r) ∧ Aside0 (kq ≤ k) ∧ Aside0 (Kd.R k29 29 w' w.heap.size (fun _ => True) v23 x3_1) ∧ Aside0 (Below w.heap.size w w'))
   case atStart => exact ⟨(y22), (0), sd_, H', ⟨Nat.le_refl _⟩, ⟨aRw_ HO25.out⟩, ⟨ab2_⟩⟩
   case round =>
    clear H'
    try clear c2
    try clear c2b0
    try clear c2b1
    try clear c3
    try clear c3b0
    try clear c3b1
    obtain ⟨x3_1, x4_1, rfl, HA, HK1, HO_3, HB⟩ := hrel
    cases gk with
    | zero => exact absurd HA.out (by simp [laws_toExprS.l0])
    | succ k1 =>
     have H := HA.out
     clear HA
     simp only [laws_toExprS.l0] at H
     by_cases c6 : x4_1 < (l0.length : Int)
     ·rw [if_pos c6] at H
      have c6b0 : decide (x4_1 < (l0.length : Int)) = true := decide_eq_true c6
      clear c6
      by_cases c7 : 0 ≤ x4_1
      ·rw [if_pos c7] at H
       have c7b0 : decide (0 ≤ x4_1) = true := decide_eq_true c7
       clear c7
       obtain ⟨⟨t26, t28, t30⟩, A8, H⟩ := bsa H
       (try dsimp only at H)
       by_cases c9 : x4_1 < (x3_1.length : Int)
       ·rw [if_pos c9] at H
        have c9b0 : decide (x4_1 < (x3_1.length : Int)) = true := decide_eq_true c9
        clear c9
        obtain ⟨y31, hy_⟩ : ∃ y_ : List (S29), y_ = (x3_1.set (x4_1 : Int).toNat (⟨t26, t28, t30⟩ : S29)) := ⟨_, rfl⟩
        replace H : (laws_toExprS.l0 k1 l0 y31 (wrap64 (x4_1 + 1))) = some r := rx_
        have Ny31 := am hy_
        clear hy_
        have H' := am H
        clear H
        have p32 : 0 ≤ (x4_1 : Int) := of_decide_eq_true asm_
        have q32 : x4_1 < (l0.length : Int) := of_decide_eq_true asm_
        obtain ⟨ad32, A32_2, c32_2, e32, hx32_0, hx32_1, hx32_2, hl32_2, hi32_2⟩ := at_T24 HR0.out x4_1 p32 q32
        cases e32
        replace hx32_0 := (HB.out.cell (World.block_lt_of_cell? w _ hx32_0)).trans hx32_0
        replace hx32_1 := (HB.out.cell (World.block_lt_of_cell? w _ hx32_1)).trans hx32_1
        replace hx32_2 := (HB.out.cell (World.block_lt_of_cell? w _ hx32_2)).trans hx32_2
        have HR32_2 := am hi32_2
        have HC32_2 := am hl32_2
        clear hi32_2 hl32_2
        replace p32 := eq_true p32
        replace q32 := eq_true q32
        go_wp2_with (first | ((with_reducible refine gate_callee (f := 8) rfl ?_); refine gl_ 20 Tryd.func8 #[.agg #[.int .i64 ((rd_T24 l0 x4_1).f0), .int .i64 ((rd_T24 l0 x4_1).f1), .slice A32_2 ((rd_T24 l0 x4_1).f2).length c32_2]] ?_; (with_reducible refine (ih_laws_toExpr k1 (by have := HK1.out; omega) ((rd_T24 l0 x4_1).f0) ((rd_T24 l0 x4_1).f1) _ _ ((rd_T24 l0 x4_1).f2) t26 t28 t30 _ (aC_ (Kd.C_below HR32_2.out HB.out)) HC32_2.out A8.out).mono ?_); rintro e w11 ⟨v33, rfl, ho0, hb⟩; refine ⟨_, rfl, ?_⟩; have st_ := fun (W_ : World) (a_ : Addr) => run_store Tryd.prog W_ a_ v33 .plain (by obtain ⟨_, _, e_⟩ := Kd.R_slice ho0; rw [e_]; rfl); have HO34 := am (Kd.R_lower (Kd.R_new' ho0 (Kd.R_lt (aR_ HO_3.out))) (below_size ab2_)); replace HO_3 := am (Kd.R_elder' (aR_ HO_3.out) (Kd.R_base ho0) hb); replace HB := am (below_step ab2_ hb); (try clear hb); (try clear ho0); have p10 : 0 ≤ (x4_1 : Int) := of_decide_eq_true asm_; have q10 : (x4_1 : Int) < ((x3_1.length : Int) : Int) := of_decide_eq_true asm_; obtain ⟨go10, co10, eo10, gb10, gl10, cl10, HG10⟩ := Kd.R_form HO_3.out (by omega); (first | cases eo10 | (injection eo10 with ea_ en_ ec_; (first | subst ea_ | (injection ea_ with ea_; subst ea_)); subst ec_; clear en_)); have GB10 := am gb10; have GG10 := am HG10; clear gb10 gl10 HG10; obtain ⟨ce10, hcl10, hM10, hcc10, hfr10⟩ := Kd.R_elem HO_3.out z29 (x4_1 : Int) p10 q10; obtain ⟨ve10_2, rfl, ge10_2⟩ := k29_openM hM10; have hx10_0 : w11.cell? ⟨go10, (x4_1 : Int).toNat * 3, none⟩ = some (.int .i64 ((rd_T29 x3_1 x4_1).f0)) := hcc10 0 _ rfl; have hx10_1 : w11.cell? ⟨go10, (x4_1 : Int).toNat * 3 + 1, none⟩ = some (.int .i64 ((rd_T29 x3_1 x4_1).f1)) := hcc10 1 _ rfl; have hx10_2 : w11.cell? ⟨go10, (x4_1 : Int).toNat * 3 + 2, none⟩ = some (ve10_2) := hcc10 2 _ rfl; have hf10_0 : w11.frozen? ⟨go10, (x4_1 : Int).toNat * 3, none⟩ = false := hfr10 0; have hf10_1 : w11.frozen? ⟨go10, (x4_1 : Int).toNat * 3 + 1, none⟩ = false := hfr10 1; have hf10_2 : w11.frozen? ⟨go10, (x4_1 : Int).toNat * 3 + 2, none⟩ = false := hfr10 2; clear hcl10 hcc10 hfr10 hM10; replace p10 := eq_true p10; replace q10 := eq_true q10; have n_ := am (Kd.R_mono (ok' := (fun k_ => some k_ ≠ (v33 : Value).ownBlock)) HO_3.out (fun k_ hk => hk.2)); clear HO_3; have HO_3 := n_; clear n_; have HX12 := am (show Kd.R k29 29 w11 w.heap.size (fun _ => True) (.slice (some ⟨go10, 0, none⟩) x3_1.length co10) x3_1 from (aRw_ (Kd.R_mono HO_3.out (fun _ hk => trivial)))); obtain ⟨ce12, hcl12, hM12, hcc12, hfr12⟩ := Kd.R_elem HX12.out z29 (x4_1 : Int) (of_decide_eq_true asm_) (by have h_ : (x4_1 : Int) < ((x3_1.length : Int) : Int) := of_decide_eq_true asm_; first | exact h_ | (have e_ := (Kd.R_reads' HO_3.out).1; omega) | simpa using h_); obtain ⟨ve12_2, rfl, ge12_2⟩ := k29_openM hM12; have HP12 := Kd.R_seg HX12.out (x4_1 : Int) (of_decide_eq_true asm_) (by have h_ : (x4_1 : Int) < ((x3_1.length : Int) : Int) := of_decide_eq_true asm_; first | exact h_ | (have e_ := (Kd.R_reads' HO_3.out).1; omega) | simpa using h_) (seg := [.int .i64 t26, .int .i64 t28, v33]) (j := 0) hcl12 hcc12 (show 3 ≤ 3 from by decide) (x' := (⟨t26, t28, t30⟩ : S29)) (k29_mkM _ _ _ (⟨t26, t28, t30⟩ : S29) (Kd.R_mono (HO34.out) (fun k_ hk => ⟨trivial, fun e_ => (hk.2) (by rw [e_]; rfl)⟩))) (fun _ hk => hk); have hx12_0 := hcc12 0 _ rfl; (try simp only [show (k29).sz = 3 from rfl, Nat.mul_one, Nat.add_zero] at hx12_0); have hf12_0 := hfr12 0; (try simp only [show (k29).sz = 3 from rfl, Nat.mul_one, Nat.add_zero] at hf12_0); have hx12_1 := hcc12 1 _ rfl; (try simp only [show (k29).sz = 3 from rfl, Nat.mul_one, Nat.add_zero] at hx12_1); have hf12_1 := hfr12 1; (try simp only [show (k29).sz = 3 from rfl, Nat.mul_one, Nat.add_zero] at hf12_1); have hx12_2 := hcc12 2 _ rfl; (try simp only [show (k29).sz = 3 from rfl, Nat.mul_one, Nat.add_zero] at hx12_2); have hf12_2 := hfr12 2; (try simp only [show (k29).sz = 3 from rfl, Nat.mul_one, Nat.add_zero] at hf12_2); clear hcl12 hcc12 hfr12 hM12) | ((with_reducible refine gate_store (t := 29) (p := 21) rfl ?_); refine store_event (t := 29) (p := 21) (v := ?vo_w13) (w1 := (((w11.setCell ⟨go10, (x4_1 : Int).toNat * 3, none⟩ (.int .i64 t26)).setCell ⟨go10, (x4_1 : Int).toNat * 3 + 1, none⟩ (.int .i64 t28)).setCell ⟨go10, (x4_1 : Int).toNat * 3 + 2, none⟩ (v33))) ?hg ?ho ?hn ?hr ?_; (case ho => rfl); (case hg => rfl); (case hn => rfl); (case hr => first | (go_simp; done) | (go_simp; rfl)); intro w13 hw; have hg : w11.grownBy w13 (some go10) := (by rw [hw]; exact HP12.2); have hp_ : Kd.R k29 29 w13 w.heap.size (fun _ => True) (.slice (some ⟨go10, 0, none⟩) x3_1.length co10) y31 := (by rw [hw, Ny31.out]; exact HP12.1); clear HP12; replace HO_3 := am (hp_); replace HB := am ((by rw [hw]; exact below_set (below_set (below_set (HB.out) GB10.out) GB10.out) GB10.out : Below w.heap.size w w13)); clear HO34 hg hw hp_))
        go_roundg k1
        case measure => have := HK1.out; omega
        case rel => exact ⟨(y31), (wrap64 (x4_1 + 1)), sd_, H', ⟨by have := HK1.out; omega⟩, ⟨aRw_ HO_3.out⟩, ⟨ab2_⟩⟩
       rw [if_neg c9] at H
       exact absurd H (by simp)
      rw [if_neg c7] at H
      exact absurd H (by simp)
     rw [if_neg c6] at H
     have c6b0 : decide (x4_1 < (l0.length : Int)) = false := decide_eq_false c6
     clear c6
     obtain rfl := Option.some.inj H
     go_wp2
     go_ret
     exact ⟨_, ab16_, aRw_ HO_3.out, ab2_⟩
  rw [if_neg c3] at H
  exact absurd H (by simp)
 rw [if_neg c2] at H
 exact absurd H (by simp)
theorem laws_toExpr.step (k : Nat) (ih_laws_toExprS : ∀ m, m < k → laws_toExprS.CallsAt m) (ih_laws_toExpr : ∀ m, m < k → laws_toExpr.CallsAt m) : laws_toExpr.CallsAt k := by
 intro a0_0 a0_1 A0_2 c0_2 l0_2 r1 r2 r3 w hr0_2 hc0_2 h
 cases k with
 | zero => exact absurd h (by simp [laws_toExpr.f])
 | succ k =>
 simp only [laws_toExpr.f] at h
 have hu24 := Tryd.underlying24
 have hu29 := Tryd.underlying29
 have HR0_2 := am hr0_2
 have HC0_2 := am hc0_2
 clear hr0_2 hc0_2
 have HB := am (Below.refl w.heap.size w)
 have H : ((laws_toExprS.f k l0_2).bind fun t21 => (some (a0_0, a0_1, t21))) = some (r1, r2, r3) := h
 clear h
 obtain ⟨t21, A2, H⟩ := bsa H
 (try dsimp only at H)
 simp only [Option.some.injEq, Prod.mk.injEq] at H
 obtain ⟨rfl, rfl, rfl⟩ := H
 go_enter Tryd.func8, Tryd.ntmps8
 go_wp2_with (first | ((with_reducible refine gate_dst (N := 1) rfl ?_); refine box_event rfl (N := 1) rfl (cs := #[.int .i64 a0_0, .int .i64 a0_1, .slice A0_2 l0_2.length c0_2]) (t := 24) rn_ ?_; intro gb22 hg w3 hbox hb; have BK22 := am (hbox); have GW22 := am ((by rw [hg]; exact (below_size ab2_) : w.heap.size ≤ gb22)); have GE22 := am ((by rw [hg]; exact (below_size ab2_) : w.heap.size ≤ gb22)); replace HB := am (below_step ab2_ hb); clear hb hbox hg) | ((with_reducible refine gate_dst (N := 2) rfl ?_); refine box_event rfl (N := 2) rfl (cs := #[.int .i64 0, .int .i64 0, .slice none 0 0]) (t := 29) rn_ ?_; intro gb23 hg w4 hbox hb; have BK23 := am (hbox); have GW23 := am ((by rw [hg]; exact (below_size ab36_) : w.heap.size ≤ gb23)); have GE23 := am ((by rw [hg]; exact (below_size ab36_) : w.heap.size ≤ gb23)); replace HB := am (below_step ab36_ hb); have NB22_23 := am ((by rw [hg]; exact Nat.ne_of_lt (blt_ BK22.out) : gb22 ≠ gb23)); have NB23_22 := am ((by rw [hg]; exact Nat.ne_of_gt (blt_ BK22.out) : gb23 ≠ gb22)); replace BK22 := am (bbl_ BK22.out hb); clear hb hbox hg) | ((with_reducible refine gate_dst (N := 3) rfl ?_); refine box_event rfl (N := 3) rfl (cs := #[.int .i64 0, .int .i64 0, .slice none 0 0]) (t := 29) rn_ ?_; intro gb25 hg w5 hbox hb; have BK25 := am (hbox); have GW25 := am ((by rw [hg]; exact (below_size ab49_) : w.heap.size ≤ gb25)); have GE25 := am ((by rw [hg]; exact (below_size ab49_) : w.heap.size ≤ gb25)); replace HB := am (below_step ab49_ hb); have NB22_25 := am ((by rw [hg]; exact Nat.ne_of_lt (blt_ BK22.out) : gb22 ≠ gb25)); have NB25_22 := am ((by rw [hg]; exact Nat.ne_of_gt (blt_ BK22.out) : gb25 ≠ gb22)); replace BK22 := am (bbl_ BK22.out hb); have NB23_25 := am ((by rw [hg]; exact Nat.ne_of_lt (blt_ BK23.out) : gb23 ≠ gb25)); have NB25_23 := am ((by rw [hg]; exact Nat.ne_of_gt (blt_ BK23.out) : gb25 ≠ gb23)); replace BK23 := am (bbl_ BK23.out hb); clear hb hbox hg; have hnb6 := NB22_23.out; have hnc6 := NB23_22.out; have hnb7 := NB22_25.out; have hnc7 := NB25_22.out; obtain ⟨hcz8_0, hcz8_1, hcz8_2, hfz8_0, hfz8_1, hfz8_2⟩ := bcf3_ BK22.out; have hnb9 := NB25_23.out; have hnc9 := NB23_25.out; obtain ⟨hcz10_0, hcz10_1, hcz10_2, hfz10_0, hfz10_1, hfz10_2⟩ := bcf3_ BK25.out) | ((with_reducible refine gate_callee (f := 19) rfl ?_); refine gl_ 12 Tryd.func19 #[.slice A0_2 l0_2.length c0_2] ?_; (with_reducible refine (ih_laws_toExprS k (by omega) _ _ l0_2 t21 _ ?side1 HC0_2.out A2.out).mono ?_); (case side1 => exact Kd.C_below HR0_2.out ab42_); rintro e w11 ⟨v26, rfl, ho0, hb⟩; refine ⟨_, rfl, ?_⟩; have HO27 := am (Kd.R_lower (Kd.R_newB (Kd.R_newB ho0 (g := gb23) (o := .cells #[.int .i64 0, .int .i64 0, .slice none 0 0] 29 (0, 0)) (blk_far (blk_far BK23.out NB23_25.out _) NB23_25.out _)) (g := gb25) (o := .cells #[.int .i64 a0_0, .int .i64 a0_1, .slice none 0 0] 29 (0, 0)) (blk_put (blk_put BK25.out 0 _ rfl) 1 _ rfl)) (below_size ab42_)); replace BK22 := am (blk_below (g := gb22) (o := .cells #[.int .i64 a0_0, .int .i64 a0_1, .slice A0_2 l0_2.length c0_2] 24 (0, 0)) (blk_far (blk_far BK22.out NB22_25.out _) NB22_25.out _) hb); replace BK23 := am (blk_below (g := gb23) (o := .cells #[.int .i64 0, .int .i64 0, .slice none 0 0] 29 (0, 0)) (blk_far (blk_far BK23.out NB23_25.out _) NB23_25.out _) hb); replace BK25 := am (blk_below (g := gb25) (o := .cells #[.int .i64 a0_0, .int .i64 a0_1, .slice none 0 0] 29 (0, 0)) (blk_put (blk_put BK25.out 0 _ rfl) 1 _ rfl) hb); replace HB := am (below_step ab42_ hb); (try clear hb); (try clear ho0); obtain ⟨Ao12, co12, eo12⟩ := Kd.R_slice HO27.out; subst eo12; obtain ⟨hcz13_0, hcz13_1, hcz13_2, hfz13_0, hfz13_1, hfz13_2⟩ := bcf3_ BK25.out; obtain ⟨hcz14_0, hcz14_1, hcz14_2, hfz14_0, hfz14_1, hfz14_2⟩ := bcf3_ BK23.out))
 refine bodyPost_ret (results_cell_row rfl _ _ gb23 29 #[.int .i64 a0_0, .int .i64 a0_1, .slice Ao12 t21.length co12] (0, 0) _ rfl (blk_put (blk_put (blk_put (blk_far BK23.out NB23_25.out _) 0 _ rfl) 1 _ rfl) 2 _ rfl) Tryd.underlying29 rfl (by kernel_rfl)) rfl ?_
 exact ⟨_, ab16_, aRw_ (Kd.R_mono (Kd.R_far (p := ⟨gb23, 2, none⟩) (Kd.R_far (p := ⟨gb23, 1, none⟩) (Kd.R_far (p := ⟨gb23, 0, none⟩) (Kd.R_far (p := ⟨gb25, 2, none⟩) (Kd.R_mono (Kd.R_mono HO27.out (fun k_ hk => (⟨hk, hk.2⟩ : _ ∧ k_ ≠ gb25))) (fun k_ hk => (⟨hk, hk.1.1.2⟩ : _ ∧ k_ ≠ gb23))) (fun _ hk => hk.1.2) (.slice Ao12 t21.length co12)) (fun _ hk => hk.2) (.int .i64 a0_0)) (fun _ hk => hk.2) (.int .i64 a0_1)) (fun _ hk => hk.2) (.slice Ao12 t21.length co12)) (fun _ hk => trivial)), ab42_⟩
theorem laws_toExprS.calls_all (k : Nat) : laws_toExprS.CallsAt k ∧ laws_toExpr.CallsAt k := by
 induction k using Nat.strongRecOn with
 | _ k ih => exact ⟨laws_toExprS.step k (ih_laws_toExprS := fun m hm => (ih m hm).1) (ih_laws_toExpr := fun m hm => (ih m hm).2), laws_toExpr.step k (ih_laws_toExprS := fun m hm => (ih m hm).1) (ih_laws_toExpr := fun m hm => (ih m hm).2)⟩
theorem laws_toExprS.calls (k : Nat) : laws_toExprS.CallsAt k := (laws_toExprS.calls_all k).1
theorem laws_toExpr.calls (k : Nat) : laws_toExpr.CallsAt k := (laws_toExprS.calls_all k).2
theorem impl_OpValid.calls (a0 : Int) (r : Bool) (w : World) (h : impl_OpValid.f a0 = some r) :
  Calls Tryd.prog 57 #[.int .i64 a0] w fun e w' => e = .returned (.bool r) ∧ Drawn0 w w' := by
 have H : (if a0 ≥ 1 then (some (decide (a0 ≤ 12))) else (some false)) = some r := h
 clear h
 by_cases c2 : a0 ≥ 1
 ·rw [if_pos c2] at H
  have c2b0 : decide (1 ≤ a0) = true := decide_eq_true c2
  clear c2
  obtain rfl := Option.some.inj H
  go_enter Tryd.func57, Tryd.ntmps57
  go_wp2
  go_ret
  exact ⟨sd_, ab6_⟩
 rw [if_neg c2] at H
 have c2b0 : decide (1 ≤ a0) = false := decide_eq_false c2
 clear c2
 obtain rfl := Option.some.inj H
 go_enter Tryd.func57, Tryd.ntmps57
 go_wp2
 go_ret
 exact ⟨sd_, ab6_⟩
theorem impl_exprValid.mono_l : ∀ k, (∀ y0 y1 y2 y3, LeO (impl_exprValid.f k y0 y1 y2 y3) (impl_exprValid.f (k + 1) y0 y1 y2 y3))
 | 0 => fun _ _ _ _ r h => by simp [impl_exprValid.f] at h
 | k + 1 => by
  have ih0 := impl_exprValid.mono_l k
  ·intro y0 y1 y2 y3
   unfold impl_exprValid.f
   exact mo_
theorem impl_exprValid.mono : ∀ a0 a1 a2 a3 k, LeO (impl_exprValid.f k a0 a1 a2 a3) (impl_exprValid.f (k + 1) a0 a1 a2 a3) := by
 intro a0 a1 a2 a3 k
 have ih0 := impl_exprValid.mono_l k
 exact ih0 a0 a1 a2 a3
theorem impl_exprValid.calls (k : Nat) : ∀ (a0_0 : Int) (a0_1 : Int) (A0_2 : Option Addr) (c0_2 : Nat) (l0_2 : List (S29)) (a1 : Int) (r : Bool) (w : World) (hr0_2 : Kd.C k29 w A0_2 l0_2.length l0_2) (hc0_2 : l0_2.length ≤ c0_2) (h : impl_exprValid.f k a0_0 a0_1 l0_2 a1 = some r),
  Calls Tryd.prog 36 #[.agg #[.int .i64 a0_0, .int .i64 a0_1, .slice A0_2 l0_2.length c0_2], .int .i64 a1] w fun e w' => e = .returned (.bool r) ∧ Below w.heap.size w w' := by
 induction k using Nat.strongRecOn with
 | _ k ih =>
 intro a0_0 a0_1 A0_2 c0_2 l0_2 a1 r w hr0_2 hc0_2 h
 cases k with
 | zero => exact absurd h (by simp [impl_exprValid.f])
 | succ k =>
 simp only [impl_exprValid.f] at h
 have hu29 := Tryd.underlying29
 have HR0_2 := am hr0_2
 have HC0_2 := am hc0_2
 clear hr0_2 hc0_2
 have HB := am (Below.refl w.heap.size w)
 have H : (if a0_0 = 0 then (if a0_1 ≥ 0 then (if a0_1 ≤ 99999 then (if (l0_2.length : Int) = 0 then (some (decide (a1 > 0))) else (some false)) else (some false)) else (some false)) else (if a0_0 = 13 then (if a0_1 ≥ 0 then (if a0_1 < 4 then (if (l0_2.length : Int) = 0 then (some (decide (a1 > 0))) else (some false)) else (some false)) else (some false)) else ((impl_OpValid.f a0_0).bind fun t20 => (if t20 = true then (if a0_1 = 0 then (if (l0_2.length : Int) = 2 then (if a1 > 1 then (if 0 < (l0_2.length : Int) then ((impl_exprValid.f k ((rd_T29 l0_2 0).f0) ((rd_T29 l0_2 0).f1) ((rd_T29 l0_2 0).f2) (wrap64 (a1 - 1))).bind fun t21 => (if t21 = true then (if 1 < (l0_2.length : Int) then ((impl_exprValid.f k ((rd_T29 l0_2 1).f0) ((rd_T29 l0_2 1).f1) ((rd_T29 l0_2 1).f2) (wrap64 (a1 - 1))).bind fun t22 => (some t22)) else (none)) else (some false))) else (none)) else (some false)) else (some false)) else (some false)) else (some false))))) = some r := h
 clear h
 have HH_ := am H
 clear H
 go_enter Tryd.func36, Tryd.ntmps36
 go_upto_region 1 with (first | ((with_reducible refine gate_dst (N := 2) rfl ?_); (try (refine gate_guard (by rfl) ?_; dsimp only)); refine box_event rfl (N := 2) rfl (cs := #[.int .i64 a0_0, .int .i64 a0_1, .slice A0_2 l0_2.length c0_2]) (t := 29) rn_ ?_; intro gb23 hg w7 hbox hb; have BK23 := am (hbox); have GW23 := am ((by rw [hg]; exact (below_size ab2_) : w.heap.size ≤ gb23)); have GE23 := am ((by rw [hg]; exact (below_size ab2_) : w.heap.size ≤ gb23)); replace HB := am (below_step ab2_ hb); clear hb hbox hg; obtain ⟨hcz8_0, hcz8_1, hcz8_2, hfz8_0, hfz8_1, hfz8_2⟩ := bcf3_ BK23.out))
 have H := HH_.out
 clear HH_
 by_cases c3 : a0_0 = 0
 ·rw [if_pos c3] at H
  have c3b0 : (a0_0 == 0) = true := beq_iff_eq.mpr c3
  have c3b1 : (a0_0 != 0) = false := bne_eq_false_iff_eq.mpr c3
  clear c3
  by_cases c4 : a0_1 ≥ 0
  ·rw [if_pos c4] at H
   have c4b0 : decide (0 ≤ a0_1) = true := decide_eq_true c4
   clear c4
   by_cases c5 : a0_1 ≤ 99999
   ·rw [if_pos c5] at H
    have c5b0 : decide (a0_1 ≤ 99999) = true := decide_eq_true c5
    clear c5
    by_cases c6 : (l0_2.length : Int) = 0
    ·rw [if_pos c6] at H
     have c6b0 : ((l0_2.length : Int) == 0) = true := beq_iff_eq.mpr c6
     have c6b1 : ((l0_2.length : Int) != 0) = false := bne_eq_false_iff_eq.mpr c6
     clear c6
     obtain rfl := Option.some.inj H
     go_wp2
     go_ret
     exact ⟨rr_, ab8_⟩
    rw [if_neg c6] at H
    have c6b0 : ((l0_2.length : Int) == 0) = false := beq_eq_false_iff_ne.mpr c6
    have c6b1 : ((l0_2.length : Int) != 0) = true := bne_iff_ne.mpr c6
    have c6b2 : ¬ (l0_2 = []) := fun h_ => c6 (by rw [h_]; rfl)
    obtain rfl := Option.some.inj H
    go_wp2
    go_ret
    exact ⟨rr_, ab8_⟩
   rw [if_neg c5] at H
   have c5b0 : decide (a0_1 ≤ 99999) = false := decide_eq_false c5
   clear c5
   obtain rfl := Option.some.inj H
   go_wp2
   go_ret
   exact ⟨rr_, ab8_⟩
  rw [if_neg c4] at H
  have c4b0 : decide (0 ≤ a0_1) = false := decide_eq_false c4
  clear c4
  obtain rfl := Option.some.inj H
  go_wp2
  go_ret
  exact ⟨rr_, ab8_⟩
 rw [if_neg c3] at H
 have c3b0 : (a0_0 == 0) = false := beq_eq_false_iff_ne.mpr c3
 have c3b1 : (a0_0 != 0) = true := bne_iff_ne.mpr c3
 by_cases c15 : a0_0 = 13
 ·rw [if_pos c15] at H
  have c15b0 : (a0_0 == 13) = true := beq_iff_eq.mpr c15
  have c15b1 : (a0_0 != 13) = false := bne_eq_false_iff_eq.mpr c15
  clear c15
  by_cases c16 : a0_1 ≥ 0
  ·rw [if_pos c16] at H
   have c16b0 : decide (0 ≤ a0_1) = true := decide_eq_true c16
   clear c16
   by_cases c17 : a0_1 < 4
   ·rw [if_pos c17] at H
    have c17b0 : decide (a0_1 < 4) = true := decide_eq_true c17
    clear c17
    by_cases c18 : (l0_2.length : Int) = 0
    ·rw [if_pos c18] at H
     have c18b0 : ((l0_2.length : Int) == 0) = true := beq_iff_eq.mpr c18
     have c18b1 : ((l0_2.length : Int) != 0) = false := bne_eq_false_iff_eq.mpr c18
     clear c18
     obtain rfl := Option.some.inj H
     go_wp2
     go_ret
     exact ⟨rr_, ab8_⟩
    rw [if_neg c18] at H
    have c18b0 : ((l0_2.length : Int) == 0) = false := beq_eq_false_iff_ne.mpr c18
    have c18b1 : ((l0_2.length : Int) != 0) = true := bne_iff_ne.mpr c18
    have c18b2 : ¬ (l0_2 = []) := fun h_ => c18 (by rw [h_]; rfl)
    obtain rfl := Option.some.inj H
    go_wp2
    go_ret
    exact ⟨rr_, ab8_⟩
   rw [if_neg c17] at H
   have c17b0 : decide (a0_1 < 4) = false := decide_eq_false c17
   clear c17
   obtain rfl := Option.some.inj H
   go_wp2
   go_ret
   exact ⟨rr_, ab8_⟩
  rw [if_neg c16] at H
  have c16b0 : decide (0 ≤ a0_1) = false := decide_eq_false c16
  clear c16
  obtain rfl := Option.some.inj H
  go_wp2
  go_ret
  exact ⟨rr_, ab8_⟩
 rw [if_neg c15] at H
 have c15b0 : (a0_0 == 13) = false := beq_eq_false_iff_ne.mpr c15
 have c15b1 : (a0_0 != 13) = true := bne_iff_ne.mpr c15
 obtain ⟨t20, A24, H⟩ := bsm H
 (try dsimp only at H)
 have A27 := am A24
 clear A24
 by_cases c28 : t20 = true
 ·subst c28
  rw [if_pos rfl] at H
  by_cases c29 : a0_1 = 0
  ·rw [if_pos c29] at H
   have c29b0 : (a0_1 == 0) = true := beq_iff_eq.mpr c29
   have c29b1 : (a0_1 != 0) = false := bne_eq_false_iff_eq.mpr c29
   clear c29
   by_cases c30 : (l0_2.length : Int) = 2
   ·rw [if_pos c30] at H
    have c30b0 : ((l0_2.length : Int) == 2) = true := beq_iff_eq.mpr c30
    have c30b1 : ((l0_2.length : Int) != 2) = false := bne_eq_false_iff_eq.mpr c30
    clear c30
    by_cases c31 : a1 > 1
    ·rw [if_pos c31] at H
     have c31b0 : decide (1 < a1) = true := decide_eq_true c31
     clear c31
     by_cases c32 : 0 < (l0_2.length : Int)
     ·rw [if_pos c32] at H
      have c32b0 : decide (0 < (l0_2.length : Int)) = true := decide_eq_true c32
      have c32b1 : decide (0 < l0_2.length) = true := decide_eq_true (by omega)
      clear c32
      obtain ⟨t21, A25, H⟩ := bsm H
      (try dsimp only at H)
      have A33 := am A25
      clear A25
      by_cases c34 : t21 = true
      ·subst c34
       rw [if_pos rfl] at H
       by_cases c35 : 1 < (l0_2.length : Int)
       ·rw [if_pos c35] at H
        have c35b0 : decide (1 < (l0_2.length : Int)) = true := decide_eq_true c35
        have c35b1 : decide (1 < l0_2.length) = true := decide_eq_true (by omega)
        clear c35
        obtain ⟨t22, A26, H⟩ := bsm H
        (try dsimp only at H)
        have A36 := am A26
        clear A26
        obtain rfl := Option.some.inj H
        go_wp2_with (first | ((with_reducible refine gate_callee (f := 57) rfl ?_); refine gl_ 51 Tryd.func57 #[.int .i64 a0_0] ?_; (with_reducible refine (impl_OpValid.calls a0_0 true _ A27.out).mono ?_); rintro e w' ⟨rfl, ⟨nd, rfl⟩⟩; refine ⟨_, rfl, ?_⟩; have p37 : 0 ≤ (0 : Int) := (by omega); have q37 : 0 < (l0_2.length : Int) := of_decide_eq_true asm_; obtain ⟨ad37, A37_2, c37_2, e37, hx37_0, hx37_1, hx37_2, hl37_2, hi37_2⟩ := at_T29 HR0_2.out 0 p37 q37; cases e37; have qi37 : (0 < l0_2.length) = True := eq_true (by omega); (try rw [show ((0 : Int)).toNat = 0 from rfl] at hx37_0); (try rw [show 0 * 3 = 0 from rfl] at hx37_0); (try rw [Addr.add_zero'] at hx37_0); (try rw [show ((0 : Int)).toNat = 0 from rfl] at hx37_1); (try rw [show 0 * 3 = 0 from rfl] at hx37_1); (try rw [Addr.add_zero'] at hx37_1); (try rw [show ((0 : Int)).toNat = 0 from rfl] at hx37_2); (try rw [show 0 * 3 = 0 from rfl] at hx37_2); (try rw [Addr.add_zero'] at hx37_2); replace hx37_0 := (HB.out.cell (World.block_lt_of_cell? w _ hx37_0)).trans hx37_0; replace hx37_1 := (HB.out.cell (World.block_lt_of_cell? w _ hx37_1)).trans hx37_1; replace hx37_2 := (HB.out.cell (World.block_lt_of_cell? w _ hx37_2)).trans hx37_2; have HR37_2 := am hi37_2; have HC37_2 := am hl37_2; clear hi37_2 hl37_2; replace p37 := eq_true p37; replace q37 := eq_true q37) | (go_at_call 36; (with_reducible refine (ih k (by omega) ((rd_T29 l0_2 0).f0) ((rd_T29 l0_2 0).f1) _ _ ((rd_T29 l0_2 0).f2) (wrap64 (a1 - 1)) true _ (aC_ (Kd.C_below HR37_2.out ab8_)) HC37_2.out A33.out).mono ?_); rintro e w39 ⟨rfl, hb⟩; replace BK23 := am (bbl_ BK23.out hb); replace HB := am (below_step ab8_ hb); (try clear hb); obtain ⟨hcz40_0, hcz40_1, hcz40_2, hfz40_0, hfz40_1, hfz40_2⟩ := bcf3_ BK23.out; have p38 : 0 ≤ (1 : Int) := (by omega); have q38 : 1 < (l0_2.length : Int) := of_decide_eq_true asm_; obtain ⟨ad38, A38_2, c38_2, e38, hx38_0, hx38_1, hx38_2, hl38_2, hi38_2⟩ := at_T29 HR0_2.out 1 p38 q38; obtain rfl : ad37 = ad38 := (by injection e38); (try simp only [show (1 : Int).toNat = 1 from rfl, Nat.reduceMul, Nat.reduceEqDiff, Go.Addr.add, ↓reduceIte] at hx38_0); (try simp only [show (1 : Int).toNat = 1 from rfl, Nat.reduceMul, Nat.reduceEqDiff, Go.Addr.add, ↓reduceIte] at hx38_1); (try simp only [show (1 : Int).toNat = 1 from rfl, Nat.reduceMul, Nat.reduceEqDiff, Go.Addr.add, ↓reduceIte] at hx38_2); have qi38 : (1 < l0_2.length) = True := eq_true (by omega); (try rw [show ((1 : Int)).toNat = 1 from rfl] at hx38_0); (try rw [show 1 * 3 = 3 from rfl] at hx38_0); (try rw [show ((1 : Int)).toNat = 1 from rfl] at hx38_1); (try rw [show 1 * 3 = 3 from rfl] at hx38_1); (try rw [show ((1 : Int)).toNat = 1 from rfl] at hx38_2); (try rw [show 1 * 3 = 3 from rfl] at hx38_2); replace hx38_0 := (HB.out.cell (World.block_lt_of_cell? w _ hx38_0)).trans hx38_0; replace hx38_1 := (HB.out.cell (World.block_lt_of_cell? w _ hx38_1)).trans hx38_1; replace hx38_2 := (HB.out.cell (World.block_lt_of_cell? w _ hx38_2)).trans hx38_2; have HR38_2 := am hi38_2; have HC38_2 := am hl38_2; clear hi38_2 hl38_2; replace p38 := eq_true p38; replace q38 := eq_true q38) | (go_at_call 36; (with_reducible refine (ih k (by omega) ((rd_T29 l0_2 1).f0) ((rd_T29 l0_2 1).f1) _ _ ((rd_T29 l0_2 1).f2) (wrap64 (a1 - 1)) t22 _ (aC_ (Kd.C_below HR38_2.out HB.out)) HC38_2.out A36.out).mono ?_); rintro e w41 ⟨rfl, hb⟩; replace BK23 := am (bbl_ BK23.out hb); replace HB := am (below_step ab8_ hb); (try clear hb)))
        go_ret
        exact ⟨rr_, ab8_⟩
       rw [if_neg c35] at H
       exact absurd H (by simp)
      replace c34 := Bool.eq_false_iff.mpr c34
      subst c34
      rw [if_neg (show ¬ (false = true) by decide)] at H
      obtain rfl := Option.some.inj H
      go_wp2_with (first | ((with_reducible refine gate_callee (f := 57) rfl ?_); refine gl_ 51 Tryd.func57 #[.int .i64 a0_0] ?_; (with_reducible refine (impl_OpValid.calls a0_0 true _ A27.out).mono ?_); rintro e w' ⟨rfl, ⟨nd, rfl⟩⟩; refine ⟨_, rfl, ?_⟩; have p37 : 0 ≤ (0 : Int) := (by omega); have q37 : 0 < (l0_2.length : Int) := of_decide_eq_true asm_; obtain ⟨ad37, A37_2, c37_2, e37, hx37_0, hx37_1, hx37_2, hl37_2, hi37_2⟩ := at_T29 HR0_2.out 0 p37 q37; cases e37; have qi37 : (0 < l0_2.length) = True := eq_true (by omega); (try rw [show ((0 : Int)).toNat = 0 from rfl] at hx37_0); (try rw [show 0 * 3 = 0 from rfl] at hx37_0); (try rw [Addr.add_zero'] at hx37_0); (try rw [show ((0 : Int)).toNat = 0 from rfl] at hx37_1); (try rw [show 0 * 3 = 0 from rfl] at hx37_1); (try rw [Addr.add_zero'] at hx37_1); (try rw [show ((0 : Int)).toNat = 0 from rfl] at hx37_2); (try rw [show 0 * 3 = 0 from rfl] at hx37_2); (try rw [Addr.add_zero'] at hx37_2); replace hx37_0 := (HB.out.cell (World.block_lt_of_cell? w _ hx37_0)).trans hx37_0; replace hx37_1 := (HB.out.cell (World.block_lt_of_cell? w _ hx37_1)).trans hx37_1; replace hx37_2 := (HB.out.cell (World.block_lt_of_cell? w _ hx37_2)).trans hx37_2; have HR37_2 := am hi37_2; have HC37_2 := am hl37_2; clear hi37_2 hl37_2; replace p37 := eq_true p37; replace q37 := eq_true q37) | (go_at_call 36; (with_reducible refine (ih k (by omega) ((rd_T29 l0_2 0).f0) ((rd_T29 l0_2 0).f1) _ _ ((rd_T29 l0_2 0).f2) (wrap64 (a1 - 1)) false _ (aC_ (Kd.C_below HR37_2.out ab8_)) HC37_2.out A33.out).mono ?_); rintro e w44 ⟨rfl, hb⟩; replace BK23 := am (bbl_ BK23.out hb); replace HB := am (below_step ab8_ hb); (try clear hb)))
      go_ret
      exact ⟨rr_, ab8_⟩
     rw [if_neg c32] at H
     exact absurd H (by simp)
    rw [if_neg c31] at H
    have c31b0 : decide (1 < a1) = false := decide_eq_false c31
    clear c31
    obtain rfl := Option.some.inj H
    go_wp2_with (first | ((with_reducible refine gate_callee (f := 57) rfl ?_); refine gl_ 51 Tryd.func57 #[.int .i64 a0_0] ?_; (with_reducible refine (impl_OpValid.calls a0_0 true _ A27.out).mono ?_); rintro e w' ⟨rfl, ⟨nd, rfl⟩⟩; refine ⟨_, rfl, ?_⟩))
    go_ret
    exact ⟨rr_, ab8_⟩
   rw [if_neg c30] at H
   have c30b0 : ((l0_2.length : Int) == 2) = false := beq_eq_false_iff_ne.mpr c30
   have c30b1 : ((l0_2.length : Int) != 2) = true := bne_iff_ne.mpr c30
   obtain rfl := Option.some.inj H
   go_wp2_with (first | ((with_reducible refine gate_callee (f := 57) rfl ?_); refine gl_ 51 Tryd.func57 #[.int .i64 a0_0] ?_; (with_reducible refine (impl_OpValid.calls a0_0 true _ A27.out).mono ?_); rintro e w' ⟨rfl, ⟨nd, rfl⟩⟩; refine ⟨_, rfl, ?_⟩))
   go_ret
   exact ⟨rr_, ab8_⟩
  rw [if_neg c29] at H
  have c29b0 : (a0_1 == 0) = false := beq_eq_false_iff_ne.mpr c29
  have c29b1 : (a0_1 != 0) = true := bne_iff_ne.mpr c29
  obtain rfl := Option.some.inj H
  go_wp2_with (first | ((with_reducible refine gate_callee (f := 57) rfl ?_); refine gl_ 51 Tryd.func57 #[.int .i64 a0_0] ?_; (with_reducible refine (impl_OpValid.calls a0_0 true _ A27.out).mono ?_); rintro e w' ⟨rfl, ⟨nd, rfl⟩⟩; refine ⟨_, rfl, ?_⟩))
  go_ret
  exact ⟨rr_, ab8_⟩
 replace c28 := Bool.eq_false_iff.mpr c28
 subst c28
 rw [if_neg (show ¬ (false = true) by decide)] at H
 obtain rfl := Option.some.inj H
 go_wp2_with (first | ((with_reducible refine gate_callee (f := 57) rfl ?_); refine gl_ 51 Tryd.func57 #[.int .i64 a0_0] ?_; (with_reducible refine (impl_OpValid.calls a0_0 false _ A27.out).mono ?_); rintro e w' ⟨rfl, ⟨nd, rfl⟩⟩; refine ⟨_, rfl, ?_⟩))
 go_ret
 exact ⟨rr_, ab8_⟩
theorem impl_ExprValid.mono : ∀ a0 a1 a2 k, LeO (impl_ExprValid.f k a0 a1 a2) (impl_ExprValid.f (k + 1) a0 a1 a2) := by
 intro a0 a1 a2 k
 unfold impl_ExprValid.f
 have m0 := @impl_exprValid.mono
 exact mo_
theorem impl_ExprValid.calls (k : Nat) (a0_0 : Int) (a0_1 : Int) (A0_2 : Option Addr) (c0_2 : Nat) (l0_2 : List (S29)) (r : Bool) (w : World) (hr0_2 : Kd.C k29 w A0_2 l0_2.length l0_2) (hc0_2 : l0_2.length ≤ c0_2) (h : impl_ExprValid.f k a0_0 a0_1 l0_2 = some r) :
  Calls Tryd.prog 20 #[.agg #[.int .i64 a0_0, .int .i64 a0_1, .slice A0_2 l0_2.length c0_2]] w fun e w' => e = .returned (.bool r) ∧ Below w.heap.size w w' := by
 have hu29 := Tryd.underlying29
 have HR0_2 := am hr0_2
 have HC0_2 := am hc0_2
 clear hr0_2 hc0_2
 have HB := am (Below.refl w.heap.size w)
 have H : ((impl_exprValid.f k a0_0 a0_1 l0_2 5).bind fun t21 => (some t21)) = some r := h
 clear h
 obtain ⟨t21, A2, H⟩ := bsa H
 (try dsimp only at H)
 obtain rfl := Option.some.inj H
 go_enter Tryd.func20, Tryd.ntmps20
 go_wp2_with (first | ((with_reducible refine gate_dst (N := 1) rfl ?_); refine box_event rfl (N := 1) rfl (cs := #[.int .i64 a0_0, .int .i64 a0_1, .slice A0_2 l0_2.length c0_2]) (t := 29) rn_ ?_; intro gb22 hg w3 hbox hb; have BK22 := am (hbox); have GW22 := am ((by rw [hg]; exact (below_size ab2_) : w.heap.size ≤ gb22)); have GE22 := am ((by rw [hg]; exact (below_size ab2_) : w.heap.size ≤ gb22)); replace HB := am (below_step ab2_ hb); clear hb hbox hg; obtain ⟨hcz4_0, hcz4_1, hcz4_2, hfz4_0, hfz4_1, hfz4_2⟩ := bcf3_ BK22.out) | ((with_reducible refine gate_callee (f := 36) rfl ?_); refine gl_ 4 Tryd.func36 #[.agg #[.int .i64 a0_0, .int .i64 a0_1, .slice A0_2 l0_2.length c0_2], .int .i64 5] ?_; (with_reducible refine (impl_exprValid.calls k a0_0 a0_1 _ _ l0_2 5 t21 _ (aC_ (Kd.C_below HR0_2.out HB.out)) HC0_2.out A2.out).mono ?_); rintro e w5 ⟨rfl, hb⟩; refine ⟨_, rfl, ?_⟩; replace BK22 := am (bbl_ BK22.out hb); replace HB := am (below_step ab36_ hb); (try clear hb)))
 go_ret
 exact ⟨rr_, ab36_⟩
theorem impl_isDigit.calls (a0 : Int) (r : Bool) (w : World) (h : impl_isDigit.f a0 = some r) :
  Calls Tryd.prog 50 #[.int .u8 a0] w fun e w' => e = .returned (.bool r) ∧ Drawn0 w w' := by
 have H : (if a0 ≥ 48 then (some (decide (a0 ≤ 57))) else (some false)) = some r := h
 clear h
 by_cases c2 : a0 ≥ 48
 ·rw [if_pos c2] at H
  have c2b0 : decide (48 ≤ a0) = true := decide_eq_true c2
  clear c2
  obtain rfl := Option.some.inj H
  go_enter Tryd.func50, Tryd.ntmps50
  go_wp2
  go_ret
  exact ⟨sd_, ab6_⟩
 rw [if_neg c2] at H
 have c2b0 : decide (48 ≤ a0) = false := decide_eq_false c2
 clear c2
 obtain rfl := Option.some.inj H
 go_enter Tryd.func50, Tryd.ntmps50
 go_wp2
 go_ret
 exact ⟨sd_, ab6_⟩
theorem impl_isLetter.calls (a0 : Int) (r : Bool) (w : World) (h : impl_isLetter.f a0 = some r) :
  Calls Tryd.prog 51 #[.int .u8 a0] w fun e w' => e = .returned (.bool r) ∧ Drawn0 w w' := by
 have H : (if a0 ≥ 97 then (some (decide (a0 ≤ 122))) else (some false)) = some r := h
 clear h
 by_cases c2 : a0 ≥ 97
 ·rw [if_pos c2] at H
  have c2b0 : decide (97 ≤ a0) = true := decide_eq_true c2
  clear c2
  obtain rfl := Option.some.inj H
  go_enter Tryd.func51, Tryd.ntmps51
  go_wp2
  go_ret
  exact ⟨sd_, ab6_⟩
 rw [if_neg c2] at H
 have c2b0 : decide (97 ≤ a0) = false := decide_eq_false c2
 clear c2
 obtain rfl := Option.some.inj H
 go_enter Tryd.func51, Tryd.ntmps51
 go_wp2
 go_ret
 exact ⟨sd_, ab6_⟩
theorem stringslite_HasPrefix.calls (a0 : ByteArray) (a1 : ByteArray) (r : Bool) (w : World) (h : stringslite_HasPrefix.f a0 a1 = some r) :
  Calls Tryd.prog 62 #[.string a0, .string a1] w fun e w' => e = .returned (.bool r) ∧ Drawn0 w w' := by
 have H : (if (a0.size : Int) ≥ (a1.size : Int) then (if 0 ≤ (a1.size : Int) then (if (a1.size : Int) ≤ (a0.size : Int) then (some ((a0.extract 0 ((a1.size : Int) : Int).toNat).toList == a1.toList)) else (none)) else (none)) else (some false)) = some r := h
 clear h
 by_cases c3 : (a0.size : Int) ≥ (a1.size : Int)
 ·rw [if_pos c3] at H
  have c3b0 : decide ((a1.size : Int) ≤ (a0.size : Int)) = true := decide_eq_true c3
  have c3b1 : decide (a1.size ≤ a0.size) = true := decide_eq_true (Int.ofNat_le.mp c3)
  clear c3
  by_cases c4 : 0 ≤ (a1.size : Int)
  ·rw [if_pos c4] at H
   have c4b0 := eq_true c4
   have c4b1 : decide (0 ≤ (a1.size : Int)) = true := decide_eq_true c4
   clear c4
   by_cases c5 : (a1.size : Int) ≤ (a0.size : Int)
   ·rw [if_pos c5] at H
    have c5b0 := eq_true c5
    have c5b1 : decide ((a1.size : Int) ≤ (a0.size : Int)) = true := decide_eq_true c5
    clear c5
    obtain rfl := Option.some.inj H
    go_enter Tryd.func62, Tryd.ntmps62
    go_wp2
    go_ret
    exact ⟨sd_, ab6_⟩
   rw [if_neg c5] at H
   exact absurd H (by simp)
  rw [if_neg c4] at H
  exact absurd H (by simp)
 rw [if_neg c3] at H
 have c3b0 : decide ((a1.size : Int) ≤ (a0.size : Int)) = false := decide_eq_false c3
 have c3b1 : decide (a1.size ≤ a0.size) = false := decide_eq_false (fun h => c3 (Int.ofNat_le.mpr h))
 clear c3
 obtain rfl := Option.some.inj H
 go_enter Tryd.func62, Tryd.ntmps62
 go_wp2
 go_ret
 exact ⟨sd_, ab6_⟩
theorem strings_HasPrefix.calls (a0 : ByteArray) (a1 : ByteArray) (r : Bool) (w : World) (h : strings_HasPrefix.f a0 a1 = some r) :
  Calls Tryd.prog 52 #[.string a0, .string a1] w fun e w' => e = .returned (.bool r) ∧ Drawn0 w w' := by
 have H : ((stringslite_HasPrefix.f a0 a1).bind fun t20 => (some t20)) = some r := h
 clear h
 obtain ⟨t20, A3, H⟩ := bsa H
 (try dsimp only at H)
 obtain rfl := Option.some.inj H
 go_enter Tryd.func52, Tryd.ntmps52
 go_wp2_with (first | ((with_reducible refine gate_callee (f := 62) rfl ?_); refine gl_ 7 Tryd.func62 #[.string a0, .string a1] ?_; (with_reducible refine (stringslite_HasPrefix.calls a0 a1 t20 _ A3.out).mono ?_); rintro e w' ⟨rfl, ⟨nd, rfl⟩⟩; refine ⟨_, rfl, ?_⟩))
 go_ret
 exact ⟨sd_, ab6_⟩
theorem strings_IndexByte.calls (a0 : ByteArray) (a1 : Int) (r : Int) (w : World) (h : strings_IndexByte.f a0 a1 = some r) :
  Calls Tryd.prog 53 #[.string a0, .int .u8 a1] w fun e w' => e = .returned (.int .i64 r) ∧ Drawn0 w w' := by
 obtain rfl := Option.some.inj h
 refine (Tryd.strings_IndexByte a0 a1 w).mono ?_
 rintro e w' ⟨rfl, rfl⟩
 exact ⟨rfl, Drawn0.refl _⟩
theorem impl_tokenLength.mono_l : ∀ k a b c, LeO (impl_tokenLength.l1 k a b c) (impl_tokenLength.l1 (k + 1) a b c)
 | 0, _, _, _ => fun r h => by simp [impl_tokenLength.l1] at h
 | k + 1, a, b, c => by
  unfold impl_tokenLength.l1
  exact LeO.ite (LeO.ite (LeO.bind (LeO.refl _) (fun _ => LeO.ite (impl_tokenLength.mono_l k _ _ _) (LeO.refl _))) (LeO.none _)) (LeO.refl _)
theorem impl_tokenLength.mono : ∀ a0 k, LeO (impl_tokenLength.f k a0) (impl_tokenLength.f (k + 1) a0) := by
 intro a0 k
 exact LeO.bind (impl_tokenLength.mono_l _ _ _ _) (fun _ => LeO.ite (LeO.refl _) (LeO.bind (impl_tokenLength.mono_l _ _ _ _) (fun _ => LeO.refl _)))
theorem lit_run {P : Program} {ops : Array Oper} {Q : Exit → Act → World → Prop} {rest : List Oper} {o : Oper} {a : Act} {W : World} (N : Tmp) (cs : Array Value) (n : Nat) (e : TypeId) (hgd : o.guard = none) (hd : o.dst = some N)
  (hrun : (execOp a.eval o).run P W = .ok (.value (.slice (some ⟨W.heap.size, 0, none⟩) n n)) (W.alloc (.cells cs e)))
  (h : ∀ g W1, W1.heap[g]? = some (.cells cs e (0, 0)) → Below W.heap.size W W1 → wpList P ops Q rest (a.put (some N) (.slice (some ⟨g, 0, none⟩) n n)) W1) : wpList P ops Q (o :: rest) a W := by
 rw [← hd] at h
 exact Kd.event_run hgd hrun (h _ _ (blk_new W _) (below_alloc (Below.refl _ _) _))
theorem tl_nil (a : ByteArray) (h : a.size = 0) : a.toList = [] := by
 unfold ByteArray.toList
 unfold ByteArray.toList.loop
 rw [if_neg (by omega)]
 rfl
theorem impl_tokenLength.calls (k : Nat) (a0 : ByteArray) (r : Int) (w : World) (h : impl_tokenLength.f k a0 = some r) :
  Calls Tryd.prog 26 #[.string a0] w fun e w' => e = .returned (.int .i64 r) ∧ Below w.heap.size w w' := by
 have H' := am h
 clear h
 go_enter Tryd.func26, Tryd.ntmps26
 go_wp2_with (first | ((with_reducible refine gate_dst (N := 8) rfl ?_); refine lit_run 8 #[.func (.func 50) #[] #[], .func (.func 51) #[] #[]] 2 66 rfl rfl (by first | (go_simp; done) | (go_simp; rfl)) ?_; intro gb w1 hbk hb; have BK := am hbk; have HB := am (below_step (by repeat (first | exact Below.refl _ _ | apply pw_below_drewN | apply below_alloc)) hb); clear hbk hb))
 go_loopg [10] 2 (fun kq v10 w' => ∃ i : Nat, v10 = .int .i64 (i : Int) ∧ i + kq = 2 ∧ Aside0 (impl_tokenLength.st k a0 i = some r) ∧ Aside0 (w'.heap[gb]? = some (.cells #[.func (.func 50) #[] #[], .func (.func 51) #[] #[]] 66 (0, 0))) ∧ Aside0 (Below w.heap.size w w'))
 case atStart => exact ⟨0, rfl, rfl, H', BK, HB⟩
 case round =>
  clear H' BK HB
  obtain ⟨i, rfl, hi, HA, BK, HB⟩ := hrel
  have hc_ : (i = 0 ∧ gk = 2) ∨ (i = 1 ∧ gk = 1) ∨ (i = 2 ∧ gk = 0) := by omega
  clear hi
  rcases hc_ with ⟨rfl, rfl⟩ | ⟨rfl, rfl⟩ | ⟨rfl, rfl⟩
  ·have hx : _ := (blk_cell BK.out 0).trans rfl
   obtain ⟨d, hd, H⟩ := Option.bind_eq_some_iff.mp HA.out
   have HD := am hd
   have HN := am H
   clear hd H HA
   go_wp2
   go_loopg [5] k (fun kq v5 w' => ∃ x : Int, v5 = .int .i64 x ∧ Aside0 (impl_tokenLength.l1 kq a0 true x = some d) ∧ Aside0 (kq ≤ k) ∧ Aside0 (w'.heap[gb]? = some (.cells #[.func (.func 50) #[] #[], .func (.func 51) #[] #[]] 66 (0, 0))) ∧ Aside0 (Below w.heap.size w w'))
   case atStart => exact ⟨0, rfl, HD, ⟨Nat.le_refl _⟩, BK, HB⟩
   case round =>
    clear BK HB hx HD
    obtain ⟨x, rfl, HD, HK2, BK, HB⟩ := hrel
    cases gk with
    | zero => exact absurd HD.out (by simp [impl_tokenLength.l1])
    | succ k2 =>
     have H := HD.out
     clear HD
     simp only [impl_tokenLength.l1] at H
     by_cases c1 : x < (a0.size : Int)
     ·rw [if_pos c1] at H
      by_cases c2 : 0 ≤ x
      ·rw [if_pos c2] at H
       have H2 : (impl_isDigit.f (bt a0 x)).bind (fun b => if b = true then impl_tokenLength.l1 k2 a0 true (wrap64 (x + 1)) else some x) = some d := H
       obtain ⟨b, hb_, H3⟩ := Option.bind_eq_some_iff.mp H2
       have A1 := am hb_
       have H' := am H3
       clear H H2 H3 hb_
       have b1 : decide (x < (a0.size : Int)) = true := decide_eq_true c1
       have hx5 := bt_at a0 x
       have p5 := eq_true c2
       have q5 := eq_true c1
       clear c1 c2
       cases b with
       | true =>
        go_wp2_with (first | (go_at_call 50; (with_reducible refine (impl_isDigit.calls (bt a0 x) true _ A1.out).mono ?_); rintro e w1 ⟨rfl, ⟨nd, rfl⟩⟩) | fail)
        go_roundg k2
        case measure => have := HK2.out; omega
        case rel => exact ⟨wrap64 (x + 1), rfl, H', ⟨by have := HK2.out; omega⟩, ⟨by first | exact BK.out | exact blk_drewN BK.out _⟩, ⟨by first | exact HB.out | exact pw_below_drewN HB.out _⟩⟩
       | false =>
        have hd := Option.some.inj H'.out
        subst hd
        by_cases c3 : 0 < x
        ·have h3 := HN.out
         rw [if_pos c3] at h3
         obtain rfl := Option.some.inj h3
         have b3 : decide (0 < x) = true := decide_eq_true c3
         have b4 := eq_true c3
         clear h3
         go_wp2_with (first | (go_at_call 50; (with_reducible refine (impl_isDigit.calls (bt a0 x) false _ A1.out).mono ?_); rintro e w1 ⟨rfl, ⟨nd, rfl⟩⟩) | fail)
         go_ret
         exact ⟨rfl, by first | exact HB.out | exact pw_below_drewN HB.out _⟩
        have h3 := HN.out
        rw [if_neg c3] at h3
        have b3 : decide (0 < x) = false := decide_eq_false c3
        have b4 := eq_false c3
        have h3' := am h3
        clear h3
        go_wp2_with (first | (go_at_call 50; (with_reducible refine (impl_isDigit.calls (bt a0 x) false _ A1.out).mono ?_); rintro e w1 ⟨rfl, ⟨nd, rfl⟩⟩) | fail)
        go_roundg 1
        case measure => omega
        case rel => exact ⟨1, rfl, by omega, ⟨h3'.out⟩, ⟨by first | exact BK.out | exact blk_drewN BK.out _⟩, ⟨by first | exact HB.out | exact pw_below_drewN HB.out _⟩⟩
      rw [if_neg c2] at H
      exact absurd H (by simp)
     rw [if_neg c1] at H
     have hd := Option.some.inj H
     subst hd
     have b1 : decide (x < (a0.size : Int)) = false := decide_eq_false c1
     clear c1 H
     by_cases c3 : 0 < x
     ·have h3 := HN.out
      rw [if_pos c3] at h3
      obtain rfl := Option.some.inj h3
      have b3 : decide (0 < x) = true := decide_eq_true c3
      have b4 := eq_true c3
      clear h3
      go_wp2
      go_ret
      exact ⟨rfl, by first | exact HB.out | exact pw_below_drewN HB.out _⟩
     have h3 := HN.out
     rw [if_neg c3] at h3
     have b3 : decide (0 < x) = false := decide_eq_false c3
     have b4 := eq_false c3
     have h3' := am h3
     clear h3
     go_wp2
     go_roundg 1
     case measure => omega
     case rel => exact ⟨1, rfl, by omega, ⟨h3'.out⟩, ⟨by first | exact BK.out | exact blk_drewN BK.out _⟩, ⟨by first | exact HB.out | exact pw_below_drewN HB.out _⟩⟩
  ·have hx : _ := (blk_cell BK.out 1).trans rfl
   obtain ⟨d, hd, H⟩ := Option.bind_eq_some_iff.mp HA.out
   have HD := am hd
   have HN := am H
   clear hd H HA
   go_wp2
   go_loopg [5] k (fun kq v5 w' => ∃ x : Int, v5 = .int .i64 x ∧ Aside0 (impl_tokenLength.l1 kq a0 false x = some d) ∧ Aside0 (kq ≤ k) ∧ Aside0 (w'.heap[gb]? = some (.cells #[.func (.func 50) #[] #[], .func (.func 51) #[] #[]] 66 (0, 0))) ∧ Aside0 (Below w.heap.size w w'))
   case atStart => exact ⟨0, rfl, HD, ⟨Nat.le_refl _⟩, BK, HB⟩
   case round =>
    clear BK HB hx HD
    obtain ⟨x, rfl, HD, HK2, BK, HB⟩ := hrel
    cases gk with
    | zero => exact absurd HD.out (by simp [impl_tokenLength.l1])
    | succ k2 =>
     have H := HD.out
     clear HD
     simp only [impl_tokenLength.l1] at H
     by_cases c1 : x < (a0.size : Int)
     ·rw [if_pos c1] at H
      by_cases c2 : 0 ≤ x
      ·rw [if_pos c2] at H
       have H2 : (impl_isLetter.f (bt a0 x)).bind (fun b => if b = true then impl_tokenLength.l1 k2 a0 false (wrap64 (x + 1)) else some x) = some d := H
       obtain ⟨b, hb_, H3⟩ := Option.bind_eq_some_iff.mp H2
       have A1 := am hb_
       have H' := am H3
       clear H H2 H3 hb_
       have b1 : decide (x < (a0.size : Int)) = true := decide_eq_true c1
       have hx5 := bt_at a0 x
       have p5 := eq_true c2
       have q5 := eq_true c1
       clear c1 c2
       cases b with
       | true =>
        go_wp2_with (first | (go_at_call 51; (with_reducible refine (impl_isLetter.calls (bt a0 x) true _ A1.out).mono ?_); rintro e w1 ⟨rfl, ⟨nd, rfl⟩⟩) | fail)
        go_roundg k2
        case measure => have := HK2.out; omega
        case rel => exact ⟨wrap64 (x + 1), rfl, H', ⟨by have := HK2.out; omega⟩, ⟨by first | exact BK.out | exact blk_drewN BK.out _⟩, ⟨by first | exact HB.out | exact pw_below_drewN HB.out _⟩⟩
       | false =>
        have hd := Option.some.inj H'.out
        subst hd
        by_cases c3 : 0 < x
        ·have h3 := HN.out
         rw [if_pos c3] at h3
         obtain rfl := Option.some.inj h3
         have b3 : decide (0 < x) = true := decide_eq_true c3
         have b4 := eq_true c3
         clear h3
         go_wp2_with (first | (go_at_call 51; (with_reducible refine (impl_isLetter.calls (bt a0 x) false _ A1.out).mono ?_); rintro e w1 ⟨rfl, ⟨nd, rfl⟩⟩) | fail)
         go_ret
         exact ⟨rfl, by first | exact HB.out | exact pw_below_drewN HB.out _⟩
        have h3 := HN.out
        rw [if_neg c3] at h3
        have b3 : decide (0 < x) = false := decide_eq_false c3
        have b4 := eq_false c3
        have h3' := am h3
        clear h3
        go_wp2_with (first | (go_at_call 51; (with_reducible refine (impl_isLetter.calls (bt a0 x) false _ A1.out).mono ?_); rintro e w1 ⟨rfl, ⟨nd, rfl⟩⟩) | fail)
        go_roundg 0
        case measure => omega
        case rel => exact ⟨2, rfl, by omega, ⟨h3'.out⟩, ⟨by first | exact BK.out | exact blk_drewN BK.out _⟩, ⟨by first | exact HB.out | exact pw_below_drewN HB.out _⟩⟩
      rw [if_neg c2] at H
      exact absurd H (by simp)
     rw [if_neg c1] at H
     have hd := Option.some.inj H
     subst hd
     have b1 : decide (x < (a0.size : Int)) = false := decide_eq_false c1
     clear c1 H
     by_cases c3 : 0 < x
     ·have h3 := HN.out
      rw [if_pos c3] at h3
      obtain rfl := Option.some.inj h3
      have b3 : decide (0 < x) = true := decide_eq_true c3
      have b4 := eq_true c3
      clear h3
      go_wp2
      go_ret
      exact ⟨rfl, by first | exact HB.out | exact pw_below_drewN HB.out _⟩
     have h3 := HN.out
     rw [if_neg c3] at h3
     have b3 : decide (0 < x) = false := decide_eq_false c3
     have b4 := eq_false c3
     have h3' := am h3
     clear h3
     go_wp2
     go_roundg 0
     case measure => omega
     case rel => exact ⟨2, rfl, by omega, ⟨h3'.out⟩, ⟨by first | exact BK.out | exact blk_drewN BK.out _⟩, ⟨by first | exact HB.out | exact pw_below_drewN HB.out _⟩⟩
  ·have H2 : impl_tokenLength.st2 a0 0 = some r := HA.out
   have HS := am H2
   clear HA BK H2
   go_wp2_with (first | ((with_reducible refine gate_dst (N := 31) rfl ?_); refine lit_run 31 #[.string ⟨#[61, 61]⟩, .string ⟨#[60, 60]⟩, .string ⟨#[62, 62]⟩] 3 9 rfl rfl (by first | (go_simp; done) | (go_simp; rfl)) ?_; intro gc w1 hbk hb; have BK := am hbk; replace HB := am (below_step (by repeat (first | exact HB.out | apply pw_below_drewN | apply below_alloc)) hb); clear hbk hb))
   go_loopg [33] 3 (fun kq v33 w' => ∃ j : Nat, v33 = .int .i64 (j : Int) ∧ j + kq = 3 ∧ Aside0 (impl_tokenLength.st2 a0 j = some r) ∧ Aside0 (w'.heap[gc]? = some (.cells #[.string ⟨#[61, 61]⟩, .string ⟨#[60, 60]⟩, .string ⟨#[62, 62]⟩] 9 (0, 0))) ∧ Aside0 (Below w.heap.size w w'))
   case atStart => exact ⟨0, rfl, rfl, HS, BK, HB⟩
   case round =>
    clear HS BK HB
    obtain ⟨j, rfl, hj, HS, BK, HB⟩ := hrel
    have hc_ : (j = 0 ∧ gk = 3) ∨ (j = 1 ∧ gk = 2) ∨ (j = 2 ∧ gk = 1) ∨ (j = 3 ∧ gk = 0) := by omega
    clear hj
    rcases hc_ with ⟨rfl, rfl⟩ | ⟨rfl, rfl⟩ | ⟨rfl, rfl⟩ | ⟨rfl, rfl⟩
    ·have hx : _ := (blk_cell BK.out 0).trans rfl
     obtain ⟨b, hb_, H3⟩ := Option.bind_eq_some_iff.mp HS.out
     have A1 := am hb_
     have H' := am H3
     clear HS hb_ H3
     cases b with
     | true =>
      obtain rfl := Option.some.inj ((if_pos rfl).symm.trans H'.out)
      go_wp2_with (first | (go_at_call 52; (with_reducible refine (strings_HasPrefix.calls a0 ⟨#[61, 61]⟩ true _ A1.out).mono ?_); rintro e w1 ⟨rfl, ⟨nd, rfl⟩⟩) | fail)
      go_ret
      exact ⟨rfl, by first | exact HB.out | exact pw_below_drewN HB.out _⟩
     | false =>
      have h3 := (if_neg Bool.false_ne_true).symm.trans H'.out
      have H3' := am h3
      clear h3 H'
      go_wp2_with (first | (go_at_call 52; (with_reducible refine (strings_HasPrefix.calls a0 ⟨#[61, 61]⟩ false _ A1.out).mono ?_); rintro e w1 ⟨rfl, ⟨nd, rfl⟩⟩) | fail)
      go_roundg 2
      case measure => omega
      case rel => exact ⟨1, rfl, by omega, ⟨H3'.out⟩, ⟨by first | exact BK.out | exact blk_drewN BK.out _⟩, ⟨by first | exact HB.out | exact pw_below_drewN HB.out _⟩⟩
    ·have hx : _ := (blk_cell BK.out 1).trans rfl
     obtain ⟨b, hb_, H3⟩ := Option.bind_eq_some_iff.mp HS.out
     have A1 := am hb_
     have H' := am H3
     clear HS hb_ H3
     cases b with
     | true =>
      obtain rfl := Option.some.inj ((if_pos rfl).symm.trans H'.out)
      go_wp2_with (first | (go_at_call 52; (with_reducible refine (strings_HasPrefix.calls a0 ⟨#[60, 60]⟩ true _ A1.out).mono ?_); rintro e w1 ⟨rfl, ⟨nd, rfl⟩⟩) | fail)
      go_ret
      exact ⟨rfl, by first | exact HB.out | exact pw_below_drewN HB.out _⟩
     | false =>
      have h3 := (if_neg Bool.false_ne_true).symm.trans H'.out
      have H3' := am h3
      clear h3 H'
      go_wp2_with (first | (go_at_call 52; (with_reducible refine (strings_HasPrefix.calls a0 ⟨#[60, 60]⟩ false _ A1.out).mono ?_); rintro e w1 ⟨rfl, ⟨nd, rfl⟩⟩) | fail)
      go_roundg 1
      case measure => omega
      case rel => exact ⟨2, rfl, by omega, ⟨H3'.out⟩, ⟨by first | exact BK.out | exact blk_drewN BK.out _⟩, ⟨by first | exact HB.out | exact pw_below_drewN HB.out _⟩⟩
    ·have hx : _ := (blk_cell BK.out 2).trans rfl
     obtain ⟨b, hb_, H3⟩ := Option.bind_eq_some_iff.mp HS.out
     have A1 := am hb_
     have H' := am H3
     clear HS hb_ H3
     cases b with
     | true =>
      obtain rfl := Option.some.inj ((if_pos rfl).symm.trans H'.out)
      go_wp2_with (first | (go_at_call 52; (with_reducible refine (strings_HasPrefix.calls a0 ⟨#[62, 62]⟩ true _ A1.out).mono ?_); rintro e w1 ⟨rfl, ⟨nd, rfl⟩⟩) | fail)
      go_ret
      exact ⟨rfl, by first | exact HB.out | exact pw_below_drewN HB.out _⟩
     | false =>
      have h3 := (if_neg Bool.false_ne_true).symm.trans H'.out
      have H3' := am h3
      clear h3 H'
      go_wp2_with (first | (go_at_call 52; (with_reducible refine (strings_HasPrefix.calls a0 ⟨#[62, 62]⟩ false _ A1.out).mono ?_); rintro e w1 ⟨rfl, ⟨nd, rfl⟩⟩) | fail)
      go_roundg 0
      case measure => omega
      case rel => exact ⟨3, rfl, by omega, ⟨H3'.out⟩, ⟨by first | exact BK.out | exact blk_drewN BK.out _⟩, ⟨by first | exact HB.out | exact pw_below_drewN HB.out _⟩⟩
    ·have hf : impl_tokenLength.fin a0 = some r := HS.out
     clear HS BK
     unfold impl_tokenLength.fin at hf
     by_cases c2 : a0.toList = ([] : List UInt8)
     ·rw [if_pos c2] at hf
      obtain rfl := Option.some.inj hf
      have c2b0 : (a0.toList == ([] : List UInt8)) = true := beq_iff_eq.mpr c2
      have c2b1 : (a0.toList != ([] : List UInt8)) = false := bne_eq_false_iff_eq.mpr c2
      clear hf
      go_wp2
      go_ret
      exact ⟨rfl, by first | exact HB.out | exact pw_below_drewN HB.out _⟩
     rw [if_neg c2] at hf
     have c2b0 : (a0.toList == ([] : List UInt8)) = false := beq_eq_false_iff_ne.mpr c2
     have c2b1 : (a0.toList != ([] : List UInt8)) = true := bne_iff_ne.mpr c2
     have hsz : 0 < a0.size := by
      rcases Nat.eq_zero_or_pos a0.size with h0 | h0
      ·exact absurd (tl_nil a0 h0) c2
      ·exact h0
     have hx5 : ∀ h : 0 < a0.size, ((a0[0]'h).toNat : Int) = bt a0 0 := fun h => bt_at a0 0 h
     have p5 : (0 < a0.size) = True := eq_true hsz
     have p6 : ((0 : Int) < (a0.size : Int)) = True := eq_true (by omega)
     clear c2 hsz
     obtain ⟨j, hj, hf⟩ := Option.bind_eq_some_iff.mp hf
     have A1 := am hj
     by_cases c3 : 0 ≤ j
     ·rw [if_pos c3] at hf
      obtain rfl := Option.some.inj hf
      have b3 : decide (0 ≤ j) = true := decide_eq_true c3
      have b4 := eq_true c3
      clear hf hj c3
      go_wp2_with (first | (go_at_call 53; (with_reducible refine (strings_IndexByte.calls _ (bt a0 0) j _ A1.out).mono ?_); rintro e w1 ⟨rfl, ⟨nd, rfl⟩⟩) | fail)
      go_ret
      exact ⟨rfl, by first | exact HB.out | exact pw_below_drewN HB.out _⟩
     rw [if_neg c3] at hf
     obtain rfl := Option.some.inj hf
     have b3 : decide (0 ≤ j) = false := decide_eq_false c3
     have b4 := eq_false c3
     clear hf hj c3
     go_wp2_with (first | (go_at_call 53; (with_reducible refine (strings_IndexByte.calls _ (bt a0 0) j _ A1.out).mono ?_); rintro e w1 ⟨rfl, ⟨nd, rfl⟩⟩) | fail)
     go_ret
     exact ⟨rfl, by first | exact HB.out | exact pw_below_drewN HB.out _⟩
theorem impl_TokenValid.mono : ∀ a0 k, LeO (impl_TokenValid.f k a0) (impl_TokenValid.f (k + 1) a0) := by
 intro a0 k
 unfold impl_TokenValid.f
 have m0 := @impl_tokenLength.mono
 exact mo_
theorem impl_TokenValid.calls (k : Nat) (a0 : ByteArray) (r : Bool) (w : World) (h : impl_TokenValid.f k a0 = some r) :
  Calls Tryd.prog 37 #[.string a0] w fun e w' => e = .returned (.bool r) ∧ Below w.heap.size w w' := by
 have HB := am (Below.refl w.heap.size w)
 have H : (if a0.toList = ([] : List UInt8) then (some false) else ((impl_tokenLength.f k a0).bind fun t20 => (some (t20 == (a0.size : Int))))) = some r := h
 clear h
 by_cases c2 : a0.toList = ([] : List UInt8)
 ·rw [if_pos c2] at H
  have c2b0 : (a0.toList == ([] : List UInt8)) = true := beq_iff_eq.mpr c2
  have c2b1 : (a0.toList != ([] : List UInt8)) = false := bne_eq_false_iff_eq.mpr c2
  clear c2
  obtain rfl := Option.some.inj H
  go_enter Tryd.func37, Tryd.ntmps37
  go_wp2
  go_ret
  exact ⟨rr_, ab2_⟩
 rw [if_neg c2] at H
 have c2b0 : (a0.toList == ([] : List UInt8)) = false := beq_eq_false_iff_ne.mpr c2
 have c2b1 : (a0.toList != ([] : List UInt8)) = true := bne_iff_ne.mpr c2
 obtain ⟨t20, A3, H⟩ := bsa H
 (try dsimp only at H)
 obtain rfl := Option.some.inj H
 go_enter Tryd.func37, Tryd.ntmps37
 go_wp2_with (first | (go_at_call 26; (with_reducible refine (impl_tokenLength.calls k a0 t20 _ A3.out).mono ?_); rintro e w4 ⟨rfl, hb⟩; replace HB := am (below_step ab2_ hb); (try clear hb)))
 go_ret
 exact ⟨rr_, ab2_⟩
end Go.Proofs.YtjamfkpgmkhbnaaDoor.PA

