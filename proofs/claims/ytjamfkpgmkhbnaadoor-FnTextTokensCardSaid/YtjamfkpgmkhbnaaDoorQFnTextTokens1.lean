/- Part 2. -/
import Derived.Test.YtjamfkpgmkhbnaaDoorQFnTextTokens0
import Derived.Shelf.Strings.Builder1
import Derived.Shelf.Strings.Builder2
import Derived.Shelf.Strings.OnBuilder
import Derived.Shelf.Small.Strs
import Derived.Shelf.Strconv.Itoa0
import Derived.Shelf.Strconv.Itoa1
import Derived.Shelf.LaysM
import Derived.Shelf.Strconv.Itoa2
import Derived.Shelf.Strconv.Itoa3
import Derived.Shelf.Strings.Search1
import Derived.Shelf.Strings.Prefix
import Derived.Test.YtjamfkpgmkhbnaaDoorProg
import Derived.Below
import Derived.Deep.Draws
import Derived.Deep.AppendLies
import Derived.Maps.AppendAt
import Derived.OwnWalk
import Derived.Laws.BytesArg
import Derived.Laws.MakeOwn
import Derived.Laws.OwnMore
import Derived.Deep.OwnRows
import Derived.Tactics
import Derived.Lib.ConvBytes
import Derived.Laws.Slices
import Derived.WalkKit
import Derived.KernelRfl
import Derived.RowKit3
import Derived.Deep.LoopGhost
import Derived.Deep.QuietTactic
import Derived.BigQuiet
import Derived.WideLaws
import Derived.Deep.DeepCutAuto
import Derived.Deep.CutBlock
import Derived.Deep.RegionHeld3
import Derived.Laws.Rows
import Derived.Lib.AppendStr
import Derived.ArgAppend
import Derived.Laws.IdiomCopy
import Derived.OrdersHeld
import Derived.Laws.BitsLemmas
import Derived.RowKit
import Derived.Lib.SliceRun
import Derived.Lib.LaidTab
import Derived.Lib.AppendIntMem
set_option maxHeartbeats 8000000
set_option maxRecDepth 100000
namespace Go.Proofs
open Go.Shelf
open Go.RowKit in
open Go.RowKit in
open Go.RowKit in
open Go.RowKit in
open Go.RowKit in
def Tryd.lays156_ren : Go.Shelf.Ren := ⟨fun | 156 => 38 | 165 => 58 | 166 => 59 | 169 => 60 | 240 => 67 | 241 => 68 | 276 => 71 | 277 => 72 | n => n, fun | 31 => 37 | 9 => 9 | 3 => 3 | 4 => 4 | 0 => 0 | 20 => 20 | 72 => 74 | 76 => 78 | 70 => 72 | 37 => 33 | 75 => 77 | 127 => 83 | 164 => 85 | 5 => 5 | 80 => 80 | n => n, fun | n => n⟩
theorem Tryd.lays156 : Go.Proofs.Lays.n156 Tryd.prog Tryd.lays156_ren := {
 mixed := by kernel_rfl
 f156 := Tryd.func38.trans (congrArg some (by kernel_rfl))
 f165 := Tryd.func58.trans (congrArg some (by kernel_rfl))
 f166 := Tryd.func59.trans (congrArg some (by kernel_rfl))
 f169 := Tryd.func60.trans (congrArg some (by kernel_rfl))
 f240 := Tryd.func67.trans (congrArg some (by kernel_rfl))
 f241 := Tryd.func68.trans (congrArg some (by kernel_rfl))
 f276 := Tryd.func71.trans (congrArg some (by kernel_rfl))
 f277 := Tryd.func72.trans (congrArg some (by kernel_rfl))
 t0 := Tryd.underlying0
 a0 := Tryd.isAgg0
 z0 := Tryd.sizeOf0
 v0 := Tryd.zeroValue0
 t3 := Tryd.underlying3
 a3 := Tryd.isAgg3
 z3 := Tryd.sizeOf3
 v3 := Tryd.zeroValue3
 t4 := Tryd.underlying4
 a4 := Tryd.isAgg4
 z4 := Tryd.sizeOf4
 v4 := Tryd.zeroValue4
 t9 := Tryd.underlying9
 a9 := Tryd.isAgg9
 z9 := Tryd.sizeOf9
 v9 := Tryd.zeroValue9
 t20 := Tryd.underlying20
 a20 := Tryd.isAgg20
 z20 := Tryd.sizeOf20
 v20 := Tryd.zeroValue20
 t31 := Tryd.underlying37
 a31 := Tryd.isAgg37
 z31 := Tryd.sizeOf37
 v31 := Tryd.zeroValue37
 t37 := Tryd.underlying33
 a37 := Tryd.isAgg33
 z37 := Tryd.sizeOf33
 v37 := Tryd.zeroValue33
 t70 := Tryd.underlying72
 a70 := Tryd.isAgg72
 z70 := Tryd.sizeOf72
 v70 := Tryd.zeroValue72
 t72 := Tryd.underlying74
 a72 := Tryd.isAgg74
 z72 := Tryd.sizeOf74
 v72 := Tryd.zeroValue74
 t75 := Tryd.underlying77
 a75 := Tryd.isAgg77
 z75 := Tryd.sizeOf77
 v75 := Tryd.zeroValue77
 t76 := Tryd.underlying78
 a76 := Tryd.isAgg78
 z76 := Tryd.sizeOf78
 v76 := Tryd.zeroValue78
 t127 := Tryd.underlying83
 a127 := Tryd.isAgg83
 z127 := Tryd.sizeOf83
 v127 := Tryd.zeroValue83
 t164 := Tryd.underlying85
 a164 := Tryd.isAgg85
 z164 := Tryd.sizeOf85
 v164 := Tryd.zeroValue85 }
theorem Tryd.Builder_Extra_156 : Builder.Extra Tryd.prog Tryd.lays156_ren := {
 sizeBuilder := by kernel_rfl
 liesBuilder := by kernel_rfl
 t5 := Tryd.underlying5
 a5 := Tryd.isAgg5
 z5 := Tryd.sizeOf5
 v5 := Tryd.zeroValue5
 infoByte := by kernel_rfl
 cellsByte := by kernel_rfl
 sizeByte := by kernel_rfl
 neB5 := by decide }
open Go.RowKit in
theorem Tryd.strings_Join_none (a : Option Addr) (c : Nat) (sep : ByteArray) (w : World) :
  Calls Tryd.prog 38 #[.slice a 0 c, .string sep] w fun e w' => e = .returned (.string ⟨#[]⟩) ∧ w' = w := Any.strings_Join_none Tryd.lays156 Tryd.Builder_Extra_156 a c sep w
open Go.RowKit in
theorem Tryd.strings_Join (bk o c : Nat) (xs : List ByteArray) (sep : ByteArray) (w : World) (hcells : ∀ (j : Nat) x, xs[j]? = some x → w.cell? ⟨bk, o + j, none⟩ = some (.string x)) (hbk : bk < w.heap.size) (hN : xs.length ≤ 140737488355328) (hcap : xs.length ≤ c) (hlen : (Lib.join (xs.map (·.data.toList)) sep.data.toList).length ≤ 140737488355328) :
    Calls Tryd.prog 38 #[.slice (some ⟨bk, o, none⟩) xs.length c, .string sep] w fun e w' => e = .returned (.string ⟨(Lib.join (xs.map (·.data.toList)) sep.data.toList).toArray⟩) ∧ Below w.heap.size w w' := Any.strings_Join Tryd.lays156 Tryd.Builder_Extra_156 bk o c xs sep w hcells hbk hN hcap hlen
def Tryd.lays137_ren : Go.Shelf.Ren := ⟨fun | 137 => 53 | 217 => 63 | 266 => 70 | n => n, fun | 9 => 9 | 5 => 5 | 3 => 3 | n => n, fun | n => n⟩
theorem Tryd.lays137 : Go.Proofs.Lays.n137 Tryd.prog Tryd.lays137_ren := {
 mixed := by kernel_rfl
 f137 := Tryd.func53.trans (congrArg some (by kernel_rfl))
 f217 := Tryd.func63.trans (congrArg some (by kernel_rfl))
 f266 := Tryd.func70.trans (congrArg some (by kernel_rfl))
 t3 := Tryd.underlying3
 a3 := Tryd.isAgg3
 z3 := Tryd.sizeOf3
 v3 := Tryd.zeroValue3
 t5 := Tryd.underlying5
 a5 := Tryd.isAgg5
 z5 := Tryd.sizeOf5
 v5 := Tryd.zeroValue5
 t9 := Tryd.underlying9
 a9 := Tryd.isAgg9
 z9 := Tryd.sizeOf9
 v9 := Tryd.zeroValue9 }
open Go.RowKit in
theorem Tryd.strings_IndexByte (s : ByteArray) (c : Int) (w : World) :
  Calls Tryd.prog 53 #[.string s, .int .u8 c] w fun e w' => e = .returned (.int .i64 (Lib.indexByte s.data.toList c.toNat.toUInt8)) ∧ w' = w := Any.strings_IndexByte Tryd.lays137 s c w
def Tryd.lays129_ren : Go.Shelf.Ren := ⟨fun | 129 => 78 | n => n, fun | 53 => 89 | 3 => 3 | 4 => 4 | 46 => 98 | 5 => 5 | 9 => 9 | n => n, fun | n => n⟩
theorem Tryd.lays129 : Go.Proofs.Lays.n129 Tryd.prog Tryd.lays129_ren := {
 mixed := by kernel_rfl
 f129 := Tryd.func78.trans (congrArg some (by kernel_rfl))
 t3 := Tryd.underlying3
 a3 := Tryd.isAgg3
 z3 := Tryd.sizeOf3
 v3 := Tryd.zeroValue3
 t4 := Tryd.underlying4
 a4 := Tryd.isAgg4
 z4 := Tryd.sizeOf4
 v4 := Tryd.zeroValue4
 t5 := Tryd.underlying5
 a5 := Tryd.isAgg5
 z5 := Tryd.sizeOf5
 v5 := Tryd.zeroValue5
 t9 := Tryd.underlying9
 a9 := Tryd.isAgg9
 z9 := Tryd.sizeOf9
 v9 := Tryd.zeroValue9
 t46 := Tryd.underlying98
 a46 := Tryd.isAgg98
 z46 := Tryd.sizeOf98
 v46 := Tryd.zeroValue98
 t53 := Tryd.underlying89
 a53 := Tryd.isAgg89
 z53 := Tryd.sizeOf89
 v53 := Tryd.zeroValue89 }
theorem Tryd.bits_Len64 (x : Int) (w : World) (h0 : 0 ≤ x) (h1 : x ≤ 18446744073709551615) :
  Calls Tryd.prog 78 #[.int .u64 x] w fun e w' => e = .returned (.int .i64 (Lib.bitLen x.toNat)) ∧ w' = w := Any.bits_Len64 Tryd.lays129 x w h0 h1
open Go.Lib in
open Go.Lib in
open Go.Lib in
open Go.Lib in
open Go.RowKit Go.Sort Go.Lib in
open Go.RowKit Go.Sort Go.Lib in
open Go.RowKit Go.Sort Go.Lib in
open Go.RowKit Go.Sort Go.Lib in
open Go.RowKit Go.Sort Go.Lib in
def Tryd.laysM171_ren : Go.Shelf.Ren := ⟨fun | 171 => 39 | 243 => 61 | 246 => 69 | 283 => 73 | 284 => 74 | 285 => 75 | 286 => 76 | 129 => 78 | 317 => 77 | 318 => 79 | 319 => 80 | 320 => 81 | 337 => 82 | 338 => 83 | n => n, fun | 3 => 3 | 9 => 9 | 2 => 2 | 4 => 4 | 171 => 88 | 0 => 0 | 53 => 89 | 37 => 33 | 5 => 5 | 173 => 92 | 212 => 95 | 51 => 96 | 20 => 20 | 213 => 97 | 46 => 98 | 232 => 101 | 233 => 102 | n => n, fun | 17 => 2 | 18 => 3 | 19 => 4 | n => n⟩
theorem Tryd.laysM171 : Go.Proofs.LaysM.n171 Tryd.prog Tryd.laysM171_ren := {
 mixed := by kernel_rfl
 f129 := Tryd.func78.trans (congrArg some (by kernel_rfl))
 f171 := Tryd.func39.trans (congrArg some (by kernel_rfl))
 f243 := Tryd.func61.trans (congrArg some (by kernel_rfl))
 f246 := Tryd.func69.trans (congrArg some (by kernel_rfl))
 f283 := Tryd.func73.trans (congrArg some (by kernel_rfl))
 f284 := Tryd.func74.trans (congrArg some (by kernel_rfl))
 f285 := Tryd.func75.trans (congrArg some (by kernel_rfl))
 f286 := Tryd.func76.trans (congrArg some (by kernel_rfl))
 f317 := Tryd.func77.trans (congrArg some (by kernel_rfl))
 f318 := Tryd.func79.trans (congrArg some (by kernel_rfl))
 f319 := Tryd.func80.trans (congrArg some (by kernel_rfl))
 f320 := Tryd.func81.trans (congrArg some (by kernel_rfl))
 f337 := Tryd.func82.trans (congrArg some (by kernel_rfl))
 f338 := Tryd.func83.trans (congrArg some (by kernel_rfl))
 t0 := Tryd.underlying0
 a0 := Tryd.isAgg0
 z0 := Tryd.sizeOf0
 v0 := Tryd.zeroValue0
 t2 := Tryd.underlying2
 a2 := Tryd.isAgg2
 z2 := Tryd.sizeOf2
 v2 := Tryd.zeroValue2
 t3 := Tryd.underlying3
 a3 := Tryd.isAgg3
 z3 := Tryd.sizeOf3
 v3 := Tryd.zeroValue3
 t4 := Tryd.underlying4
 a4 := Tryd.isAgg4
 z4 := Tryd.sizeOf4
 v4 := Tryd.zeroValue4
 t5 := Tryd.underlying5
 a5 := Tryd.isAgg5
 z5 := Tryd.sizeOf5
 v5 := Tryd.zeroValue5
 t9 := Tryd.underlying9
 a9 := Tryd.isAgg9
 z9 := Tryd.sizeOf9
 v9 := Tryd.zeroValue9
 t20 := Tryd.underlying20
 a20 := Tryd.isAgg20
 z20 := Tryd.sizeOf20
 v20 := Tryd.zeroValue20
 t37 := Tryd.underlying33
 a37 := Tryd.isAgg33
 z37 := Tryd.sizeOf33
 v37 := Tryd.zeroValue33
 t46 := Tryd.underlying98
 a46 := Tryd.isAgg98
 z46 := Tryd.sizeOf98
 v46 := Tryd.zeroValue98
 t51 := Tryd.underlying96
 a51 := Tryd.isAgg96
 z51 := Tryd.sizeOf96
 v51 := Tryd.zeroValue96
 t53 := Tryd.underlying89
 a53 := Tryd.isAgg89
 z53 := Tryd.sizeOf89
 v53 := Tryd.zeroValue89
 t171 := Tryd.underlying88
 a171 := Tryd.isAgg88
 z171 := Tryd.sizeOf88
 v171 := Tryd.zeroValue88
 t173 := Tryd.underlying92
 a173 := Tryd.isAgg92
 z173 := Tryd.sizeOf92
 v173 := Tryd.zeroValue92
 t212 := Tryd.underlying95
 a212 := Tryd.isAgg95
 z212 := Tryd.sizeOf95
 v212 := Tryd.zeroValue95
 t213 := Tryd.underlying97
 a213 := Tryd.isAgg97
 z213 := Tryd.sizeOf97
 t232 := Tryd.underlying101
 a232 := Tryd.isAgg101
 z232 := Tryd.sizeOf101
 v232 := Tryd.zeroValue101
 t233 := Tryd.underlying102
 a233 := Tryd.isAgg102
 z233 := Tryd.sizeOf102
 v233 := Tryd.zeroValue102
 g17 := by kernel_rfl
 g18 := by kernel_rfl
 g19 := by kernel_rfl
 i0 := by kernel_rfl
 i2 := by kernel_rfl
 i3 := by kernel_rfl
 i4 := by kernel_rfl
 i5 := by kernel_rfl
 i9 := by kernel_rfl
 i20 := by kernel_rfl
 i37 := by kernel_rfl
 i46 := by kernel_rfl
 i51 := by kernel_rfl
 i53 := by kernel_rfl
 i171 := by kernel_rfl
 i173 := by kernel_rfl
 i212 := by kernel_rfl
 i232 := by kernel_rfl
 i233 := by kernel_rfl
 m17 := by kernel_rfl
 m18 := by kernel_rfl
 m19 := by kernel_rfl }
open Go.RowKit Go.Sort Go.Lib in
theorem Tryd.strconv_Itoa (n : Int) (h0 : -9223372036854775808 ≤ n) (h1 : n ≤ 9223372036854775807) (w : World) (htab : Lib.TabIs Tryd.prog w "internal/strconv.uint64pow10" .u64 Lib.pow10Tab) :
  Calls Tryd.prog 39 #[.int .i64 n] w fun e w' => e = .returned (.string ⟨(Lib.itoa n).toArray⟩) ∧ ∃ k os, w' = grow (w.drewN k) os := Any.strconv_Itoa Tryd.laysM171 n h0 h1 w htab
open Go.RowKit Go.Sort Go.Lib in
open Go.RowKit Go.Lib in
def Tryd.lays206_ren : Go.Shelf.Ren := ⟨fun | 206 => 62 | n => n, fun | 9 => 9 | 4 => 4 | 3 => 3 | n => n, fun | n => n⟩
theorem Tryd.lays206 : Go.Proofs.Lays.n206 Tryd.prog Tryd.lays206_ren := {
 mixed := by kernel_rfl
 f206 := Tryd.func62.trans (congrArg some (by kernel_rfl))
 t3 := Tryd.underlying3
 a3 := Tryd.isAgg3
 z3 := Tryd.sizeOf3
 v3 := Tryd.zeroValue3
 t4 := Tryd.underlying4
 a4 := Tryd.isAgg4
 z4 := Tryd.sizeOf4
 v4 := Tryd.zeroValue4
 t9 := Tryd.underlying9
 a9 := Tryd.isAgg9
 z9 := Tryd.sizeOf9
 v9 := Tryd.zeroValue9 }
open Go.RowKit Go.Lib in
theorem Tryd.stringslite_HasPrefix (s p : ByteArray) (w : World) :
  Calls Tryd.prog 62 #[.string s, .string p] w fun e w' => e = .returned (.bool (Lib.hasPrefix s.data.toList p.data.toList)) ∧ w' = w := Any.stringslite_HasPrefix Tryd.lays206 s p w
def Tryd.lays99_ren : Go.Shelf.Ren := ⟨fun | 99 => 52 | 206 => 62 | n => n, fun | 9 => 9 | 4 => 4 | 3 => 3 | n => n, fun | n => n⟩
theorem Tryd.lays99 : Go.Proofs.Lays.n99 Tryd.prog Tryd.lays99_ren := {
 mixed := by kernel_rfl
 f99 := Tryd.func52.trans (congrArg some (by kernel_rfl))
 f206 := Tryd.func62.trans (congrArg some (by kernel_rfl))
 t3 := Tryd.underlying3
 a3 := Tryd.isAgg3
 z3 := Tryd.sizeOf3
 v3 := Tryd.zeroValue3
 t4 := Tryd.underlying4
 a4 := Tryd.isAgg4
 z4 := Tryd.sizeOf4
 v4 := Tryd.zeroValue4
 t9 := Tryd.underlying9
 a9 := Tryd.isAgg9
 z9 := Tryd.sizeOf9
 v9 := Tryd.zeroValue9 }
open Go.RowKit Go.Lib in
theorem Tryd.strings_HasPrefix (s p : ByteArray) (w : World) :
  Calls Tryd.prog 52 #[.string s, .string p] w fun e w' => e = .returned (.bool (Lib.hasPrefix s.data.toList p.data.toList)) ∧ w' = w := Any.strings_HasPrefix Tryd.lays99 s p w
end Go.Proofs

namespace Go.Proofs.YtjamfkpgmkhbnaaDoor.PA
open Go.RowKit Go.Proofs.YtjamfkpgmkhbnaaDoorW.PrintWords Go.Proofs.YtjamfkpgmkhbnaaDoorW.PrintLast Go.Proofs.YtjamfkpgmkhbnaaDoorW.PrintMore
attribute [local go_sem] max2_int min2_int max_two min_two max_three min_three max_four min_four
set_option linter.unusedVariables false
set_option linter.unusedSimpArgs false
def errW : Option Int → Value
 | none => .nilIface
 | some c => .iface 0 (.int .i64 c)
theorem errW_none : errW none = .nilIface := rfl
theorem errW_some (c : Int) : errW (some c) = .iface 0 (.int .i64 c) := rfl
theorem info5 : (Tryd.prog.info? 5).map (fun i => (i.zero, i.size, i.bytes)) = some (some (.int .u8 0), 1, 1) := by kernel_rfl
theorem info9 : (Tryd.prog.info? 9).map (fun i => (i.zero, i.size, i.bytes)) = some (some (.string ⟨#[]⟩), 1, 16) := by kernel_rfl
theorem info29 : (Tryd.prog.info? 29).map (fun i => (i.zero, i.size, i.bytes)) = some (some (.agg #[(.int .i64 0), (.int .i64 0), (.slice none 0 0)]), 3, 40) := by kernel_rfl
structure S24 where
 f0 : Int
 f1 : Int
 f2 : (List S24)
def z24 : S24 := ⟨(0 : Int), (0 : Int), ([] : List S24)⟩
def rd_T24 (xs : List S24) (i : Int) : S24 := xs.getD i.toNat z24
structure S29 where
 f0 : Int
 f1 : Int
 f2 : (List S29)
def z29 : S29 := ⟨(0 : Int), (0 : Int), ([] : List S29)⟩
def F29 (d : Kd S29) : Kd S29 := Kd.iso (Kd.pair (Kd.int .i64) (Kd.pair (Kd.int .i64) (Kd.slice 29 d))) (fun x : S29 => (x.f0, x.f1, x.f2))
theorem mono29 : Kd.Mono F29 := Kd.mono_iso _ (Kd.mono_pair (Kd.mono_const _) (Kd.mono_pair (Kd.mono_const _) (Kd.mono_slice 29 Kd.mono_id)))
theorem sub29 : Kd.Sub F29 [29] := Kd.sub_iso _ (Kd.sub_pair (Kd.sub_const _ (by decide)) (Kd.sub_pair (Kd.sub_const _ (by decide)) (Kd.sub_slice 29 (by decide) Kd.sub_id)))
theorem sz29 : ∀ n, (Kd.upto F29 3 [29] n).sz = 3 := Kd.upto_sz (fun _ => rfl)
def k29 : Kd S29 := Kd.fix F29 3 [29] sz29 (Kd.upto_E sub29)
theorem k29_heap : Kd.Heap k29 := Kd.heap_fix (fun _ h_ => Kd.heap_iso _ (Kd.heap_pair (Kd.heap_int .i64) (Kd.heap_pair (Kd.heap_int .i64) (Kd.heap_slice 29 h_))))
theorem k29_open {w : World} {x : S29} {cs : List Value} (h : k29.K w x cs) : ∃ A2 c2, cs = [.int .i64 x.f0, .int .i64 x.f1, .slice A2 x.f2.length c2] ∧ x.f2.length ≤ c2 ∧ k29.C w A2 x.f2.length x.f2 := by
 obtain ⟨n, h⟩ := h
 cases n with
 | zero => exact h.elim
 | succ n =>
  obtain ⟨_, _, rfl, rfl, ⟨_, _, rfl, rfl, ⟨A2, c2, rfl, l2, g2⟩⟩⟩ := h
  exact ⟨A2, c2, rfl, l2, Kd.fix_C g2⟩
theorem k29_mk (w : World) (x : S29) {A2 : Option Addr} {c2 : Nat} (l2 : x.f2.length ≤ c2) (g2 : k29.C w A2 x.f2.length x.f2) : k29.K w x [.int .i64 x.f0, .int .i64 x.f1, .slice A2 x.f2.length c2] := by
 obtain ⟨n2, q2⟩ := Kd.fix_C_back mono29 g2
 have r2 := Kd.upto_C_le mono29 sz29 (show n2 ≤ n2 by omega) q2
 exact ⟨n2 + 1, ⟨[.int .i64 x.f0], [.int .i64 x.f1, .slice A2 x.f2.length c2], rfl, rfl, ⟨[.int .i64 x.f1], [.slice A2 x.f2.length c2], rfl, rfl, ⟨A2, c2, rfl, l2, r2⟩⟩⟩⟩
theorem k29_mkF (W : World) (ok : Nat → Prop) (x : S29) {A2 : Option Addr} {c2 : Nat} (l2 : x.f2.length ≤ c2) (g2 : Kd.F k29 W ok A2 x.f2.length x.f2) : Kd.FK k29 W ok x [.int .i64 x.f0, .int .i64 x.f1, .slice A2 x.f2.length c2] := fun W2 hW => k29_mk W2 x l2 (g2 W2 hW)
def rd_T29 (xs : List S29) (i : Int) : S29 := xs.getD i.toNat z29
theorem at_T29 {w : World} {A : Option Addr} {n : Nat} {xs : List S29} (h : Kd.C k29 w A n xs) (i : Int) (h0 : 0 ≤ i) (h1 : i < n) : ∃ ad A2 c2, A = some ad ∧ w.cell? (ad.add (i.toNat * 3)) = some (.int .i64 (rd_T29 xs i).f0) ∧ w.cell? ⟨(ad.add (i.toNat * 3)).block, (ad.add (i.toNat * 3)).off + 1, none⟩ = some (.int .i64 (rd_T29 xs i).f1) ∧ w.cell? ⟨(ad.add (i.toNat * 3)).block, (ad.add (i.toNat * 3)).off + 2, none⟩ = some (.slice A2 (rd_T29 xs i).f2.length c2) ∧ (rd_T29 xs i).f2.length ≤ c2 ∧ k29.C w A2 (rd_T29 xs i).f2.length (rd_T29 xs i).f2 := by
 obtain ⟨ad, c, e, _, hK, hc0⟩ := Kd.C_get h z29 i h0 h1
 have hc : ∀ j u, c[j]? = some u → w.cell? (ad.add (i.toNat * 3 + j)) = some u := hc0
 obtain ⟨A2, c2, rfl, l2, g2⟩ := k29_open hK
 exact ⟨ad, A2, c2, e, hc 0 _ rfl, by rw [← add_field _ _ 1 (by omega)]; exact hc 1 _ rfl, by rw [← add_field _ _ 2 (by omega)]; exact hc 2 _ rfl, l2, g2⟩
theorem ab1_ {p : Prop} (h : p := by (try simp only [List.map_toArray, List.map_cons, List.map_nil]); first | done | rfl | (simp only [List.length_drop, List.length_take]; rfl)) : p := h
theorem ab2_ {p : Prop} (h : p := by repeat (first | (with_reducible first | exact HB.out | apply below_alloc | apply pw_below_drewN | apply below_drew1) | exact HB.out)) : p := h
theorem ab3_ {p : Prop} (h : p := by repeat (first | (with_reducible first | exact HK.out | apply KeepBut.set_ | apply keep_drewN | apply keep_drew | apply keep_alloc | refine keep_far ?_ GW103.out _ | refine keep_far ?_ GW115.out _) | exact HK.out)) : p := h
theorem ab4_ {p : Prop} (h : p := by repeat (first | (with_reducible first | exact HI0.out | apply IsS65.alloc | apply IsS65.drewN | apply IsS65.drew | apply IsS65.set_1 | refine IsS65.far ?_ NB0_103.out _ | refine IsS65.far ?_ NB0_115.out _) | exact HI0.out)) : p := h
theorem ab5_ {p : Prop} (h : p := by repeat (first | (with_reducible first | exact HB.out | apply below_alloc | apply pw_below_drewN | apply below_drew1 | refine below_set ?_ (IsS65.ge HI0.out) | refine below_set ?_ GE103.out | refine below_set ?_ GE115.out) | exact HB.out)) : p := h
theorem ab6_ {p : Prop} (h : p := by repeat (first | exact Drawn0.refl _ | apply Drawn0.step)) : p := h
theorem ab8_ {p : Prop} (h : p := by repeat (first | (with_reducible first | exact HB.out | apply below_alloc | apply pw_below_drewN | apply below_drew1 | refine below_set ?_ GE23.out) | exact HB.out)) : p := h
theorem ab10_ {p : Prop} (h : p := by repeat (first | (with_reducible first | exact HB.out | apply below_alloc | apply pw_below_drewN | apply below_drew1 | refine below_set ?_ GE68.out) | exact HB.out)) : p := h
theorem ab13_ {p : Prop} (h : p := by repeat (first | (with_reducible first | exact HK.out | apply Kept.alloc | apply Kept.drewN | apply Kept.drew | refine Kept.setCell ?_ (.inr GW48.out) _) | exact HK.out)) : p := h
theorem ab14_ {p : Prop} (h : p := by repeat (first | (with_reducible first | exact HB.out | apply below_alloc | apply pw_below_drewN | apply below_drew1 | refine below_set ?_ GE48.out) | exact HB.out)) : p := h
theorem ab15_ {p : Prop} (h : p := by repeat (first | (with_reducible first | exact HB.out | apply below_alloc | apply pw_below_drewN | apply below_drew1 | refine below_set ?_ GE42.out) | exact HB.out)) : p := h
theorem ab16_ {p : Prop} (h : p := by first | rfl | (simp [errW_none, errW_some] <;> rfl) | (simp [*, errW_none, errW_some] <;> rfl)) : p := h
theorem ab17_ {p : Prop} (h : p := by repeat (first | (with_reducible first | exact HK.out | apply KeepBut.set_ | apply keep_drewN | apply keep_drew | apply keep_alloc | refine keep_far ?_ GW48.out _) | exact HK.out)) : p := h
theorem ab18_ {p : Prop} (h : p := by repeat (first | (with_reducible first | exact HB.out | apply below_alloc | apply pw_below_drewN | apply below_drew1 | refine below_set ?_ GE21.out) | exact HB.out)) : p := h
theorem ab19_ {p : Prop} (h : p := by repeat (first | (with_reducible first | exact HK.out | apply KeepBut.set_ | apply keep_drewN | apply keep_drew | apply keep_alloc | refine keep_far ?_ GW35.out _) | exact HK.out)) : p := h
theorem ab20_ {p : Prop} (h : p := by repeat (first | (with_reducible first | exact HB.out | apply below_alloc | apply pw_below_drewN | apply below_drew1 | refine below_set ?_ GE44.out) | exact HB.out)) : p := h
theorem ab21_ {p : Prop} (h : p := by repeat (first | (with_reducible first | exact HI0.out | apply IsS65.alloc | apply IsS65.drewN | apply IsS65.drew | apply IsS65.set_1) | exact HI0.out)) : p := h
theorem ab22_ {p : Prop} (h : p := by repeat (first | (with_reducible first | exact HK.out | apply Kept.alloc | apply Kept.drewN | apply Kept.drew | refine Kept.setCell ?_ (.inr GW33.out) _) | exact HK.out)) : p := h
theorem ab23_ {p : Prop} (h : p := by repeat (first | (with_reducible first | exact HK.out | apply KeepBut.set_ | apply keep_drewN | apply keep_drew | apply keep_alloc) | exact HK.out)) : p := h
theorem ab24_ {p : Prop} (h : p := by repeat (first | (with_reducible first | exact HB.out | apply below_alloc | apply pw_below_drewN | apply below_drew1 | refine below_set ?_ (IsS65.ge HI0.out) | refine below_set ?_ GE48.out) | exact HB.out)) : p := h
theorem ab25_ {p : Prop} (h : p := by repeat (first | (with_reducible first | exact HI0.out | apply IsS65.alloc | apply IsS65.drewN | apply IsS65.drew | apply IsS65.set_1 | refine IsS65.far ?_ NB0_48.out _) | exact HI0.out)) : p := h
theorem ab26_ {p : Prop} (h : p := by repeat (first | (with_reducible first | exact HI0.out | apply IsS65.alloc | apply IsS65.drewN | apply IsS65.drew | apply IsS65.set_1 | refine IsS65.far ?_ NB0_35.out _) | exact HI0.out)) : p := h
theorem ab27_ {p : Prop} (h : p := by repeat (first | (with_reducible first | exact HB.out | apply below_alloc | apply pw_below_drewN | apply below_drew1 | refine below_set ?_ GE33.out) | exact HB.out)) : p := h
theorem ab29_ {p : Prop} (h : p := by repeat (first | (with_reducible first | exact HB.out | apply below_alloc | apply pw_below_drewN | apply below_drew1 | refine below_set ?_ GE21.out | refine below_set ?_ GE22.out) | exact HB.out)) : p := h
theorem ab30_ {p : Prop} (h : p := by repeat (first | (with_reducible first | exact HB.out | apply below_alloc | apply pw_below_drewN | apply below_drew1 | refine below_set ?_ (IsS65.ge HI0.out)) | exact HB.out)) : p := h
theorem ab32_ {p : Prop} (h : p := by repeat (first | (with_reducible first | exact HK.out | apply KeepBut.set_ | apply keep_drewN | apply keep_drew | apply keep_alloc | refine keep_far ?_ GW35.out _ | refine keep_far ?_ GW72.out _) | exact HK.out)) : p := h
theorem ab33_ {p : Prop} (h : p := by repeat (first | (with_reducible first | exact HB.out | apply below_alloc | apply pw_below_drewN | apply below_drew1 | refine below_set ?_ (IsS65.ge HI0.out) | refine below_set ?_ GE35.out) | exact HB.out)) : p := h
theorem ab34_ {p : Prop} (h : p := by repeat (first | (with_reducible first | exact HK.out | apply Kept.alloc | apply Kept.drewN | apply Kept.drew) | exact HK.out)) : p := h
theorem ab35_ {p : Prop} (h : p := by repeat (first | (with_reducible first | exact HI0.out | apply IsS65.alloc | apply IsS65.drewN | apply IsS65.drew | apply IsS65.set_1 | refine IsS65.far ?_ NB0_35.out _ | refine IsS65.far ?_ NB0_72.out _) | exact HI0.out)) : p := h
theorem ab36_ {p : Prop} (h : p := by repeat (first | (with_reducible first | exact HB.out | apply below_alloc | apply pw_below_drewN | apply below_drew1 | refine below_set ?_ GE22.out) | exact HB.out)) : p := h
theorem ab37_ {p : Prop} (h : p := by repeat (first | (with_reducible first | exact HB.out | apply below_alloc | apply pw_below_drewN | apply below_drew1 | refine below_set ?_ GE26.out) | exact HB.out)) : p := h
theorem ab38_ {p : Prop} (h : p := by repeat (first | (with_reducible first | exact HK.out | apply KeepBut.set_ | apply keep_drewN | apply keep_drew | apply keep_alloc | refine keep_far ?_ GW103.out _) | exact HK.out)) : p := h
theorem ab39_ {p : Prop} (h : p := by repeat (first | (with_reducible first | exact HI0.out | apply IsS65.alloc | apply IsS65.drewN | apply IsS65.drew | apply IsS65.set_1 | refine IsS65.far ?_ NB0_103.out _) | exact HI0.out)) : p := h
theorem ab40_ {p : Prop} (h : p := by repeat (first | (with_reducible first | exact HB.out | apply below_alloc | apply pw_below_drewN | apply below_drew1 | refine below_set ?_ GE24.out) | exact HB.out)) : p := h
theorem ab41_ {p : Prop} (h : p := by repeat (first | (with_reducible first | exact HB.out | apply below_alloc | apply pw_below_drewN | apply below_drew1 | refine below_set ?_ (IsS65.ge HI0.out) | refine below_set ?_ GE35.out | refine below_set ?_ GE72.out) | exact HB.out)) : p := h
theorem ab43_ {p : Prop} (h : p := by repeat (first | (with_reducible first | exact HB.out | apply below_alloc | apply pw_below_drewN | apply below_drew1 | refine below_set ?_ GE21.out | refine below_set ?_ GE22.out | refine below_set ?_ GE23.out) | exact HB.out)) : p := h
theorem ab44_ {p : Prop} (h : p := by repeat (first | (with_reducible first | exact HB.out | apply below_alloc | apply pw_below_drewN | apply below_drew1 | refine below_set ?_ (IsS65.ge HI32.out) | refine below_set ?_ GE31.out) | exact HB.out)) : p := h
theorem ab45_ {p : Prop} (h : p := by repeat (first | (with_reducible first | exact HB.out | apply below_alloc | apply pw_below_drewN | apply below_drew1 | refine below_set ?_ GE20.out) | exact HB.out)) : p := h
theorem ab48_ {p : Prop} (h : p := by repeat (first | (with_reducible first | exact HB.out | apply below_alloc | apply pw_below_drewN | apply below_drew1 | refine below_set ?_ (IsS65.ge HI0.out) | refine below_set ?_ GE103.out) | exact HB.out)) : p := h
theorem ab50_ {p : Prop} (h : p := by repeat (first | (with_reducible first | exact HB.out | apply below_alloc | apply pw_below_drewN | apply below_drew1 | refine below_set ?_ GE20.out | refine below_set ?_ GE23.out) | exact HB.out)) : p := h
theorem ab51_ {p : Prop} (h : p := by repeat (first | (with_reducible first | exact HBW.out | apply below_alloc | apply pw_below_drewN | apply below_drew1) | exact HBW.out)) : p := h
theorem ab53_ {p : Prop} (h : p := by repeat (first | (with_reducible first | exact HI32.out | apply IsS65.alloc | apply IsS65.drewN | apply IsS65.drew | apply IsS65.set_1 | refine IsS65.far ?_ NB32_31.out _) | exact HI32.out)) : p := h
theorem aN_ {p q : Prop} (x : q) (h : q → p := by intro hx_; (with_reducible repeat (first | apply Kd.N_alloc | apply Kd.N_drewN | apply Kd.N_drew)); exact hx_) : p := h x
theorem aR_ {p q : Prop} (x : q) (h : q → p := by intro hx_; (with_reducible repeat (first | apply Kd.R_alloc | apply Kd.R_drewN | apply Kd.R_drew)); exact hx_) : p := h x
theorem aG_ {p q : Prop} (x : q) (h : q → p := by intro hx_; (with_reducible repeat (first | refine blk_drewN ?_ _ | refine blk_drew ?_ | refine blk_alloc ?_ _)); exact hx_) : p := h x
theorem rr_ {p : Prop} (h : p := by first | rfl | (simp [errW_none, errW_some] <;> rfl) | (simp [*, errW_none, errW_some] <;> rfl)) : p := h
theorem bsm {α β : Type} {o : Option α} {f : α → Option β} {b : β} (h : o.bind f = some b) : ∃ a, o = some a ∧ f a = some b := Option.bind_eq_some_iff.mp h
theorem am {p : Prop} (h : p) : Aside0 p := ⟨h⟩
theorem bcf3_ {w : World} {g : Nat} {t : TypeId} {x0 x1 x2 : Value} (h : w.heap[g]? = some (.cells #[x0, x1, x2] t (0, 0))) : w.cell? ⟨g, 0, none⟩ = some x0 ∧ w.cell? ⟨g, 1, none⟩ = some x1 ∧ w.cell? ⟨g, 2, none⟩ = some x2 ∧ w.frozen? ⟨g, 0, none⟩ = false ∧ w.frozen? ⟨g, 1, none⟩ = false ∧ w.frozen? ⟨g, 2, none⟩ = false := ⟨(blk_cell h 0).trans rfl, (blk_cell h 1).trans rfl, (blk_cell h 2).trans rfl, blk_frozen h 0, blk_frozen h 1, blk_frozen h 2⟩
theorem bbl_ {W0 W W1 : World} {g : Nat} {o : Obj} (x : W0.heap[g]? = some o) (hb : Below W.heap.size W W1) (h : W0.heap[g]? = some o → W.heap[g]? = some o := by intro hx_; (with_reducible repeat (first | refine blk_drewN ?_ _ | refine blk_drew ?_ | refine blk_alloc ?_ _)); exact hx_) : W1.heap[g]? = some o := blk_below (h x) hb
theorem blt_ {W0 W : World} {g : Nat} {o : Obj} (x : W0.heap[g]? = some o) (h : W0.heap[g]? = some o → W.heap[g]? = some o := by intro hx_; (with_reducible repeat (first | refine blk_drewN ?_ _ | refine blk_drew ?_ | refine blk_alloc ?_ _)); exact hx_) : g < W.heap.size := blk_lt (h x)
theorem frb_ {W0 W : World} {g : Nat} {o : Obj} (x : W0.heap[g]? = some o) (k : Nat) (hk : W.heap.size ≤ k) (h : W0.heap[g]? = some o → W.heap[g]? = some o := by intro hx_; (with_reducible repeat (first | refine blk_drewN ?_ _ | refine blk_drew ?_ | refine blk_alloc ?_ _)); exact hx_) : k ≠ g := Kd.freshB (h x) k hk
theorem aC_ {p q : Prop} (x : q) (h : q → p := by intro hx_; repeat (first | exact hx_ | (with_reducible refine Kd.C_alloc ?_ _) | (with_reducible refine Kd.C_drewN ?_ _) | (with_reducible refine Kd.C_drew ?_))) : p := h x
theorem rn_ {p : Prop} (h : p := by first | (go_simp; done) | (go_simp; rfl)) : p := h
theorem sd_ {p : Prop} (h : p := by first | rfl | (simp; done) | (simp [*]; done)) : p := h
theorem asm_ {p : Prop} (h : p := by first | (with_reducible assumption) | assumption) : p := h
theorem pr_ (i N : Nat) (l' : Array Bool) {P : Program} {md : Region.Mode} {ops : Array Oper} {Q : Exit → Act → World → Prop} {S : World → Prop} {ds : List Nat} {oi : Oper} {v : Value} {fuel : Nat} {l : Array Bool} {a a' : Act} {w : World} {T : Bool × List (List Nat × List Nat)} (HT : Aside0 (rtab md ops = T)) (h : wpAnyLast P md ops Q S ds fuel l' a' w) (hi : ops[i]? = some oi := by rfl) (hN : oi.dst = some N := by rfl) (hc : anyT T l.toList l'.toList i = true := by kernel_rfl) (hQ : ∀ c a w, Q (.panic c) (a.put oi.dst v) w → Q (.panic c) a w := by exact fun _ _ _ h_ => h_) (hg : Region.wanted oi (yielded ops a.tmps) = true := by rfl) (hy : ∀ w, (execOp a.eval oi).run P w = .ok (.value v) w := by (intro w'; go_simp; with_reducible rfl)) (ha : a.put (some N) v = a' := by first | (simp only [Act.put, List.setIfInBounds_toArray, List.set_cons_zero, List.set_cons_succ, i64_w, i32_w]; rfl) | rfl) : wpAnyLast P md ops Q S ds (fuel + 1) l a w := pure_ l' hi hN (any_of HT.out hc) hQ (Or.inl ⟨hg, hy⟩) ha h
theorem tk3_ (i N : Nat) (l' : Array Bool) {P : Program} {md : Region.Mode} {ops : Array Oper} {Q : Exit → Act → World → Prop} {S : World → Prop} {ds : List Nat} {oi : Oper} {v : Value} {fuel : Nat} {l : Array Bool} {a a' : Act} {w : World} {T : Bool × List (List Nat × List Nat)} {B : List Nat} (HT : Aside0 (rtab md ops = T)) (HW : Aside0 (waitsOk T.2 B = true)) (hS : S w) (h : wpAnyLast P md ops Q S ds fuel l' a' w) (hi : ops[i]? = some oi := by rfl) (hN : oi.dst = some N := by rfl) (hc : takeW T B ds l.toList l'.toList i = true := by kernel_rfl) (hQ : ∀ c a w, Q (.panic c) (a.put oi.dst v) w → Q (.panic c) a w := by exact fun _ _ _ h_ => h_) (hg : Region.wanted oi (yielded ops a.tmps) = true := by rfl) (hy : ∀ w, S w → (execOp a.eval oi).run P w = .ok (.value v) w := by (rintro w' ⟨s0, s1, s2⟩; go_simp; with_reducible rfl)) (ha : a.put (some N) v = a' := by first | (simp only [Act.put, List.setIfInBounds_toArray, List.set_cons_zero, List.set_cons_succ, i64_w, i32_w]; rfl) | rfl) : wpAnyLast P md ops Q S ds (fuel + 1) l a w := take_ l' hi hN (take_ofW HT.out HW.out hc) hQ (Or.inl ⟨hg, hy⟩) hS ha h
theorem tk9_ (i N : Nat) (l' : Array Bool) {P : Program} {md : Region.Mode} {ops : Array Oper} {Q : Exit → Act → World → Prop} {S : World → Prop} {ds : List Nat} {oi : Oper} {v : Value} {fuel : Nat} {l : Array Bool} {a a' : Act} {w : World} {T : Bool × List (List Nat × List Nat)} {B : List Nat} (HT : Aside0 (rtab md ops = T)) (HW : Aside0 (waitsOk T.2 B = true)) (hS : S w) (h : wpAnyLast P md ops Q S ds fuel l' a' w) (hi : ops[i]? = some oi := by rfl) (hN : oi.dst = some N := by rfl) (hc : takeW T B ds l.toList l'.toList i = true := by kernel_rfl) (hQ : ∀ c a w, Q (.panic c) (a.put oi.dst v) w → Q (.panic c) a w := by exact fun _ _ _ h_ => h_) (hg : Region.wanted oi (yielded ops a.tmps) = true := by rfl) (hy : ∀ w, S w → (execOp a.eval oi).run P w = .ok (.value v) w := by (rintro w' ⟨s0, s1, s2, s3, s4, s5, s6, s7, s8⟩; go_simp; with_reducible rfl)) (ha : a.put (some N) v = a' := by first | (simp only [Act.put, List.setIfInBounds_toArray, List.set_cons_zero, List.set_cons_succ, i64_w, i32_w]; rfl) | rfl) : wpAnyLast P md ops Q S ds (fuel + 1) l a w := take_ l' hi hN (take_ofW HT.out HW.out hc) hQ (Or.inl ⟨hg, hy⟩) hS ha h
theorem aNw_ {α : Type} {d : Kd α} {e : Nat} {W0 W : World} {base : Nat} {ok : Nat → Prop} {v : Value} {xs : List α} (x : Kd.N d e W0 base ok v xs) (h : Kd.N d e W0 base ok v xs → Kd.N d e W base ok v xs := by intro hx_; (with_reducible repeat (first | apply Kd.N_alloc | apply Kd.N_drewN | apply Kd.N_drew)); exact hx_) : Kd.N d e W base ok v xs := h x
theorem aRw_ {α : Type} {d : Kd α} {e : Nat} {W0 W : World} {base : Nat} {ok : Nat → Prop} {v : Value} {xs : List α} (x : Kd.R d e W0 base ok v xs) (h : Kd.R d e W0 base ok v xs → Kd.R d e W base ok v xs := by intro hx_; (with_reducible repeat (first | apply Kd.R_alloc | apply Kd.R_drewN | apply Kd.R_drew)); exact hx_) : Kd.R d e W base ok v xs := h x
def bz (n m : Nat) : Array Bool := ((List.range n).map (fun i => m.testBit i)).toArray
theorem rx_ {p : Prop} (h : p := by first | (rw [hy_]; with_reducible exact H) | (have H2_ := (Option.bind_some _ _).symm.trans H; rw [hy_]; with_reducible exact H2_) | (have H2_ := (Option.bind_some _ _).symm.trans H; with_reducible exact H2_) | with_reducible exact H | (rw [hy_]; exact H) | exact H) : p := h
theorem bsa {α β : Type} {o : Option α} {f : α → Option β} {b : β} (h : o.bind f = some b) : ∃ a, Aside0 (o = some a) ∧ f a = some b := by
 obtain ⟨a, h1, h2⟩ := Option.bind_eq_some_iff.mp h
 exact ⟨a, ⟨h1⟩, h2⟩
theorem gl_ {P : Program} {ops : Array Oper} {Q : Exit → Act → World → Prop} {rest : List Oper} {oi : Oper} {a : Act} {w : World} (N : Nat) {f : FuncId} {fn : Func} {as_ : Array Operand} {ts : Array TypeId} (hf : P.funcs[f]? = some fn) (args : Array Value) (h : Calls P f args w fun e w' => ∃ v, e = .returned v ∧ wpList P ops Q rest (a.put (some N) v) w') (hd : oi.dst = some N := by rfl) (hg : oi.guard = none := by rfl) (hname : (fn.name == "runtime.NumGoroutine") = false := by kernel_rfl) (hb : fn.body.isSome = true := by rfl) (hop : oi.op = .call { callee := .value (.func f), args := as_, argTypes := ts } := by rfl) (hargs : as_.map a.eval = args := by (try simp only [List.map_toArray, List.map_cons, List.map_nil]); first | done | rfl | (simp only [List.length_drop, List.length_take]; rfl)) : wpList P ops Q (oi :: rest) a w := goesL_ (some N) hd hg hf hname hb args hop hargs h
theorem mo_ {p : Prop} (h : p := by repeat' first | (with_reducible exact ih0 ..) | (with_reducible exact ih1 ..) | (with_reducible exact ih2 ..) | (with_reducible exact ih3 ..) | (with_reducible exact ih4 ..) | (with_reducible exact ih5 ..) | (with_reducible exact ih6 ..) | (with_reducible exact ih7 ..) | (with_reducible exact m0 ..) | (with_reducible exact m1 ..) | (with_reducible exact m2 ..) | (with_reducible exact m3 ..) | (with_reducible exact m4 ..) | (with_reducible exact m5 ..) | (with_reducible exact m6 ..) | (with_reducible exact LeO.refl _) | (with_reducible exact LeO.none _) | (with_reducible refine LeO.ite ?_ ?_) | (with_reducible refine LeO.bind ?_ (fun _ => ?_))) : p := h
mutual
def laws_szExprS.l0 : Nat → List (S24) → Int → Int → Option (Int)
 | 0, _, _, _ => none
 | k + 1, x0, x1, x5 => if x5 < (x0.length : Int) then (if 0 ≤ x5 then ((laws_szExpr.f k ((rd_T24 x0 x5).f0) ((rd_T24 x0 x5).f1) ((rd_T24 x0 x5).f2) x1).bind fun t102 => (if t102 < 0 then (some (-1)) else (laws_szExprS.l0 k x0 t102 (wrap64 (x5 + 1))))) else (none)) else (some x1)
def laws_szExprS.f : Nat → List (S24) → Int → Option (Int)
 | 0, _, _ => none
 | k + 1, l0, a1 => if (wrap64 (a1 - (l0.length : Int))) < 0 then (some (-1)) else (laws_szExprS.l0 k l0 (wrap64 (a1 - (l0.length : Int))) 0)
def laws_szExpr.f : Nat → Int → Int → List (S24) → Int → Option (Int)
 | 0, _, _, _, _ => none
 | k + 1, a0_0, a0_1, l0_2, a1 => (laws_szExprS.f k l0_2 a1).bind fun t104 => (if t104 < 0 then (some (-1)) else (some t104))
end
def spec_l6In.f (a0 : Int) (a1 : Int) (a2 : Int) : Option (Bool) := if a0 ≥ a1 then (some (decide (a0 ≤ a2))) else (some false)
def spec_OpValid.f (a0 : Int) : Option (Bool) := (spec_l6In.f a0 1 12).bind fun t105 => (some t105)
def spec_l4Ok.f : Nat → Int → Int → List (S29) → Int → Option (Bool)
 | 0, _, _, _, _ => none
 | k + 1, a0_0, a0_1, l0_2, a1 => if a1 < 1 then (some false) else (if a0_0 = 0 then ((spec_l6In.f a0_1 0 99999).bind fun t107 => (if t107 = true then (some ((l0_2.length : Int) == 0)) else (some false))) else (if a0_0 = 13 then ((spec_l6In.f a0_1 0 3).bind fun t108 => (if t108 = true then (some ((l0_2.length : Int) == 0)) else (some false))) else ((spec_OpValid.f a0_0).bind fun t109 => (if t109 = true then (if a0_1 = 0 then (if (l0_2.length : Int) = 2 then (if 0 < (l0_2.length : Int) then ((spec_l4Ok.f k ((rd_T29 l0_2 0).f0) ((rd_T29 l0_2 0).f1) ((rd_T29 l0_2 0).f2) (wrap64 (a1 - 1))).bind fun t111 => (if t111 = true then (if 1 < (l0_2.length : Int) then ((spec_l4Ok.f k ((rd_T29 l0_2 1).f0) ((rd_T29 l0_2 1).f1) ((rd_T29 l0_2 1).f2) (wrap64 (a1 - 1))).bind fun t113 => (some t113)) else (none)) else (some false))) else (none)) else (some false)) else (some false)) else (some false)))))
def spec_ExprValid.f (k : Nat) (a0_0 : Int) (a0_1 : Int) (l0_2 : List (S29)) : Option (Bool) := (spec_l4Ok.f k a0_0 a0_1 l0_2 5).bind fun t115 => (some t115)
mutual
def spec_l3Kind.j0 : Nat → Int → Bool → Option (Int)
 | 0, _, _ => none
 | k + 1, x0, x5 => if x5 = true then (some 1) else (if x0 ≥ 97 then (spec_l3Kind.j1 k x0 (decide (x0 ≤ 122))) else (spec_l3Kind.j1 k x0 false))
def spec_l3Kind.j1 : Nat → Int → Bool → Option (Int)
 | 0, _, _ => none
 | k + 1, x0, x12 => if x12 = true then (some 2) else (if x0 = 32 then (some 3) else (if x0 = 10 then (some 3) else (spec_l3Kind.l0 k x0 (⟨#[43, 45, 42, 47, 37, 38, 124, 94, 60, 62, 40, 41, 123, 125, 61, 59]⟩ : ByteArray) 0)))
def spec_l3Kind.l0 : Nat → Int → ByteArray → Int → Option (Int)
 | 0, _, _, _ => none
 | k + 1, x0, x3, x4 => if x4 < (x3.size : Int) then (if 0 ≤ x4 then (if (bt x3 x4) = x0 then (some 4) else (spec_l3Kind.l0 k x0 x3 (wrap64 (x4 + 1)))) else (none)) else (some 0)
end
def spec_l3Kind.f (k : Nat) (a0 : Int) : Option (Int) := if a0 ≥ 48 then (spec_l3Kind.j0 k a0 (decide (a0 ≤ 57))) else (spec_l3Kind.j0 k a0 false)
def spec_l3Run.l0 : Nat → ByteArray → Int → Int → Option (Int)
 | 0, _, _, _ => none
 | k + 1, x0, x1, x5 => if x5 < (x0.size : Int) then (if 0 ≤ x5 then ((spec_l3Kind.f k (bt x0 x5)).bind fun t116 => (if 0 ≤ x1 then (if x1 < (x0.size : Int) then ((spec_l3Kind.f k (bt x0 x1)).bind fun t117 => (if t116 = t117 then (spec_l3Run.l0 k x0 x1 (wrap64 (x5 + 1))) else (some x5))) else (none)) else (none))) else (none)) else (some x5)
def spec_l3Run.f (k : Nat) (a0 : ByteArray) (a1 : Int) : Option (Int) := spec_l3Run.l0 k a0 a1 a1
def spec_l3Two.f (a0 : ByteArray) : Option (Bool) := if a0.toList = ([60, 60] : List UInt8) then (some true) else (if a0.toList = ([62, 62] : List UInt8) then (some true) else (some (a0.toList == ([61, 61] : List UInt8))))
mutual
def spec_l3End.j0 : Nat → ByteArray → Int → Int → Bool → Option (Int)
 | 0, _, _, _, _ => none
 | k + 1, x0, x1, x5, x15 => if x15 = true then ((spec_l3Run.f k x0 x1).bind fun t119 => (some t119)) else (if x5 = 4 then (if (wrap64 (x1 + 2)) ≤ (x0.size : Int) then (if 0 ≤ x1 then (if x1 ≤ (wrap64 (x1 + 2)) then ((spec_l3Two.f (x0.extract (x1 : Int).toNat ((wrap64 (x1 + 2)) : Int).toNat)).bind fun t120 => (spec_l3End.j1 k x0 x1 t120)) else (none)) else (none)) else (spec_l3End.j1 k x0 x1 false)) else (some (-1)))
def spec_l3End.j1 : Nat → ByteArray → Int → Bool → Option (Int)
 | 0, _, _, _ => none
 | k + 1, x0, x1, x33 => if x33 = true then (some (wrap64 (x1 + 2))) else (if 0 ≤ x1 then (if x1 < (x0.size : Int) then (if (bt x0 x1) = 62 then (some (-1)) else (some (wrap64 (x1 + 1)))) else (none)) else (none))
end
def spec_l3End.f (k : Nat) (a0 : ByteArray) (a1 : Int) : Option (Int) := if 0 ≤ a1 then (if a1 < (a0.size : Int) then ((spec_l3Kind.f k (bt a0 a1)).bind fun t118 => (if t118 = 1 then (spec_l3End.j0 k a0 a1 t118 true) else (spec_l3End.j0 k a0 a1 t118 (t118 == 2)))) else (none)) else (none)
def spec_TokenValid.f (k : Nat) (a0 : ByteArray) : Option (Bool) := if a0.toList = ([] : List UInt8) then (some false) else ((spec_l3End.f k a0 0).bind fun t121 => (some (t121 == (a0.size : Int))))
def spec_TokensText.l0 : Nat → List ByteArray → ByteArray → Int → Option (ByteArray)
 | 0, _, _, _ => none
 | k + 1, x0, x3, x4 => if x4 < (x0.length : Int) then (if 0 ≤ x4 then ((spec_TokenValid.f k (rdOf ByteArray.empty x0 x4)).bind fun t123 => (if t123 = true then (if x4 > 0 then (if x3.size + 1 ≤ 9223372036854775807 then (if (x3 ++ (⟨#[32]⟩ : ByteArray)).size + (rdOf ByteArray.empty x0 x4).size ≤ 9223372036854775807 then (spec_TokensText.l0 k x0 ((x3 ++ (⟨#[32]⟩ : ByteArray)) ++ (rdOf ByteArray.empty x0 x4)) (wrap64 (x4 + 1))) else (none)) else (none)) else (if x3.size + (rdOf ByteArray.empty x0 x4).size ≤ 9223372036854775807 then (spec_TokensText.l0 k x0 (x3 ++ (rdOf ByteArray.empty x0 x4)) (wrap64 (x4 + 1))) else (none))) else (some (⟨#[]⟩ : ByteArray)))) else (none)) else (some x3)
def spec_TokensText.f (k : Nat) (l0 : List ByteArray) : Option (ByteArray) := spec_TokensText.l0 k l0 (⟨#[]⟩ : ByteArray) 0
def spec_l6Dec.f : Nat → Int → Option (ByteArray)
 | 0, _ => none
 | k + 1, a0 => if a0 < (-9223372036854775807) then (some (⟨#[45, 57, 50, 50, 51, 51, 55, 50, 48, 51, 54, 56, 53, 52, 55, 55, 53, 56, 48, 56]⟩ : ByteArray)) else (if a0 < 0 then ((spec_l6Dec.f k (wrap64 (-a0))).bind fun t126 => (if 1 + t126.size ≤ 9223372036854775807 then (some ((⟨#[45]⟩ : ByteArray) ++ t126)) else (none))) else (if a0 < 10 then (some (strOfNums (([(wrap64 (48 + a0)) % 256] : List Int)))) else ((spec_l6Dec.f k (wrap64 (Int.tdiv a0 10))).bind fun t130 => ((some (([(wrap64 (48 + (Int.tmod a0 10))) % 256] : List Int) : List Int)).bind fun y131 => (if t130.size + (strOfNums y131).size ≤ 9223372036854775807 then (some (t130 ++ (strOfNums y131))) else (none))))))
def spec_l5Name.f (a0 : Int) : Option (ByteArray) := some (strOfNums (([(wrap64 (97 + a0)) % 256] : List Int)))
def spec_OpLevel.f (a0 : Int) : Option (Int) := (spec_OpValid.f a0).bind fun t137 => (if t137 = true then ((some (([1, 2, 3, 4, 5, 6, 6, 7, 7, 8, 8, 8] : List Int) : List Int)).bind fun y138 => (if 0 ≤ (wrap64 (a0 - 1)) then (if (wrap64 (a0 - 1)) < (y138.length : Int) then (some (rd y138 (wrap64 (a0 - 1)))) else (none)) else (none))) else (some 0))
def spec_l5Wrap.f (l0 : List ByteArray) (a1 : Bool) : Option (List ByteArray) := if a1 = true then ((some (([(⟨#[40]⟩ : ByteArray)] : List ByteArray) : List ByteArray)).bind fun y142 => (if y142.length + l0.length < 8796093022208 then ((some (y142 ++ l0 : List ByteArray)).bind fun y145 => (if y145.length < 8796093022208 then (some (y145 ++ [(⟨#[41]⟩ : ByteArray)])) else (none))) else (none))) else (some l0)
def spec_l5Level.f (a0_0 : Int) (a0_1 : Int) (l0_2 : List (S29)) : Option (Int) := if (l0_2.length : Int) = 0 then (some 9) else ((spec_OpLevel.f a0_0).bind fun t152 => (some t152))
def spec_OpText.f (a0 : Int) : Option (ByteArray) := (spec_OpValid.f a0).bind fun t153 => (if t153 = true then ((some (([(⟨#[124]⟩ : ByteArray), (⟨#[94]⟩ : ByteArray), (⟨#[38]⟩ : ByteArray), (⟨#[61, 61]⟩ : ByteArray), (⟨#[60]⟩ : ByteArray), (⟨#[60, 60]⟩ : ByteArray), (⟨#[62, 62]⟩ : ByteArray), (⟨#[43]⟩ : ByteArray), (⟨#[45]⟩ : ByteArray), (⟨#[42]⟩ : ByteArray), (⟨#[47]⟩ : ByteArray), (⟨#[37]⟩ : ByteArray)] : List ByteArray) : List ByteArray)).bind fun y154 => (if 0 ≤ (wrap64 (a0 - 1)) then (if (wrap64 (a0 - 1)) < (y154.length : Int) then (some (rdOf ByteArray.empty y154 (wrap64 (a0 - 1)))) else (none)) else (none))) else (some (⟨#[]⟩ : ByteArray)))
def spec_l5Tokens.f : Nat → Int → Int → List (S29) → Option (List ByteArray)
 | 0, _, _, _ => none
 | k + 1, a0_0, a0_1, l0_2 => if a0_0 = 0 then ((spec_l6Dec.f k a0_1).bind fun t159 => (some (([t159] : List ByteArray)))) else (if a0_0 = 13 then ((spec_l5Name.f a0_1).bind fun t163 => (some (([t163] : List ByteArray)))) else ((spec_OpLevel.f a0_0).bind fun t167 => (if 0 < (l0_2.length : Int) then ((spec_l5Tokens.f k ((rd_T29 l0_2 0).f0) ((rd_T29 l0_2 0).f1) ((rd_T29 l0_2 0).f2)).bind fun t169 => ((spec_l5Level.f ((rd_T29 l0_2 0).f0) ((rd_T29 l0_2 0).f1) ((rd_T29 l0_2 0).f2)).bind fun t173 => ((spec_l5Wrap.f t169 (decide (t173 < t167))).bind fun t174 => ((spec_OpText.f a0_0).bind fun t177 => (if t174.length < 8796093022208 then ((some (t174 ++ [t177] : List ByteArray)).bind fun y178 => (if 1 < (l0_2.length : Int) then ((spec_l5Tokens.f k ((rd_T29 l0_2 1).f0) ((rd_T29 l0_2 1).f1) ((rd_T29 l0_2 1).f2)).bind fun t182 => ((spec_l5Level.f ((rd_T29 l0_2 1).f0) ((rd_T29 l0_2 1).f1) ((rd_T29 l0_2 1).f2)).bind fun t186 => ((spec_l5Wrap.f t182 (decide (t186 ≤ t167))).bind fun t187 => (if y178.length + t187.length < 8796093022208 then (some (y178 ++ t187)) else (none))))) else (none))) else (none)))))) else (none))))
def spec_ExprText.f (k : Nat) (a0_0 : Int) (a0_1 : Int) (l0_2 : List (S29)) : Option (ByteArray) := (spec_ExprValid.f k a0_0 a0_1 l0_2).bind fun t194 => (if t194 = true then ((spec_l5Tokens.f k a0_0 a0_1 l0_2).bind fun t195 => ((spec_TokensText.f k t195).bind fun t198 => (some t198))) else (some (⟨#[]⟩ : ByteArray)))
mutual
def laws_toExprS.l0 : Nat → List (S24) → List (S29) → Int → Option ((List (S29)))
 | 0, _, _, _ => none
 | k + 1, x0, x3, x4 => if x4 < (x0.length : Int) then (if 0 ≤ x4 then ((laws_toExpr.f k ((rd_T24 x0 x4).f0) ((rd_T24 x0 x4).f1) ((rd_T24 x0 x4).f2)).bind fun bt203 => (if x4 < (x3.length : Int) then (laws_toExprS.l0 k x0 (x3.set (x4 : Int).toNat (⟨bt203.1, bt203.2.1, bt203.2.2⟩ : S29)) (wrap64 (x4 + 1))) else (none))) else (none)) else (some x3)
def laws_toExprS.f : Nat → List (S24) → Option ((List (S29)))
 | 0, _ => none
 | k + 1, l0 => if 0 ≤ (l0.length : Int) then (if ((l0.length : Int) : Int).toNat ≤ 7036874417766 then (laws_toExprS.l0 k l0 (List.replicate ((l0.length : Int) : Int).toNat z29) 0) else (none)) else (none)
def laws_toExpr.f : Nat → Int → Int → List (S24) → Option (Int × Int × (List (S29)))
 | 0, _, _, _ => none
 | k + 1, a0_0, a0_1, l0_2 => (laws_toExprS.f k l0_2).bind fun t212 => (some (a0_0, a0_1, t212))
end
def impl_OpValid.f (a0 : Int) : Option (Bool) := if a0 ≥ 1 then (some (decide (a0 ≤ 12))) else (some false)
def impl_exprValid.f : Nat → Int → Int → List (S29) → Int → Option (Bool)
 | 0, _, _, _, _ => none
 | k + 1, a0_0, a0_1, l0_2, a1 => if a0_0 = 0 then (if a0_1 ≥ 0 then (if a0_1 ≤ 99999 then (if (l0_2.length : Int) = 0 then (some (decide (a1 > 0))) else (some false)) else (some false)) else (some false)) else (if a0_0 = 13 then (if a0_1 ≥ 0 then (if a0_1 < 4 then (if (l0_2.length : Int) = 0 then (some (decide (a1 > 0))) else (some false)) else (some false)) else (some false)) else ((impl_OpValid.f a0_0).bind fun t216 => (if t216 = true then (if a0_1 = 0 then (if (l0_2.length : Int) = 2 then (if a1 > 1 then (if 0 < (l0_2.length : Int) then ((impl_exprValid.f k ((rd_T29 l0_2 0).f0) ((rd_T29 l0_2 0).f1) ((rd_T29 l0_2 0).f2) (wrap64 (a1 - 1))).bind fun t218 => (if t218 = true then (if 1 < (l0_2.length : Int) then ((impl_exprValid.f k ((rd_T29 l0_2 1).f0) ((rd_T29 l0_2 1).f1) ((rd_T29 l0_2 1).f2) (wrap64 (a1 - 1))).bind fun t220 => (some t220)) else (none)) else (some false))) else (none)) else (some false)) else (some false)) else (some false)) else (some false))))
def impl_ExprValid.f (k : Nat) (a0_0 : Int) (a0_1 : Int) (l0_2 : List (S29)) : Option (Bool) := (impl_exprValid.f k a0_0 a0_1 l0_2 5).bind fun t222 => (some t222)
def impl_isDigit.f (a0 : Int) : Option (Bool) := if a0 ≥ 48 then (some (decide (a0 ≤ 57))) else (some false)
def impl_isLetter.f (a0 : Int) : Option (Bool) := if a0 ≥ 97 then (some (decide (a0 ≤ 122))) else (some false)
def stringslite_HasPrefix.f (a0 : ByteArray) (a1 : ByteArray) : Option (Bool) := if (a0.size : Int) ≥ (a1.size : Int) then (if 0 ≤ (a1.size : Int) then (if (a1.size : Int) ≤ (a0.size : Int) then (some ((a0.extract 0 ((a1.size : Int) : Int).toNat).toList == a1.toList)) else (none)) else (none)) else (some false)
def strings_HasPrefix.f (a0 : ByteArray) (a1 : ByteArray) : Option (Bool) := (stringslite_HasPrefix.f a0 a1).bind fun t223 => (some t223)
def strings_IndexByte.f (a0 : ByteArray) (a1 : Int) : Option (Int) := some (Lib.indexByte a0.data.toList a1.toNat.toUInt8)
structure Tab (w : World) : Prop where
  pow : Lib.TabIs Tryd.prog w "internal/strconv.uint64pow10" .u64 Lib.pow10Tab
  ops : w.var? Tryd.prog "loop.example/cothreads/impl.opTexts" = some #[.string ⟨#[124]⟩, .string ⟨#[94]⟩, .string ⟨#[38]⟩, .string ⟨#[61, 61]⟩, .string ⟨#[60]⟩, .string ⟨#[60, 60]⟩, .string ⟨#[62, 62]⟩, .string ⟨#[43]⟩, .string ⟨#[45]⟩, .string ⟨#[42]⟩, .string ⟨#[47]⟩, .string ⟨#[37]⟩]
 theorem var_below {P : Program} {w w' : World} {nm : String} {a : Array Value} (h : w.var? P nm = some a) (hb : Below w.heap.size w w') : w'.var? P nm = some a := by
  unfold World.var? at h ⊢
  cases hg : P.globalNamed nm with
  | none => rw [hg] at h; cases h
  | some g =>
    rw [hg] at h
    simp only [Option.bind_some] at h ⊢
    cases ho : w.heap[g]? with
    | none => rw [ho] at h; cases h
    | some o =>
      have hlt : g < w.heap.size := (Array.getElem?_eq_some_iff.1 ho).1
      rw [hb.block g hlt, ho]
      rw [ho] at h
      exact h
 theorem Tab.below {w w' : World} (h : Tab w) (hb : Below w.heap.size w w') : Tab w' := ⟨var_below h.pow hb, var_below h.ops hb⟩
def opTexts : List ByteArray := [⟨#[124]⟩, ⟨#[94]⟩, ⟨#[38]⟩, ⟨#[61, 61]⟩, ⟨#[60]⟩, ⟨#[60, 60]⟩, ⟨#[62, 62]⟩, ⟨#[43]⟩, ⟨#[45]⟩, ⟨#[42]⟩, ⟨#[47]⟩, ⟨#[37]⟩]
 theorem opAt {w : World} (h : Tab w) : ∃ (t : TypeId) (fr : Nat × Nat), w.heap[0]? = some (.cells #[.string ⟨#[124]⟩, .string ⟨#[94]⟩, .string ⟨#[38]⟩, .string ⟨#[61, 61]⟩, .string ⟨#[60]⟩, .string ⟨#[60, 60]⟩, .string ⟨#[62, 62]⟩, .string ⟨#[43]⟩, .string ⟨#[45]⟩, .string ⟨#[42]⟩, .string ⟨#[47]⟩, .string ⟨#[37]⟩] t fr) := by
  have h2 := h.ops
  unfold World.var? at h2
  rw [show Tryd.prog.globalNamed "loop.example/cothreads/impl.opTexts" = some 0 by kernel_rfl] at h2
  simp only [Option.bind_some] at h2
  cases ho : w.heap[0]? with
  | none => rw [ho] at h2; cases h2
  | some o =>
    rw [ho] at h2
    cases o with
    | cells cs t fr =>
      injection h2 with h2
      subst h2
      exact ⟨t, fr, rfl⟩
    | _ => cases h2
 theorem opCell {w : World} (h : Tab w) (i : Nat) (hi : i < 12) : w.cell? ⟨0, i, none⟩ = some (.string (opTexts.getD i ⟨#[]⟩)) := by
  obtain ⟨t, fr, ho⟩ := opAt h
  unfold World.cell?
  rw [ho]
  have : i = 0 ∨ i = 1 ∨ i = 2 ∨ i = 3 ∨ i = 4 ∨ i = 5 ∨ i = 6 ∨ i = 7 ∨ i = 8 ∨ i = 9 ∨ i = 10 ∨ i = 11 := by omega
  rcases this with rfl | rfl | rfl | rfl | rfl | rfl | rfl | rfl | rfl | rfl | rfl | rfl <;> rfl
def impl_tokenLength.l1 : Nat → ByteArray → Bool → Int → Option (Int)
 | 0, _, _, _ => none
 | k + 1, x, m, i => if i < (x.size : Int) then (if 0 ≤ i then ((if m = true then impl_isDigit.f (bt x i) else impl_isLetter.f (bt x i)).bind fun b => if b = true then impl_tokenLength.l1 k x m (wrap64 (i + 1)) else some i) else none) else some i
def impl_tokenLength.fin (a0 : ByteArray) : Option Int := if a0.toList = ([] : List UInt8) then some 0 else (strings_IndexByte.f ⟨#[124, 94, 38, 60, 43, 45, 42, 47, 37, 40, 41, 123, 125, 61, 59]⟩ (bt a0 0)).bind fun j => if 0 ≤ j then some 1 else some 0
def impl_tokenLength.st2 (a0 : ByteArray) : Nat → Option Int
 | 0 => (strings_HasPrefix.f a0 ⟨#[61, 61]⟩).bind fun p => if p = true then some 2 else (strings_HasPrefix.f a0 ⟨#[60, 60]⟩).bind fun q => if q = true then some 2 else (strings_HasPrefix.f a0 ⟨#[62, 62]⟩).bind fun s => if s = true then some 2 else impl_tokenLength.fin a0
 | 1 => (strings_HasPrefix.f a0 ⟨#[60, 60]⟩).bind fun q => if q = true then some 2 else (strings_HasPrefix.f a0 ⟨#[62, 62]⟩).bind fun s => if s = true then some 2 else impl_tokenLength.fin a0
 | 2 => (strings_HasPrefix.f a0 ⟨#[62, 62]⟩).bind fun s => if s = true then some 2 else impl_tokenLength.fin a0
 | _ + 3 => impl_tokenLength.fin a0
def impl_tokenLength.st (k : Nat) (a0 : ByteArray) : Nat → Option Int
 | 0 => (impl_tokenLength.l1 k a0 true 0).bind fun d => if 0 < d then some d else (impl_tokenLength.l1 k a0 false 0).bind fun c => if 0 < c then some c else impl_tokenLength.st2 a0 0
 | 1 => (impl_tokenLength.l1 k a0 false 0).bind fun c => if 0 < c then some c else impl_tokenLength.st2 a0 0
 | _ + 2 => impl_tokenLength.st2 a0 0
def impl_tokenLength.f (k : Nat) (a0 : ByteArray) : Option (Int) := impl_tokenLength.st k a0 0
def impl_TokenValid.f (k : Nat) (a0 : ByteArray) : Option (Bool) := if a0.toList = ([] : List UInt8) then (some false) else ((impl_tokenLength.f k a0).bind fun t224 => (some (t224 == (a0.size : Int))))
def joinB (l : List ByteArray) (s : ByteArray) : List UInt8 := Lib.join (l.map (·.data.toList)) s.data.toList
def strings_Join.f (l0 : List ByteArray) (a1 : ByteArray) : Option (ByteArray) := if l0.length ≤ 140737488355328 then (if (joinB l0 a1).length ≤ 140737488355328 then some ⟨(joinB l0 a1).toArray⟩ else none) else none
def impl_TokensText.l0 : Nat → List ByteArray → List ByteArray → Int → Int → Option (ByteArray)
 | 0, _, _, _, _ => none
 | k + 1, x0, x5, x6, x7 => if x7 < x6 then (if 0 ≤ x7 then (if x7 < (x5.length : Int) then ((impl_TokenValid.f k (rdOf ByteArray.empty x5 x7)).bind fun t226 => (if t226 = true then (impl_TokensText.l0 k x0 x5 x6 (wrap64 (x7 + 1))) else (some (⟨#[]⟩ : ByteArray)))) else (none)) else (none)) else ((strings_Join.f x0 (⟨#[32]⟩ : ByteArray)).bind fun t227 => (some t227))
def impl_TokensText.f (k : Nat) (l0 : List ByteArray) : Option (ByteArray) := impl_TokensText.l0 k l0 l0 (l0.length : Int) 0
def strconv_small.f (a0 : Int) : Option (ByteArray) := if a0 < 10 then (if 0 ≤ a0 then (if a0 ≤ (wrap64 (a0 + 1)) then (if (wrap64 (a0 + 1)) ≤ 36 then (some ((⟨#[48, 49, 50, 51, 52, 53, 54, 55, 56, 57, 97, 98, 99, 100, 101, 102, 103, 104, 105, 106, 107, 108, 109, 110, 111, 112, 113, 114, 115, 116, 117, 118, 119, 120, 121, 122]⟩ : ByteArray).extract (a0 : Int).toNat ((wrap64 (a0 + 1)) : Int).toNat)) else (none)) else (none)) else (none)) else (if 0 ≤ (wrap64 (a0 * 2)) then (if (wrap64 (a0 * 2)) ≤ (wrap64 ((wrap64 (a0 * 2)) + 2)) then (if (wrap64 ((wrap64 (a0 * 2)) + 2)) ≤ 200 then (some ((⟨#[48, 48, 48, 49, 48, 50, 48, 51, 48, 52, 48, 53, 48, 54, 48, 55, 48, 56, 48, 57, 49, 48, 49, 49, 49, 50, 49, 51, 49, 52, 49, 53, 49, 54, 49, 55, 49, 56, 49, 57, 50, 48, 50, 49, 50, 50, 50, 51, 50, 52, 50, 53, 50, 54, 50, 55, 50, 56, 50, 57, 51, 48, 51, 49, 51, 50, 51, 51, 51, 52, 51, 53, 51, 54, 51, 55, 51, 56, 51, 57, 52, 48, 52, 49, 52, 50, 52, 51, 52, 52, 52, 53, 52, 54, 52, 55, 52, 56, 52, 57, 53, 48, 53, 49, 53, 50, 53, 51, 53, 52, 53, 53, 53, 54, 53, 55, 53, 56, 53, 57, 54, 48, 54, 49, 54, 50, 54, 51, 54, 52, 54, 53, 54, 54, 54, 55, 54, 56, 54, 57, 55, 48, 55, 49, 55, 50, 55, 51, 55, 52, 55, 53, 55, 54, 55, 55, 55, 56, 55, 57, 56, 48, 56, 49, 56, 50, 56, 51, 56, 52, 56, 53, 56, 54, 56, 55, 56, 56, 56, 57, 57, 48, 57, 49, 57, 50, 57, 51, 57, 52, 57, 53, 57, 54, 57, 55, 57, 56, 57, 57]⟩ : ByteArray).extract ((wrap64 (a0 * 2)) : Int).toNat ((wrap64 ((wrap64 (a0 * 2)) + 2)) : Int).toNat)) else (none)) else (none)) else (none))
def strconv_log10Pow2.f (a0 : Int) : Option (Int) := some ((wrap64 (a0 * 78913)) / 262144)
def bits_Len64.j0 : Nat → Int → Int → Option (Int)
 | 0, _, _ => none
 | k + 1, x0, x2 => if x0 ≥ 65536 then (if (x0 / 65536) ≥ 256 then (if 0 ≤ (((x0 / 65536) / 256) % 256) then (if (((x0 / 65536) / 256) % 256) < 256 then (some (wrap64 ((wrap64 ((wrap64 (x2 + 16)) + 8)) + (wrap64 (bt (⟨#[0, 1, 2, 2, 3, 3, 3, 3, 4, 4, 4, 4, 4, 4, 4, 4, 5, 5, 5, 5, 5, 5, 5, 5, 5, 5, 5, 5, 5, 5, 5, 5, 6, 6, 6, 6, 6, 6, 6, 6, 6, 6, 6, 6, 6, 6, 6, 6, 6, 6, 6, 6, 6, 6, 6, 6, 6, 6, 6, 6, 6, 6, 6, 6, 7, 7, 7, 7, 7, 7, 7, 7, 7, 7, 7, 7, 7, 7, 7, 7, 7, 7, 7, 7, 7, 7, 7, 7, 7, 7, 7, 7, 7, 7, 7, 7, 7, 7, 7, 7, 7, 7, 7, 7, 7, 7, 7, 7, 7, 7, 7, 7, 7, 7, 7, 7, 7, 7, 7, 7, 7, 7, 7, 7, 7, 7, 7, 7, 8, 8, 8, 8, 8, 8, 8, 8, 8, 8, 8, 8, 8, 8, 8, 8, 8, 8, 8, 8, 8, 8, 8, 8, 8, 8, 8, 8, 8, 8, 8, 8, 8, 8, 8, 8, 8, 8, 8, 8, 8, 8, 8, 8, 8, 8, 8, 8, 8, 8, 8, 8, 8, 8, 8, 8, 8, 8, 8, 8, 8, 8, 8, 8, 8, 8, 8, 8, 8, 8, 8, 8, 8, 8, 8, 8, 8, 8, 8, 8, 8, 8, 8, 8, 8, 8, 8, 8, 8, 8, 8, 8, 8, 8, 8, 8, 8, 8, 8, 8, 8, 8, 8, 8, 8, 8, 8, 8, 8, 8, 8, 8, 8, 8, 8, 8, 8, 8, 8, 8, 8, 8, 8, 8, 8, 8, 8, 8]⟩ : ByteArray) (((x0 / 65536) / 256) % 256)))))) else (none)) else (none)) else (if 0 ≤ ((x0 / 65536) % 256) then (if ((x0 / 65536) % 256) < 256 then (some (wrap64 ((wrap64 (x2 + 16)) + (wrap64 (bt (⟨#[0, 1, 2, 2, 3, 3, 3, 3, 4, 4, 4, 4, 4, 4, 4, 4, 5, 5, 5, 5, 5, 5, 5, 5, 5, 5, 5, 5, 5, 5, 5, 5, 6, 6, 6, 6, 6, 6, 6, 6, 6, 6, 6, 6, 6, 6, 6, 6, 6, 6, 6, 6, 6, 6, 6, 6, 6, 6, 6, 6, 6, 6, 6, 6, 7, 7, 7, 7, 7, 7, 7, 7, 7, 7, 7, 7, 7, 7, 7, 7, 7, 7, 7, 7, 7, 7, 7, 7, 7, 7, 7, 7, 7, 7, 7, 7, 7, 7, 7, 7, 7, 7, 7, 7, 7, 7, 7, 7, 7, 7, 7, 7, 7, 7, 7, 7, 7, 7, 7, 7, 7, 7, 7, 7, 7, 7, 7, 7, 8, 8, 8, 8, 8, 8, 8, 8, 8, 8, 8, 8, 8, 8, 8, 8, 8, 8, 8, 8, 8, 8, 8, 8, 8, 8, 8, 8, 8, 8, 8, 8, 8, 8, 8, 8, 8, 8, 8, 8, 8, 8, 8, 8, 8, 8, 8, 8, 8, 8, 8, 8, 8, 8, 8, 8, 8, 8, 8, 8, 8, 8, 8, 8, 8, 8, 8, 8, 8, 8, 8, 8, 8, 8, 8, 8, 8, 8, 8, 8, 8, 8, 8, 8, 8, 8, 8, 8, 8, 8, 8, 8, 8, 8, 8, 8, 8, 8, 8, 8, 8, 8, 8, 8, 8, 8, 8, 8, 8, 8, 8, 8, 8, 8, 8, 8, 8, 8, 8, 8, 8, 8, 8, 8, 8, 8, 8, 8]⟩ : ByteArray) ((x0 / 65536) % 256)))))) else (none)) else (none))) else (if x0 ≥ 256 then (if 0 ≤ ((x0 / 256) % 256) then (if ((x0 / 256) % 256) < 256 then (some (wrap64 ((wrap64 (x2 + 8)) + (wrap64 (bt (⟨#[0, 1, 2, 2, 3, 3, 3, 3, 4, 4, 4, 4, 4, 4, 4, 4, 5, 5, 5, 5, 5, 5, 5, 5, 5, 5, 5, 5, 5, 5, 5, 5, 6, 6, 6, 6, 6, 6, 6, 6, 6, 6, 6, 6, 6, 6, 6, 6, 6, 6, 6, 6, 6, 6, 6, 6, 6, 6, 6, 6, 6, 6, 6, 6, 7, 7, 7, 7, 7, 7, 7, 7, 7, 7, 7, 7, 7, 7, 7, 7, 7, 7, 7, 7, 7, 7, 7, 7, 7, 7, 7, 7, 7, 7, 7, 7, 7, 7, 7, 7, 7, 7, 7, 7, 7, 7, 7, 7, 7, 7, 7, 7, 7, 7, 7, 7, 7, 7, 7, 7, 7, 7, 7, 7, 7, 7, 7, 7, 8, 8, 8, 8, 8, 8, 8, 8, 8, 8, 8, 8, 8, 8, 8, 8, 8, 8, 8, 8, 8, 8, 8, 8, 8, 8, 8, 8, 8, 8, 8, 8, 8, 8, 8, 8, 8, 8, 8, 8, 8, 8, 8, 8, 8, 8, 8, 8, 8, 8, 8, 8, 8, 8, 8, 8, 8, 8, 8, 8, 8, 8, 8, 8, 8, 8, 8, 8, 8, 8, 8, 8, 8, 8, 8, 8, 8, 8, 8, 8, 8, 8, 8, 8, 8, 8, 8, 8, 8, 8, 8, 8, 8, 8, 8, 8, 8, 8, 8, 8, 8, 8, 8, 8, 8, 8, 8, 8, 8, 8, 8, 8, 8, 8, 8, 8, 8, 8, 8, 8, 8, 8, 8, 8, 8, 8, 8, 8]⟩ : ByteArray) ((x0 / 256) % 256)))))) else (none)) else (none)) else (if 0 ≤ ((x0) % 256) then (if ((x0) % 256) < 256 then (some (wrap64 (x2 + (wrap64 (bt (⟨#[0, 1, 2, 2, 3, 3, 3, 3, 4, 4, 4, 4, 4, 4, 4, 4, 5, 5, 5, 5, 5, 5, 5, 5, 5, 5, 5, 5, 5, 5, 5, 5, 6, 6, 6, 6, 6, 6, 6, 6, 6, 6, 6, 6, 6, 6, 6, 6, 6, 6, 6, 6, 6, 6, 6, 6, 6, 6, 6, 6, 6, 6, 6, 6, 7, 7, 7, 7, 7, 7, 7, 7, 7, 7, 7, 7, 7, 7, 7, 7, 7, 7, 7, 7, 7, 7, 7, 7, 7, 7, 7, 7, 7, 7, 7, 7, 7, 7, 7, 7, 7, 7, 7, 7, 7, 7, 7, 7, 7, 7, 7, 7, 7, 7, 7, 7, 7, 7, 7, 7, 7, 7, 7, 7, 7, 7, 7, 7, 8, 8, 8, 8, 8, 8, 8, 8, 8, 8, 8, 8, 8, 8, 8, 8, 8, 8, 8, 8, 8, 8, 8, 8, 8, 8, 8, 8, 8, 8, 8, 8, 8, 8, 8, 8, 8, 8, 8, 8, 8, 8, 8, 8, 8, 8, 8, 8, 8, 8, 8, 8, 8, 8, 8, 8, 8, 8, 8, 8, 8, 8, 8, 8, 8, 8, 8, 8, 8, 8, 8, 8, 8, 8, 8, 8, 8, 8, 8, 8, 8, 8, 8, 8, 8, 8, 8, 8, 8, 8, 8, 8, 8, 8, 8, 8, 8, 8, 8, 8, 8, 8, 8, 8, 8, 8, 8, 8, 8, 8, 8, 8, 8, 8, 8, 8, 8, 8, 8, 8, 8, 8, 8, 8, 8, 8, 8, 8]⟩ : ByteArray) ((x0) % 256)))))) else (none)) else (none)))
def bits_Len64.f (k : Nat) (a0 : Int) : Option (Int) := if a0 ≥ 4294967296 then (bits_Len64.j0 k (a0 / 4294967296) 32) else (bits_Len64.j0 k a0 0)
def strconv_bool2_int.f (a0 : Bool) : Option (Int) := if a0 = true then (some 1) else (some 0)
def strconv_isPowerOfTwo.f (a0 : Int) : Option (Bool) := some ((Go.bits .and .i64 a0 (wrap64 (a0 - 1))) == 0)
def strconv_Itoa_39.f (a0 : Int) : Option (ByteArray) := if 0 ≤ a0 then (if a0 ≤ 9223372036854775807 then some ⟨(Lib.itoa a0).toArray⟩ else none) else none
def impl_varText.f (a0 : Int) : Option (ByteArray) := if 0 ≤ a0 ∧ a0 ≤ 3 then some (⟨#[(97 + a0).toNat.toUInt8]⟩ : ByteArray) else none
mutual
def impl_OpLevel.j0 : Nat → Int → Bool → Option (Int)
 | 0, _, _ => none
 | k + 1, x3, x14 => if x14 = true then (some 6) else (if x3 = 8 then (impl_OpLevel.j1 k x3 (x3 == 8)) else (impl_OpLevel.j1 k x3 (x3 == 9)))
def impl_OpLevel.j1 : Nat → Int → Bool → Option (Int)
 | 0, _, _ => none
 | k + 1, x3, x17 => if x17 = true then (some 7) else (if x3 = 10 then (some 8) else (if x3 = 11 then (some 8) else (if x3 = 12 then (some 8) else (some 0))))
end
def impl_OpLevel.f (k : Nat) (a0 : Int) : Option (Int) := if a0 = 1 then (some 1) else (if a0 = 2 then (some 2) else (if a0 = 3 then (some 3) else (if a0 = 4 then (some 4) else (if a0 = 5 then (some 5) else (if a0 = 6 then (impl_OpLevel.j0 k a0 (a0 == 6)) else (impl_OpLevel.j0 k a0 (a0 == 7)))))))
def impl_OpText.f (a0 : Int) : Option (ByteArray) := if 1 ≤ a0 ∧ a0 ≤ 12 then some (opTexts.getD (a0 - 1).toNat ⟨#[]⟩) else none
mutual
def impl_operandTokens.j0 : Nat → List ByteArray → Bool → Int → Int → List (S29) → Option (List ByteArray)
 | 0, _, _, _, _, _ => none
 | k + 1, x2, x17, x248000, x248001, x248002 => if x17 = true then ((impl_exprTokens.f k x248000 x248001 x248002 x2).bind fun t250 => (some t250)) else (if x2.length < 8796093022208 then ((impl_exprTokens.f k x248000 x248001 x248002 (x2 ++ [(⟨#[40]⟩ : ByteArray)])).bind fun t256 => (if t256.length < 8796093022208 then (some (t256 ++ [(⟨#[41]⟩ : ByteArray)])) else (none))) else (none))
def impl_operandTokens.f : Nat → Int → Int → List (S29) → Int → List ByteArray → Option (List ByteArray)
 | 0, _, _, _, _, _ => none
 | k + 1, a0_0, a0_1, l0_2, a1, l2 => (impl_OpValid.f a0_0).bind fun t248 => (if t248 = true then ((impl_OpLevel.f k a0_0).bind fun t249 => (impl_operandTokens.j0 k l2 (decide (t249 ≥ a1)) a0_0 a0_1 l0_2)) else (impl_operandTokens.j0 k l2 true a0_0 a0_1 l0_2))
def impl_exprTokens.f : Nat → Int → Int → List (S29) → List ByteArray → Option (List ByteArray)
 | 0, _, _, _, _ => none
 | k + 1, a0_0, a0_1, l0_2, l1 => if a0_0 = 0 then ((strconv_Itoa_39.f a0_1).bind fun t263 => (if l1.length < 8796093022208 then (some (l1 ++ [t263])) else (none))) else (if a0_0 = 13 then ((impl_varText.f a0_1).bind fun t267 => (if l1.length < 8796093022208 then (some (l1 ++ [t267])) else (none))) else ((impl_OpLevel.f k a0_0).bind fun t271 => (if 0 < (l0_2.length : Int) then ((impl_operandTokens.f k ((rd_T29 l0_2 0).f0) ((rd_T29 l0_2 0).f1) ((rd_T29 l0_2 0).f2) t271 l1).bind fun t273 => ((impl_OpText.f a0_0).bind fun t276 => (if t273.length < 8796093022208 then (if 1 < (l0_2.length : Int) then ((impl_operandTokens.f k ((rd_T29 l0_2 1).f0) ((rd_T29 l0_2 1).f1) ((rd_T29 l0_2 1).f2) (wrap64 (t271 + 1)) (t273 ++ [t276])).bind fun t281 => (some t281)) else (none)) else (none)))) else (none))))
end
def impl_ExprText.f (k : Nat) (a0_0 : Int) (a0_1 : Int) (l0_2 : List (S29)) : Option (ByteArray) := (impl_ExprValid.f k a0_0 a0_1 l0_2).bind fun t285 => (if t285 = true then ((impl_exprTokens.f k a0_0 a0_1 l0_2 ([] : List ByteArray)).bind fun t286 => ((impl_TokensText.f k t286).bind fun t289 => (some t289))) else (some (⟨#[]⟩ : ByteArray)))
mutual
def laws_eqExprS.l0 : Nat → List (S29) → List (S29) → Int → Option (Bool)
 | 0, _, _, _ => none
 | k + 1, x0, x1, x5 => if x5 < (x0.length : Int) then (if 0 ≤ x5 then (if x5 < (x1.length : Int) then ((laws_eqExpr.f k ((rd_T29 x0 x5).f0) ((rd_T29 x0 x5).f1) ((rd_T29 x0 x5).f2) ((rd_T29 x1 x5).f0) ((rd_T29 x1 x5).f1) ((rd_T29 x1 x5).f2)).bind fun t292 => (if t292 = true then (laws_eqExprS.l0 k x0 x1 (wrap64 (x5 + 1))) else (some false))) else (none)) else (none)) else (some true)
def laws_eqExprS.f : Nat → List (S29) → List (S29) → Option (Bool)
 | 0, _, _ => none
 | k + 1, l0, l1 => if (l0.length : Int) = (l1.length : Int) then (laws_eqExprS.l0 k l0 l1 0) else (some false)
def laws_eqExpr.f : Nat → Int → Int → List (S29) → Int → Int → List (S29) → Option (Bool)
 | 0, _, _, _, _, _, _ => none
 | k + 1, a0_0, a0_1, l0_2, a1_0, a1_1, l1_2 => if a0_0 = a1_0 then (if a0_1 = a1_1 then ((laws_eqExprS.f k l0_2 l1_2).bind fun t295 => (if t295 = true then (some true) else (some false))) else (some false)) else (some false)
end
def laws_FnExactExprText.f (k : Nat) (a0_0 : Int) (a0_1 : Int) (l0_2 : List (S24)) : Option (Bool) := (laws_szExpr.f k a0_0 a0_1 l0_2 1048576).bind fun t297 => (if t297 < 0 then (some true) else ((laws_toExpr.f k a0_0 a0_1 l0_2).bind fun bt298 => ((spec_ExprText.f k bt298.1 bt298.2.1 bt298.2.2).bind fun t303 => ((laws_toExpr.f k a0_0 a0_1 l0_2).bind fun bt304 => ((impl_ExprText.f k bt304.1 bt304.2.1 bt304.2.2).bind fun t310 => (if t310.toList = t303.toList then ((laws_toExpr.f k a0_0 a0_1 l0_2).bind fun bt311 => ((laws_eqExpr.f k bt304.1 bt304.2.1 bt304.2.2 bt311.1 bt311.2.1 bt311.2.2).bind fun t316 => (if t316 = true then (some true) else (some false)))) else (some false)))))))
def spec_l6Rd_pick.j0 : Nat → Int → Bool → List Int → Int → Option (Int × Int)
 | 0, _, _, _, _ => none
 | k + 1, x1, x24, x1000, x1001 => if x24 = true then (some (0, x1001)) else (if (wrap64 (x1001 - 1)) < (x1000.length : Int) then (if 0 ≤ (wrap64 (x1001 - 1)) then (if x1 = 0 then (none) else (some (Int.tmod (wrap64 (rd x1000 (wrap64 (x1001 - 1)))) x1, x1001))) else (none)) else (if (x1000.length : Int) = 0 then (none) else (if 0 ≤ (Int.tmod (wrap64 (x1001 - 1)) (x1000.length : Int)) then (if (Int.tmod (wrap64 (x1001 - 1)) (x1000.length : Int)) < (x1000.length : Int) then (if 0 ≤ (Int.tmod (wrap64 ((wrap64 ((wrap64 (x1001 - 1)) * 7)) + 3)) (x1000.length : Int)) then (if (Int.tmod (wrap64 ((wrap64 ((wrap64 (x1001 - 1)) * 7)) + 3)) (x1000.length : Int)) < (x1000.length : Int) then (if x1 = 0 then (none) else (some (Int.tmod (Go.bits .xor .i64 (wrap64 ((wrap64 ((wrap64 ((wrap64 ((wrap64 (rd x1000 (Int.tmod (wrap64 (x1001 - 1)) (x1000.length : Int)))) * 131)) + (wrap64 ((wrap64 (rd x1000 (Int.tmod (wrap64 ((wrap64 ((wrap64 (x1001 - 1)) * 7)) + 3)) (x1000.length : Int)))) * 1117)))) + (wrap64 ((wrap64 (x1001 - 1)) * 29)))) + (wrap64 ((wrap64 (Int.tdiv (wrap64 (x1001 - 1)) (x1000.length : Int))) * 53)))) (wrap64 (Int.tdiv (wrap64 ((wrap64 ((wrap64 ((wrap64 ((wrap64 (rd x1000 (Int.tmod (wrap64 (x1001 - 1)) (x1000.length : Int)))) * 131)) + (wrap64 ((wrap64 (rd x1000 (Int.tmod (wrap64 ((wrap64 ((wrap64 (x1001 - 1)) * 7)) + 3)) (x1000.length : Int)))) * 1117)))) + (wrap64 ((wrap64 (x1001 - 1)) * 29)))) + (wrap64 ((wrap64 (Int.tdiv (wrap64 (x1001 - 1)) (x1000.length : Int))) * 53)))) 64))) x1, x1001))) else (none)) else (none)) else (none)) else (none))))
def spec_l6Rd_pick.f (k : Nat) (s0_0 : List Int) (s0_1 : Int) (a1 : Int) : Option (Int × Int) := if a1 < 1 then (spec_l6Rd_pick.j0 k a1 true s0_0 (wrap64 (s0_1 + 1))) else (spec_l6Rd_pick.j0 k a1 ((s0_0.length : Int) == 0) s0_0 (wrap64 (s0_1 + 1)))
def spec_l4Leaf.f (a0 : Int) (a1 : Int) : Option (Int × Int × (List (S29))) := some (a0, a1, (([] : List (S29))))
def spec_l91Leaf.f (k : Nat) (s0_0 : List Int) (s0_1 : Int) : Option (Int × Int × (List (S29)) × Int) := (spec_l6Rd_pick.f k s0_0 s0_1 4).bind fun bt325 => (if bt325.1 = 0 then ((spec_l6Rd_pick.f k s0_0 bt325.2 4).bind fun bt327 => ((spec_l4Leaf.f 0 bt327.1).bind fun bt329 => (some (bt329.1, bt329.2.1, bt329.2.2, bt327.2)))) else (if bt325.1 = 1 then ((some (([5, 31, 32, 100, 2047, 2048, 65536, 99999] : List Int) : List Int)).bind fun y334 => ((spec_l6Rd_pick.f k s0_0 bt325.2 8).bind fun bt337 => (if 0 ≤ bt337.1 then (if bt337.1 < (y334.length : Int) then ((spec_l4Leaf.f 0 (rd y334 bt337.1)).bind fun bt340 => (some (bt340.1, bt340.2.1, bt340.2.2, bt337.2))) else (none)) else (none)))) else ((spec_l6Rd_pick.f k s0_0 bt325.2 4).bind fun bt345 => ((spec_l4Leaf.f 13 bt345.1).bind fun bt347 => (some (bt347.1, bt347.2.1, bt347.2.2, bt345.2))))))
def spec_l4Both.f (a0 : Int) (a1_0 : Int) (a1_1 : Int) (l1_2 : List (S29)) (a2_0 : Int) (a2_1 : Int) (l2_2 : List (S29)) : Option (Int × Int × (List (S29))) := some (a0, 0, (([(⟨a1_0, a1_1, l1_2⟩ : S29), (⟨a2_0, a2_1, l2_2⟩ : S29)] : List (S29))))
def spec_l91Op.f (k : Nat) (s0_0 : List Int) (s0_1 : Int) : Option (Int × Int) := (spec_l6Rd_pick.f k s0_0 s0_1 12).bind fun bt358 => (some (wrap64 (1 + bt358.1), bt358.2))
mutual
def spec_l91Expr.j0 : Nat → Int → Bool → List Int → Int → Option (Int × Int × (List (S29)) × Int)
 | 0, _, _, _, _ => none
 | k + 1, x1, x13, x1000, x1001 => if x13 = true then ((spec_l91Leaf.f k x1000 x1001).bind fun bt363 => (some (bt363.1, bt363.2.1, bt363.2.2.1, bt363.2.2.2))) else ((spec_l91Op.f k x1000 x1001).bind fun bt369 => ((spec_l91Expr.f k x1000 bt369.2 (wrap64 (x1 - 1))).bind fun bt371 => ((spec_l91Expr.f k x1000 bt371.2.2.2 (wrap64 (x1 - 1))).bind fun bt378 => ((spec_l4Both.f bt369.1 bt371.1 bt371.2.1 bt371.2.2.1 bt378.1 bt378.2.1 bt378.2.2.1).bind fun bt384 => (some (bt384.1, bt384.2.1, bt384.2.2, bt378.2.2.2))))))
def spec_l91Expr.f : Nat → List Int → Int → Int → Option (Int × Int × (List (S29)) × Int)
 | 0, _, _, _ => none
 | k + 1, s0_0, s0_1, a1 => if a1 < 2 then (spec_l91Expr.j0 k a1 true s0_0 s0_1) else ((spec_l6Rd_pick.f k s0_0 s0_1 3).bind fun bt361 => (spec_l91Expr.j0 k a1 (bt361.1 == 0) s0_0 bt361.2))
end
def spec_l91Spoilt.f (k : Nat) (s0_0 : List Int) (s0_1 : Int) : Option (Int × Int × (List (S29)) × Int) := (spec_l6Rd_pick.f k s0_0 s0_1 4).bind fun bt390 => ((spec_l91Expr.f k s0_0 bt390.2 (wrap64 (2 + bt390.1))).bind fun bt392 => ((spec_l6Rd_pick.f k s0_0 bt392.2.2.2 40).bind fun bt399 => (if bt399.1 = 0 then ((some (([(-1), 100000] : List Int) : List Int)).bind fun y401 => ((spec_l6Rd_pick.f k s0_0 bt399.2 2).bind fun bt404 => (if 0 ≤ bt404.1 then (if bt404.1 < (y401.length : Int) then (some (bt392.1, rd y401 bt404.1, bt392.2.2.1, bt404.2)) else (none)) else (none)))) else (if bt399.1 = 1 then ((some (([(-1), 14] : List Int) : List Int)).bind fun y407 => ((spec_l6Rd_pick.f k s0_0 bt399.2 2).bind fun bt410 => (if 0 ≤ bt410.1 then (if bt410.1 < (y407.length : Int) then (some (rd y407 bt410.1, bt392.2.1, bt392.2.2.1, bt410.2)) else (none)) else (none)))) else (if bt399.1 = 2 then ((spec_l91Leaf.f k s0_0 bt399.2).bind fun bt413 => (if bt392.2.2.1.length < 3518437208883 then (some (bt392.1, bt392.2.1, (bt392.2.2.1 ++ [(⟨bt413.1, bt413.2.1, bt413.2.2.1⟩ : S29)]), bt413.2.2.2)) else (none))) else (if bt399.1 = 3 then ((spec_l91Leaf.f k s0_0 bt399.2).bind fun bt422 => ((spec_l4Both.f 8 bt392.1 bt392.2.1 bt392.2.2.1 bt422.1 bt422.2.1 bt422.2.2.1).bind fun bt428 => ((spec_l91Expr.f k s0_0 bt422.2.2.2 5).bind fun bt433 => ((spec_l4Both.f 8 bt428.1 bt428.2.1 bt428.2.2 bt433.1 bt433.2.1 bt433.2.2.1).bind fun bt439 => (some (bt439.1, bt439.2.1, bt439.2.2, bt433.2.2.2)))))) else (if bt399.1 = 4 then ((spec_l91Op.f k s0_0 bt399.2).bind fun bt444 => ((spec_l91Expr.f k s0_0 bt444.2 4).bind fun bt446 => ((spec_l4Leaf.f 13 4).bind fun bt452 => ((spec_l4Both.f bt444.1 bt446.1 bt446.2.1 bt446.2.2.1 bt452.1 bt452.2.1 bt452.2.2).bind fun bt457 => (some (bt457.1, bt457.2.1, bt457.2.2, bt446.2.2.2)))))) else (some (bt392.1, bt392.2.1, bt392.2.2.1, bt399.2)))))))))
def spec_l6Open.f (l0 : List Int) : Option (List Int × Int) := if (l0.length : Int) > 2000 then (if 2000 ≤ (l0.length : Int) then (some (l0.take 2000, 0)) else (none)) else (some (l0, 0))
def spec_DrawExprText.f (k : Nat) (l0 : List Int) : Option (Int × Int × (List (S29))) := (spec_l6Open.f l0).bind fun bt466 => ((spec_l91Spoilt.f k bt466.1 bt466.2).bind fun bt469 => (some (bt469.1, bt469.2.1, bt469.2.2.1)))
def laws_bytesOf.l0 : Nat → ByteArray → Int → Int → Int → Option (Int)
 | 0, _, _, _, _ => none
 | k + 1, x0, x1, x5, x6 => if x6 < (x0.size : Int) then (if 0 ≤ x6 then (if (bt x0 x6) = x1 then (laws_bytesOf.l0 k x0 x1 (wrap64 (x5 + 1)) (wrap64 (x6 + 1))) else (laws_bytesOf.l0 k x0 x1 x5 (wrap64 (x6 + 1)))) else (none)) else (some x5)
def laws_bytesOf.f (k : Nat) (a0 : ByteArray) (a1 : Int) : Option (Int) := laws_bytesOf.l0 k a0 a1 0 0
def laws_FnTextLeft.j0 : Nat → ByteArray → ByteArray → Bool → Int → Int → List (S29) → Option (Bool)
 | 0, _, _, _, _, _, _ => none
 | k + 1, x4, x5, x23, x481000, x481001, x481002 => if x23 = true then (some (x4.toList == x5.toList)) else (if (x481002.length : Int) = 0 then ((laws_bytesOf.f k x4 32).bind fun t483 => (some (t483 == 0))) else (if 0 < (x481002.length : Int) then ((impl_ExprText.f k ((rd_T29 x481002 0).f0) ((rd_T29 x481002 0).f1) ((rd_T29 x481002 0).f2)).bind fun t485 => (if 2 + t485.size ≤ 9223372036854775807 then (if ((⟨#[40, 32]⟩ : ByteArray) ++ t485).size + 2 ≤ 9223372036854775807 then (if (x4.size : Int) > (t485.size : Int) then (if 0 ≤ (t485.size : Int) then (if (t485.size : Int) ≤ (x4.size : Int) then (if (x4.extract 0 ((t485.size : Int) : Int).toNat).toList = t485.toList then (some true) else (if (x4.size : Int) > ((((⟨#[40, 32]⟩ : ByteArray) ++ t485) ++ (⟨#[32, 41]⟩ : ByteArray)).size : Int) then (if 0 ≤ ((((⟨#[40, 32]⟩ : ByteArray) ++ t485) ++ (⟨#[32, 41]⟩ : ByteArray)).size : Int) then (if ((((⟨#[40, 32]⟩ : ByteArray) ++ t485) ++ (⟨#[32, 41]⟩ : ByteArray)).size : Int) ≤ (x4.size : Int) then (some ((x4.extract 0 (((((⟨#[40, 32]⟩ : ByteArray) ++ t485) ++ (⟨#[32, 41]⟩ : ByteArray)).size : Int) : Int).toNat).toList == (((⟨#[40, 32]⟩ : ByteArray) ++ t485) ++ (⟨#[32, 41]⟩ : ByteArray)).toList)) else (none)) else (none)) else (some false))) else (none)) else (none)) else (if (x4.size : Int) > ((((⟨#[40, 32]⟩ : ByteArray) ++ t485) ++ (⟨#[32, 41]⟩ : ByteArray)).size : Int) then (if 0 ≤ ((((⟨#[40, 32]⟩ : ByteArray) ++ t485) ++ (⟨#[32, 41]⟩ : ByteArray)).size : Int) then (if ((((⟨#[40, 32]⟩ : ByteArray) ++ t485) ++ (⟨#[32, 41]⟩ : ByteArray)).size : Int) ≤ (x4.size : Int) then (some ((x4.extract 0 (((((⟨#[40, 32]⟩ : ByteArray) ++ t485) ++ (⟨#[32, 41]⟩ : ByteArray)).size : Int) : Int).toNat).toList == (((⟨#[40, 32]⟩ : ByteArray) ++ t485) ++ (⟨#[32, 41]⟩ : ByteArray)).toList)) else (none)) else (none)) else (some false))) else (none)) else (none))) else (none)))
def laws_FnTextLeft.f (k : Nat) (l0 : List Int) : Option (Bool) := if (l0.length : Int) > 1048576 then (some true) else ((spec_DrawExprText.f k l0).bind fun bt475 => ((impl_ExprText.f k bt475.1 bt475.2.1 bt475.2.2).bind fun t481 => ((spec_ExprText.f k bt475.1 bt475.2.1 bt475.2.2).bind fun t482 => (if t481.toList = t482.toList then (laws_FnTextLeft.j0 k t481 t482 (t481.toList == ([] : List UInt8)) bt475.1 bt475.2.1 bt475.2.2) else (laws_FnTextLeft.j0 k t481 t482 true bt475.1 bt475.2.1 bt475.2.2)))))
mutual
def impl_Tokens.l0 : Nat → ByteArray → List ByteArray → Int → Option (List ByteArray × Bool)
 | 0, _, _, _ => none
 | k + 1, x0, x4, x5 => if x5 < (x0.size : Int) then (if 0 ≤ x5 then (if (bt x0 x5) = 32 then (impl_Tokens.j1 k x0 x4 x5 true) else (impl_Tokens.j1 k x0 x4 x5 ((bt x0 x5) == 10))) else (none)) else (some (x4, true))
def impl_Tokens.j1 : Nat → ByteArray → List ByteArray → Int → Bool → Option (List ByteArray × Bool)
 | 0, _, _, _, _ => none
 | k + 1, x0, x4, x5, x23 => if x23 = true then (impl_Tokens.l0 k x0 x4 (wrap64 (x5 + 1))) else (if 0 ≤ x5 then (if x5 ≤ (x0.size : Int) then ((impl_tokenLength.f k (x0.extract (x5 : Int).toNat x0.size)).bind fun t486 => (if t486 = 0 then (some (([] : List ByteArray), false)) else (if x5 ≤ (wrap64 (x5 + t486)) then (if (wrap64 (x5 + t486)) ≤ (x0.size : Int) then (if x4.length < 8796093022208 then (impl_Tokens.l0 k x0 (x4 ++ [x0.extract (x5 : Int).toNat ((wrap64 (x5 + t486)) : Int).toNat]) (wrap64 (x5 + t486))) else (none)) else (none)) else (none)))) else (none)) else (none))
end
def impl_Tokens.f (k : Nat) (a0 : ByteArray) : Option (List ByteArray × Bool) := if (a0.size : Int) > 20000 then (some (([] : List ByteArray), false)) else (impl_Tokens.l0 k a0 ([] : List ByteArray) 0)
mutual
def impl_exprSize.l0 : Nat → Int → List (S29) → Int → Int → Option (Int)
 | 0, _, _, _, _ => none
 | k + 1, x3, x7, x8, x9 => if x9 < x8 then (if 0 ≤ x9 then (if x9 < (x7.length : Int) then ((impl_exprSize.f k ((rd_T29 x7 x9).f0) ((rd_T29 x7 x9).f1) ((rd_T29 x7 x9).f2)).bind fun t493 => (impl_exprSize.l0 k (wrap64 (x3 + t493)) x7 x8 (wrap64 (x9 + 1)))) else (none)) else (none)) else (some x3)
def impl_exprSize.f : Nat → Int → Int → List (S29) → Option (Int)
 | 0, _, _, _ => none
 | k + 1, a0_0, a0_1, l0_2 => impl_exprSize.l0 k 1 l0_2 (l0_2.length : Int) 0
end
def impl_ExprSize.f (k : Nat) (a0_0 : Int) (a0_1 : Int) (l0_2 : List (S29)) : Option (Int) := (impl_ExprValid.f k a0_0 a0_1 l0_2).bind fun t495 => (if t495 = true then ((impl_exprSize.f k a0_0 a0_1 l0_2).bind fun t496 => (some t496)) else (some 0))
def laws_FnTextTokens.j0 : Nat → ByteArray → ByteArray → Bool → Int → Int → List (S29) → Option (Bool)
 | 0, _, _, _, _, _, _ => none
 | k + 1, x4, x5, x24, x503000, x503001, x503002 => if x24 = true then (some (x4.toList == x5.toList)) else ((impl_Tokens.f k x4).bind fun bt505 => ((laws_bytesOf.f k x4 40).bind fun t509 => (if bt505.2 = true then ((impl_ExprSize.f k x503000 x503001 x503002).bind fun t510 => (if (bt505.1.length : Int) = (wrap64 (t510 + (wrap64 (2 * t509)))) then ((laws_bytesOf.f k x4 41).bind fun t511 => (some (t511 == t509))) else (some false))) else (some false))))
def laws_FnTextTokens.f (k : Nat) (l0 : List Int) : Option (Bool) := if (l0.length : Int) > 1048576 then (some true) else ((spec_DrawExprText.f k l0).bind fun bt497 => ((impl_ExprText.f k bt497.1 bt497.2.1 bt497.2.2).bind fun t503 => ((spec_ExprText.f k bt497.1 bt497.2.1 bt497.2.2).bind fun t504 => (if t503.toList = t504.toList then (laws_FnTextTokens.j0 k t503 t504 (t503.toList == ([] : List UInt8)) bt497.1 bt497.2.1 bt497.2.2) else (laws_FnTextTokens.j0 k t503 t504 true bt497.1 bt497.2.1 bt497.2.2)))))
theorem spec_l6In.calls (a0 : Int) (a1 : Int) (a2 : Int) (r : Bool) (w : World) (h : spec_l6In.f a0 a1 a2 = some r) :
  Calls Tryd.prog 54 #[.int .i64 a0, .int .i64 a1, .int .i64 a2] w fun e w' => e = .returned (.bool r) ∧ Drawn0 w w' := by
 have H : (if a0 ≥ a1 then (some (decide (a0 ≤ a2))) else (some false)) = some r := h
 clear h
 by_cases c4 : a0 ≥ a1
 ·rw [if_pos c4] at H
  have c4b0 : decide (a1 ≤ a0) = true := decide_eq_true c4
  clear c4
  obtain rfl := Option.some.inj H
  go_enter Tryd.func54, Tryd.ntmps54
  go_wp2
  go_ret
  exact ⟨sd_, ab6_⟩
 rw [if_neg c4] at H
 have c4b0 : decide (a1 ≤ a0) = false := decide_eq_false c4
 clear c4
 obtain rfl := Option.some.inj H
 go_enter Tryd.func54, Tryd.ntmps54
 go_wp2
 go_ret
 exact ⟨sd_, ab6_⟩
theorem spec_OpValid.calls (a0 : Int) (r : Bool) (w : World) (h : spec_OpValid.f a0 = some r) :
  Calls Tryd.prog 55 #[.int .i64 a0] w fun e w' => e = .returned (.bool r) ∧ Drawn0 w w' := by
 have H : ((spec_l6In.f a0 1 12).bind fun t21 => (some t21)) = some r := h
 clear h
 obtain ⟨t21, A2, H⟩ := bsa H
 (try dsimp only at H)
 obtain rfl := Option.some.inj H
 go_enter Tryd.func55, Tryd.ntmps55
 go_wp2_with (first | ((with_reducible refine gate_callee (f := 54) rfl ?_); refine gl_ 4 Tryd.func54 #[.int .i64 a0, .int .i64 1, .int .i64 12] ?_; (with_reducible refine (spec_l6In.calls a0 1 12 t21 _ A2.out).mono ?_); rintro e w' ⟨rfl, ⟨nd, rfl⟩⟩; refine ⟨_, rfl, ?_⟩))
 go_ret
 exact ⟨sd_, ab6_⟩
theorem spec_l4Ok.mono_l : ∀ k, (∀ y0 y1 y2 y3, LeO (spec_l4Ok.f k y0 y1 y2 y3) (spec_l4Ok.f (k + 1) y0 y1 y2 y3))
 | 0 => fun _ _ _ _ r h => by simp [spec_l4Ok.f] at h
 | k + 1 => by
  have ih0 := spec_l4Ok.mono_l k
  ·intro y0 y1 y2 y3
   unfold spec_l4Ok.f
   exact mo_
theorem spec_l4Ok.mono : ∀ a0 a1 a2 a3 k, LeO (spec_l4Ok.f k a0 a1 a2 a3) (spec_l4Ok.f (k + 1) a0 a1 a2 a3) := by
 intro a0 a1 a2 a3 k
 have ih0 := spec_l4Ok.mono_l k
 exact ih0 a0 a1 a2 a3
theorem spec_l4Ok.calls (k : Nat) : ∀ (a0_0 : Int) (a0_1 : Int) (A0_2 : Option Addr) (c0_2 : Nat) (l0_2 : List (S29)) (a1 : Int) (r : Bool) (w : World) (hr0_2 : Kd.C k29 w A0_2 l0_2.length l0_2) (hc0_2 : l0_2.length ≤ c0_2) (h : spec_l4Ok.f k a0_0 a0_1 l0_2 a1 = some r),
  Calls Tryd.prog 28 #[.agg #[.int .i64 a0_0, .int .i64 a0_1, .slice A0_2 l0_2.length c0_2], .int .i64 a1] w fun e w' => e = .returned (.bool r) ∧ Below w.heap.size w w' := by
 induction k using Nat.strongRecOn with
 | _ k ih =>
 intro a0_0 a0_1 A0_2 c0_2 l0_2 a1 r w hr0_2 hc0_2 h
 cases k with
 | zero => exact absurd h (by simp [spec_l4Ok.f])
 | succ k =>
 simp only [spec_l4Ok.f] at h
 have hu29 := Tryd.underlying29
 have HR0_2 := am hr0_2
 have HC0_2 := am hc0_2
 clear hr0_2 hc0_2
 have HB := am (Below.refl w.heap.size w)
 have H : (if a1 < 1 then (some false) else (if a0_0 = 0 then ((spec_l6In.f a0_1 0 99999).bind fun t36 => (if t36 = true then (some ((l0_2.length : Int) == 0)) else (some false))) else (if a0_0 = 13 then ((spec_l6In.f a0_1 0 3).bind fun t38 => (if t38 = true then (some ((l0_2.length : Int) == 0)) else (some false))) else ((spec_OpValid.f a0_0).bind fun t40 => (if t40 = true then (if a0_1 = 0 then (if (l0_2.length : Int) = 2 then (if 0 < (l0_2.length : Int) then ((spec_l4Ok.f k ((rd_T29 l0_2 0).f0) ((rd_T29 l0_2 0).f1) ((rd_T29 l0_2 0).f2) (wrap64 (a1 - 1))).bind fun t42 => (if t42 = true then (if 1 < (l0_2.length : Int) then ((spec_l4Ok.f k ((rd_T29 l0_2 1).f0) ((rd_T29 l0_2 1).f1) ((rd_T29 l0_2 1).f2) (wrap64 (a1 - 1))).bind fun t43 => (some t43)) else (none)) else (some false))) else (none)) else (some false)) else (some false)) else (some false)))))) = some r := h
 clear h
 have HH_ := am H
 clear H
 go_enter Tryd.func28, Tryd.ntmps28
 go_upto_region 1 with (first | ((with_reducible refine gate_dst (N := 2) rfl ?_); (try (refine gate_guard (by rfl) ?_; dsimp only)); refine box_event rfl (N := 2) rfl (cs := #[.int .i64 a0_0, .int .i64 a0_1, .slice A0_2 l0_2.length c0_2]) (t := 29) rn_ ?_; intro gb44 hg w4 hbox hb; have BK44 := am (hbox); have GW44 := am ((by rw [hg]; exact (below_size ab2_) : w.heap.size ≤ gb44)); have GE44 := am ((by rw [hg]; exact (below_size ab2_) : w.heap.size ≤ gb44)); replace HB := am (below_step ab2_ hb); clear hb hbox hg))
 have H := HH_.out
 clear HH_
 by_cases c3 : a1 < 1
 ·rw [if_pos c3] at H
  have c3b0 : decide (a1 < 1) = true := decide_eq_true c3
  clear c3
  obtain rfl := Option.some.inj H
  go_wp2
  go_ret
  exact ⟨rr_, ab20_⟩
 rw [if_neg c3] at H
 have c3b0 : decide (a1 < 1) = false := decide_eq_false c3
 clear c3
 by_cases c5 : a0_0 = 0
 ·rw [if_pos c5] at H
  have c5b0 : (a0_0 == 0) = true := beq_iff_eq.mpr c5
  have c5b1 : (a0_0 != 0) = false := bne_eq_false_iff_eq.mpr c5
  clear c5
  obtain ⟨t36, A6, H⟩ := bsa H
  (try dsimp only at H)
  by_cases c7 : t36 = true
  ·subst c7
   rw [if_pos rfl] at H
   obtain rfl := Option.some.inj H
   obtain ⟨hcz9_0, hcz9_1, hcz9_2, hfz9_0, hfz9_1, hfz9_2⟩ := bcf3_ BK44.out
   go_wp2_with (first | ((with_reducible refine gate_callee (f := 54) rfl ?_); refine gl_ 12 Tryd.func54 #[.int .i64 a0_1, .int .i64 0, .int .i64 99999] ?_; (with_reducible refine (spec_l6In.calls a0_1 0 99999 true _ A6.out).mono ?_); rintro e w' ⟨rfl, ⟨nd, rfl⟩⟩; refine ⟨_, rfl, ?_⟩))
   go_ret
   exact ⟨rr_, ab20_⟩
  replace c7 := Bool.eq_false_iff.mpr c7
  subst c7
  rw [if_neg (show ¬ (false = true) by decide)] at H
  obtain rfl := Option.some.inj H
  obtain ⟨hcz11_0, hcz11_1, hcz11_2, hfz11_0, hfz11_1, hfz11_2⟩ := bcf3_ BK44.out
  go_wp2_with (first | ((with_reducible refine gate_callee (f := 54) rfl ?_); refine gl_ 12 Tryd.func54 #[.int .i64 a0_1, .int .i64 0, .int .i64 99999] ?_; (with_reducible refine (spec_l6In.calls a0_1 0 99999 false _ A6.out).mono ?_); rintro e w' ⟨rfl, ⟨nd, rfl⟩⟩; refine ⟨_, rfl, ?_⟩))
  go_ret
  exact ⟨rr_, ab20_⟩
 rw [if_neg c5] at H
 have c5b0 : (a0_0 == 0) = false := beq_eq_false_iff_ne.mpr c5
 have c5b1 : (a0_0 != 0) = true := bne_iff_ne.mpr c5
 by_cases c12 : a0_0 = 13
 ·rw [if_pos c12] at H
  have c12b0 : (a0_0 == 13) = true := beq_iff_eq.mpr c12
  have c12b1 : (a0_0 != 13) = false := bne_eq_false_iff_eq.mpr c12
  clear c12
  obtain ⟨t38, A45, H⟩ := bsm H
  (try dsimp only at H)
  have A13 := am A45
  clear A45
  by_cases c14 : t38 = true
  ·subst c14
   rw [if_pos rfl] at H
   obtain rfl := Option.some.inj H
   obtain ⟨hcz16_0, hcz16_1, hcz16_2, hfz16_0, hfz16_1, hfz16_2⟩ := bcf3_ BK44.out
   go_wp2_with (first | ((with_reducible refine gate_callee (f := 54) rfl ?_); refine gl_ 24 Tryd.func54 #[.int .i64 a0_1, .int .i64 0, .int .i64 3] ?_; (with_reducible refine (spec_l6In.calls a0_1 0 3 true _ A13.out).mono ?_); rintro e w' ⟨rfl, ⟨nd, rfl⟩⟩; refine ⟨_, rfl, ?_⟩))
   go_ret
   exact ⟨rr_, ab20_⟩
  replace c14 := Bool.eq_false_iff.mpr c14
  subst c14
  rw [if_neg (show ¬ (false = true) by decide)] at H
  obtain rfl := Option.some.inj H
  obtain ⟨hcz18_0, hcz18_1, hcz18_2, hfz18_0, hfz18_1, hfz18_2⟩ := bcf3_ BK44.out
  go_wp2_with (first | ((with_reducible refine gate_callee (f := 54) rfl ?_); refine gl_ 24 Tryd.func54 #[.int .i64 a0_1, .int .i64 0, .int .i64 3] ?_; (with_reducible refine (spec_l6In.calls a0_1 0 3 false _ A13.out).mono ?_); rintro e w' ⟨rfl, ⟨nd, rfl⟩⟩; refine ⟨_, rfl, ?_⟩))
  go_ret
  exact ⟨rr_, ab20_⟩
 rw [if_neg c12] at H
 have c12b0 : (a0_0 == 13) = false := beq_eq_false_iff_ne.mpr c12
 have c12b1 : (a0_0 != 13) = true := bne_iff_ne.mpr c12
 obtain ⟨t40, A46, H⟩ := bsm H
 (try dsimp only at H)
 have A19 := am A46
 clear A46
 by_cases c20 : t40 = true
 ·subst c20
  rw [if_pos rfl] at H
  by_cases c21 : a0_1 = 0
  ·rw [if_pos c21] at H
   have c21b0 : (a0_1 == 0) = true := beq_iff_eq.mpr c21
   have c21b1 : (a0_1 != 0) = false := bne_eq_false_iff_eq.mpr c21
   clear c21
   by_cases c22 : (l0_2.length : Int) = 2
   ·rw [if_pos c22] at H
    have c22b0 : ((l0_2.length : Int) == 2) = true := beq_iff_eq.mpr c22
    have c22b1 : ((l0_2.length : Int) != 2) = false := bne_eq_false_iff_eq.mpr c22
    clear c22
    by_cases c23 : 0 < (l0_2.length : Int)
    ·rw [if_pos c23] at H
     have c23b0 : decide (0 < (l0_2.length : Int)) = true := decide_eq_true c23
     have c23b1 : decide (0 < l0_2.length) = true := decide_eq_true (by omega)
     clear c23
     obtain ⟨t42, A47, H⟩ := bsm H
     (try dsimp only at H)
     have A24 := am A47
     clear A47
     by_cases c25 : t42 = true
     ·subst c25
      rw [if_pos rfl] at H
      by_cases c26 : 1 < (l0_2.length : Int)
      ·rw [if_pos c26] at H
       have c26b0 : decide (1 < (l0_2.length : Int)) = true := decide_eq_true c26
       have c26b1 : decide (1 < l0_2.length) = true := decide_eq_true (by omega)
       clear c26
       obtain ⟨t43, A48, H⟩ := bsm H
       (try dsimp only at H)
       have A27 := am A48
       clear A48
       obtain rfl := Option.some.inj H
       obtain ⟨hcz29_0, hcz29_1, hcz29_2, hfz29_0, hfz29_1, hfz29_2⟩ := bcf3_ BK44.out
       go_wp2_with (first | ((with_reducible refine gate_callee (f := 55) rfl ?_); refine gl_ 33 Tryd.func55 #[.int .i64 a0_0] ?_; (with_reducible refine (spec_OpValid.calls a0_0 true _ A19.out).mono ?_); rintro e w' ⟨rfl, ⟨nd, rfl⟩⟩; refine ⟨_, rfl, ?_⟩; have p49 : 0 ≤ (0 : Int) := (by omega); have q49 : 0 < (l0_2.length : Int) := of_decide_eq_true asm_; obtain ⟨ad49, A49_2, c49_2, e49, hx49_0, hx49_1, hx49_2, hl49_2, hi49_2⟩ := at_T29 HR0_2.out 0 p49 q49; cases e49; have qi49 : (0 < l0_2.length) = True := eq_true (by omega); (try rw [show ((0 : Int)).toNat = 0 from rfl] at hx49_0); (try rw [show 0 * 3 = 0 from rfl] at hx49_0); (try rw [Addr.add_zero'] at hx49_0); (try rw [show ((0 : Int)).toNat = 0 from rfl] at hx49_1); (try rw [show 0 * 3 = 0 from rfl] at hx49_1); (try rw [Addr.add_zero'] at hx49_1); (try rw [show ((0 : Int)).toNat = 0 from rfl] at hx49_2); (try rw [show 0 * 3 = 0 from rfl] at hx49_2); (try rw [Addr.add_zero'] at hx49_2); replace hx49_0 := (HB.out.cell (World.block_lt_of_cell? w _ hx49_0)).trans hx49_0; replace hx49_1 := (HB.out.cell (World.block_lt_of_cell? w _ hx49_1)).trans hx49_1; replace hx49_2 := (HB.out.cell (World.block_lt_of_cell? w _ hx49_2)).trans hx49_2; have HR49_2 := am hi49_2; have HC49_2 := am hl49_2; clear hi49_2 hl49_2; replace p49 := eq_true p49; replace q49 := eq_true q49) | (go_at_call 28; (with_reducible refine (ih k (by omega) ((rd_T29 l0_2 0).f0) ((rd_T29 l0_2 0).f1) _ _ ((rd_T29 l0_2 0).f2) (wrap64 (a1 - 1)) true _ (aC_ (Kd.C_below HR49_2.out ab20_)) HC49_2.out A24.out).mono ?_); rintro e w30 ⟨rfl, hb⟩; replace BK44 := am (bbl_ BK44.out hb); replace HB := am (below_step ab20_ hb); (try clear hb); obtain ⟨hcz31_0, hcz31_1, hcz31_2, hfz31_0, hfz31_1, hfz31_2⟩ := bcf3_ BK44.out; have p50 : 0 ≤ (1 : Int) := (by omega); have q50 : 1 < (l0_2.length : Int) := of_decide_eq_true asm_; obtain ⟨ad50, A50_2, c50_2, e50, hx50_0, hx50_1, hx50_2, hl50_2, hi50_2⟩ := at_T29 HR0_2.out 1 p50 q50; obtain rfl : ad49 = ad50 := (by injection e50); (try simp only [show (1 : Int).toNat = 1 from rfl, Nat.reduceMul, Nat.reduceEqDiff, Go.Addr.add, ↓reduceIte] at hx50_0); (try simp only [show (1 : Int).toNat = 1 from rfl, Nat.reduceMul, Nat.reduceEqDiff, Go.Addr.add, ↓reduceIte] at hx50_1); (try simp only [show (1 : Int).toNat = 1 from rfl, Nat.reduceMul, Nat.reduceEqDiff, Go.Addr.add, ↓reduceIte] at hx50_2); have qi50 : (1 < l0_2.length) = True := eq_true (by omega); (try rw [show ((1 : Int)).toNat = 1 from rfl] at hx50_0); (try rw [show 1 * 3 = 3 from rfl] at hx50_0); (try rw [show ((1 : Int)).toNat = 1 from rfl] at hx50_1); (try rw [show 1 * 3 = 3 from rfl] at hx50_1); (try rw [show ((1 : Int)).toNat = 1 from rfl] at hx50_2); (try rw [show 1 * 3 = 3 from rfl] at hx50_2); replace hx50_0 := (HB.out.cell (World.block_lt_of_cell? w _ hx50_0)).trans hx50_0; replace hx50_1 := (HB.out.cell (World.block_lt_of_cell? w _ hx50_1)).trans hx50_1; replace hx50_2 := (HB.out.cell (World.block_lt_of_cell? w _ hx50_2)).trans hx50_2; have HR50_2 := am hi50_2; have HC50_2 := am hl50_2; clear hi50_2 hl50_2; replace p50 := eq_true p50; replace q50 := eq_true q50) | (go_at_call 28; (with_reducible refine (ih k (by omega) ((rd_T29 l0_2 1).f0) ((rd_T29 l0_2 1).f1) _ _ ((rd_T29 l0_2 1).f2) (wrap64 (a1 - 1)) t43 _ (aC_ (Kd.C_below HR50_2.out HB.out)) HC50_2.out A27.out).mono ?_); rintro e w32 ⟨rfl, hb⟩; replace BK44 := am (bbl_ BK44.out hb); replace HB := am (below_step ab20_ hb); (try clear hb)))
       go_ret
       exact ⟨rr_, ab20_⟩
      rw [if_neg c26] at H
      exact absurd H (by simp)
     replace c25 := Bool.eq_false_iff.mpr c25
     subst c25
     rw [if_neg (show ¬ (false = true) by decide)] at H
     obtain rfl := Option.some.inj H
     obtain ⟨hcz34_0, hcz34_1, hcz34_2, hfz34_0, hfz34_1, hfz34_2⟩ := bcf3_ BK44.out
     go_wp2_with (first | ((with_reducible refine gate_callee (f := 55) rfl ?_); refine gl_ 33 Tryd.func55 #[.int .i64 a0_0] ?_; (with_reducible refine (spec_OpValid.calls a0_0 true _ A19.out).mono ?_); rintro e w' ⟨rfl, ⟨nd, rfl⟩⟩; refine ⟨_, rfl, ?_⟩; have p49 : 0 ≤ (0 : Int) := (by omega); have q49 : 0 < (l0_2.length : Int) := of_decide_eq_true asm_; obtain ⟨ad49, A49_2, c49_2, e49, hx49_0, hx49_1, hx49_2, hl49_2, hi49_2⟩ := at_T29 HR0_2.out 0 p49 q49; cases e49; have qi49 : (0 < l0_2.length) = True := eq_true (by omega); (try rw [show ((0 : Int)).toNat = 0 from rfl] at hx49_0); (try rw [show 0 * 3 = 0 from rfl] at hx49_0); (try rw [Addr.add_zero'] at hx49_0); (try rw [show ((0 : Int)).toNat = 0 from rfl] at hx49_1); (try rw [show 0 * 3 = 0 from rfl] at hx49_1); (try rw [Addr.add_zero'] at hx49_1); (try rw [show ((0 : Int)).toNat = 0 from rfl] at hx49_2); (try rw [show 0 * 3 = 0 from rfl] at hx49_2); (try rw [Addr.add_zero'] at hx49_2); replace hx49_0 := (HB.out.cell (World.block_lt_of_cell? w _ hx49_0)).trans hx49_0; replace hx49_1 := (HB.out.cell (World.block_lt_of_cell? w _ hx49_1)).trans hx49_1; replace hx49_2 := (HB.out.cell (World.block_lt_of_cell? w _ hx49_2)).trans hx49_2; have HR49_2 := am hi49_2; have HC49_2 := am hl49_2; clear hi49_2 hl49_2; replace p49 := eq_true p49; replace q49 := eq_true q49) | (go_at_call 28; (with_reducible refine (ih k (by omega) ((rd_T29 l0_2 0).f0) ((rd_T29 l0_2 0).f1) _ _ ((rd_T29 l0_2 0).f2) (wrap64 (a1 - 1)) false _ (aC_ (Kd.C_below HR49_2.out ab20_)) HC49_2.out A24.out).mono ?_); rintro e w35 ⟨rfl, hb⟩; replace BK44 := am (bbl_ BK44.out hb); replace HB := am (below_step ab20_ hb); (try clear hb)))
     go_ret
     exact ⟨rr_, ab20_⟩
    rw [if_neg c23] at H
    exact absurd H (by simp)
   rw [if_neg c22] at H
   have c22b0 : ((l0_2.length : Int) == 2) = false := beq_eq_false_iff_ne.mpr c22
   have c22b1 : ((l0_2.length : Int) != 2) = true := bne_iff_ne.mpr c22
   obtain rfl := Option.some.inj H
   obtain ⟨hcz37_0, hcz37_1, hcz37_2, hfz37_0, hfz37_1, hfz37_2⟩ := bcf3_ BK44.out
   go_wp2_with (first | ((with_reducible refine gate_callee (f := 55) rfl ?_); refine gl_ 33 Tryd.func55 #[.int .i64 a0_0] ?_; (with_reducible refine (spec_OpValid.calls a0_0 true _ A19.out).mono ?_); rintro e w' ⟨rfl, ⟨nd, rfl⟩⟩; refine ⟨_, rfl, ?_⟩))
   go_ret
   exact ⟨rr_, ab20_⟩
  rw [if_neg c21] at H
  have c21b0 : (a0_1 == 0) = false := beq_eq_false_iff_ne.mpr c21
  have c21b1 : (a0_1 != 0) = true := bne_iff_ne.mpr c21
  obtain rfl := Option.some.inj H
  obtain ⟨hcz39_0, hcz39_1, hcz39_2, hfz39_0, hfz39_1, hfz39_2⟩ := bcf3_ BK44.out
  go_wp2_with (first | ((with_reducible refine gate_callee (f := 55) rfl ?_); refine gl_ 33 Tryd.func55 #[.int .i64 a0_0] ?_; (with_reducible refine (spec_OpValid.calls a0_0 true _ A19.out).mono ?_); rintro e w' ⟨rfl, ⟨nd, rfl⟩⟩; refine ⟨_, rfl, ?_⟩))
  go_ret
  exact ⟨rr_, ab20_⟩
 replace c20 := Bool.eq_false_iff.mpr c20
 subst c20
 rw [if_neg (show ¬ (false = true) by decide)] at H
 obtain rfl := Option.some.inj H
 obtain ⟨hcz41_0, hcz41_1, hcz41_2, hfz41_0, hfz41_1, hfz41_2⟩ := bcf3_ BK44.out
 go_wp2_with (first | ((with_reducible refine gate_callee (f := 55) rfl ?_); refine gl_ 33 Tryd.func55 #[.int .i64 a0_0] ?_; (with_reducible refine (spec_OpValid.calls a0_0 false _ A19.out).mono ?_); rintro e w' ⟨rfl, ⟨nd, rfl⟩⟩; refine ⟨_, rfl, ?_⟩))
 go_ret
 exact ⟨rr_, ab20_⟩
theorem spec_ExprValid.mono : ∀ a0 a1 a2 k, LeO (spec_ExprValid.f k a0 a1 a2) (spec_ExprValid.f (k + 1) a0 a1 a2) := by
 intro a0 a1 a2 k
 unfold spec_ExprValid.f
 have m0 := @spec_l4Ok.mono
 exact mo_
theorem spec_ExprValid.calls (k : Nat) (a0_0 : Int) (a0_1 : Int) (A0_2 : Option Addr) (c0_2 : Nat) (l0_2 : List (S29)) (r : Bool) (w : World) (hr0_2 : Kd.C k29 w A0_2 l0_2.length l0_2) (hc0_2 : l0_2.length ≤ c0_2) (h : spec_ExprValid.f k a0_0 a0_1 l0_2 = some r) :
  Calls Tryd.prog 16 #[.agg #[.int .i64 a0_0, .int .i64 a0_1, .slice A0_2 l0_2.length c0_2]] w fun e w' => e = .returned (.bool r) ∧ Below w.heap.size w w' := by
 have hu29 := Tryd.underlying29
 have HR0_2 := am hr0_2
 have HC0_2 := am hc0_2
 clear hr0_2 hc0_2
 have HB := am (Below.refl w.heap.size w)
 have H : ((spec_l4Ok.f k a0_0 a0_1 l0_2 5).bind fun t21 => (some t21)) = some r := h
 clear h
 obtain ⟨t21, A2, H⟩ := bsa H
 (try dsimp only at H)
 obtain rfl := Option.some.inj H
 go_enter Tryd.func16, Tryd.ntmps16
 go_wp2_with (first | ((with_reducible refine gate_dst (N := 1) rfl ?_); refine box_event rfl (N := 1) rfl (cs := #[.int .i64 a0_0, .int .i64 a0_1, .slice A0_2 l0_2.length c0_2]) (t := 29) rn_ ?_; intro gb22 hg w3 hbox hb; have BK22 := am (hbox); have GW22 := am ((by rw [hg]; exact (below_size ab2_) : w.heap.size ≤ gb22)); have GE22 := am ((by rw [hg]; exact (below_size ab2_) : w.heap.size ≤ gb22)); replace HB := am (below_step ab2_ hb); clear hb hbox hg; obtain ⟨hcz4_0, hcz4_1, hcz4_2, hfz4_0, hfz4_1, hfz4_2⟩ := bcf3_ BK22.out) | ((with_reducible refine gate_callee (f := 28) rfl ?_); refine gl_ 4 Tryd.func28 #[.agg #[.int .i64 a0_0, .int .i64 a0_1, .slice A0_2 l0_2.length c0_2], .int .i64 5] ?_; (with_reducible refine (spec_l4Ok.calls k a0_0 a0_1 _ _ l0_2 5 t21 _ (aC_ (Kd.C_below HR0_2.out HB.out)) HC0_2.out A2.out).mono ?_); rintro e w5 ⟨rfl, hb⟩; refine ⟨_, rfl, ?_⟩; replace BK22 := am (bbl_ BK22.out hb); replace HB := am (below_step ab36_ hb); (try clear hb)))
 go_ret
 exact ⟨rr_, ab36_⟩
theorem spec_l3Kind.mono_l : ∀ k, (∀ y0 y1, LeO (spec_l3Kind.j0 k y0 y1) (spec_l3Kind.j0 (k + 1) y0 y1)) ∧ (∀ y0 y1, LeO (spec_l3Kind.j1 k y0 y1) (spec_l3Kind.j1 (k + 1) y0 y1)) ∧ (∀ y0 y1 y2, LeO (spec_l3Kind.l0 k y0 y1 y2) (spec_l3Kind.l0 (k + 1) y0 y1 y2))
 | 0 => ⟨fun _ _ r h => by simp [spec_l3Kind.j0] at h, fun _ _ r h => by simp [spec_l3Kind.j1] at h, fun _ _ _ r h => by simp [spec_l3Kind.l0] at h⟩
 | k + 1 => by
  obtain ⟨ih0, ih1, ih2⟩ := spec_l3Kind.mono_l k
  refine ⟨?_, ?_, ?_⟩
  ·intro y0 y1
   unfold spec_l3Kind.j0
   exact mo_
  ·intro y0 y1
   unfold spec_l3Kind.j1
   exact mo_
  ·intro y0 y1 y2
   unfold spec_l3Kind.l0
   exact mo_
theorem spec_l3Kind.mono : ∀ a0 k, LeO (spec_l3Kind.f k a0) (spec_l3Kind.f (k + 1) a0) := by
 intro a0 k
 obtain ⟨ih0, ih1, ih2⟩ := spec_l3Kind.mono_l k
 unfold spec_l3Kind.f
 exact mo_
theorem spec_l3Kind.calls (k : Nat) (a0 : Int) (r : Int) (w : World) (h : spec_l3Kind.f k a0 = some r) :
  Calls Tryd.prog 64 #[.int .u8 a0] w fun e w' => e = .returned (.int .i64 r) ∧ Drawn0 w w' := by
 have H : (if a0 ≥ 48 then (spec_l3Kind.j0 k a0 (decide (a0 ≤ 57))) else (spec_l3Kind.j0 k a0 false)) = some r := h
 clear h
 have HC2 := am H
 clear H
 go_enter Tryd.func64, Tryd.ntmps64
 go_upto_region 1 with (fail)
 go_cut [5] (fun v5 wc => ∃ (kq : Nat) (x5_1 : Bool), v5 = .bool x5_1 ∧ Aside0 (spec_l3Kind.j0 kq a0 x5_1 = some r) ∧ Aside0 (kq ≤ k) ∧ Drawn0 w wc)
 case first =>
  have H := HC2.out
  clear HC2
  by_cases c3 : a0 ≥ 48
  ·rw [if_pos c3] at H
   have c3b0 : decide (48 ≤ a0) = true := decide_eq_true c3
   clear c3
   (first | rw [c3b0] | (simp only [i64_w, i32_w]; rw [c3b0]) | skip)
   have H' := am H
   clear H
   go_wp2
   go_meet
   case rel => exact ⟨_, (decide (a0 ≤ 57)), sd_, H', ⟨by first | omega | exact Nat.le_refl _⟩, ab6_⟩
  rw [if_neg c3] at H
  have c3b0 : decide (48 ≤ a0) = false := decide_eq_false c3
  clear c3
  (first | rw [c3b0] | (simp only [i64_w, i32_w]; rw [c3b0]) | skip)
  have H' := am H
  clear H
  go_wp2
  go_meet
  case rel => exact ⟨_, (false), sd_, H', ⟨by first | omega | exact Nat.le_refl _⟩, ab6_⟩
 case rest =>
  clear HC2
  obtain ⟨kq, x5_1, rfl, HA, HJ1, ⟨mc1, rfl⟩⟩ := hcut
  cases kq with
  | zero => exact absurd HA.out (by simp [spec_l3Kind.j0])
  | succ kj1 =>
   have H := HA.out
   clear HA
   simp only [spec_l3Kind.j0] at H
   by_cases c4 : x5_1 = true
   ·subst c4
    rw [if_pos rfl] at H
    obtain rfl := Option.some.inj H
    go_wp2
    go_ret
    exact ⟨sd_, ab6_⟩
   replace c4 := Bool.eq_false_iff.mpr c4
   subst c4
   rw [if_neg (show ¬ (false = true) by decide)] at H
   have HC5 := am H
   clear H
   go_upto_region 3 with (fail)
   go_cut [12] (fun v12 wc => ∃ (kq : Nat) (x12_4 : Bool), v12 = .bool x12_4 ∧ Aside0 (spec_l3Kind.j1 kq a0 x12_4 = some r) ∧ Aside0 (kq ≤ kj1) ∧ Drawn0 w wc)
   case first =>
    have H := HC5.out
    clear HC5
    by_cases c6 : a0 ≥ 97
    ·rw [if_pos c6] at H
     have c6b0 : decide (97 ≤ a0) = true := decide_eq_true c6
     clear c6
     (first | rw [c6b0] | (simp only [i64_w, i32_w]; rw [c6b0]) | skip)
     have H' := am H
     clear H
     go_wp2
     go_meet
     case rel => exact ⟨_, (decide (a0 ≤ 122)), sd_, H', ⟨by have := HJ1.out; first | omega | exact Nat.le_refl _⟩, ab6_⟩
    rw [if_neg c6] at H
    have c6b0 : decide (97 ≤ a0) = false := decide_eq_false c6
    clear c6
    (first | rw [c6b0] | (simp only [i64_w, i32_w]; rw [c6b0]) | skip)
    have H' := am H
    clear H
    go_wp2
    go_meet
    case rel => exact ⟨_, (false), sd_, H', ⟨by have := HJ1.out; first | omega | exact Nat.le_refl _⟩, ab6_⟩
   case rest =>
    clear HC5
    try clear c4
    obtain ⟨kq, x12_4, rfl, HA, HJ4, ⟨mc4, rfl⟩⟩ := hcut
    cases kq with
    | zero => exact absurd HA.out (by simp [spec_l3Kind.j1])
    | succ kj4 =>
     have H := HA.out
     clear HA
     simp only [spec_l3Kind.j1] at H
     by_cases c7 : x12_4 = true
     ·subst c7
      rw [if_pos rfl] at H
      obtain rfl := Option.some.inj H
      go_wp2
      go_ret
      exact ⟨sd_, ab6_⟩
     replace c7 := Bool.eq_false_iff.mpr c7
     subst c7
     rw [if_neg (show ¬ (false = true) by decide)] at H
     by_cases c8 : a0 = 32
     ·rw [if_pos c8] at H
      have c8b0 : (a0 == 32) = true := beq_iff_eq.mpr c8
      have c8b1 : (a0 != 32) = false := bne_eq_false_iff_eq.mpr c8
      clear c8
      obtain rfl := Option.some.inj H
      go_wp2
      go_ret
      exact ⟨sd_, ab6_⟩
     rw [if_neg c8] at H
     have c8b0 : (a0 == 32) = false := beq_eq_false_iff_ne.mpr c8
     have c8b1 : (a0 != 32) = true := bne_iff_ne.mpr c8
     by_cases c9 : a0 = 10
     ·rw [if_pos c9] at H
      have c9b0 : (a0 == 10) = true := beq_iff_eq.mpr c9
      have c9b1 : (a0 != 10) = false := bne_eq_false_iff_eq.mpr c9
      clear c9
      obtain rfl := Option.some.inj H
      go_wp2
      go_ret
      exact ⟨sd_, ab6_⟩
     rw [if_neg c9] at H
     have c9b0 : (a0 == 10) = false := beq_eq_false_iff_ne.mpr c9
     have c9b1 : (a0 != 10) = true := bne_iff_ne.mpr c9
     have H' := am H
     clear H
     go_wp2
     go_loopg [4] kj4 (fun kq v4 w' => ∃ (x4_3 : Int), v4 = .int .i64 x4_3 ∧ Aside0 (spec_l3Kind.l0 kq a0 (⟨#[43, 45, 42, 47, 37, 38, 124, 94, 60, 62, 40, 41, 123, 125, 61, 59]⟩ : ByteArray) x4_3 = some r) ∧ Aside0 (kq ≤ kj4) ∧ Drawn0 w w')
     case atStart => exact ⟨(0), sd_, H', ⟨Nat.le_refl _⟩, ab6_⟩
     case round =>
      clear H'
      try clear c4
      try clear c7
      try clear c8
      try clear c8b0
      try clear c8b1
      try clear c9
      try clear c9b0
      try clear c9b1
      obtain ⟨x4_3, rfl, HA, HK3, ⟨m3, rfl⟩⟩ := hrel
      cases gk with
      | zero => exact absurd HA.out (by simp [spec_l3Kind.l0])
      | succ k3 =>
       have H := HA.out
       clear HA
       simp only [spec_l3Kind.l0] at H
       by_cases c10 : x4_3 < ((⟨#[43, 45, 42, 47, 37, 38, 124, 94, 60, 62, 40, 41, 123, 125, 61, 59]⟩ : ByteArray).size : Int)
       ·rw [if_pos c10] at H
        have c10b0 : decide (x4_3 < ((⟨#[43, 45, 42, 47, 37, 38, 124, 94, 60, 62, 40, 41, 123, 125, 61, 59]⟩ : ByteArray).size : Int)) = true := decide_eq_true c10
        have c10bz : (x4_3 < 16) = True := eq_true (show x4_3 < 16 from c10)
        clear c10
        by_cases c11 : 0 ≤ x4_3
        ·rw [if_pos c11] at H
         have c11b0 : decide (0 ≤ x4_3) = true := decide_eq_true c11
         clear c11
         by_cases c13 : (bt (⟨#[43, 45, 42, 47, 37, 38, 124, 94, 60, 62, 40, 41, 123, 125, 61, 59]⟩ : ByteArray) x4_3) = a0
         ·rw [if_pos c13] at H
          have c13b0 : ((bt (⟨#[43, 45, 42, 47, 37, 38, 124, 94, 60, 62, 40, 41, 123, 125, 61, 59]⟩ : ByteArray) x4_3) == a0) = true := beq_iff_eq.mpr c13
          have c13b1 : ((bt (⟨#[43, 45, 42, 47, 37, 38, 124, 94, 60, 62, 40, 41, 123, 125, 61, 59]⟩ : ByteArray) x4_3) != a0) = false := bne_eq_false_iff_eq.mpr c13
          clear c13
          obtain rfl := Option.some.inj H
          have p12 : 0 ≤ (x4_3 : Int) := of_decide_eq_true asm_
          have q12 : x4_3 < (16 : Int) := of_decide_eq_true asm_
          have hx12 := bt_at (⟨#[43, 45, 42, 47, 37, 38, 124, 94, 60, 62, 40, 41, 123, 125, 61, 59]⟩ : ByteArray) x4_3
          replace p12 := eq_true p12
          replace q12 := eq_true q12
          go_wp2
          go_ret
          exact ⟨sd_, ab6_⟩
         rw [if_neg c13] at H
         have c13b0 : ((bt (⟨#[43, 45, 42, 47, 37, 38, 124, 94, 60, 62, 40, 41, 123, 125, 61, 59]⟩ : ByteArray) x4_3) == a0) = false := beq_eq_false_iff_ne.mpr c13
         have c13b1 : ((bt (⟨#[43, 45, 42, 47, 37, 38, 124, 94, 60, 62, 40, 41, 123, 125, 61, 59]⟩ : ByteArray) x4_3) != a0) = true := bne_iff_ne.mpr c13
         have H' := am H
         clear H
         have p12 : 0 ≤ (x4_3 : Int) := of_decide_eq_true asm_
         have q12 : x4_3 < (16 : Int) := of_decide_eq_true asm_
         have hx12 := bt_at (⟨#[43, 45, 42, 47, 37, 38, 124, 94, 60, 62, 40, 41, 123, 125, 61, 59]⟩ : ByteArray) x4_3
         replace p12 := eq_true p12
         replace q12 := eq_true q12
         go_wp2
         go_roundg k3
         case measure => have := HJ1.out; have := HJ4.out; have := HK3.out; omega
         case rel => exact ⟨(wrap64 (x4_3 + 1)), sd_, H', ⟨by have := HJ1.out; have := HJ4.out; have := HK3.out; omega⟩, ab6_⟩
        rw [if_neg c11] at H
        exact absurd H (by simp)
       rw [if_neg c10] at H
       have c10b0 : decide (x4_3 < ((⟨#[43, 45, 42, 47, 37, 38, 124, 94, 60, 62, 40, 41, 123, 125, 61, 59]⟩ : ByteArray).size : Int)) = false := decide_eq_false c10
       have c10bz : (x4_3 < 16) = False := eq_false (show ¬ (x4_3 < 16) from c10)
       clear c10
       obtain rfl := Option.some.inj H
       go_wp2
       go_ret
       exact ⟨sd_, ab6_⟩
theorem spec_l3Run.mono_l : ∀ k, (∀ y0 y1 y2, LeO (spec_l3Run.l0 k y0 y1 y2) (spec_l3Run.l0 (k + 1) y0 y1 y2))
 | 0 => fun _ _ _ r h => by simp [spec_l3Run.l0] at h
 | k + 1 => by
  have ih0 := spec_l3Run.mono_l k
  ·intro y0 y1 y2
   unfold spec_l3Run.l0
   have m0 := @spec_l3Kind.mono
   exact mo_
theorem spec_l3Run.mono : ∀ a0 a1 k, LeO (spec_l3Run.f k a0 a1) (spec_l3Run.f (k + 1) a0 a1) := by
 intro a0 a1 k
 have ih0 := spec_l3Run.mono_l k
 unfold spec_l3Run.f
 have m0 := @spec_l3Kind.mono
 exact mo_
theorem spec_l3Run.calls (k : Nat) (a0 : ByteArray) (a1 : Int) (r : Int) (w : World) (h : spec_l3Run.f k a0 a1 = some r) :
  Calls Tryd.prog 65 #[.string a0, .int .i64 a1] w fun e w' => e = .returned (.int .i64 r) ∧ Drawn0 w w' := by
 have H : (spec_l3Run.l0 k a0 a1 a1) = some r := h
 clear h
 have H' := am H
 clear H
 go_enter Tryd.func65, Tryd.ntmps65
 go_wp2
 repeat (go_quiet (fail); try go_wp2)
 go_loopg [5] k (fun kq v5 w' => ∃ (x5_1 : Int), v5 = .int .i64 x5_1 ∧ Aside0 (spec_l3Run.l0 kq a0 a1 x5_1 = some r) ∧ Aside0 (kq ≤ k) ∧ Drawn0 w w')
 case atStart => exact ⟨(a1), sd_, H', ⟨Nat.le_refl _⟩, ab6_⟩
 case round =>
  clear H'
  obtain ⟨x5_1, rfl, HA, HK1, ⟨m1, rfl⟩⟩ := hrel
  cases gk with
  | zero => exact absurd HA.out (by simp [spec_l3Run.l0])
  | succ k1 =>
   have H := HA.out
   clear HA
   simp only [spec_l3Run.l0] at H
   by_cases c3 : x5_1 < (a0.size : Int)
   ·rw [if_pos c3] at H
    have c3b0 : decide (x5_1 < (a0.size : Int)) = true := decide_eq_true c3
    clear c3
    by_cases c4 : 0 ≤ x5_1
    ·rw [if_pos c4] at H
     have c4b0 : decide (0 ≤ x5_1) = true := decide_eq_true c4
     clear c4
     obtain ⟨t20, A6, H⟩ := bsa H
     (try dsimp only at H)
     by_cases c7 : 0 ≤ a1
     ·rw [if_pos c7] at H
      have c7b0 : decide (0 ≤ a1) = true := decide_eq_true c7
      clear c7
      by_cases c8 : a1 < (a0.size : Int)
      ·rw [if_pos c8] at H
       have c8b0 : decide (a1 < (a0.size : Int)) = true := decide_eq_true c8
       clear c8
       obtain ⟨t21, A22, H⟩ := bsm H
       (try dsimp only at H)
       have A10 := am A22
       clear A22
       by_cases c11 : t20 = t21
       ·rw [if_pos c11] at H
        have c11b0 : (t20 == t21) = true := beq_iff_eq.mpr c11
        have c11b1 : (t20 != t21) = false := bne_eq_false_iff_eq.mpr c11
        clear c11
        have H' := am H
        clear H
        have p5 : 0 ≤ (x5_1 : Int) := of_decide_eq_true asm_
        have q5 : x5_1 < (a0.size : Int) := of_decide_eq_true asm_
        have hx5 := bt_at a0 x5_1
        replace p5 := eq_true p5
        replace q5 := eq_true q5
        go_wp2_with (first | (go_at_call 64; (with_reducible refine (spec_l3Kind.calls k1 (bt a0 x5_1) t20 _ A6.out).mono ?_); rintro e w' ⟨rfl, ⟨nd, rfl⟩⟩; (try first | exact ⟨rfl, _, World.drewN_drewN _ _ _⟩ | exact ⟨rfl, _, Eq.trans (World.drewN_drewN _ _ _) (congrArg (World.drewN _) (Nat.add_assoc _ _ _))⟩); have p9 : 0 ≤ (a1 : Int) := of_decide_eq_true asm_; have q9 : a1 < (a0.size : Int) := of_decide_eq_true asm_; have hx9 := bt_at a0 a1; replace p9 := eq_true p9; replace q9 := eq_true q9) | (go_at_call 64; (with_reducible refine (spec_l3Kind.calls k1 (bt a0 a1) t21 _ A10.out).mono ?_); rintro e w' ⟨rfl, ⟨nd, rfl⟩⟩; (try first | exact ⟨rfl, _, World.drewN_drewN _ _ _⟩ | exact ⟨rfl, _, Eq.trans (World.drewN_drewN _ _ _) (congrArg (World.drewN _) (Nat.add_assoc _ _ _))⟩)))
        repeat (go_quiet (first | (go_at_call 64; (with_reducible refine (spec_l3Kind.calls k1 (bt a0 x5_1) t20 _ A6.out).mono ?_); rintro e w' ⟨rfl, ⟨nd, rfl⟩⟩; (try first | exact ⟨rfl, _, World.drewN_drewN _ _ _⟩ | exact ⟨rfl, _, Eq.trans (World.drewN_drewN _ _ _) (congrArg (World.drewN _) (Nat.add_assoc _ _ _))⟩); have p9 : 0 ≤ (a1 : Int) := of_decide_eq_true asm_; have q9 : a1 < (a0.size : Int) := of_decide_eq_true asm_; have hx9 := bt_at a0 a1; replace p9 := eq_true p9; replace q9 := eq_true q9) | (go_at_call 64; (with_reducible refine (spec_l3Kind.calls k1 (bt a0 a1) t21 _ A10.out).mono ?_); rintro e w' ⟨rfl, ⟨nd, rfl⟩⟩; (try first | exact ⟨rfl, _, World.drewN_drewN _ _ _⟩ | exact ⟨rfl, _, Eq.trans (World.drewN_drewN _ _ _) (congrArg (World.drewN _) (Nat.add_assoc _ _ _))⟩))); try go_wp2_with (first | (go_at_call 64; (with_reducible refine (spec_l3Kind.calls k1 (bt a0 x5_1) t20 _ A6.out).mono ?_); rintro e w' ⟨rfl, ⟨nd, rfl⟩⟩; (try first | exact ⟨rfl, _, World.drewN_drewN _ _ _⟩ | exact ⟨rfl, _, Eq.trans (World.drewN_drewN _ _ _) (congrArg (World.drewN _) (Nat.add_assoc _ _ _))⟩); have p9 : 0 ≤ (a1 : Int) := of_decide_eq_true asm_; have q9 : a1 < (a0.size : Int) := of_decide_eq_true asm_; have hx9 := bt_at a0 a1; replace p9 := eq_true p9; replace q9 := eq_true q9) | (go_at_call 64; (with_reducible refine (spec_l3Kind.calls k1 (bt a0 a1) t21 _ A10.out).mono ?_); rintro e w' ⟨rfl, ⟨nd, rfl⟩⟩; (try first | exact ⟨rfl, _, World.drewN_drewN _ _ _⟩ | exact ⟨rfl, _, Eq.trans (World.drewN_drewN _ _ _) (congrArg (World.drewN _) (Nat.add_assoc _ _ _))⟩))))
        go_roundg k1
        case measure => have := HK1.out; omega
        case rel => exact ⟨(wrap64 (x5_1 + 1)), sd_, H', ⟨by have := HK1.out; omega⟩, ab6_⟩
       rw [if_neg c11] at H
       have c11b0 : (t20 == t21) = false := beq_eq_false_iff_ne.mpr c11
       have c11b1 : (t20 != t21) = true := bne_iff_ne.mpr c11
       obtain rfl := Option.some.inj H
       have p5 : 0 ≤ (x5_1 : Int) := of_decide_eq_true asm_
       have q5 : x5_1 < (a0.size : Int) := of_decide_eq_true asm_
       have hx5 := bt_at a0 x5_1
       replace p5 := eq_true p5
       replace q5 := eq_true q5
       go_wp2_with (first | (go_at_call 64; (with_reducible refine (spec_l3Kind.calls k1 (bt a0 x5_1) t20 _ A6.out).mono ?_); rintro e w' ⟨rfl, ⟨nd, rfl⟩⟩; (try first | exact ⟨rfl, _, World.drewN_drewN _ _ _⟩ | exact ⟨rfl, _, Eq.trans (World.drewN_drewN _ _ _) (congrArg (World.drewN _) (Nat.add_assoc _ _ _))⟩); have p9 : 0 ≤ (a1 : Int) := of_decide_eq_true asm_; have q9 : a1 < (a0.size : Int) := of_decide_eq_true asm_; have hx9 := bt_at a0 a1; replace p9 := eq_true p9; replace q9 := eq_true q9) | (go_at_call 64; (with_reducible refine (spec_l3Kind.calls k1 (bt a0 a1) t21 _ A10.out).mono ?_); rintro e w' ⟨rfl, ⟨nd, rfl⟩⟩; (try first | exact ⟨rfl, _, World.drewN_drewN _ _ _⟩ | exact ⟨rfl, _, Eq.trans (World.drewN_drewN _ _ _) (congrArg (World.drewN _) (Nat.add_assoc _ _ _))⟩)))
       repeat (go_quiet (first | (go_at_call 64; (with_reducible refine (spec_l3Kind.calls k1 (bt a0 x5_1) t20 _ A6.out).mono ?_); rintro e w' ⟨rfl, ⟨nd, rfl⟩⟩; (try first | exact ⟨rfl, _, World.drewN_drewN _ _ _⟩ | exact ⟨rfl, _, Eq.trans (World.drewN_drewN _ _ _) (congrArg (World.drewN _) (Nat.add_assoc _ _ _))⟩); have p9 : 0 ≤ (a1 : Int) := of_decide_eq_true asm_; have q9 : a1 < (a0.size : Int) := of_decide_eq_true asm_; have hx9 := bt_at a0 a1; replace p9 := eq_true p9; replace q9 := eq_true q9) | (go_at_call 64; (with_reducible refine (spec_l3Kind.calls k1 (bt a0 a1) t21 _ A10.out).mono ?_); rintro e w' ⟨rfl, ⟨nd, rfl⟩⟩; (try first | exact ⟨rfl, _, World.drewN_drewN _ _ _⟩ | exact ⟨rfl, _, Eq.trans (World.drewN_drewN _ _ _) (congrArg (World.drewN _) (Nat.add_assoc _ _ _))⟩))); try go_wp2_with (first | (go_at_call 64; (with_reducible refine (spec_l3Kind.calls k1 (bt a0 x5_1) t20 _ A6.out).mono ?_); rintro e w' ⟨rfl, ⟨nd, rfl⟩⟩; (try first | exact ⟨rfl, _, World.drewN_drewN _ _ _⟩ | exact ⟨rfl, _, Eq.trans (World.drewN_drewN _ _ _) (congrArg (World.drewN _) (Nat.add_assoc _ _ _))⟩); have p9 : 0 ≤ (a1 : Int) := of_decide_eq_true asm_; have q9 : a1 < (a0.size : Int) := of_decide_eq_true asm_; have hx9 := bt_at a0 a1; replace p9 := eq_true p9; replace q9 := eq_true q9) | (go_at_call 64; (with_reducible refine (spec_l3Kind.calls k1 (bt a0 a1) t21 _ A10.out).mono ?_); rintro e w' ⟨rfl, ⟨nd, rfl⟩⟩; (try first | exact ⟨rfl, _, World.drewN_drewN _ _ _⟩ | exact ⟨rfl, _, Eq.trans (World.drewN_drewN _ _ _) (congrArg (World.drewN _) (Nat.add_assoc _ _ _))⟩))))
       go_ret
       exact ⟨sd_, ab6_⟩
      rw [if_neg c8] at H
      exact absurd H (by simp)
     rw [if_neg c7] at H
     exact absurd H (by simp)
    rw [if_neg c4] at H
    exact absurd H (by simp)
   rw [if_neg c3] at H
   have c3b0 : decide (x5_1 < (a0.size : Int)) = false := decide_eq_false c3
   clear c3
   obtain rfl := Option.some.inj H
   go_wp2
   repeat (go_quiet (fail); try go_wp2)
   go_ret
   exact ⟨sd_, ab6_⟩
theorem spec_l3Two.calls (a0 : ByteArray) (r : Bool) (w : World) (h : spec_l3Two.f a0 = some r) :
  Calls Tryd.prog 66 #[.string a0] w fun e w' => e = .returned (.bool r) ∧ Drawn0 w w' := by
 have H : (if a0.toList = ([60, 60] : List UInt8) then (some true) else (if a0.toList = ([62, 62] : List UInt8) then (some true) else (some (a0.toList == ([61, 61] : List UInt8))))) = some r := h
 clear h
 by_cases c2 : a0.toList = ([60, 60] : List UInt8)
 ·rw [if_pos c2] at H
  have c2b0 : (a0.toList == ([60, 60] : List UInt8)) = true := beq_iff_eq.mpr c2
  have c2b1 : (a0.toList != ([60, 60] : List UInt8)) = false := bne_eq_false_iff_eq.mpr c2
  clear c2
  obtain rfl := Option.some.inj H
  go_enter Tryd.func66, Tryd.ntmps66
  go_wp2
  go_ret
  exact ⟨sd_, ab6_⟩
 rw [if_neg c2] at H
 have c2b0 : (a0.toList == ([60, 60] : List UInt8)) = false := beq_eq_false_iff_ne.mpr c2
 have c2b1 : (a0.toList != ([60, 60] : List UInt8)) = true := bne_iff_ne.mpr c2
 by_cases c3 : a0.toList = ([62, 62] : List UInt8)
 ·rw [if_pos c3] at H
  have c3b0 : (a0.toList == ([62, 62] : List UInt8)) = true := beq_iff_eq.mpr c3
  have c3b1 : (a0.toList != ([62, 62] : List UInt8)) = false := bne_eq_false_iff_eq.mpr c3
  clear c3
  obtain rfl := Option.some.inj H
  go_enter Tryd.func66, Tryd.ntmps66
  go_wp2
  go_ret
  exact ⟨sd_, ab6_⟩
 rw [if_neg c3] at H
 have c3b0 : (a0.toList == ([62, 62] : List UInt8)) = false := beq_eq_false_iff_ne.mpr c3
 have c3b1 : (a0.toList != ([62, 62] : List UInt8)) = true := bne_iff_ne.mpr c3
 obtain rfl := Option.some.inj H
 go_enter Tryd.func66, Tryd.ntmps66
 go_wp2
 go_ret
 exact ⟨sd_, ab6_⟩
theorem spec_l3End.mono_l : ∀ k, (∀ y0 y1 y2 y3, LeO (spec_l3End.j0 k y0 y1 y2 y3) (spec_l3End.j0 (k + 1) y0 y1 y2 y3)) ∧ (∀ y0 y1 y2, LeO (spec_l3End.j1 k y0 y1 y2) (spec_l3End.j1 (k + 1) y0 y1 y2))
 | 0 => ⟨fun _ _ _ _ r h => by simp [spec_l3End.j0] at h, fun _ _ _ r h => by simp [spec_l3End.j1] at h⟩
 | k + 1 => by
  obtain ⟨ih0, ih1⟩ := spec_l3End.mono_l k
  refine ⟨?_, ?_⟩
  ·intro y0 y1 y2 y3
   unfold spec_l3End.j0
   have m0 := @spec_l3Kind.mono
   have m1 := @spec_l3Run.mono
   exact mo_
  ·intro y0 y1 y2
   unfold spec_l3End.j1
   have m0 := @spec_l3Kind.mono
   have m1 := @spec_l3Run.mono
   exact mo_
theorem spec_l3End.mono : ∀ a0 a1 k, LeO (spec_l3End.f k a0 a1) (spec_l3End.f (k + 1) a0 a1) := by
 intro a0 a1 k
 obtain ⟨ih0, ih1⟩ := spec_l3End.mono_l k
 unfold spec_l3End.f
 have m0 := @spec_l3Kind.mono
 have m1 := @spec_l3Run.mono
 exact mo_
theorem spec_l3End.calls (k : Nat) (a0 : ByteArray) (a1 : Int) (r : Int) (w : World) (h : spec_l3End.f k a0 a1 = some r) :
  Calls Tryd.prog 56 #[.string a0, .int .i64 a1] w fun e w' => e = .returned (.int .i64 r) ∧ Drawn0 w w' := by
 have H : (if 0 ≤ a1 then (if a1 < (a0.size : Int) then ((spec_l3Kind.f k (bt a0 a1)).bind fun t23 => (if t23 = 1 then (spec_l3End.j0 k a0 a1 t23 true) else (spec_l3End.j0 k a0 a1 t23 (t23 == 2)))) else (none)) else (none)) = some r := h
 clear h
 by_cases c3 : 0 ≤ a1
 ·rw [if_pos c3] at H
  have c3b0 : decide (0 ≤ a1) = true := decide_eq_true c3
  clear c3
  by_cases c4 : a1 < (a0.size : Int)
  ·rw [if_pos c4] at H
   have c4b0 : decide (a1 < (a0.size : Int)) = true := decide_eq_true c4
   clear c4
   obtain ⟨t23, A6, H⟩ := bsa H
   (try dsimp only at H)
   have HC7 := am H
   clear H
   have p5 : 0 ≤ (a1 : Int) := of_decide_eq_true asm_
   have q5 : a1 < (a0.size : Int) := of_decide_eq_true asm_
   have hx5 := bt_at a0 a1
   replace p5 := eq_true p5
   replace q5 := eq_true q5
   go_enter Tryd.func56, Tryd.ntmps56
   go_upto_region 2 with (first | ((with_reducible refine gate_callee (f := 64) rfl ?_); refine gl_ 9 Tryd.func64 #[.int .u8 (bt a0 a1)] ?_; (with_reducible refine (spec_l3Kind.calls k (bt a0 a1) t23 _ A6.out).mono ?_); rintro e w' ⟨rfl, ⟨nd, rfl⟩⟩; refine ⟨_, rfl, ?_⟩))
   (try simp only [Act.put, List.setIfInBounds_toArray, List.set_cons_zero, List.set_cons_succ])
   go_cut [15] (fun v15 wc => ∃ (kq : Nat) (x15_6 : Bool), v15 = .bool x15_6 ∧ Aside0 (spec_l3End.j0 kq a0 a1 t23 x15_6 = some r) ∧ Aside0 (kq ≤ k) ∧ Drawn0 w wc)
   case first =>
    have H := HC7.out
    clear HC7
    by_cases c8 : t23 = 1
    ·rw [if_pos c8] at H
     have c8b0 : (t23 == 1) = true := beq_iff_eq.mpr c8
     have c8b1 : (t23 != 1) = false := bne_eq_false_iff_eq.mpr c8
     clear c8
     (first | rw [c8b0] | (simp only [i64_w, i32_w]; rw [c8b0]) | skip)
     have H' := am H
     clear H
     go_wp2
     go_meet
     case rel => exact ⟨_, (true), sd_, H', ⟨by first | omega | exact Nat.le_refl _⟩, ab6_⟩
    rw [if_neg c8] at H
    have c8b0 : (t23 == 1) = false := beq_eq_false_iff_ne.mpr c8
    have c8b1 : (t23 != 1) = true := bne_iff_ne.mpr c8
    (first | rw [c8b0] | (simp only [i64_w, i32_w]; rw [c8b0]) | skip)
    have H' := am H
    clear H
    go_wp2
    go_meet
    case rel => exact ⟨_, ((t23 == 2)), sd_, H', ⟨by first | omega | exact Nat.le_refl _⟩, ab6_⟩
   case rest =>
    clear HC7
    try clear c3
    try clear c3b0
    try clear c4
    try clear c4b0
    try clear p5
    try clear q5
    try clear hx5
    try clear p5
    try clear q5
    obtain ⟨kq, x15_6, rfl, HA, HJ6, ⟨mc6, rfl⟩⟩ := hcut
    cases kq with
    | zero => exact absurd HA.out (by simp [spec_l3End.j0])
    | succ kj6 =>
     have H := HA.out
     clear HA
     simp only [spec_l3End.j0] at H
     by_cases c9 : x15_6 = true
     ·subst c9
      rw [if_pos rfl] at H
      obtain ⟨t24, A25, H⟩ := bsm H
      (try dsimp only at H)
      have A10 := am A25
      clear A25
      obtain rfl := Option.some.inj H
      go_wp2_with (first | ((with_reducible refine gate_callee (f := 65) rfl ?_); refine gl_ 18 Tryd.func65 #[.string a0, .int .i64 a1] ?_; (with_reducible refine (spec_l3Run.calls kj6 a0 a1 t24 _ A10.out).mono ?_); rintro e w' ⟨rfl, ⟨nd, rfl⟩⟩; refine ⟨_, rfl, ?_⟩))
      go_ret
      exact ⟨sd_, ab6_⟩
     replace c9 := Bool.eq_false_iff.mpr c9
     subst c9
     rw [if_neg (show ¬ (false = true) by decide)] at H
     by_cases c11 : t23 = 4
     ·rw [if_pos c11] at H
      have c11b0 : (t23 == 4) = true := beq_iff_eq.mpr c11
      have c11b1 : (t23 != 4) = false := bne_eq_false_iff_eq.mpr c11
      clear c11
      have HC12 := am H
      clear H
      go_upto_region 6 with (fail)
      go_cut [33] (fun v33 wc => ∃ (kq : Nat) (x33_11 : Bool), v33 = .bool x33_11 ∧ Aside0 (spec_l3End.j1 kq a0 a1 x33_11 = some r) ∧ Aside0 (kq ≤ kj6) ∧ Drawn0 w wc)
      case first =>
       have H := HC12.out
       clear HC12
       by_cases c13 : (wrap64 (a1 + 2)) ≤ (a0.size : Int)
       ·rw [if_pos c13] at H
        have c13b0 : decide ((wrap64 (a1 + 2)) ≤ (a0.size : Int)) = true := decide_eq_true c13
        clear c13
        (first | rw [c13b0] | (simp only [i64_w, i32_w]; rw [c13b0]) | skip)
        by_cases c14 : 0 ≤ a1
        ·rw [if_pos c14] at H
         have c14b0 := eq_true c14
         have c14b1 : decide (0 ≤ a1) = true := decide_eq_true c14
         clear c14
         by_cases c15 : a1 ≤ (wrap64 (a1 + 2))
         ·rw [if_pos c15] at H
          have c15b0 := eq_true c15
          have c15b1 : decide (a1 ≤ (wrap64 (a1 + 2))) = true := decide_eq_true c15
          have c16b0 := eq_true (of_decide_eq_true asm_ : (wrap64 (a1 + 2)) ≤ (a0.size : Int))
          obtain ⟨t26, A27, H⟩ := bsm H
          (try dsimp only at H)
          have A17 := am A27
          clear A27
          have H' := am H
          clear H
          go_wp2_with (first | (go_at_call 66; (with_reducible refine (spec_l3Two.calls (a0.extract (a1 : Int).toNat ((wrap64 (a1 + 2)) : Int).toNat) t26 _ A17.out).mono ?_); rintro e w' ⟨rfl, ⟨nd, rfl⟩⟩))
          go_meet
          case rel => exact ⟨_, (t26), sd_, H', ⟨by have := HJ6.out; first | omega | exact Nat.le_refl _⟩, ab6_⟩
         rw [if_neg c15] at H
         exact absurd H (by simp)
        rw [if_neg c14] at H
        exact absurd H (by simp)
       rw [if_neg c13] at H
       have c13b0 : decide ((wrap64 (a1 + 2)) ≤ (a0.size : Int)) = false := decide_eq_false c13
       clear c13
       (first | rw [c13b0] | (simp only [i64_w, i32_w]; rw [c13b0]) | skip)
       have H' := am H
       clear H
       go_wp2
       go_meet
       case rel => exact ⟨_, (false), sd_, H', ⟨by have := HJ6.out; first | omega | exact Nat.le_refl _⟩, ab6_⟩
      case rest =>
       clear HC12
       try clear c3
       try clear c3b0
       try clear c4
       try clear c4b0
       try clear p5
       try clear q5
       try clear hx5
       try clear c9
       try clear c11
       try clear c11b0
       try clear c11b1
       try clear p5
       try clear q5
       obtain ⟨kq, x33_11, rfl, HA, HJ11, ⟨mc11, rfl⟩⟩ := hcut
       cases kq with
       | zero => exact absurd HA.out (by simp [spec_l3End.j1])
       | succ kj11 =>
        have H := HA.out
        clear HA
        simp only [spec_l3End.j1] at H
        by_cases c18 : x33_11 = true
        ·subst c18
         rw [if_pos rfl] at H
         obtain rfl := Option.some.inj H
         go_wp2
         go_ret
         exact ⟨sd_, ab6_⟩
        replace c18 := Bool.eq_false_iff.mpr c18
        subst c18
        rw [if_neg (show ¬ (false = true) by decide)] at H
        by_cases c19 : 0 ≤ a1
        ·rw [if_pos c19] at H
         have c19b0 : decide (0 ≤ a1) = true := decide_eq_true c19
         clear c19
         by_cases c20 : a1 < (a0.size : Int)
         ·rw [if_pos c20] at H
          have c20b0 : decide (a1 < (a0.size : Int)) = true := decide_eq_true c20
          clear c20
          by_cases c22 : (bt a0 a1) = 62
          ·rw [if_pos c22] at H
           have c22b0 : ((bt a0 a1) == 62) = true := beq_iff_eq.mpr c22
           have c22b1 : ((bt a0 a1) != 62) = false := bne_eq_false_iff_eq.mpr c22
           clear c22
           obtain rfl := Option.some.inj H
           have p21 : 0 ≤ (a1 : Int) := of_decide_eq_true asm_
           have q21 : a1 < (a0.size : Int) := of_decide_eq_true asm_
           have hx21 := bt_at a0 a1
           replace p21 := eq_true p21
           replace q21 := eq_true q21
           go_wp2
           go_ret
           exact ⟨sd_, ab6_⟩
          rw [if_neg c22] at H
          have c22b0 : ((bt a0 a1) == 62) = false := beq_eq_false_iff_ne.mpr c22
          have c22b1 : ((bt a0 a1) != 62) = true := bne_iff_ne.mpr c22
          obtain rfl := Option.some.inj H
          have p21 : 0 ≤ (a1 : Int) := of_decide_eq_true asm_
          have q21 : a1 < (a0.size : Int) := of_decide_eq_true asm_
          have hx21 := bt_at a0 a1
          replace p21 := eq_true p21
          replace q21 := eq_true q21
          go_wp2
          go_ret
          exact ⟨sd_, ab6_⟩
         rw [if_neg c20] at H
         exact absurd H (by simp)
        rw [if_neg c19] at H
        exact absurd H (by simp)
     rw [if_neg c11] at H
     have c11b0 : (t23 == 4) = false := beq_eq_false_iff_ne.mpr c11
     have c11b1 : (t23 != 4) = true := bne_iff_ne.mpr c11
     obtain rfl := Option.some.inj H
     go_wp2
     go_ret
     exact ⟨sd_, ab6_⟩
  rw [if_neg c4] at H
  exact absurd H (by simp)
 rw [if_neg c3] at H
 exact absurd H (by simp)
theorem spec_TokenValid.mono : ∀ a0 k, LeO (spec_TokenValid.f k a0) (spec_TokenValid.f (k + 1) a0) := by
 intro a0 k
 unfold spec_TokenValid.f
 have m0 := @spec_l3End.mono
 exact mo_
theorem spec_TokenValid.calls (k : Nat) (a0 : ByteArray) (r : Bool) (w : World) (h : spec_TokenValid.f k a0 = some r) :
  Calls Tryd.prog 29 #[.string a0] w fun e w' => e = .returned (.bool r) ∧ Drawn0 w w' := by
 have H : (if a0.toList = ([] : List UInt8) then (some false) else ((spec_l3End.f k a0 0).bind fun t20 => (some (t20 == (a0.size : Int))))) = some r := h
 clear h
 by_cases c2 : a0.toList = ([] : List UInt8)
 ·rw [if_pos c2] at H
  have c2b0 : (a0.toList == ([] : List UInt8)) = true := beq_iff_eq.mpr c2
  have c2b1 : (a0.toList != ([] : List UInt8)) = false := bne_eq_false_iff_eq.mpr c2
  clear c2
  obtain rfl := Option.some.inj H
  go_enter Tryd.func29, Tryd.ntmps29
  go_wp2
  go_ret
  exact ⟨sd_, ab6_⟩
 rw [if_neg c2] at H
 have c2b0 : (a0.toList == ([] : List UInt8)) = false := beq_eq_false_iff_ne.mpr c2
 have c2b1 : (a0.toList != ([] : List UInt8)) = true := bne_iff_ne.mpr c2
 obtain ⟨t20, A3, H⟩ := bsa H
 (try dsimp only at H)
 obtain rfl := Option.some.inj H
 go_enter Tryd.func29, Tryd.ntmps29
 go_wp2_with (first | (go_at_call 56; (with_reducible refine (spec_l3End.calls k a0 0 t20 _ A3.out).mono ?_); rintro e w' ⟨rfl, ⟨nd, rfl⟩⟩))
 go_ret
 exact ⟨sd_, ab6_⟩
theorem spec_TokensText.mono_l : ∀ k, (∀ y0 y1 y2, LeO (spec_TokensText.l0 k y0 y1 y2) (spec_TokensText.l0 (k + 1) y0 y1 y2))
 | 0 => fun _ _ _ r h => by simp [spec_TokensText.l0] at h
 | k + 1 => by
  have ih0 := spec_TokensText.mono_l k
  ·intro y0 y1 y2
   unfold spec_TokensText.l0
   have m0 := @spec_TokenValid.mono
   exact mo_
theorem spec_TokensText.mono : ∀ a0 k, LeO (spec_TokensText.f k a0) (spec_TokensText.f (k + 1) a0) := by
 intro a0 k
 have ih0 := spec_TokensText.mono_l k
 unfold spec_TokensText.f
 have m0 := @spec_TokenValid.mono
 exact mo_
theorem spec_TokensText.calls (k : Nat) (A0 : Option Addr) (c0 : Nat) (l0 : List ByteArray) (r : ByteArray) (w : World) (hr0 : Kd.C Kd.string w A0 l0.length l0) (hc0 : l0.length ≤ c0) (h : spec_TokensText.f k l0 = some r) :
  Calls Tryd.prog 17 #[.slice A0 l0.length c0] w fun e w' => e = .returned (.string r) ∧ Drawn0 w w' := by
 have HR0 := am hr0
 have HC0 := am hc0
 clear hr0 hc0
 have H : (spec_TokensText.l0 k l0 (⟨#[]⟩ : ByteArray) 0) = some r := h
 clear h
 have H' := am H
 clear H
 go_enter Tryd.func17, Tryd.ntmps17
 go_wp2
 go_loopg [3, 4] k (fun kq v3 v4 w' => ∃ (x3_1 : ByteArray) (x4_1 : Int), v3 = .string x3_1 ∧ v4 = .int .i64 x4_1 ∧ Aside0 (spec_TokensText.l0 kq l0 x3_1 x4_1 = some r) ∧ Aside0 (kq ≤ k) ∧ Drawn0 w w')
 case atStart => exact ⟨((⟨#[]⟩ : ByteArray)), (0), sd_, sd_, H', ⟨Nat.le_refl _⟩, ab6_⟩
 case round =>
  clear H'
  obtain ⟨x3_1, x4_1, rfl, rfl, HA, HK1, ⟨m1, rfl⟩⟩ := hrel
  cases gk with
  | zero => exact absurd HA.out (by simp [spec_TokensText.l0])
  | succ k1 =>
   have H := HA.out
   clear HA
   simp only [spec_TokensText.l0] at H
   by_cases c2 : x4_1 < (l0.length : Int)
   ·rw [if_pos c2] at H
    have c2b0 : decide (x4_1 < (l0.length : Int)) = true := decide_eq_true c2
    clear c2
    by_cases c3 : 0 ≤ x4_1
    ·rw [if_pos c3] at H
     have c3b0 : decide (0 ≤ x4_1) = true := decide_eq_true c3
     clear c3
     obtain ⟨t20, A4, H⟩ := bsa H
     (try dsimp only at H)
     by_cases c5 : t20 = true
     ·subst c5
      rw [if_pos rfl] at H
      by_cases c6 : x4_1 > 0
      ·rw [if_pos c6] at H
       have c6b0 : decide (0 < x4_1) = true := decide_eq_true c6
       clear c6
       by_cases c7 : x3_1.size + 1 ≤ 9223372036854775807
       ·rw [if_pos c7] at H
        have c7b0 := eq_true c7
        have c7b1 : decide (x3_1.size + 1 ≤ 9223372036854775807) = true := decide_eq_true c7
        try have c7b2 : (9223372036854775807 < x3_1.size + 1) = False := eq_false (Nat.not_lt.2 c7)
        by_cases c8 : (x3_1 ++ (⟨#[32]⟩ : ByteArray)).size + (rdOf ByteArray.empty l0 x4_1).size ≤ 9223372036854775807
        ·rw [if_pos c8] at H
         have c8b0 := eq_true c8
         have c8b1 : decide ((x3_1 ++ (⟨#[32]⟩ : ByteArray)).size + (rdOf ByteArray.empty l0 x4_1).size ≤ 9223372036854775807) = true := decide_eq_true c8
         try have c8b2 : (9223372036854775807 < (x3_1 ++ (⟨#[32]⟩ : ByteArray)).size + (rdOf ByteArray.empty l0 x4_1).size) = False := eq_false (Nat.not_lt.2 c8)
         have c8y : x3_1.size + 1 + (rdOf ByteArray.empty l0 x4_1).size ≤ 9223372036854775807 := by have h_ := c8; simp only [ByteArray.size_append] at h_; exact h_
         have c8y0 : (9223372036854775807 < x3_1.size + 1 + (rdOf ByteArray.empty l0 x4_1).size) = False := eq_false (by omega)
         have c8y1 : (x3_1.size + 1 + (rdOf ByteArray.empty l0 x4_1).size ≤ 9223372036854775807) = True := eq_true (by omega)
         have H' := am H
         clear H
         have p21 : 0 ≤ (x4_1 : Int) := of_decide_eq_true asm_
         have q21 : x4_1 < (l0.length : Int) := of_decide_eq_true asm_
         obtain ⟨ad21, e21, hx21_0⟩ := Kd.at_string HR0.out x4_1 p21 q21
         cases e21
         replace p21 := eq_true p21
         replace q21 := eq_true q21
         go_wp2_with (first | ((with_reducible refine gate_callee (f := 29) rfl ?_); refine gl_ 15 Tryd.func29 #[.string (rdOf ByteArray.empty l0 x4_1)] ?_; (with_reducible refine (spec_TokenValid.calls k1 (rdOf ByteArray.empty l0 x4_1) true _ A4.out).mono ?_); rintro e w' ⟨rfl, ⟨nd, rfl⟩⟩; refine ⟨_, rfl, ?_⟩; have p22 : 0 ≤ (x4_1 : Int) := of_decide_eq_true asm_; have q22 : x4_1 < (l0.length : Int) := of_decide_eq_true asm_; obtain ⟨ad22, e22, hx22_0⟩ := Kd.at_string HR0.out x4_1 p22 q22; obtain rfl : ad21 = ad22 := (by injection e22); replace p22 := eq_true p22; replace q22 := eq_true q22))
         go_roundg k1
         case measure => have := HK1.out; omega
         case rel => exact ⟨((x3_1 ++ (⟨#[32]⟩ : ByteArray)) ++ (rdOf ByteArray.empty l0 x4_1)), (wrap64 (x4_1 + 1)), sd_, sd_, H', ⟨by have := HK1.out; omega⟩, ab6_⟩
        rw [if_neg c8] at H
        exact absurd H (by simp)
       rw [if_neg c7] at H
       exact absurd H (by simp)
      rw [if_neg c6] at H
      have c6b0 : decide (0 < x4_1) = false := decide_eq_false c6
      clear c6
      by_cases c9 : x3_1.size + (rdOf ByteArray.empty l0 x4_1).size ≤ 9223372036854775807
      ·rw [if_pos c9] at H
       have c9b0 := eq_true c9
       have c9b1 : decide (x3_1.size + (rdOf ByteArray.empty l0 x4_1).size ≤ 9223372036854775807) = true := decide_eq_true c9
       try have c9b2 : (9223372036854775807 < x3_1.size + (rdOf ByteArray.empty l0 x4_1).size) = False := eq_false (Nat.not_lt.2 c9)
       have H' := am H
       clear H
       have p21 : 0 ≤ (x4_1 : Int) := of_decide_eq_true asm_
       have q21 : x4_1 < (l0.length : Int) := of_decide_eq_true asm_
       obtain ⟨ad21, e21, hx21_0⟩ := Kd.at_string HR0.out x4_1 p21 q21
       cases e21
       replace p21 := eq_true p21
       replace q21 := eq_true q21
       go_wp2_with (first | ((with_reducible refine gate_callee (f := 29) rfl ?_); refine gl_ 15 Tryd.func29 #[.string (rdOf ByteArray.empty l0 x4_1)] ?_; (with_reducible refine (spec_TokenValid.calls k1 (rdOf ByteArray.empty l0 x4_1) true _ A4.out).mono ?_); rintro e w' ⟨rfl, ⟨nd, rfl⟩⟩; refine ⟨_, rfl, ?_⟩; have p23 : 0 ≤ (x4_1 : Int) := of_decide_eq_true asm_; have q23 : x4_1 < (l0.length : Int) := of_decide_eq_true asm_; obtain ⟨ad23, e23, hx23_0⟩ := Kd.at_string HR0.out x4_1 p23 q23; obtain rfl : ad21 = ad23 := (by injection e23); replace p23 := eq_true p23; replace q23 := eq_true q23))
       go_roundg k1
       case measure => have := HK1.out; omega
       case rel => exact ⟨(x3_1 ++ (rdOf ByteArray.empty l0 x4_1)), (wrap64 (x4_1 + 1)), sd_, sd_, H', ⟨by have := HK1.out; omega⟩, ab6_⟩
      rw [if_neg c9] at H
      exact absurd H (by simp)
     replace c5 := Bool.eq_false_iff.mpr c5
     subst c5
     rw [if_neg (show ¬ (false = true) by decide)] at H
     obtain rfl := Option.some.inj H
     have p21 : 0 ≤ (x4_1 : Int) := of_decide_eq_true asm_
     have q21 : x4_1 < (l0.length : Int) := of_decide_eq_true asm_
     obtain ⟨ad21, e21, hx21_0⟩ := Kd.at_string HR0.out x4_1 p21 q21
     cases e21
     replace p21 := eq_true p21
     replace q21 := eq_true q21
     go_wp2_with (first | ((with_reducible refine gate_callee (f := 29) rfl ?_); refine gl_ 15 Tryd.func29 #[.string (rdOf ByteArray.empty l0 x4_1)] ?_; (with_reducible refine (spec_TokenValid.calls k1 (rdOf ByteArray.empty l0 x4_1) false _ A4.out).mono ?_); rintro e w' ⟨rfl, ⟨nd, rfl⟩⟩; refine ⟨_, rfl, ?_⟩))
     go_ret
     exact ⟨sd_, ab6_⟩
    rw [if_neg c3] at H
    exact absurd H (by simp)
   rw [if_neg c2] at H
   have c2b0 : decide (x4_1 < (l0.length : Int)) = false := decide_eq_false c2
   clear c2
   obtain rfl := Option.some.inj H
   go_wp2
   go_ret
   exact ⟨sd_, ab6_⟩
theorem spec_l6Dec.mono_l : ∀ k, (∀ y0, LeO (spec_l6Dec.f k y0) (spec_l6Dec.f (k + 1) y0))
 | 0 => fun _ r h => by simp [spec_l6Dec.f] at h
 | k + 1 => by
  have ih0 := spec_l6Dec.mono_l k
  ·intro y0
   unfold spec_l6Dec.f
   exact mo_
theorem spec_l6Dec.mono : ∀ a0 k, LeO (spec_l6Dec.f k a0) (spec_l6Dec.f (k + 1) a0) := by
 intro a0 k
 have ih0 := spec_l6Dec.mono_l k
 exact ih0 a0
def spec_l6Dec.T7 : Bool × List (List Nat × List Nat) := (true, [([], []), ([0], [0]), ([1], [1]), ([], []), ([3], [3]), ([4], [4]), ([5], [5]), ([6], [6]), ([7], [7]), ([2, 8], [2, 8]), ([9, 2, 0, 1, 2, 3, 4, 5, 6, 7, 8, 9], [9])])
def spec_l6Dec.B7 : List Nat := [0, 1, 3, 0, 8, 24, 56, 120, 248, 511, 1023]
theorem spec_l6Dec.tab7 : rtab .any (opsOf Tryd.f30 7) = spec_l6Dec.T7 := by kernel_rfl
theorem spec_l6Dec.bits7 : waitsOk spec_l6Dec.T7.2 spec_l6Dec.B7 = true := by kernel_rfl
theorem spec_l6Dec.calls (k : Nat) : ∀ (a0 : Int) (r : ByteArray) (w : World) (h : spec_l6Dec.f k a0 = some r),
  Calls Tryd.prog 30 #[.int .i64 a0] w fun e w' => e = .returned (.string r) ∧ Below w.heap.size w w' := by
 induction k using Nat.strongRecOn with
 | _ k ih =>
 intro a0 r w h
 cases k with
 | zero => exact absurd h (by simp [spec_l6Dec.f])
 | succ k =>
 simp only [spec_l6Dec.f] at h
 have HB := am (Below.refl w.heap.size w)
 have H : (if a0 < (-9223372036854775807) then (some (⟨#[45, 57, 50, 50, 51, 51, 55, 50, 48, 51, 54, 56, 53, 52, 55, 55, 53, 56, 48, 56]⟩ : ByteArray)) else (if a0 < 0 then ((spec_l6Dec.f k (wrap64 (-a0))).bind fun t28 => (if 1 + t28.size ≤ 9223372036854775807 then (some ((⟨#[45]⟩ : ByteArray) ++ t28)) else (none))) else (if a0 < 10 then (some (strOfNums (([(wrap64 (48 + a0)) % 256] : List Int)))) else ((spec_l6Dec.f k (wrap64 (Int.tdiv a0 10))).bind fun t29 => ((some (([(wrap64 (48 + (Int.tmod a0 10))) % 256] : List Int) : List Int)).bind fun y31 => (if t29.size + (strOfNums y31).size ≤ 9223372036854775807 then (some (t29 ++ (strOfNums y31))) else (none))))))) = some r := h
 clear h
 by_cases c2 : a0 < (-9223372036854775807)
 ·rw [if_pos c2] at H
  have c2b0 : decide (a0 < (-9223372036854775807)) = true := decide_eq_true c2
  clear c2
  obtain rfl := Option.some.inj H
  go_enter Tryd.func30, Tryd.ntmps30
  go_wp2
  go_ret
  exact ⟨rr_, ab2_⟩
 rw [if_neg c2] at H
 have c2b0 : decide (a0 < (-9223372036854775807)) = false := decide_eq_false c2
 clear c2
 by_cases c3 : a0 < 0
 ·rw [if_pos c3] at H
  have c3b0 : decide (a0 < 0) = true := decide_eq_true c3
  clear c3
  obtain ⟨t28, A4, H⟩ := bsa H
  (try dsimp only at H)
  by_cases c5 : 1 + t28.size ≤ 9223372036854775807
  ·rw [if_pos c5] at H
   have c5b0 := eq_true c5
   have c5b1 : decide (1 + t28.size ≤ 9223372036854775807) = true := decide_eq_true c5
   try have c5b2 : (9223372036854775807 < 1 + t28.size) = False := eq_false (Nat.not_lt.2 c5)
   obtain rfl := Option.some.inj H
   go_enter Tryd.func30, Tryd.ntmps30
   go_wp2_with (first | ((with_reducible refine gate_callee (f := 30) rfl ?_); refine gl_ 9 Tryd.func30 #[.int .i64 (wrap64 (-a0))] ?_; (with_reducible refine (ih k (by omega) (wrap64 (-a0)) t28 _ A4.out).mono ?_); rintro e w6 ⟨rfl, hb⟩; refine ⟨_, rfl, ?_⟩; replace HB := am (below_step ab2_ hb); (try clear hb)))
   go_ret
   exact ⟨rr_, ab2_⟩
  rw [if_neg c5] at H
  exact absurd H (by simp)
 rw [if_neg c3] at H
 have c3b0 : decide (a0 < 0) = false := decide_eq_false c3
 clear c3
 by_cases c7 : a0 < 10
 ·rw [if_pos c7] at H
  have c7b0 : decide (a0 < 10) = true := decide_eq_true c7
  clear c7
  obtain ⟨y34, hy_⟩ : ∃ y_ : List Int, y_ = (([(wrap64 (48 + a0)) % 256] : List Int)) := ⟨_, rfl⟩
  replace H : (some (strOfNums y34)) = some r := rx_
  have Ny34 := am hy_
  clear hy_
  obtain rfl := Option.some.inj H
  go_enter Tryd.func30, Tryd.ntmps30
  go_wp2_with (first | ((with_reducible refine gate_dst (N := 16) rfl ?_); refine Kd.R_lit (Kd.int .u8) _ 5 rfl (N := 16) rfl (xs := ([(wrap64 (48 + a0)) % 256] : List Int)) (inner := [.int .u8 ((wrap64 (48 + a0)) % 256)]) (ok := fun _ => True) (okp := fun _ => True) rn_ ?hp (fun _ hk => hk) trivial (Below.refl _ _) (Nat.le_refl _) (by simp) ?_; (case hp => exact (Reps.one (show Kd.M (Kd.int .u8) _ _ _ ((wrap64 (48 + a0)) % 256) [.int .u8 ((wrap64 (48 + a0)) % 256)] from rfl) (Reps.none _ _))); intro v35 w8 ho9 hb hg_ hnew_; clear hg_ hnew_; (first | rw [← Ny34.out] at ho9 | (simp only [Int.reduceToNat] at ho9; rw [← Ny34.out] at ho9)); have HO36 := am (Kd.R_lower ho9 (below_size ab2_)); replace HB := am (below_step ab2_ hb); clear hb ho9; have hcv10 := own_string (P := Tryd.prog) Tryd.underlying33 Tryd.underlying5 Tryd.underlying9 (Kd.own_of_R HO36.out)))
  go_ret
  exact ⟨rr_, ab2_⟩
 rw [if_neg c7] at H
 have c7b0 : decide (a0 < 10) = false := decide_eq_false c7
 clear c7
 obtain ⟨t29, A37, H⟩ := bsm H
 (try dsimp only at H)
 have A11 := am A37
 clear A37
 obtain ⟨y31, hy_⟩ : ∃ y_ : List Int, y_ = (([(wrap64 (48 + (Int.tmod a0 10))) % 256] : List Int)) := ⟨_, rfl⟩
 replace H : (if t29.size + (strOfNums y31).size ≤ 9223372036854775807 then (some (t29 ++ (strOfNums y31))) else (none)) = some r := rx_
 have Ny31 := am hy_
 clear hy_
 by_cases c12 : t29.size + (strOfNums y31).size ≤ 9223372036854775807
 ·rw [if_pos c12] at H
  have c12b0 := eq_true c12
  have c12b1 : decide (t29.size + (strOfNums y31).size ≤ 9223372036854775807) = true := decide_eq_true c12
  try have c12b2 : (9223372036854775807 < t29.size + (strOfNums y31).size) = False := eq_false (Nat.not_lt.2 c12)
  obtain rfl := Option.some.inj H
  go_enter Tryd.func30, Tryd.ntmps30
  try go_wp2
  replace HB := am (below_drew1 HB.out)
  refine start_ (n := 11) (S := fun w' => True) (ds := []) (bz 11 0) (by kernel_rfl) rfl rfl trivial (fun hHeld => ?_); refine with_tabW spec_l6Dec.tab7 spec_l6Dec.bits7 (fun HT_ HW_ => ?_)
  generalize w.drew = w13 at HB hHeld ⊢
  refine pr_ 0 18 (bz 11 1) HT_ ?_
  refine pr_ 1 19 (bz 11 3) HT_ ?_
  refine pr_ 3 21 (bz 11 11) HT_ ?_
  refine pr_ 4 22 (bz 11 27) HT_ ?_
  refine pr_ 5 23 (bz 11 59) HT_ ?_
  refine pr_ 6 24 (bz 11 123) HT_ ?_
  refine join_ (σ := Value) 2 (bz 11 511) (fun s_ => [(20, .string t29), (25, s_), (26, .string (strOfNums y31))]) (fun s_ w' => (Kd.R (Kd.int .u8) 5 w' w.heap.size (fun _ => True) s_ y31) ∧ (Below w.heap.size w w')) ?_ ?_
  rotate_left
  ·intro hCont
   refine two_ (i := 2) (j := 7) (Ni := some 20) (Nj := some 25) (bz 11 127) (bz 11 251) rfl rfl rfl rfl (two_of HT_.out (by kernel_rfl)) (by decide) (by decide) (fun K hK => ?_) (fun K hK => ?_)
   ·skip
    refine goes_ Tryd.func30 (by kernel_rfl) rfl #[.int .i64 (wrap64 (Int.tdiv a0 10))] (by rfl) rfl rfl ab1_ ?_
    with_reducible refine (ih k (by omega) (wrap64 (Int.tdiv a0 10)) t29 _ A11.out).mono ?_
    rintro e w14 ⟨rfl, hb⟩
    refine ⟨_, rfl, ?_⟩
    replace HB := am (below_step ab2_ hb)
    (try clear hb)
    (try clear hb2)
    (try clear hk)
    (try clear hi)
    refine hK.out _ _ trivial (fun hHeld => ?_)
    clear hK K
    refine norm_ (a' := ?_) ?_ ?_
    rotate_left
    ·show Act.put _ (some 20) _ = _
     simp only [Act.put, List.setIfInBounds_toArray, List.set_cons_zero, List.set_cons_succ, i64_w, i32_w]
     rfl
    refine one_ (i := 7) (N := some 25) (bz 11 255) rfl rfl (one_of HT_.out (by kernel_rfl)) (by decide) (fun K hK => ?_)
    refine Kd.R_lit_step (Kd.int .u8) _ 5 rfl (N := 25) rfl (xs := ([(wrap64 (48 + (Int.tmod a0 10))) % 256] : List Int)) (inner := [.int .u8 ((wrap64 (48 + (Int.tmod a0 10))) % 256)]) (ok := fun _ => True) (okp := fun _ => True) rn_ ?hp (fun _ hk => hk) trivial (Below.refl _ _) (Nat.le_refl _) (by simp) ?_; (case hp => exact (Reps.one (show Kd.M (Kd.int .u8) _ _ _ ((wrap64 (48 + (Int.tmod a0 10))) % 256) [.int .u8 ((wrap64 (48 + (Int.tmod a0 10))) % 256)] from rfl) (Reps.none _ _)))
    intro v38 w15 ho16 hb hg_ hnew_
    clear hg_ hnew_
    (first | rw [← Ny31.out] at ho16 | (simp only [Int.reduceToNat] at ho16; rw [← Ny31.out] at ho16))
    have HO39 := am (Kd.R_lower ho16 (below_size ab2_))
    replace HB := am (below_step ab2_ hb)
    clear hb ho16
    refine hK.out _ _ trivial (fun hHeld => ?_)
    clear hK K
    refine norm_ (a' := ?_) ?_ ?_
    rotate_left
    ·show Act.put _ (some 25) _ = _
     simp only [Act.put, List.setIfInBounds_toArray, List.set_cons_zero, List.set_cons_succ, i64_w, i32_w]
     rfl
    refine one_ (i := 8) (N := some 26) (bz 11 511) rfl rfl (one_of HT_.out (by kernel_rfl)) (by decide) (fun K hK => ?_)
    have hcv17 := own_string (P := Tryd.prog) Tryd.underlying33 Tryd.underlying5 Tryd.underlying9 (Kd.own_of_R HO39.out)
    refine value_ (w1 := ?_) (v := ?_) (by rfl) rfl ?_ ?_
    rotate_left 2
    ·go_simp
     constructor
     ·rfl
     ·rfl
    clear hcv17
    refine hK.out _ _ trivial (fun hHeld => ?_)
    clear hK K
    refine norm_ (a' := ?_) ?_ ?_
    rotate_left
    ·show Act.put _ (some 26) _ = _
     simp only [Act.put, List.setIfInBounds_toArray, List.set_cons_zero, List.set_cons_succ, i64_w, i32_w]
     rfl
    exact norm_ (by simp only [putAll, Act.put, List.setIfInBounds_toArray, List.set_cons_zero, List.set_cons_succ]) (hCont (v38) _ ⟨(aR_ HO39.out), ab2_⟩)
   ·skip
    refine Kd.R_lit_step (Kd.int .u8) _ 5 rfl (N := 25) rfl (xs := ([(wrap64 (48 + (Int.tmod a0 10))) % 256] : List Int)) (inner := [.int .u8 ((wrap64 (48 + (Int.tmod a0 10))) % 256)]) (ok := fun _ => True) (okp := fun _ => True) rn_ ?hp (fun _ hk => hk) trivial (Below.refl _ _) (Nat.le_refl _) (by simp) ?_; (case hp => exact (Reps.one (show Kd.M (Kd.int .u8) _ _ _ ((wrap64 (48 + (Int.tmod a0 10))) % 256) [.int .u8 ((wrap64 (48 + (Int.tmod a0 10))) % 256)] from rfl) (Reps.none _ _)))
    intro v38 w14 ho15 hb hg_ hnew_
    clear hg_ hnew_
    (first | rw [← Ny31.out] at ho15 | (simp only [Int.reduceToNat] at ho15; rw [← Ny31.out] at ho15))
    have HO39 := am (Kd.R_lower ho15 (below_size ab2_))
    replace HB := am (below_step ab2_ hb)
    clear hb ho15
    refine hK.out _ _ trivial (fun hHeld => ?_)
    clear hK K
    refine norm_ (a' := ?_) ?_ ?_
    rotate_left
    ·show Act.put _ (some 25) _ = _
     simp only [Act.put, List.setIfInBounds_toArray, List.set_cons_zero, List.set_cons_succ, i64_w, i32_w]
     rfl
    refine two_ (i := 2) (j := 8) (Ni := some 20) (Nj := some 26) (bz 11 255) (bz 11 507) rfl rfl rfl rfl (two_of HT_.out (by kernel_rfl)) (by decide) (by decide) (fun K hK => ?_) (fun K hK => ?_)
    ·skip
     refine goes_ Tryd.func30 (by kernel_rfl) rfl #[.int .i64 (wrap64 (Int.tdiv a0 10))] (by rfl) rfl rfl ab1_ ?_
     with_reducible refine (ih k (by omega) (wrap64 (Int.tdiv a0 10)) t29 _ A11.out).mono ?_
     rintro e w16 ⟨rfl, hb⟩
     refine ⟨_, rfl, ?_⟩
     replace HO39 := am (Kd.R_below (aR_ HO39.out) hb)
     replace HB := am (below_step ab2_ hb)
     (try clear hb)
     (try clear hb2)
     (try clear hk)
     (try clear hi)
     refine hK.out _ _ trivial (fun hHeld => ?_)
     clear hK K
     refine norm_ (a' := ?_) ?_ ?_
     rotate_left
     ·show Act.put _ (some 20) _ = _
      simp only [Act.put, List.setIfInBounds_toArray, List.set_cons_zero, List.set_cons_succ, i64_w, i32_w]
      rfl
     refine one_ (i := 8) (N := some 26) (bz 11 511) rfl rfl (one_of HT_.out (by kernel_rfl)) (by decide) (fun K hK => ?_)
     have hcv17 := own_string (P := Tryd.prog) Tryd.underlying33 Tryd.underlying5 Tryd.underlying9 (Kd.own_of_R HO39.out)
     refine value_ (w1 := ?_) (v := ?_) (by rfl) rfl ?_ ?_
     rotate_left 2
     ·go_simp
      constructor
      ·rfl
      ·rfl
     clear hcv17
     refine hK.out _ _ trivial (fun hHeld => ?_)
     clear hK K
     refine norm_ (a' := ?_) ?_ ?_
     rotate_left
     ·show Act.put _ (some 26) _ = _
      simp only [Act.put, List.setIfInBounds_toArray, List.set_cons_zero, List.set_cons_succ, i64_w, i32_w]
      rfl
     exact norm_ (by simp only [putAll, Act.put, List.setIfInBounds_toArray, List.set_cons_zero, List.set_cons_succ]) (hCont (v38) _ ⟨(aR_ HO39.out), ab2_⟩)
    ·skip
     have hcv16 := own_string (P := Tryd.prog) Tryd.underlying33 Tryd.underlying5 Tryd.underlying9 (Kd.own_of_R HO39.out)
     refine value_ (w1 := ?_) (v := ?_) (by rfl) rfl ?_ ?_
     rotate_left 2
     ·go_simp
      constructor
      ·rfl
      ·rfl
     clear hcv16
     refine hK.out _ _ trivial (fun hHeld => ?_)
     clear hK K
     refine norm_ (a' := ?_) ?_ ?_
     rotate_left
     ·show Act.put _ (some 26) _ = _
      simp only [Act.put, List.setIfInBounds_toArray, List.set_cons_zero, List.set_cons_succ, i64_w, i32_w]
      rfl
     refine one_ (i := 2) (N := some 20) (bz 11 511) rfl rfl (one_of HT_.out (by kernel_rfl)) (by decide) (fun K hK => ?_)
     refine goes_ Tryd.func30 (by kernel_rfl) rfl #[.int .i64 (wrap64 (Int.tdiv a0 10))] (by rfl) rfl rfl ab1_ ?_
     with_reducible refine (ih k (by omega) (wrap64 (Int.tdiv a0 10)) t29 _ A11.out).mono ?_
     rintro e w17 ⟨rfl, hb⟩
     refine ⟨_, rfl, ?_⟩
     replace HO39 := am (Kd.R_below (aR_ HO39.out) hb)
     replace HB := am (below_step ab2_ hb)
     (try clear hb)
     (try clear hb2)
     (try clear hk)
     (try clear hi)
     refine hK.out _ _ trivial (fun hHeld => ?_)
     clear hK K
     refine norm_ (a' := ?_) ?_ ?_
     rotate_left
     ·show Act.put _ (some 20) _ = _
      simp only [Act.put, List.setIfInBounds_toArray, List.set_cons_zero, List.set_cons_succ, i64_w, i32_w]
      rfl
     exact norm_ (by simp only [putAll, Act.put, List.setIfInBounds_toArray, List.set_cons_zero, List.set_cons_succ]) (hCont (v38) _ ⟨(aR_ HO39.out), ab2_⟩)
  rintro v38 w18 ⟨h0_, h1_⟩
  have HO39 : Aside0 (Kd.R (Kd.int .u8) 5 w18 w.heap.size (fun _ => True) v38 y31) := ⟨h0_⟩
  replace HB : Aside0 (Below w.heap.size w w18) := ⟨h1_⟩
  clear h0_ h1_
  have hHeld := trivial
  refine norm_ (a' := ?_) ?_ ?_
  rotate_left
  ·simp only [putAll, Act.put, List.setIfInBounds_toArray, List.set_cons_zero, List.set_cons_succ]
   rfl
  refine pr_ 9 27 (bz 11 1023) HT_ ?_
  refine pr_ 10 2 (bz 11 2047) HT_ ?_
  refine done_ (done_of HT_.out (by kernel_rfl)) ?_
  try go_wp2
  go_ret
  exact ⟨rr_, ab2_⟩
 rw [if_neg c12] at H
 exact absurd H (by simp)
theorem spec_l5Name.calls (a0 : Int) (r : ByteArray) (w : World) (h : spec_l5Name.f a0 = some r) :
  Calls Tryd.prog 31 #[.int .i64 a0] w fun e w' => e = .returned (.string r) ∧ Below w.heap.size w w' := by
 have HB := am (Below.refl w.heap.size w)
 have H : (some (strOfNums (([(wrap64 (97 + a0)) % 256] : List Int)))) = some r := h
 clear h
 obtain ⟨y20, hy_⟩ : ∃ y_ : List Int, y_ = (([(wrap64 (97 + a0)) % 256] : List Int)) := ⟨_, rfl⟩
 replace H : (some (strOfNums y20)) = some r := rx_
 have Ny20 := am hy_
 clear hy_
 obtain rfl := Option.some.inj H
 go_enter Tryd.func31, Tryd.ntmps31
 go_wp2_with (first | ((with_reducible refine gate_dst (N := 6) rfl ?_); refine Kd.R_lit (Kd.int .u8) _ 5 rfl (N := 6) rfl (xs := ([(wrap64 (97 + a0)) % 256] : List Int)) (inner := [.int .u8 ((wrap64 (97 + a0)) % 256)]) (ok := fun _ => True) (okp := fun _ => True) rn_ ?hp (fun _ hk => hk) trivial (Below.refl _ _) (Nat.le_refl _) (by simp) ?_; (case hp => exact (Reps.one (show Kd.M (Kd.int .u8) _ _ _ ((wrap64 (97 + a0)) % 256) [.int .u8 ((wrap64 (97 + a0)) % 256)] from rfl) (Reps.none _ _))); intro v21 w2 ho3 hb hg_ hnew_; clear hg_ hnew_; (first | rw [← Ny20.out] at ho3 | (simp only [Int.reduceToNat] at ho3; rw [← Ny20.out] at ho3)); have HO22 := am (Kd.R_lower ho3 (below_size ab2_)); replace HB := am (below_step ab2_ hb); clear hb ho3; have hcv4 := own_string (P := Tryd.prog) Tryd.underlying33 Tryd.underlying5 Tryd.underlying9 (Kd.own_of_R HO22.out)))
 go_ret
 exact ⟨rr_, ab2_⟩
theorem spec_OpLevel.calls (a0 : Int) (r : Int) (w : World) (h : spec_OpLevel.f a0 = some r) :
  Calls Tryd.prog 32 #[.int .i64 a0] w fun e w' => e = .returned (.int .i64 r) ∧ Below w.heap.size w w' := by
 have HB := am (Below.refl w.heap.size w)
 have H : ((spec_OpValid.f a0).bind fun t21 => (if t21 = true then ((some (([1, 2, 3, 4, 5, 6, 6, 7, 7, 8, 8, 8] : List Int) : List Int)).bind fun y22 => (if 0 ≤ (wrap64 (a0 - 1)) then (if (wrap64 (a0 - 1)) < (y22.length : Int) then (some (rd y22 (wrap64 (a0 - 1)))) else (none)) else (none))) else (some 0))) = some r := h
 clear h
 obtain ⟨t21, A2, H⟩ := bsa H
 (try dsimp only at H)
 by_cases c3 : t21 = true
 ·subst c3
  rw [if_pos rfl] at H
  obtain ⟨y22, hy_⟩ : ∃ y_ : List Int, y_ = (([1, 2, 3, 4, 5, 6, 6, 7, 7, 8, 8, 8] : List Int)) := ⟨_, rfl⟩
  replace H : (if 0 ≤ (wrap64 (a0 - 1)) then (if (wrap64 (a0 - 1)) < (y22.length : Int) then (some (rd y22 (wrap64 (a0 - 1)))) else (none)) else (none)) = some r := rx_
  have Ny22 := am hy_
  clear hy_
  obtain ⟨ji4, hji4⟩ : ∃ j_ : Int, (wrap64 (a0 - 1)) = j_ := ⟨_, rfl⟩
  replace H : (if 0 ≤ (ji4) then (if (ji4) < (y22.length : Int) then (some (rd y22 (ji4))) else (none)) else (none)) = some r := by first | (rw [hji4] at H; exact H) | (simp only [hji4] at H ⊢; exact H)
  (try rw [hji4] at A2)
  have hji4w : (IntKind.i64.wrap (a0 - 1)) = ji4 := (i64_w _).trans hji4
  by_cases c5 : 0 ≤ (ji4)
  ·rw [if_pos c5] at H
   have c5b0 : decide (0 ≤ (ji4)) = true := decide_eq_true c5
   clear c5
   by_cases c6 : (ji4) < (y22.length : Int)
   ·rw [if_pos c6] at H
    have c6b0 : decide ((ji4) < (y22.length : Int)) = true := decide_eq_true c6
    clear c6
    obtain rfl := Option.some.inj H
    go_enter Tryd.func32, Tryd.ntmps32
    go_wp2_with (first | ((with_reducible refine gate_callee (f := 55) rfl ?_); refine gl_ 4 Tryd.func55 #[.int .i64 a0] ?_; (with_reducible refine (spec_OpValid.calls a0 true _ A2.out).mono ?_); rintro e w' ⟨rfl, ⟨nd, rfl⟩⟩; refine ⟨_, rfl, ?_⟩) | ((with_reducible refine gate_dst (N := 6) rfl ?_); refine Kd.R_lit (Kd.int .i64) _ 3 rfl (N := 6) rfl (xs := ([1, 2, 3, 4, 5, 6, 6, 7, 7, 8, 8, 8] : List Int)) (inner := [.int .i64 1, .int .i64 2, .int .i64 3, .int .i64 4, .int .i64 5, .int .i64 6, .int .i64 6, .int .i64 7, .int .i64 7, .int .i64 8, .int .i64 8, .int .i64 8]) (ok := fun _ => True) (okp := fun _ => True) rn_ ?hp (fun _ hk => hk) trivial (Below.refl _ _) (Nat.le_refl _) (by simp) ?_; (case hp => exact (Reps.one (show Kd.M (Kd.int .i64) _ _ _ 1 [.int .i64 1] from rfl) (Reps.one (show Kd.M (Kd.int .i64) _ _ _ 2 [.int .i64 2] from rfl) (Reps.one (show Kd.M (Kd.int .i64) _ _ _ 3 [.int .i64 3] from rfl) (Reps.one (show Kd.M (Kd.int .i64) _ _ _ 4 [.int .i64 4] from rfl) (Reps.one (show Kd.M (Kd.int .i64) _ _ _ 5 [.int .i64 5] from rfl) (Reps.one (show Kd.M (Kd.int .i64) _ _ _ 6 [.int .i64 6] from rfl) (Reps.one (show Kd.M (Kd.int .i64) _ _ _ 6 [.int .i64 6] from rfl) (Reps.one (show Kd.M (Kd.int .i64) _ _ _ 7 [.int .i64 7] from rfl) (Reps.one (show Kd.M (Kd.int .i64) _ _ _ 7 [.int .i64 7] from rfl) (Reps.one (show Kd.M (Kd.int .i64) _ _ _ 8 [.int .i64 8] from rfl) (Reps.one (show Kd.M (Kd.int .i64) _ _ _ 8 [.int .i64 8] from rfl) (Reps.one (show Kd.M (Kd.int .i64) _ _ _ 8 [.int .i64 8] from rfl) (Reps.none _ _)))))))))))))); intro v23 w7 ho8 hb hg_ hnew_; clear hg_ hnew_; (first | rw [← Ny22.out] at ho8 | (simp only [Int.reduceToNat] at ho8; rw [← Ny22.out] at ho8)); have HO24 := am (Kd.R_lower ho8 (below_size ab2_)); replace HB := am (below_step ab2_ hb); clear hb ho8; obtain ⟨Ao9, co9, eo9⟩ := Kd.R_slice HO24.out; subst eo9; have p25 : 0 ≤ ((ji4) : Int) := of_decide_eq_true asm_; have q25 : (ji4) < (y22.length : Int) := of_decide_eq_true asm_; obtain ⟨ad25, e25, hx25_0⟩ := Kd.at_int (Kd.R_reads' HO24.out).2.2 (ji4) p25 q25; cases e25; replace p25 := eq_true p25; replace q25 := eq_true q25))
    go_ret
    exact ⟨by first | rfl | (simp [errW_none, errW_some] <;> rfl) | (simp only [← hji4]; first | rfl | (simp [errW_none, errW_some] <;> rfl)) | (simp [*, errW_none, errW_some] <;> rfl), ab2_⟩
   rw [if_neg c6] at H
   exact absurd H (by simp)
  rw [if_neg c5] at H
  exact absurd H (by simp)
 replace c3 := Bool.eq_false_iff.mpr c3
 subst c3
 rw [if_neg (show ¬ (false = true) by decide)] at H
 obtain rfl := Option.some.inj H
 go_enter Tryd.func32, Tryd.ntmps32
 go_wp2_with (first | ((with_reducible refine gate_callee (f := 55) rfl ?_); refine gl_ 4 Tryd.func55 #[.int .i64 a0] ?_; (with_reducible refine (spec_OpValid.calls a0 false _ A2.out).mono ?_); rintro e w' ⟨rfl, ⟨nd, rfl⟩⟩; refine ⟨_, rfl, ?_⟩))
 go_ret
 exact ⟨rr_, ab2_⟩
theorem spec_l5Wrap.calls (P0_ : Nat → Prop) (u20_ : Value) (l0 : List ByteArray) (a1 : Bool) (r : List ByteArray) (w0 w : World) (hB : Below w0.heap.size w0 w) (ho0 : Kd.R Kd.string 9 w w0.heap.size P0_ u20_ l0) (h : spec_l5Wrap.f l0 a1 = some r) :
  Calls Tryd.prog 33 #[u20_, .bool a1] w fun e w' => ∃ v0_ : Value, e = .returned (v0_) ∧ Kd.R Kd.string 9 w' w0.heap.size (fun k_ => (P0_ k_ ∨ w.heap.size ≤ k_)) v0_ r ∧ Below w0.heap.size w0 w' ∧ Kept w w' (fun k_ => P0_ k_) := by
 have HO0 := am (show Kd.R Kd.string 9 w w0.heap.size (fun k_ => (P0_ k_ ∨ w.heap.size ≤ k_)) u20_ l0 from Kd.R_mono ho0 (fun k_ hk => (.inl hk)))
 have HK := am (Kept.refl w (fun k_ => P0_ k_))
 have HW0 := am hB.size
 have HB := am hB
 clear hB
 have H : (if a1 = true then ((some (([(⟨#[40]⟩ : ByteArray)] : List ByteArray) : List ByteArray)).bind fun y21 => (if y21.length + l0.length < 8796093022208 then ((some (y21 ++ l0 : List ByteArray)).bind fun y22 => (if y22.length < 8796093022208 then (some (y22 ++ [(⟨#[41]⟩ : ByteArray)])) else (none))) else (none))) else (some l0)) = some r := h
 clear h
 by_cases c3 : a1 = true
 ·subst c3
  rw [if_pos rfl] at H
  obtain ⟨y21, hy_⟩ : ∃ y_ : List ByteArray, y_ = (([(⟨#[40]⟩ : ByteArray)] : List ByteArray)) := ⟨_, rfl⟩
  replace H : (if y21.length + l0.length < 8796093022208 then ((some (y21 ++ l0 : List ByteArray)).bind fun y22 => (if y22.length < 8796093022208 then (some (y22 ++ [(⟨#[41]⟩ : ByteArray)])) else (none))) else (none)) = some r := rx_
  have Ny21 := am hy_
  clear hy_
  by_cases c4 : y21.length + l0.length < 8796093022208
  ·rw [if_pos c4] at H
   have LMc4 := am c4
   clear c4
   obtain ⟨y22, hy_⟩ : ∃ y_ : List ByteArray, y_ = (y21 ++ l0) := ⟨_, rfl⟩
   replace H : (if y22.length < 8796093022208 then (some (y22 ++ [(⟨#[41]⟩ : ByteArray)])) else (none)) = some r := rx_
   have Ny22 := am hy_
   clear hy_
   by_cases c5 : y22.length < 8796093022208
   ·rw [if_pos c5] at H
    have LMc5 := am c5
    clear c5
    obtain ⟨y23, hy_⟩ : ∃ y_ : List ByteArray, y_ = (y22 ++ [(⟨#[41]⟩ : ByteArray)]) := ⟨_, rfl⟩
    replace H : (some y23) = some r := rx_
    have Ny23 := am hy_
    clear hy_
    obtain rfl := Option.some.inj H
    go_enter Tryd.func33, Tryd.ntmps33
    go_wp2_with (first | ((with_reducible refine gate_dst (N := 9) rfl ?_); refine Kd.R_lit Kd.string _ 9 rfl (N := 9) rfl (xs := ([(⟨#[40]⟩ : ByteArray)] : List ByteArray)) (inner := [.string (⟨#[40]⟩ : ByteArray)]) (ok := fun _ => True) (okp := fun _ => True) rn_ ?hp (fun _ hk => hk) trivial (Below.refl _ _) (Nat.le_refl _) (by simp) ?_; (case hp => exact (Reps.one (show Kd.M Kd.string _ _ _ (⟨#[40]⟩ : ByteArray) [.string (⟨#[40]⟩ : ByteArray)] from rfl) (Reps.none _ _))); intro v24 w6 ho7 hb hg_ hnew_; clear hg_ hnew_; (first | rw [← Ny21.out] at ho7 | (simp only [Int.reduceToNat] at ho7; rw [← Ny21.out] at ho7)); have HO25 := am (Kd.R_lower (Kd.R_new' (Kd.R_newM (M := fun k_ => (P0_ k_ ∨ w.heap.size ≤ k_)) ho7 (by first | exact HK.out.1 | exact (show Kept w _ (fun k_ => P0_ k_) from ab34_).1) (fun k_ h_ => .inr h_)) (Kd.R_lt (aR_ HO0.out))) (below_size ab2_)); replace HO0 := am (Kd.R_elder' (aR_ HO0.out) (Kd.R_base ho7) hb); replace HK := am (Kept.below (S := (fun k_ => P0_ k_)) ab34_ hb); replace HB := am (below_step ab2_ hb); clear hb ho7; obtain ⟨Ao9, co9, eo9⟩ := Kd.R_slice HO0.out; subst eo9) | ((with_reducible refine gate_builtin (b := .append) (xs := #[.tmp 9, .tmp 10]) rfl ?_); at_builtin; refine Kd.R_append_rows Kd.string (w0 := w0) w0.heap.size rfl (.tmp 9) (.tmp 10) 37 9 (.string ⟨#[]⟩) 16 rfl Tryd.underlying37 info9 rfl (by decide) (by omega) v24 y21 l0 _ _ _ (fun k_ => (P0_ k_ ∨ w.heap.size ≤ k_) ∧ some k_ ≠ (.slice Ao9 l0.length co9 : Value).ownBlock) (fun _ => False) rfl rfl ?aO ?aR (fun _ _ h => h) (fun _ h => h.elim) ?aF ?aB ?aS ?aL ?_; (case aR => repeat (first | exact (Kd.R_reads' HO0.out).2.2 | (with_reducible refine Kd.C_alloc ?_ _) | (with_reducible refine Kd.C_drewN ?_ _) | (with_reducible refine Kd.C_drew ?_))); (case aB => exact ab2_); (case aF => exact (fun k_ hk => ⟨(.inr (Nat.le_trans (by first | exact HK.out.1 | exact (show Kept w _ (fun k_ => P0_ k_) from ab34_).1) hk)), Kd.fresh' (Kd.R_lt (aR_ HO0.out)) k_ hk⟩)); (case aO => exact (aRw_ (Kd.R_mono HO25.out (fun _ hk => ⟨hk.1.1, hk.2⟩)))); (case aS => exact (below_size ab2_)); (case aL => have := LMc4.out; omega); intro v26 w8 ho hb hg hat; rw [← Ny22.out] at ho; replace HO0 := am (Kd.R_after (ok := (fun k_ => (P0_ k_ ∨ w.heap.size ≤ k_))) (aR_ HO0.out) hg hat); replace HB := am (hb); replace HK := am (Kept.of_grown (S := (fun k_ => P0_ k_)) hg ab34_ (fun k_ e_ => (HO25.out.1 k_ e_).1.1)); have HO27 := am (ho); clear HO25 ho hb hg hat) | ((with_reducible refine gate_builtin (b := .append) (xs := #[.tmp 12, .tmp 13]) rfl ?_); at_builtin; refine Kd.R_append Kd.string (w0 := w0) w0.heap.size rfl (.tmp 12) (.tmp 13) 37 9 (.string ⟨#[]⟩) 16 rfl Tryd.underlying37 info9 rfl (by decide) (by omega) v26 y22 (⟨#[41]⟩ : ByteArray) [.string (⟨#[41]⟩ : ByteArray)] (fun k_ => (P0_ k_ ∨ w.heap.size ≤ k_) ∧ some k_ ≠ (.slice Ao9 l0.length co9 : Value).ownBlock) (fun _ => False) rfl rfl ?aP (fun _ hk => hk.elim) ?aF ?aO ?aB ?aS ?aL ?_; (case aP => exact rfl); (case aB => exact ab2_); (case aF => exact (fun k_ hk => ⟨(.inr (Nat.le_trans (by first | exact HK.out.1 | exact (show Kept w _ (fun k_ => P0_ k_) from ab34_).1) hk)), Kd.fresh' (Kd.R_lt (aR_ HO0.out)) k_ hk⟩)); (case aO => exact (aR_ HO27.out)); (case aS => exact (below_size ab2_)); (case aL => have := LMc5.out; omega); intro v28 w10 ho hb hg hat; rw [← Ny23.out] at ho; replace HO0 := am (Kd.R_after (ok := (fun k_ => (P0_ k_ ∨ w.heap.size ≤ k_))) (aR_ HO0.out) hg hat); replace HB := am (hb); replace HK := am (Kept.of_grown (S := (fun k_ => P0_ k_)) hg ab34_ (fun k_ e_ => (HO27.out.1 k_ e_).1)); have HO29 := am (ho); clear HO27 ho hb hg hat))
    go_ret
    exact ⟨_, ab16_, aRw_ (Kd.R_mono HO29.out (fun _ hk => hk.1)), ab2_, ab34_⟩
   rw [if_neg c5] at H
   exact absurd H (by simp)
  rw [if_neg c4] at H
  exact absurd H (by simp)
 replace c3 := Bool.eq_false_iff.mpr c3
 subst c3
 rw [if_neg (show ¬ (false = true) by decide)] at H
 obtain rfl := Option.some.inj H
 go_enter Tryd.func33, Tryd.ntmps33
 go_wp2
 go_ret
 exact ⟨_, ab16_, aRw_ HO0.out, ab2_, ab34_⟩
theorem spec_l5Level.calls (a0_0 : Int) (a0_1 : Int) (A0_2 : Option Addr) (c0_2 : Nat) (l0_2 : List (S29)) (r : Int) (w : World) (hr0_2 : Kd.C k29 w A0_2 l0_2.length l0_2) (hc0_2 : l0_2.length ≤ c0_2) (h : spec_l5Level.f a0_0 a0_1 l0_2 = some r) :
  Calls Tryd.prog 34 #[.agg #[.int .i64 a0_0, .int .i64 a0_1, .slice A0_2 l0_2.length c0_2]] w fun e w' => e = .returned (.int .i64 r) ∧ Below w.heap.size w w' := by
 have hu29 := Tryd.underlying29
 have HR0_2 := am hr0_2
 have HC0_2 := am hc0_2
 clear hr0_2 hc0_2
 have HB := am (Below.refl w.heap.size w)
 have H : (if (l0_2.length : Int) = 0 then (some 9) else ((spec_OpLevel.f a0_0).bind fun t20 => (some t20))) = some r := h
 clear h
 have HH_ := am H
 clear H
 go_enter Tryd.func34, Tryd.ntmps34
 go_upto_region 1 with (first | ((with_reducible refine gate_dst (N := 1) rfl ?_); refine box_event rfl (N := 1) rfl (cs := #[.int .i64 a0_0, .int .i64 a0_1, .slice A0_2 l0_2.length c0_2]) (t := 29) rn_ ?_; intro gb21 hg w3 hbox hb; have BK21 := am (hbox); have GW21 := am ((by rw [hg]; exact (below_size ab2_) : w.heap.size ≤ gb21)); have GE21 := am ((by rw [hg]; exact (below_size ab2_) : w.heap.size ≤ gb21)); replace HB := am (below_step ab2_ hb); clear hb hbox hg; obtain ⟨hcz4_0, hcz4_1, hcz4_2, hfz4_0, hfz4_1, hfz4_2⟩ := bcf3_ BK21.out))
 have H := HH_.out
 clear HH_
 by_cases c2 : (l0_2.length : Int) = 0
 ·rw [if_pos c2] at H
  have c2b0 : ((l0_2.length : Int) == 0) = true := beq_iff_eq.mpr c2
  have c2b1 : ((l0_2.length : Int) != 0) = false := bne_eq_false_iff_eq.mpr c2
  clear c2
  obtain rfl := Option.some.inj H
  go_wp2
  go_ret
  exact ⟨rr_, ab18_⟩
 rw [if_neg c2] at H
 have c2b0 : ((l0_2.length : Int) == 0) = false := beq_eq_false_iff_ne.mpr c2
 have c2b1 : ((l0_2.length : Int) != 0) = true := bne_iff_ne.mpr c2
 have c2b2 : ¬ (l0_2 = []) := fun h_ => c2 (by rw [h_]; rfl)
 obtain ⟨t20, A5, H⟩ := bsa H
 (try dsimp only at H)
 obtain rfl := Option.some.inj H
 go_wp2_with (first | ((with_reducible refine gate_callee (f := 32) rfl ?_); refine gl_ 9 Tryd.func32 #[.int .i64 a0_0] ?_; (with_reducible refine (spec_OpLevel.calls a0_0 t20 _ A5.out).mono ?_); rintro e w8 ⟨rfl, hb⟩; refine ⟨_, rfl, ?_⟩; replace BK21 := am (bbl_ BK21.out hb); replace HB := am (below_step ab18_ hb); (try clear hb)))
 go_ret
 exact ⟨rr_, ab18_⟩
theorem spec_OpText.calls (a0 : Int) (r : ByteArray) (w : World) (h : spec_OpText.f a0 = some r) :
  Calls Tryd.prog 35 #[.int .i64 a0] w fun e w' => e = .returned (.string r) ∧ Below w.heap.size w w' := by
 have HB := am (Below.refl w.heap.size w)
 have H : ((spec_OpValid.f a0).bind fun t21 => (if t21 = true then ((some (([(⟨#[124]⟩ : ByteArray), (⟨#[94]⟩ : ByteArray), (⟨#[38]⟩ : ByteArray), (⟨#[61, 61]⟩ : ByteArray), (⟨#[60]⟩ : ByteArray), (⟨#[60, 60]⟩ : ByteArray), (⟨#[62, 62]⟩ : ByteArray), (⟨#[43]⟩ : ByteArray), (⟨#[45]⟩ : ByteArray), (⟨#[42]⟩ : ByteArray), (⟨#[47]⟩ : ByteArray), (⟨#[37]⟩ : ByteArray)] : List ByteArray) : List ByteArray)).bind fun y22 => (if 0 ≤ (wrap64 (a0 - 1)) then (if (wrap64 (a0 - 1)) < (y22.length : Int) then (some (rdOf ByteArray.empty y22 (wrap64 (a0 - 1)))) else (none)) else (none))) else (some (⟨#[]⟩ : ByteArray)))) = some r := h
 clear h
 obtain ⟨t21, A2, H⟩ := bsa H
 (try dsimp only at H)
 by_cases c3 : t21 = true
 ·subst c3
  rw [if_pos rfl] at H
  obtain ⟨y22, hy_⟩ : ∃ y_ : List ByteArray, y_ = (([(⟨#[124]⟩ : ByteArray), (⟨#[94]⟩ : ByteArray), (⟨#[38]⟩ : ByteArray), (⟨#[61, 61]⟩ : ByteArray), (⟨#[60]⟩ : ByteArray), (⟨#[60, 60]⟩ : ByteArray), (⟨#[62, 62]⟩ : ByteArray), (⟨#[43]⟩ : ByteArray), (⟨#[45]⟩ : ByteArray), (⟨#[42]⟩ : ByteArray), (⟨#[47]⟩ : ByteArray), (⟨#[37]⟩ : ByteArray)] : List ByteArray)) := ⟨_, rfl⟩
  replace H : (if 0 ≤ (wrap64 (a0 - 1)) then (if (wrap64 (a0 - 1)) < (y22.length : Int) then (some (rdOf ByteArray.empty y22 (wrap64 (a0 - 1)))) else (none)) else (none)) = some r := rx_
  have Ny22 := am hy_
  clear hy_
  obtain ⟨ji4, hji4⟩ : ∃ j_ : Int, (wrap64 (a0 - 1)) = j_ := ⟨_, rfl⟩
  replace H : (if 0 ≤ (ji4) then (if (ji4) < (y22.length : Int) then (some (rdOf ByteArray.empty y22 (ji4))) else (none)) else (none)) = some r := by first | (rw [hji4] at H; exact H) | (simp only [hji4] at H ⊢; exact H)
  (try rw [hji4] at A2)
  have hji4w : (IntKind.i64.wrap (a0 - 1)) = ji4 := (i64_w _).trans hji4
  by_cases c5 : 0 ≤ (ji4)
  ·rw [if_pos c5] at H
   have c5b0 : decide (0 ≤ (ji4)) = true := decide_eq_true c5
   clear c5
   by_cases c6 : (ji4) < (y22.length : Int)
   ·rw [if_pos c6] at H
    have c6b0 : decide ((ji4) < (y22.length : Int)) = true := decide_eq_true c6
    clear c6
    obtain rfl := Option.some.inj H
    go_enter Tryd.func35, Tryd.ntmps35
    go_wp2_with (first | ((with_reducible refine gate_callee (f := 55) rfl ?_); refine gl_ 4 Tryd.func55 #[.int .i64 a0] ?_; (with_reducible refine (spec_OpValid.calls a0 true _ A2.out).mono ?_); rintro e w' ⟨rfl, ⟨nd, rfl⟩⟩; refine ⟨_, rfl, ?_⟩) | ((with_reducible refine gate_dst (N := 6) rfl ?_); refine Kd.R_lit Kd.string _ 9 rfl (N := 6) rfl (xs := ([(⟨#[124]⟩ : ByteArray), (⟨#[94]⟩ : ByteArray), (⟨#[38]⟩ : ByteArray), (⟨#[61, 61]⟩ : ByteArray), (⟨#[60]⟩ : ByteArray), (⟨#[60, 60]⟩ : ByteArray), (⟨#[62, 62]⟩ : ByteArray), (⟨#[43]⟩ : ByteArray), (⟨#[45]⟩ : ByteArray), (⟨#[42]⟩ : ByteArray), (⟨#[47]⟩ : ByteArray), (⟨#[37]⟩ : ByteArray)] : List ByteArray)) (inner := [.string (⟨#[124]⟩ : ByteArray), .string (⟨#[94]⟩ : ByteArray), .string (⟨#[38]⟩ : ByteArray), .string (⟨#[61, 61]⟩ : ByteArray), .string (⟨#[60]⟩ : ByteArray), .string (⟨#[60, 60]⟩ : ByteArray), .string (⟨#[62, 62]⟩ : ByteArray), .string (⟨#[43]⟩ : ByteArray), .string (⟨#[45]⟩ : ByteArray), .string (⟨#[42]⟩ : ByteArray), .string (⟨#[47]⟩ : ByteArray), .string (⟨#[37]⟩ : ByteArray)]) (ok := fun _ => True) (okp := fun _ => True) rn_ ?hp (fun _ hk => hk) trivial (Below.refl _ _) (Nat.le_refl _) (by simp) ?_; (case hp => exact (Reps.one (show Kd.M Kd.string _ _ _ (⟨#[124]⟩ : ByteArray) [.string (⟨#[124]⟩ : ByteArray)] from rfl) (Reps.one (show Kd.M Kd.string _ _ _ (⟨#[94]⟩ : ByteArray) [.string (⟨#[94]⟩ : ByteArray)] from rfl) (Reps.one (show Kd.M Kd.string _ _ _ (⟨#[38]⟩ : ByteArray) [.string (⟨#[38]⟩ : ByteArray)] from rfl) (Reps.one (show Kd.M Kd.string _ _ _ (⟨#[61, 61]⟩ : ByteArray) [.string (⟨#[61, 61]⟩ : ByteArray)] from rfl) (Reps.one (show Kd.M Kd.string _ _ _ (⟨#[60]⟩ : ByteArray) [.string (⟨#[60]⟩ : ByteArray)] from rfl) (Reps.one (show Kd.M Kd.string _ _ _ (⟨#[60, 60]⟩ : ByteArray) [.string (⟨#[60, 60]⟩ : ByteArray)] from rfl) (Reps.one (show Kd.M Kd.string _ _ _ (⟨#[62, 62]⟩ : ByteArray) [.string (⟨#[62, 62]⟩ : ByteArray)] from rfl) (Reps.one (show Kd.M Kd.string _ _ _ (⟨#[43]⟩ : ByteArray) [.string (⟨#[43]⟩ : ByteArray)] from rfl) (Reps.one (show Kd.M Kd.string _ _ _ (⟨#[45]⟩ : ByteArray) [.string (⟨#[45]⟩ : ByteArray)] from rfl) (Reps.one (show Kd.M Kd.string _ _ _ (⟨#[42]⟩ : ByteArray) [.string (⟨#[42]⟩ : ByteArray)] from rfl) (Reps.one (show Kd.M Kd.string _ _ _ (⟨#[47]⟩ : ByteArray) [.string (⟨#[47]⟩ : ByteArray)] from rfl) (Reps.one (show Kd.M Kd.string _ _ _ (⟨#[37]⟩ : ByteArray) [.string (⟨#[37]⟩ : ByteArray)] from rfl) (Reps.none _ _)))))))))))))); intro v23 w7 ho8 hb hg_ hnew_; clear hg_ hnew_; (first | rw [← Ny22.out] at ho8 | (simp only [Int.reduceToNat] at ho8; rw [← Ny22.out] at ho8)); have HO24 := am (Kd.R_lower ho8 (below_size ab2_)); replace HB := am (below_step ab2_ hb); clear hb ho8; obtain ⟨Ao9, co9, eo9⟩ := Kd.R_slice HO24.out; subst eo9; have p25 : 0 ≤ ((ji4) : Int) := of_decide_eq_true asm_; have q25 : (ji4) < (y22.length : Int) := of_decide_eq_true asm_; obtain ⟨ad25, e25, hx25_0⟩ := Kd.at_string (Kd.R_reads' HO24.out).2.2 (ji4) p25 q25; cases e25; replace p25 := eq_true p25; replace q25 := eq_true q25))
    go_ret
    exact ⟨by first | rfl | (simp [errW_none, errW_some] <;> rfl) | (simp only [← hji4]; first | rfl | (simp [errW_none, errW_some] <;> rfl)) | (simp [*, errW_none, errW_some] <;> rfl), ab2_⟩
   rw [if_neg c6] at H
   exact absurd H (by simp)
  rw [if_neg c5] at H
  exact absurd H (by simp)
 replace c3 := Bool.eq_false_iff.mpr c3
 subst c3
 rw [if_neg (show ¬ (false = true) by decide)] at H
 obtain rfl := Option.some.inj H
 go_enter Tryd.func35, Tryd.ntmps35
 go_wp2_with (first | ((with_reducible refine gate_callee (f := 55) rfl ?_); refine gl_ 4 Tryd.func55 #[.int .i64 a0] ?_; (with_reducible refine (spec_OpValid.calls a0 false _ A2.out).mono ?_); rintro e w' ⟨rfl, ⟨nd, rfl⟩⟩; refine ⟨_, rfl, ?_⟩))
 go_ret
 exact ⟨rr_, ab2_⟩
theorem spec_l5Tokens.mono_l : ∀ k, (∀ y0 y1 y2, LeO (spec_l5Tokens.f k y0 y1 y2) (spec_l5Tokens.f (k + 1) y0 y1 y2))
 | 0 => fun _ _ _ r h => by simp [spec_l5Tokens.f] at h
 | k + 1 => by
  have ih0 := spec_l5Tokens.mono_l k
  ·intro y0 y1 y2
   unfold spec_l5Tokens.f
   have m0 := @spec_l6Dec.mono
   exact mo_
theorem spec_l5Tokens.mono : ∀ a0 a1 a2 k, LeO (spec_l5Tokens.f k a0 a1 a2) (spec_l5Tokens.f (k + 1) a0 a1 a2) := by
 intro a0 a1 a2 k
 have ih0 := spec_l5Tokens.mono_l k
 exact ih0 a0 a1 a2
def spec_l5Tokens.T6 : Bool × List (List Nat × List Nat) := (true, [([], []), ([0], [0]), ([1], [1]), ([2], [2]), ([3], [3]), ([], []), ([5], [5]), ([6], [6]), ([7], [7]), ([8, 4], [8]), ([], []), ([9, 10], [9, 10]), ([4, 11, 9], [4, 11]), ([12, 12, 0, 1, 2, 3, 4, 5, 6, 7, 8, 9, 10, 11, 12], [12])])
def spec_l5Tokens.B6 : List Nat := [0, 1, 3, 7, 15, 0, 32, 96, 224, 511, 0, 2047, 4095, 8191]
theorem spec_l5Tokens.tab6 : rtab .any (opsOf Tryd.f18 6) = spec_l5Tokens.T6 := by kernel_rfl
theorem spec_l5Tokens.bits6 : waitsOk spec_l5Tokens.T6.2 spec_l5Tokens.B6 = true := by kernel_rfl
def spec_l5Tokens.T8 : Bool × List (List Nat × List Nat) := (true, [([], []), ([], []), ([1], [1]), ([2], [2]), ([3], [3]), ([4], [4]), ([], []), ([6], [6]), ([7], [7]), ([8], [8]), ([9, 5], [9]), ([], []), ([10, 11], [10, 11]), ([5, 12, 10], [5, 12]), ([0, 13, 13], [0, 13]), ([14, 14, 0, 1, 2, 3, 4, 5, 6, 7, 8, 9, 10, 11, 12, 13, 14], [14])])
def spec_l5Tokens.B8 : List Nat := [0, 0, 2, 6, 14, 30, 0, 64, 192, 448, 1022, 0, 4094, 8190, 16383, 32767]
theorem spec_l5Tokens.tab8 : rtab .any (opsOf Tryd.f18 8) = spec_l5Tokens.T8 := by kernel_rfl
theorem spec_l5Tokens.bits8 : waitsOk spec_l5Tokens.T8.2 spec_l5Tokens.B8 = true := by kernel_rfl
theorem spec_l5Tokens.calls (k : Nat) : ∀ (a0_0 : Int) (a0_1 : Int) (A0_2 : Option Addr) (c0_2 : Nat) (l0_2 : List (S29)) (r : List ByteArray) (w : World) (hr0_2 : Kd.C k29 w A0_2 l0_2.length l0_2) (hc0_2 : l0_2.length ≤ c0_2) (h : spec_l5Tokens.f k a0_0 a0_1 l0_2 = some r),
  Calls Tryd.prog 18 #[.agg #[.int .i64 a0_0, .int .i64 a0_1, .slice A0_2 l0_2.length c0_2]] w fun e w' => ∃ v0_ : Value, e = .returned (v0_) ∧ Kd.R Kd.string 9 w' w.heap.size (fun _ => True) v0_ r ∧ Below w.heap.size w w' := by
 induction k using Nat.strongRecOn with
 | _ k ih =>
 intro a0_0 a0_1 A0_2 c0_2 l0_2 r w hr0_2 hc0_2 h
 cases k with
 | zero => exact absurd h (by simp [spec_l5Tokens.f])
 | succ k =>
 simp only [spec_l5Tokens.f] at h
 have hu29 := Tryd.underlying29
 have HR0_2 := am hr0_2
 have HC0_2 := am hc0_2
 clear hr0_2 hc0_2
 have HB := am (Below.refl w.heap.size w)
 have H : (if a0_0 = 0 then ((spec_l6Dec.f k a0_1).bind fun t56 => (some (([t56] : List ByteArray)))) else (if a0_0 = 13 then ((spec_l5Name.f a0_1).bind fun t57 => (some (([t57] : List ByteArray)))) else ((spec_OpLevel.f a0_0).bind fun t58 => (if 0 < (l0_2.length : Int) then ((spec_l5Tokens.f k ((rd_T29 l0_2 0).f0) ((rd_T29 l0_2 0).f1) ((rd_T29 l0_2 0).f2)).bind fun t59 => ((spec_l5Level.f ((rd_T29 l0_2 0).f0) ((rd_T29 l0_2 0).f1) ((rd_T29 l0_2 0).f2)).bind fun t60 => ((spec_l5Wrap.f t59 (decide (t60 < t58))).bind fun t61 => ((spec_OpText.f a0_0).bind fun t62 => (if t61.length < 8796093022208 then ((some (t61 ++ [t62] : List ByteArray)).bind fun y63 => (if 1 < (l0_2.length : Int) then ((spec_l5Tokens.f k ((rd_T29 l0_2 1).f0) ((rd_T29 l0_2 1).f1) ((rd_T29 l0_2 1).f2)).bind fun t65 => ((spec_l5Level.f ((rd_T29 l0_2 1).f0) ((rd_T29 l0_2 1).f1) ((rd_T29 l0_2 1).f2)).bind fun t66 => ((spec_l5Wrap.f t65 (decide (t66 ≤ t58))).bind fun t67 => (if y63.length + t67.length < 8796093022208 then (some (y63 ++ t67)) else (none))))) else (none))) else (none)))))) else (none))))) = some r := h
 clear h
 have HH_ := am H
 clear H
 go_enter Tryd.func18, Tryd.ntmps18
 go_upto_region 1 with (first | ((with_reducible refine gate_dst (N := 1) rfl ?_); refine box_event rfl (N := 1) rfl (cs := #[.int .i64 a0_0, .int .i64 a0_1, .slice A0_2 l0_2.length c0_2]) (t := 29) rn_ ?_; intro gb68 hg w4 hbox hb; have BK68 := am (hbox); have GW68 := am ((by rw [hg]; exact (below_size ab2_) : w.heap.size ≤ gb68)); have GE68 := am ((by rw [hg]; exact (below_size ab2_) : w.heap.size ≤ gb68)); replace HB := am (below_step ab2_ hb); clear hb hbox hg; obtain ⟨hcz5_0, hcz5_1, hcz5_2, hfz5_0, hfz5_1, hfz5_2⟩ := bcf3_ BK68.out))
 have H := HH_.out
 clear HH_
 by_cases c2 : a0_0 = 0
 ·rw [if_pos c2] at H
  have c2b0 : (a0_0 == 0) = true := beq_iff_eq.mpr c2
  have c2b1 : (a0_0 != 0) = false := bne_eq_false_iff_eq.mpr c2
  clear c2
  obtain ⟨t56, A3, H⟩ := bsa H
  (try dsimp only at H)
  obtain ⟨y69, hy_⟩ : ∃ y_ : List ByteArray, y_ = (([t56] : List ByteArray)) := ⟨_, rfl⟩
  replace H : (some y69) = some r := rx_
  have Ny69 := am hy_
  clear hy_
  obtain rfl := Option.some.inj H
  go_wp2_with (first | ((with_reducible refine gate_callee (f := 30) rfl ?_); refine gl_ 10 Tryd.func30 #[.int .i64 a0_1] ?_; (with_reducible refine (spec_l6Dec.calls k a0_1 t56 _ A3.out).mono ?_); rintro e w6 ⟨rfl, hb⟩; refine ⟨_, rfl, ?_⟩; replace BK68 := am (bbl_ BK68.out hb); replace HB := am (below_step ab10_ hb); (try clear hb)) | ((with_reducible refine gate_dst (N := 11) rfl ?_); refine Kd.R_lit Kd.string _ 9 rfl (N := 11) rfl (xs := ([t56] : List ByteArray)) (inner := [.string t56]) (ok := fun _ => True) (okp := fun _ => True) rn_ ?hp (fun _ hk => hk) trivial (Below.refl _ _) (Nat.le_refl _) (by simp) ?_; (case hp => exact (Reps.one (show Kd.M Kd.string _ _ _ t56 [.string t56] from rfl) (Reps.none _ _))); intro v70 w7 ho8 hb hg_ hnew_; clear hg_ hnew_; (first | rw [← Ny69.out] at ho8 | (simp only [Int.reduceToNat] at ho8; rw [← Ny69.out] at ho8)); have HO71 := am (Kd.R_lower ho8 (below_size ab10_)); replace BK68 := am (bbl_ BK68.out hb); replace HB := am (below_step ab10_ hb); clear hb ho8))
  go_ret
  exact ⟨_, ab16_, aRw_ HO71.out, ab10_⟩
 rw [if_neg c2] at H
 have c2b0 : (a0_0 == 0) = false := beq_eq_false_iff_ne.mpr c2
 have c2b1 : (a0_0 != 0) = true := bne_iff_ne.mpr c2
 by_cases c9 : a0_0 = 13
 ·rw [if_pos c9] at H
  have c9b0 : (a0_0 == 13) = true := beq_iff_eq.mpr c9
  have c9b1 : (a0_0 != 13) = false := bne_eq_false_iff_eq.mpr c9
  clear c9
  obtain ⟨t57, A72, H⟩ := bsm H
  (try dsimp only at H)
  have A10 := am A72
  clear A72
  obtain ⟨y73, hy_⟩ : ∃ y_ : List ByteArray, y_ = (([t57] : List ByteArray)) := ⟨_, rfl⟩
  replace H : (some y73) = some r := rx_
  have Ny73 := am hy_
  clear hy_
  obtain rfl := Option.some.inj H
  go_wp2_with (first | ((with_reducible refine gate_callee (f := 31) rfl ?_); refine gl_ 17 Tryd.func31 #[.int .i64 a0_1] ?_; (with_reducible refine (spec_l5Name.calls a0_1 t57 _ A10.out).mono ?_); rintro e w13 ⟨rfl, hb⟩; refine ⟨_, rfl, ?_⟩; replace BK68 := am (bbl_ BK68.out hb); replace HB := am (below_step ab10_ hb); (try clear hb)) | ((with_reducible refine gate_dst (N := 18) rfl ?_); refine Kd.R_lit Kd.string _ 9 rfl (N := 18) rfl (xs := ([t57] : List ByteArray)) (inner := [.string t57]) (ok := fun _ => True) (okp := fun _ => True) rn_ ?hp (fun _ hk => hk) trivial (Below.refl _ _) (Nat.le_refl _) (by simp) ?_; (case hp => exact (Reps.one (show Kd.M Kd.string _ _ _ t57 [.string t57] from rfl) (Reps.none _ _))); intro v74 w14 ho15 hb hg_ hnew_; clear hg_ hnew_; (first | rw [← Ny73.out] at ho15 | (simp only [Int.reduceToNat] at ho15; rw [← Ny73.out] at ho15)); have HO75 := am (Kd.R_lower ho15 (below_size ab10_)); replace BK68 := am (bbl_ BK68.out hb); replace HB := am (below_step ab10_ hb); clear hb ho15))
  go_ret
  exact ⟨_, ab16_, aRw_ HO75.out, ab10_⟩
 rw [if_neg c9] at H
 have c9b0 : (a0_0 == 13) = false := beq_eq_false_iff_ne.mpr c9
 have c9b1 : (a0_0 != 13) = true := bne_iff_ne.mpr c9
 obtain ⟨t58, A69, H⟩ := bsm H
 (try dsimp only at H)
 have A16 := am A69
 clear A69
 by_cases c17 : 0 < (l0_2.length : Int)
 ·rw [if_pos c17] at H
  have c17b0 : decide (0 < (l0_2.length : Int)) = true := decide_eq_true c17
  have c17b1 : decide (0 < l0_2.length) = true := decide_eq_true (by omega)
  clear c17
  obtain ⟨t59, A76, H⟩ := bsm H
  (try dsimp only at H)
  have A18 := am A76
  clear A76
  obtain ⟨t60, A77, H⟩ := bsm H
  (try dsimp only at H)
  have A19 := am A77
  clear A77
  obtain ⟨t61, A78, H⟩ := bsm H
  (try dsimp only at H)
  have A20 := am A78
  clear A78
  obtain ⟨t62, A79, H⟩ := bsm H
  (try dsimp only at H)
  have A21 := am A79
  clear A79
  by_cases c22 : t61.length < 8796093022208
  ·rw [if_pos c22] at H
   have LMc22 := am c22
   clear c22
   obtain ⟨y63, hy_⟩ : ∃ y_ : List ByteArray, y_ = (t61 ++ [t62]) := ⟨_, rfl⟩
   replace H : (if 1 < (l0_2.length : Int) then ((spec_l5Tokens.f k ((rd_T29 l0_2 1).f0) ((rd_T29 l0_2 1).f1) ((rd_T29 l0_2 1).f2)).bind fun t65 => ((spec_l5Level.f ((rd_T29 l0_2 1).f0) ((rd_T29 l0_2 1).f1) ((rd_T29 l0_2 1).f2)).bind fun t66 => ((spec_l5Wrap.f t65 (decide (t66 ≤ t58))).bind fun t67 => (if y63.length + t67.length < 8796093022208 then (some (y63 ++ t67)) else (none))))) else (none)) = some r := rx_
   have Ny63 := am hy_
   clear hy_
   by_cases c23 : 1 < (l0_2.length : Int)
   ·rw [if_pos c23] at H
    have c23b0 : decide (1 < (l0_2.length : Int)) = true := decide_eq_true c23
    have c23b1 : decide (1 < l0_2.length) = true := decide_eq_true (by omega)
    clear c23
    obtain ⟨t65, A24, H⟩ := bsa H
    (try dsimp only at H)
    obtain ⟨t66, A81, H⟩ := bsm H
    (try dsimp only at H)
    have A25 := am A81
    clear A81
    obtain ⟨t67, A82, H⟩ := bsm H
    (try dsimp only at H)
    have A26 := am A82
    clear A82
    by_cases c27 : y63.length + t67.length < 8796093022208
    ·rw [if_pos c27] at H
     have LMc27 := am c27
     clear c27
     obtain ⟨y77, hy_⟩ : ∃ y_ : List ByteArray, y_ = (y63 ++ t67) := ⟨_, rfl⟩
     replace H : (some y77) = some r := rx_
     have Ny77 := am hy_
     clear hy_
     obtain rfl := Option.some.inj H
     try go_wp2_with (first | ((with_reducible refine gate_callee (f := 32) rfl ?_); refine gl_ 21 Tryd.func32 #[.int .i64 a0_0] ?_; (with_reducible refine (spec_OpLevel.calls a0_0 t58 _ A16.out).mono ?_); rintro e w30 ⟨rfl, hb⟩; refine ⟨_, rfl, ?_⟩; replace BK68 := am (bbl_ BK68.out hb); replace HB := am (below_step ab10_ hb); (try clear hb)))
     replace BK68 := am (blk_drew BK68.out)
     replace HB := am (below_drew1 HB.out)
     have p83 : 0 ≤ (0 : Int) := (by omega)
     have q83 : 0 < (l0_2.length : Int) := of_decide_eq_true asm_
     obtain ⟨ad83, A83_2, c83_2, e83, hx83_0, hx83_1, hx83_2, hl83_2, hi83_2⟩ := at_T29 HR0_2.out 0 p83 q83
     have hw83_2 := hx83_2
     (try rw [show ((0 : Int)).toNat = 0 from rfl] at hw83_2)
     (try rw [show 0 * 3 = 0 from rfl] at hw83_2)
     (try rw [Addr.add_zero'] at hw83_2)
     have hw83_1 := hx83_1
     (try rw [show ((0 : Int)).toNat = 0 from rfl] at hw83_1)
     (try rw [show 0 * 3 = 0 from rfl] at hw83_1)
     (try rw [Addr.add_zero'] at hw83_1)
     have hw83_0 := hx83_0
     (try rw [show ((0 : Int)).toNat = 0 from rfl] at hw83_0)
     (try rw [show 0 * 3 = 0 from rfl] at hw83_0)
     (try rw [Addr.add_zero'] at hw83_0)
     cases e83
     have qi83 : (0 < l0_2.length) = True := eq_true (by omega)
     (try rw [show ((0 : Int)).toNat = 0 from rfl] at hx83_0)
     (try rw [show 0 * 3 = 0 from rfl] at hx83_0)
     (try rw [Addr.add_zero'] at hx83_0)
     (try rw [show ((0 : Int)).toNat = 0 from rfl] at hx83_1)
     (try rw [show 0 * 3 = 0 from rfl] at hx83_1)
     (try rw [Addr.add_zero'] at hx83_1)
     (try rw [show ((0 : Int)).toNat = 0 from rfl] at hx83_2)
     (try rw [show 0 * 3 = 0 from rfl] at hx83_2)
     (try rw [Addr.add_zero'] at hx83_2)
     replace hx83_0 := (HB.out.cell (World.block_lt_of_cell? w _ hx83_0)).trans hx83_0
     replace hx83_1 := (HB.out.cell (World.block_lt_of_cell? w _ hx83_1)).trans hx83_1
     replace hx83_2 := (HB.out.cell (World.block_lt_of_cell? w _ hx83_2)).trans hx83_2
     have HR83_2 := am hi83_2
     have HC83_2 := am hl83_2
     clear hi83_2 hl83_2
     replace p83 := eq_true p83
     replace q83 := eq_true q83
     have p84 : 0 ≤ (0 : Int) := (by omega)
     have q84 : 0 < (l0_2.length : Int) := of_decide_eq_true asm_
     obtain ⟨ad84, A84_2, c84_2, e84, hx84_0, hx84_1, hx84_2, hl84_2, hi84_2⟩ := at_T29 HR0_2.out 0 p84 q84
     have hw84_2 := hx84_2
     (try rw [show ((0 : Int)).toNat = 0 from rfl] at hw84_2)
     (try rw [show 0 * 3 = 0 from rfl] at hw84_2)
     (try rw [Addr.add_zero'] at hw84_2)
     have hw84_1 := hx84_1
     (try rw [show ((0 : Int)).toNat = 0 from rfl] at hw84_1)
     (try rw [show 0 * 3 = 0 from rfl] at hw84_1)
     (try rw [Addr.add_zero'] at hw84_1)
     have hw84_0 := hx84_0
     (try rw [show ((0 : Int)).toNat = 0 from rfl] at hw84_0)
     (try rw [show 0 * 3 = 0 from rfl] at hw84_0)
     (try rw [Addr.add_zero'] at hw84_0)
     obtain rfl : ad83 = ad84 := (by injection e84)
     have qi84 : (0 < l0_2.length) = True := eq_true (by omega)
     (try rw [show ((0 : Int)).toNat = 0 from rfl] at hx84_0)
     (try rw [show 0 * 3 = 0 from rfl] at hx84_0)
     (try rw [Addr.add_zero'] at hx84_0)
     (try rw [show ((0 : Int)).toNat = 0 from rfl] at hx84_1)
     (try rw [show 0 * 3 = 0 from rfl] at hx84_1)
     (try rw [Addr.add_zero'] at hx84_1)
     (try rw [show ((0 : Int)).toNat = 0 from rfl] at hx84_2)
     (try rw [show 0 * 3 = 0 from rfl] at hx84_2)
     (try rw [Addr.add_zero'] at hx84_2)
     replace hx84_0 := (HB.out.cell (World.block_lt_of_cell? w _ hx84_0)).trans hx84_0
     replace hx84_1 := (HB.out.cell (World.block_lt_of_cell? w _ hx84_1)).trans hx84_1
     replace hx84_2 := (HB.out.cell (World.block_lt_of_cell? w _ hx84_2)).trans hx84_2
     have HR84_2 := am hi84_2
     have HC84_2 := am hl84_2
     clear hi84_2 hl84_2
     replace p84 := eq_true p84
     replace q84 := eq_true q84
     have ea_ := Option.some.inj (hx83_2.symm.trans hx84_2)
     injection ea_ with ea_ en_ ec_
     subst ea_
     subst ec_
     clear en_
     refine start_ (n := 14) (S := fun w' => w'.cell? ⟨gb68, 0, none⟩ = some (.int .i64 a0_0) ∧ w'.cell? ⟨gb68, 1, none⟩ = some (.int .i64 a0_1) ∧ w'.cell? ⟨gb68, 2, none⟩ = some (.slice (some ad83) l0_2.length c0_2) ∧ w'.cell? ad83 = some (.int .i64 ((rd_T29 l0_2 0).f0)) ∧ w'.cell? ⟨ad83.block, ad83.off + 1, none⟩ = some (.int .i64 ((rd_T29 l0_2 0).f1)) ∧ w'.cell? ⟨ad83.block, ad83.off + 2, none⟩ = some (.slice A83_2 ((rd_T29 l0_2 0).f2).length c83_2) ∧ w'.cell? ad83 = some (.int .i64 ((rd_T29 l0_2 0).f0)) ∧ w'.cell? ⟨ad83.block, ad83.off + 1, none⟩ = some (.int .i64 ((rd_T29 l0_2 0).f1)) ∧ w'.cell? ⟨ad83.block, ad83.off + 2, none⟩ = some (.slice A83_2 ((rd_T29 l0_2 0).f2).length c83_2)) (ds := []) (bz 14 0) (by kernel_rfl) rfl rfl ⟨(blk_cell BK68.out 0).trans rfl, (blk_cell BK68.out 1).trans rfl, (blk_cell BK68.out 2).trans rfl, ((HB.out.cell (World.block_lt_of_cell? w _ hw83_0)).trans hw83_0), ((HB.out.cell (World.block_lt_of_cell? w _ hw83_1)).trans hw83_1), ((HB.out.cell (World.block_lt_of_cell? w _ hw83_2)).trans hw83_2), ((HB.out.cell (World.block_lt_of_cell? w _ hw84_0)).trans hw84_0), ((HB.out.cell (World.block_lt_of_cell? w _ hw84_1)).trans hw84_1), ((HB.out.cell (World.block_lt_of_cell? w _ hw84_2)).trans hw84_2)⟩ (fun hHeld => ?_); refine with_tabW spec_l5Tokens.tab6 spec_l5Tokens.bits6 (fun HT_ HW_ => ?_)
     generalize w30.drew = w31 at BK68 HB HR83_2 HR84_2 hx83_0 hx83_1 hx83_2 hx84_0 hx84_1 hx84_2 hHeld ⊢
     refine pr_ 0 22 (bz 14 1) HT_ ?_
     refine pr_ 5 27 (bz 14 33) HT_ ?_
     refine pr_ 10 32 (bz 14 1057) HT_ ?_
     refine tk9_ 1 23 (bz 14 1059) HT_ HW_ hHeld ?_
     refine pr_ 2 24 (bz 14 1063) HT_ ?_
     refine tk9_ 3 25 (bz 14 1071) HT_ HW_ hHeld ?_
     refine tk9_ 6 28 (bz 14 1135) HT_ HW_ hHeld ?_
     refine pr_ 7 29 (bz 14 1263) HT_ ?_
     refine tk9_ 8 30 (bz 14 1519) HT_ HW_ hHeld ?_
     refine one_ (i := 4) (N := some 26) (bz 14 1535) rfl rfl (one_of HT_.out (by kernel_rfl)) (by decide) (fun K hK => ?_)
     refine goes_ Tryd.func18 (by kernel_rfl) rfl #[.agg #[.int .i64 ((rd_T29 l0_2 0).f0), .int .i64 ((rd_T29 l0_2 0).f1), .slice A83_2 ((rd_T29 l0_2 0).f2).length c83_2]] (by rfl) rfl rfl ab1_ ?_
     with_reducible refine (ih k (by omega) ((rd_T29 l0_2 0).f0) ((rd_T29 l0_2 0).f1) _ _ ((rd_T29 l0_2 0).f2) t59 _ (aC_ (Kd.C_below HR83_2.out HB.out)) HC83_2.out A18.out).mono ?_
     rintro e w32 ⟨v85, rfl, ho0, hb⟩
     refine ⟨_, rfl, ?_⟩
     have HO86 := am (Kd.R_lower ho0 (below_size ab10_))
     replace BK68 := am (bbl_ BK68.out hb)
     replace HB := am (below_step ab10_ hb)
     (try clear hb)
     (try clear hb2)
     (try clear hk)
     (try clear hi)
     (try clear ho0)
     refine hK.out _ _ ⟨(blk_cell BK68.out 0).trans rfl, (blk_cell BK68.out 1).trans rfl, (blk_cell BK68.out 2).trans rfl, ((HB.out.cell (World.block_lt_of_cell? w _ hw83_0)).trans hw83_0), ((HB.out.cell (World.block_lt_of_cell? w _ hw83_1)).trans hw83_1), ((HB.out.cell (World.block_lt_of_cell? w _ hw83_2)).trans hw83_2), ((HB.out.cell (World.block_lt_of_cell? w _ hw84_0)).trans hw84_0), ((HB.out.cell (World.block_lt_of_cell? w _ hw84_1)).trans hw84_1), ((HB.out.cell (World.block_lt_of_cell? w _ hw84_2)).trans hw84_2)⟩ (fun hHeld => ?_)
     clear hK K
     refine norm_ (a' := ?_) ?_ ?_
     rotate_left
     ·show Act.put _ (some 26) _ = _
      simp only [Act.put, List.setIfInBounds_toArray, List.set_cons_zero, List.set_cons_succ, i64_w, i32_w]
      rfl
     refine one_ (i := 9) (N := some 31) (bz 14 2047) rfl rfl (one_of HT_.out (by kernel_rfl)) (by decide) (fun K hK => ?_)
     refine goes_ Tryd.func34 (by kernel_rfl) rfl #[.agg #[.int .i64 ((rd_T29 l0_2 0).f0), .int .i64 ((rd_T29 l0_2 0).f1), .slice A83_2 ((rd_T29 l0_2 0).f2).length c83_2]] (by rfl) rfl rfl ab1_ ?_
     with_reducible refine (spec_l5Level.calls ((rd_T29 l0_2 0).f0) ((rd_T29 l0_2 0).f1) _ _ ((rd_T29 l0_2 0).f2) t60 _ (aC_ (Kd.C_below HR84_2.out HB.out)) HC84_2.out A19.out).mono ?_
     rintro e w33 ⟨rfl, hb⟩
     refine ⟨_, rfl, ?_⟩
     replace HO86 := am (Kd.R_below (aR_ HO86.out) hb)
     replace BK68 := am (bbl_ BK68.out hb)
     replace HB := am (below_step ab10_ hb)
     (try clear hb)
     (try clear hb2)
     (try clear hk)
     (try clear hi)
     obtain ⟨Ao34, co34, eo34⟩ := Kd.R_slice HO86.out
     (first | subst eo34 | (injection eo34 with f1_ f2_ f3_; have f4_ := f1_.symm; have f5_ := f3_.symm; clear f1_ f2_ f3_; subst f4_; subst f5_))
     refine hK.out _ _ ⟨(blk_cell BK68.out 0).trans rfl, (blk_cell BK68.out 1).trans rfl, (blk_cell BK68.out 2).trans rfl, ((HB.out.cell (World.block_lt_of_cell? w _ hw83_0)).trans hw83_0), ((HB.out.cell (World.block_lt_of_cell? w _ hw83_1)).trans hw83_1), ((HB.out.cell (World.block_lt_of_cell? w _ hw83_2)).trans hw83_2), ((HB.out.cell (World.block_lt_of_cell? w _ hw84_0)).trans hw84_0), ((HB.out.cell (World.block_lt_of_cell? w _ hw84_1)).trans hw84_1), ((HB.out.cell (World.block_lt_of_cell? w _ hw84_2)).trans hw84_2)⟩ (fun hHeld => ?_)
     clear hK K
     refine norm_ (a' := ?_) ?_ ?_
     rotate_left
     ·show Act.put _ (some 31) _ = _
      simp only [Act.put, List.setIfInBounds_toArray, List.set_cons_zero, List.set_cons_succ, i64_w, i32_w]
      rfl
     refine pr_ 11 33 (bz 14 4095) HT_ ?_
     refine one_ (i := 12) (N := some 34) (bz 14 8191) rfl rfl (one_of HT_.out (by kernel_rfl)) (by decide) (fun K hK => ?_)
     refine goes_ Tryd.func33 (by kernel_rfl) rfl #[.slice Ao34 t59.length co34, .bool (decide (t60 < t58))] (by rfl) rfl rfl ab1_ ?_
     with_reducible refine (spec_l5Wrap.calls (fun k_ => some k_ = (.slice Ao34 t59.length co34 : Value).ownBlock) (.slice Ao34 t59.length co34) t59 (decide (t60 < t58)) t61 w _ ?side1 ?side2 A20.out).mono ?_
     (case side1 => exact ab10_)
     (case side2 => exact Kd.R_tight rfl HO86.out)
     rintro e w35 ⟨v87, rfl, ho0, hb, hkp⟩
     refine ⟨_, rfl, ?_⟩
     replace BK68 := am (blk_kept (aG_ BK68.out) hkp (fun hs_ => (fun e_ => (Kd.R_ne HO86.out BK68.out (by decide)) e_) hs_))
     have HO88 := am (Kd.R_mono (ok' := fun k_ => True) ho0 (fun k_ hk_ => trivial))
     replace HB := am (hb)
     clear HO86
     (try clear hb)
     (try clear hkp)
     (try clear ho0)
     refine hK.out _ _ ⟨(blk_cell BK68.out 0).trans rfl, (blk_cell BK68.out 1).trans rfl, (blk_cell BK68.out 2).trans rfl, ((HB.out.cell (World.block_lt_of_cell? w _ hw83_0)).trans hw83_0), ((HB.out.cell (World.block_lt_of_cell? w _ hw83_1)).trans hw83_1), ((HB.out.cell (World.block_lt_of_cell? w _ hw83_2)).trans hw83_2), ((HB.out.cell (World.block_lt_of_cell? w _ hw84_0)).trans hw84_0), ((HB.out.cell (World.block_lt_of_cell? w _ hw84_1)).trans hw84_1), ((HB.out.cell (World.block_lt_of_cell? w _ hw84_2)).trans hw84_2)⟩ (fun hHeld => ?_)
     clear hK K
     refine norm_ (a' := ?_) ?_ ?_
     rotate_left
     ·show Act.put _ (some 34) _ = _
      simp only [Act.put, List.setIfInBounds_toArray, List.set_cons_zero, List.set_cons_succ, i64_w, i32_w]
      rfl
     refine pr_ 13 4 (bz 14 16383) HT_ ?_
     refine done_ (done_of HT_.out (by kernel_rfl)) ?_
     obtain ⟨hcz36_0, hcz36_1, hcz36_2, hfz36_0, hfz36_1, hfz36_2⟩ := bcf3_ BK68.out
     try go_wp2_with (first | ((with_reducible refine gate_callee (f := 35) rfl ?_); refine gl_ 38 Tryd.func35 #[.int .i64 a0_0] ?_; (with_reducible refine (spec_OpText.calls a0_0 t62 _ A21.out).mono ?_); rintro e w37 ⟨rfl, hb⟩; refine ⟨_, rfl, ?_⟩; replace HO88 := am (Kd.R_below (aR_ HO88.out) hb); replace BK68 := am (bbl_ BK68.out hb); replace HB := am (below_step ab10_ hb); (try clear hb)) | ((with_reducible refine gate_builtin (b := .append) (xs := #[.tmp 35, .tmp 39]) rfl ?_); at_builtin; refine Kd.R_append Kd.string (w0 := w) w.heap.size rfl (.tmp 35) (.tmp 39) 37 9 (.string ⟨#[]⟩) 16 rfl Tryd.underlying37 info9 rfl (by decide) (by omega) v87 t61 t62 [.string t62] (fun _ => True) (fun _ => False) rfl rfl ?aP (fun _ hk => hk.elim) ?aF ?aO ?aB ?aS ?aL ?_; (case aP => exact rfl); (case aB => exact ab10_); (case aF => exact (fun _ _ => trivial)); (case aO => exact (aR_ HO88.out)); (case aS => exact (below_size ab10_)); (case aL => have := LMc22.out; omega); intro v89 w38 ho hb hg hat; rw [← Ny63.out] at ho; replace BK68 := am (blk_grown (g := gb68) (o := .cells #[.int .i64 a0_0, .int .i64 a0_1, .slice (some ad83) l0_2.length c0_2] 29 (0, 0)) (aG_ BK68.out) hg (Kd.R_ne HO88.out BK68.out (by decide))); replace HB := am (hb); have HO76 := am (ho); clear HO88 ho hb hg hat))
     replace HO76 := am (Kd.R_drew HO76.out)
     replace BK68 := am (blk_drew BK68.out)
     replace HB := am (below_drew1 HB.out)
     have p90 : 0 ≤ (1 : Int) := (by omega)
     have q90 : 1 < (l0_2.length : Int) := of_decide_eq_true asm_
     obtain ⟨ad90, A90_2, c90_2, e90, hx90_0, hx90_1, hx90_2, hl90_2, hi90_2⟩ := at_T29 HR0_2.out 1 p90 q90
     have hw90_2 := hx90_2
     (try rw [show ((1 : Int)).toNat = 1 from rfl] at hw90_2)
     (try rw [show 1 * 3 = 3 from rfl] at hw90_2)
     (try simp only [Nat.reduceMul, Nat.reduceEqDiff, Go.Addr.add, ↓reduceIte] at hw90_2)
     have hw90_1 := hx90_1
     (try rw [show ((1 : Int)).toNat = 1 from rfl] at hw90_1)
     (try rw [show 1 * 3 = 3 from rfl] at hw90_1)
     (try simp only [Nat.reduceMul, Nat.reduceEqDiff, Go.Addr.add, ↓reduceIte] at hw90_1)
     have hw90_0 := hx90_0
     (try rw [show ((1 : Int)).toNat = 1 from rfl] at hw90_0)
     (try rw [show 1 * 3 = 3 from rfl] at hw90_0)
     (try simp only [Nat.reduceMul, Nat.reduceEqDiff, Go.Addr.add, ↓reduceIte] at hw90_0)
     obtain rfl : ad83 = ad90 := (by injection e90)
     (try simp only [show (1 : Int).toNat = 1 from rfl, Nat.reduceMul, Nat.reduceEqDiff, Go.Addr.add, ↓reduceIte] at hx90_0)
     (try simp only [show (1 : Int).toNat = 1 from rfl, Nat.reduceMul, Nat.reduceEqDiff, Go.Addr.add, ↓reduceIte] at hx90_1)
     (try simp only [show (1 : Int).toNat = 1 from rfl, Nat.reduceMul, Nat.reduceEqDiff, Go.Addr.add, ↓reduceIte] at hx90_2)
     have qi90 : (1 < l0_2.length) = True := eq_true (by omega)
     (try rw [show ((1 : Int)).toNat = 1 from rfl] at hx90_0)
     (try rw [show 1 * 3 = 3 from rfl] at hx90_0)
     (try rw [show ((1 : Int)).toNat = 1 from rfl] at hx90_1)
     (try rw [show 1 * 3 = 3 from rfl] at hx90_1)
     (try rw [show ((1 : Int)).toNat = 1 from rfl] at hx90_2)
     (try rw [show 1 * 3 = 3 from rfl] at hx90_2)
     replace hx90_0 := (HB.out.cell (World.block_lt_of_cell? w _ hx90_0)).trans hx90_0
     replace hx90_1 := (HB.out.cell (World.block_lt_of_cell? w _ hx90_1)).trans hx90_1
     replace hx90_2 := (HB.out.cell (World.block_lt_of_cell? w _ hx90_2)).trans hx90_2
     have HR90_2 := am hi90_2
     have HC90_2 := am hl90_2
     clear hi90_2 hl90_2
     replace p90 := eq_true p90
     replace q90 := eq_true q90
     have p91 : 0 ≤ (1 : Int) := (by omega)
     have q91 : 1 < (l0_2.length : Int) := of_decide_eq_true asm_
     obtain ⟨ad91, A91_2, c91_2, e91, hx91_0, hx91_1, hx91_2, hl91_2, hi91_2⟩ := at_T29 HR0_2.out 1 p91 q91
     have hw91_2 := hx91_2
     (try rw [show ((1 : Int)).toNat = 1 from rfl] at hw91_2)
     (try rw [show 1 * 3 = 3 from rfl] at hw91_2)
     (try simp only [Nat.reduceMul, Nat.reduceEqDiff, Go.Addr.add, ↓reduceIte] at hw91_2)
     have hw91_1 := hx91_1
     (try rw [show ((1 : Int)).toNat = 1 from rfl] at hw91_1)
     (try rw [show 1 * 3 = 3 from rfl] at hw91_1)
     (try simp only [Nat.reduceMul, Nat.reduceEqDiff, Go.Addr.add, ↓reduceIte] at hw91_1)
     have hw91_0 := hx91_0
     (try rw [show ((1 : Int)).toNat = 1 from rfl] at hw91_0)
     (try rw [show 1 * 3 = 3 from rfl] at hw91_0)
     (try simp only [Nat.reduceMul, Nat.reduceEqDiff, Go.Addr.add, ↓reduceIte] at hw91_0)
     obtain rfl : ad83 = ad91 := (by injection e91)
     (try simp only [show (1 : Int).toNat = 1 from rfl, Nat.reduceMul, Nat.reduceEqDiff, Go.Addr.add, ↓reduceIte] at hx91_0)
     (try simp only [show (1 : Int).toNat = 1 from rfl, Nat.reduceMul, Nat.reduceEqDiff, Go.Addr.add, ↓reduceIte] at hx91_1)
     (try simp only [show (1 : Int).toNat = 1 from rfl, Nat.reduceMul, Nat.reduceEqDiff, Go.Addr.add, ↓reduceIte] at hx91_2)
     have qi91 : (1 < l0_2.length) = True := eq_true (by omega)
     (try rw [show ((1 : Int)).toNat = 1 from rfl] at hx91_0)
     (try rw [show 1 * 3 = 3 from rfl] at hx91_0)
     (try rw [show ((1 : Int)).toNat = 1 from rfl] at hx91_1)
     (try rw [show 1 * 3 = 3 from rfl] at hx91_1)
     (try rw [show ((1 : Int)).toNat = 1 from rfl] at hx91_2)
     (try rw [show 1 * 3 = 3 from rfl] at hx91_2)
     replace hx91_0 := (HB.out.cell (World.block_lt_of_cell? w _ hx91_0)).trans hx91_0
     replace hx91_1 := (HB.out.cell (World.block_lt_of_cell? w _ hx91_1)).trans hx91_1
     replace hx91_2 := (HB.out.cell (World.block_lt_of_cell? w _ hx91_2)).trans hx91_2
     have HR91_2 := am hi91_2
     have HC91_2 := am hl91_2
     clear hi91_2 hl91_2
     replace p91 := eq_true p91
     replace q91 := eq_true q91
     have ea_ := Option.some.inj (hx90_2.symm.trans hx91_2)
     injection ea_ with ea_ en_ ec_
     subst ea_
     subst ec_
     clear en_
     refine start_ (n := 16) (S := fun w' => w'.cell? ⟨gb68, 0, none⟩ = some (.int .i64 a0_0) ∧ w'.cell? ⟨gb68, 1, none⟩ = some (.int .i64 a0_1) ∧ w'.cell? ⟨gb68, 2, none⟩ = some (.slice (some ad83) l0_2.length c0_2) ∧ w'.cell? ⟨ad83.block, ad83.off + 3, none⟩ = some (.int .i64 ((rd_T29 l0_2 1).f0)) ∧ w'.cell? ⟨ad83.block, ad83.off + 3 + 1, none⟩ = some (.int .i64 ((rd_T29 l0_2 1).f1)) ∧ w'.cell? ⟨ad83.block, ad83.off + 3 + 2, none⟩ = some (.slice A90_2 ((rd_T29 l0_2 1).f2).length c90_2) ∧ w'.cell? ⟨ad83.block, ad83.off + 3, none⟩ = some (.int .i64 ((rd_T29 l0_2 1).f0)) ∧ w'.cell? ⟨ad83.block, ad83.off + 3 + 1, none⟩ = some (.int .i64 ((rd_T29 l0_2 1).f1)) ∧ w'.cell? ⟨ad83.block, ad83.off + 3 + 2, none⟩ = some (.slice A90_2 ((rd_T29 l0_2 1).f2).length c90_2)) (ds := []) (bz 16 0) (by kernel_rfl) rfl rfl ⟨(blk_cell BK68.out 0).trans rfl, (blk_cell BK68.out 1).trans rfl, (blk_cell BK68.out 2).trans rfl, ((HB.out.cell (World.block_lt_of_cell? w _ hw90_0)).trans hw90_0), ((HB.out.cell (World.block_lt_of_cell? w _ hw90_1)).trans hw90_1), ((HB.out.cell (World.block_lt_of_cell? w _ hw90_2)).trans hw90_2), ((HB.out.cell (World.block_lt_of_cell? w _ hw91_0)).trans hw91_0), ((HB.out.cell (World.block_lt_of_cell? w _ hw91_1)).trans hw91_1), ((HB.out.cell (World.block_lt_of_cell? w _ hw91_2)).trans hw91_2)⟩ (fun hHeld => ?_); refine with_tabW spec_l5Tokens.tab8 spec_l5Tokens.bits8 (fun HT_ HW_ => ?_)
     generalize w38.drew = w39 at HO76 BK68 HB HR90_2 HR91_2 hx90_0 hx90_1 hx90_2 hx91_0 hx91_1 hx91_2 hHeld ⊢
     refine pr_ 0 41 (bz 16 1) HT_ ?_
     refine pr_ 1 42 (bz 16 3) HT_ ?_
     refine pr_ 6 47 (bz 16 67) HT_ ?_
     refine pr_ 11 52 (bz 16 2115) HT_ ?_
     refine tk9_ 2 43 (bz 16 2119) HT_ HW_ hHeld ?_
     refine pr_ 3 44 (bz 16 2127) HT_ ?_
     refine tk9_ 4 45 (bz 16 2143) HT_ HW_ hHeld ?_
     refine tk9_ 7 48 (bz 16 2271) HT_ HW_ hHeld ?_
     refine pr_ 8 49 (bz 16 2527) HT_ ?_
     refine tk9_ 9 50 (bz 16 3039) HT_ HW_ hHeld ?_
     refine one_ (i := 5) (N := some 46) (bz 16 3071) rfl rfl (one_of HT_.out (by kernel_rfl)) (by decide) (fun K hK => ?_)
     refine goes_ Tryd.func18 (by kernel_rfl) rfl #[.agg #[.int .i64 ((rd_T29 l0_2 1).f0), .int .i64 ((rd_T29 l0_2 1).f1), .slice A90_2 ((rd_T29 l0_2 1).f2).length c90_2]] (by rfl) rfl rfl ab1_ ?_
     with_reducible refine (ih k (by omega) ((rd_T29 l0_2 1).f0) ((rd_T29 l0_2 1).f1) _ _ ((rd_T29 l0_2 1).f2) t65 _ (aC_ (Kd.C_below HR90_2.out HB.out)) HC90_2.out A24.out).mono ?_
     rintro e w40 ⟨v92, rfl, ho0, hb⟩
     refine ⟨_, rfl, ?_⟩
     have HO93 := am (Kd.R_lower (Kd.R_new' ho0 (Kd.R_lt (aR_ HO76.out))) (below_size ab10_))
     replace HO76 := am (Kd.R_elder' (aR_ HO76.out) (Kd.R_base ho0) hb)
     replace BK68 := am (bbl_ BK68.out hb)
     replace HB := am (below_step ab10_ hb)
     (try clear hb)
     (try clear hb2)
     (try clear hk)
     (try clear hi)
     (try clear ho0)
     refine hK.out _ _ ⟨(blk_cell BK68.out 0).trans rfl, (blk_cell BK68.out 1).trans rfl, (blk_cell BK68.out 2).trans rfl, ((HB.out.cell (World.block_lt_of_cell? w _ hw90_0)).trans hw90_0), ((HB.out.cell (World.block_lt_of_cell? w _ hw90_1)).trans hw90_1), ((HB.out.cell (World.block_lt_of_cell? w _ hw90_2)).trans hw90_2), ((HB.out.cell (World.block_lt_of_cell? w _ hw91_0)).trans hw91_0), ((HB.out.cell (World.block_lt_of_cell? w _ hw91_1)).trans hw91_1), ((HB.out.cell (World.block_lt_of_cell? w _ hw91_2)).trans hw91_2)⟩ (fun hHeld => ?_)
     clear hK K
     refine norm_ (a' := ?_) ?_ ?_
     rotate_left
     ·show Act.put _ (some 46) _ = _
      simp only [Act.put, List.setIfInBounds_toArray, List.set_cons_zero, List.set_cons_succ, i64_w, i32_w]
      rfl
     refine one_ (i := 10) (N := some 51) (bz 16 4095) rfl rfl (one_of HT_.out (by kernel_rfl)) (by decide) (fun K hK => ?_)
     refine goes_ Tryd.func34 (by kernel_rfl) rfl #[.agg #[.int .i64 ((rd_T29 l0_2 1).f0), .int .i64 ((rd_T29 l0_2 1).f1), .slice A90_2 ((rd_T29 l0_2 1).f2).length c90_2]] (by rfl) rfl rfl ab1_ ?_
     with_reducible refine (spec_l5Level.calls ((rd_T29 l0_2 1).f0) ((rd_T29 l0_2 1).f1) _ _ ((rd_T29 l0_2 1).f2) t66 _ (aC_ (Kd.C_below HR91_2.out HB.out)) HC91_2.out A25.out).mono ?_
     rintro e w41 ⟨rfl, hb⟩
     refine ⟨_, rfl, ?_⟩
     replace HO76 := am (Kd.R_below (aR_ HO76.out) hb)
     replace HO93 := am (Kd.R_below (aR_ HO93.out) hb)
     replace BK68 := am (bbl_ BK68.out hb)
     replace HB := am (below_step ab10_ hb)
     (try clear hb)
     (try clear hb2)
     (try clear hk)
     (try clear hi)
     obtain ⟨Ao42, co42, eo42⟩ := Kd.R_slice HO93.out
     (first | subst eo42 | (injection eo42 with f1_ f2_ f3_; have f4_ := f1_.symm; have f5_ := f3_.symm; clear f1_ f2_ f3_; subst f4_; subst f5_))
     refine hK.out _ _ ⟨(blk_cell BK68.out 0).trans rfl, (blk_cell BK68.out 1).trans rfl, (blk_cell BK68.out 2).trans rfl, ((HB.out.cell (World.block_lt_of_cell? w _ hw90_0)).trans hw90_0), ((HB.out.cell (World.block_lt_of_cell? w _ hw90_1)).trans hw90_1), ((HB.out.cell (World.block_lt_of_cell? w _ hw90_2)).trans hw90_2), ((HB.out.cell (World.block_lt_of_cell? w _ hw91_0)).trans hw91_0), ((HB.out.cell (World.block_lt_of_cell? w _ hw91_1)).trans hw91_1), ((HB.out.cell (World.block_lt_of_cell? w _ hw91_2)).trans hw91_2)⟩ (fun hHeld => ?_)
     clear hK K
     refine norm_ (a' := ?_) ?_ ?_
     rotate_left
     ·show Act.put _ (some 51) _ = _
      simp only [Act.put, List.setIfInBounds_toArray, List.set_cons_zero, List.set_cons_succ, i64_w, i32_w]
      rfl
     refine pr_ 12 53 (bz 16 8191) HT_ ?_
     refine one_ (i := 13) (N := some 54) (bz 16 16383) rfl rfl (one_of HT_.out (by kernel_rfl)) (by decide) (fun K hK => ?_)
     refine goes_ Tryd.func33 (by kernel_rfl) rfl #[.slice Ao42 t65.length co42, .bool (decide (t66 ≤ t58))] (by rfl) rfl rfl ab1_ ?_
     with_reducible refine (spec_l5Wrap.calls (fun k_ => some k_ = (.slice Ao42 t65.length co42 : Value).ownBlock) (.slice Ao42 t65.length co42) t65 (decide (t66 ≤ t58)) t67 w _ ?side1 ?side2 A26.out).mono ?_
     (case side1 => exact ab10_)
     (case side2 => exact Kd.R_tight rfl HO93.out)
     rintro e w43 ⟨v94, rfl, ho0, hb, hkp⟩
     refine ⟨_, rfl, ?_⟩
     replace BK68 := am (blk_kept (aG_ BK68.out) hkp (fun hs_ => (fun e_ => (Kd.R_ne HO93.out BK68.out (by decide)) e_) hs_))
     have HO95 := am (Kd.R_mono (ok' := fun k_ => some k_ ≠ (v89 : Value).ownBlock) ho0 (fun k_ hk_ => Or.elim hk_ (fun hs_ => fun e_ => (((HO76.out).1 k_ e_.symm).2) hs_) (fun hn_ => (Kd.fresh' (Kd.R_lt (aR_ HO76.out)) k_ hn_))))
     replace HO76 := am (Kd.R_mono (ok' := fun k_ => some k_ ≠ (v94 : Value).ownBlock) (Kd.R_keptB (HO76.out) hkp (fun k_ hk_ hs_ => (hk_.2) hs_)) (fun k_ hk_ => fun e_ => Or.elim (ho0.1 k_ e_.symm) (fun hs_ => hk_.2.1 hs_) (fun hn_ => Nat.not_le.2 hk_.2.2 hn_)))
     replace HB := am (hb)
     clear HO93
     (try clear hb)
     (try clear hkp)
     (try clear ho0)
     obtain ⟨Ao45, co45, eo45⟩ := Kd.R_slice HO95.out
     (first | subst eo45 | (injection eo45 with f1_ f2_ f3_; have f4_ := f1_.symm; have f5_ := f3_.symm; clear f1_ f2_ f3_; subst f4_; subst f5_))
     refine hK.out _ _ ⟨(blk_cell BK68.out 0).trans rfl, (blk_cell BK68.out 1).trans rfl, (blk_cell BK68.out 2).trans rfl, ((HB.out.cell (World.block_lt_of_cell? w _ hw90_0)).trans hw90_0), ((HB.out.cell (World.block_lt_of_cell? w _ hw90_1)).trans hw90_1), ((HB.out.cell (World.block_lt_of_cell? w _ hw90_2)).trans hw90_2), ((HB.out.cell (World.block_lt_of_cell? w _ hw91_0)).trans hw91_0), ((HB.out.cell (World.block_lt_of_cell? w _ hw91_1)).trans hw91_1), ((HB.out.cell (World.block_lt_of_cell? w _ hw91_2)).trans hw91_2)⟩ (fun hHeld => ?_)
     clear hK K
     refine norm_ (a' := ?_) ?_ ?_
     rotate_left
     ·show Act.put _ (some 54) _ = _
      simp only [Act.put, List.setIfInBounds_toArray, List.set_cons_zero, List.set_cons_succ, i64_w, i32_w]
      rfl
     refine one_ (i := 14) (N := some 55) (bz 16 32767) rfl rfl (one_of HT_.out (by kernel_rfl)) (by decide) (fun K hK => ?_)
     refine Kd.R_append_rows_step Kd.string (w0 := w) w.heap.size (by rfl) (.tmp 41) (.tmp 54) 37 9 (.string ⟨#[]⟩) 16 rfl Tryd.underlying37 info9 rfl (by decide) (by omega) v89 y63 t67 _ _ _ (fun k_ => some k_ ≠ (.slice Ao45 t67.length co45 : Value).ownBlock) (fun _ => False) rfl rfl ?aO ?aR (fun _ _ h => h) (fun _ h => h.elim) ?aF ?aB ?aS ?aL ?_
     (case aR => repeat (first | exact (Kd.R_reads' HO95.out).2.2 | (with_reducible refine Kd.C_alloc ?_ _) | (with_reducible refine Kd.C_drewN ?_ _) | (with_reducible refine Kd.C_drew ?_)))
     (case aB => exact ab10_)
     (case aF => exact (fun k_ hk => Kd.fresh' (Kd.R_lt (aR_ HO95.out)) k_ hk))
     (case aO => exact (aR_ HO76.out))
     (case aS => exact (below_size ab10_))
     (case aL => have := LMc27.out; omega)
     intro v97 w44 ho hb hg hat
     rw [← Ny77.out] at ho
     replace BK68 := am (blk_grown (g := gb68) (o := .cells #[.int .i64 a0_0, .int .i64 a0_1, .slice (some ad83) l0_2.length c0_2] 29 (0, 0)) (aG_ BK68.out) hg (Kd.R_ne HO76.out BK68.out (by decide)))
     replace HO95 := am (Kd.R_after (ok := (fun _ => True)) (aRw_ (Kd.R_mono HO95.out (fun _ hk => ⟨trivial, hk⟩))) hg hat)
     replace HB := am (hb)
     have HO98 := am (ho)
     clear HO76
     clear ho hb hg hat
     refine hK.out _ _ ⟨(blk_cell BK68.out 0).trans rfl, (blk_cell BK68.out 1).trans rfl, (blk_cell BK68.out 2).trans rfl, ((HB.out.cell (World.block_lt_of_cell? w _ hw90_0)).trans hw90_0), ((HB.out.cell (World.block_lt_of_cell? w _ hw90_1)).trans hw90_1), ((HB.out.cell (World.block_lt_of_cell? w _ hw90_2)).trans hw90_2), ((HB.out.cell (World.block_lt_of_cell? w _ hw91_0)).trans hw91_0), ((HB.out.cell (World.block_lt_of_cell? w _ hw91_1)).trans hw91_1), ((HB.out.cell (World.block_lt_of_cell? w _ hw91_2)).trans hw91_2)⟩ (fun hHeld => ?_)
     clear hK K
     refine norm_ (a' := ?_) ?_ ?_
     rotate_left
     ·show Act.put _ (some 55) _ = _
      simp only [Act.put, List.setIfInBounds_toArray, List.set_cons_zero, List.set_cons_succ, i64_w, i32_w]
      rfl
     refine pr_ 15 2 (bz 16 65535) HT_ ?_
     refine done_ (done_of HT_.out (by kernel_rfl)) ?_
     try go_wp2
     go_ret
     exact ⟨_, ab16_, aRw_ (Kd.R_mono HO98.out (fun _ hk => trivial)), ab10_⟩
    rw [if_neg c27] at H
    exact absurd H (by simp)
   rw [if_neg c23] at H
   exact absurd H (by simp)
  rw [if_neg c22] at H
  exact absurd H (by simp)
 rw [if_neg c17] at H
 exact absurd H (by simp)
theorem spec_ExprText.mono : ∀ a0 a1 a2 k, LeO (spec_ExprText.f k a0 a1 a2) (spec_ExprText.f (k + 1) a0 a1 a2) := by
 intro a0 a1 a2 k
 unfold spec_ExprText.f
 have m0 := @spec_ExprValid.mono
 have m1 := @spec_TokensText.mono
 have m2 := @spec_l5Tokens.mono
 exact mo_
theorem spec_ExprText.calls (k : Nat) (a0_0 : Int) (a0_1 : Int) (A0_2 : Option Addr) (c0_2 : Nat) (l0_2 : List (S29)) (r : ByteArray) (w : World) (hr0_2 : Kd.C k29 w A0_2 l0_2.length l0_2) (hc0_2 : l0_2.length ≤ c0_2) (h : spec_ExprText.f k a0_0 a0_1 l0_2 = some r) :
  Calls Tryd.prog 7 #[.agg #[.int .i64 a0_0, .int .i64 a0_1, .slice A0_2 l0_2.length c0_2]] w fun e w' => e = .returned (.string r) ∧ Below w.heap.size w w' := by
 have hu29 := Tryd.underlying29
 have HR0_2 := am hr0_2
 have HC0_2 := am hc0_2
 clear hr0_2 hc0_2
 have HB := am (Below.refl w.heap.size w)
 have H : ((spec_ExprValid.f k a0_0 a0_1 l0_2).bind fun t21 => (if t21 = true then ((spec_l5Tokens.f k a0_0 a0_1 l0_2).bind fun t22 => ((spec_TokensText.f k t22).bind fun t23 => (some t23))) else (some (⟨#[]⟩ : ByteArray)))) = some r := h
 clear h
 obtain ⟨t21, A2, H⟩ := bsa H
 (try dsimp only at H)
 have HH_ := am H
 clear H
 go_enter Tryd.func7, Tryd.ntmps7
 go_upto_region 1 with (first | ((with_reducible refine gate_dst (N := 1) rfl ?_); refine box_event rfl (N := 1) rfl (cs := #[.int .i64 a0_0, .int .i64 a0_1, .slice A0_2 l0_2.length c0_2]) (t := 29) rn_ ?_; intro gb24 hg w6 hbox hb; have BK24 := am (hbox); have GW24 := am ((by rw [hg]; exact (below_size ab2_) : w.heap.size ≤ gb24)); have GE24 := am ((by rw [hg]; exact (below_size ab2_) : w.heap.size ≤ gb24)); replace HB := am (below_step ab2_ hb); clear hb hbox hg; obtain ⟨hcz7_0, hcz7_1, hcz7_2, hfz7_0, hfz7_1, hfz7_2⟩ := bcf3_ BK24.out))
 have H := HH_.out
 clear HH_
 by_cases c3 : t21 = true
 ·subst c3
  rw [if_pos rfl] at H
  obtain ⟨t22, A4, H⟩ := bsa H
  (try dsimp only at H)
  obtain ⟨t23, A5, H⟩ := bsa H
  (try dsimp only at H)
  obtain rfl := Option.some.inj H
  go_wp2_with (first | ((with_reducible refine gate_callee (f := 16) rfl ?_); refine gl_ 4 Tryd.func16 #[.agg #[.int .i64 a0_0, .int .i64 a0_1, .slice A0_2 l0_2.length c0_2]] ?_; (with_reducible refine (spec_ExprValid.calls k a0_0 a0_1 _ _ l0_2 true _ (aC_ (Kd.C_below HR0_2.out HB.out)) HC0_2.out A2.out).mono ?_); rintro e w8 ⟨rfl, hb⟩; refine ⟨_, rfl, ?_⟩; replace BK24 := am (bbl_ BK24.out hb); replace HB := am (below_step ab40_ hb); (try clear hb); obtain ⟨hcz9_0, hcz9_1, hcz9_2, hfz9_0, hfz9_1, hfz9_2⟩ := bcf3_ BK24.out) | ((with_reducible refine gate_callee (f := 18) rfl ?_); refine gl_ 7 Tryd.func18 #[.agg #[.int .i64 a0_0, .int .i64 a0_1, .slice A0_2 l0_2.length c0_2]] ?_; (with_reducible refine (spec_l5Tokens.calls k a0_0 a0_1 _ _ l0_2 t22 _ (aC_ (Kd.C_below HR0_2.out HB.out)) HC0_2.out A4.out).mono ?_); rintro e w10 ⟨v25, rfl, ho0, hb⟩; refine ⟨_, rfl, ?_⟩; have HO26 := am (Kd.R_lower ho0 (below_size ab40_)); replace BK24 := am (bbl_ BK24.out hb); replace HB := am (below_step ab40_ hb); (try clear hb); (try clear ho0); obtain ⟨Ao11, co11, eo11⟩ := Kd.R_slice HO26.out; subst eo11) | ((with_reducible refine gate_callee (f := 17) rfl ?_); refine gl_ 8 Tryd.func17 #[.slice Ao11 t22.length co11] ?_; (with_reducible refine (spec_TokensText.calls k _ _ t22 t23 _ (aC_ (Kd.R_reads' HO26.out).2.2) (Kd.R_reads' HO26.out).2.1 A5.out).mono ?_); rintro e w' ⟨rfl, ⟨nd, rfl⟩⟩; refine ⟨_, rfl, ?_⟩))
  go_ret
  exact ⟨rr_, ab40_⟩
 replace c3 := Bool.eq_false_iff.mpr c3
 subst c3
 rw [if_neg (show ¬ (false = true) by decide)] at H
 obtain rfl := Option.some.inj H
 go_wp2_with (first | ((with_reducible refine gate_callee (f := 16) rfl ?_); refine gl_ 4 Tryd.func16 #[.agg #[.int .i64 a0_0, .int .i64 a0_1, .slice A0_2 l0_2.length c0_2]] ?_; (with_reducible refine (spec_ExprValid.calls k a0_0 a0_1 _ _ l0_2 false _ (aC_ (Kd.C_below HR0_2.out HB.out)) HC0_2.out A2.out).mono ?_); rintro e w14 ⟨rfl, hb⟩; refine ⟨_, rfl, ?_⟩; replace BK24 := am (bbl_ BK24.out hb); replace HB := am (below_step ab40_ hb); (try clear hb)))
 go_ret
 exact ⟨rr_, ab40_⟩
theorem impl_OpValid.calls (a0 : Int) (r : Bool) (w : World) (h : impl_OpValid.f a0 = some r) :
  Calls Tryd.prog 57 #[.int .i64 a0] w fun e w' => e = .returned (.bool r) ∧ Drawn0 w w' := by
 have H : (if a0 ≥ 1 then (some (decide (a0 ≤ 12))) else (some false)) = some r := h
 clear h
 by_cases c2 : a0 ≥ 1
 ·rw [if_pos c2] at H
  have c2b0 : decide (1 ≤ a0) = true := decide_eq_true c2
  clear c2
  obtain rfl := Option.some.inj H
  go_enter Tryd.func57, Tryd.ntmps57
  go_wp2
  go_ret
  exact ⟨sd_, ab6_⟩
 rw [if_neg c2] at H
 have c2b0 : decide (1 ≤ a0) = false := decide_eq_false c2
 clear c2
 obtain rfl := Option.some.inj H
 go_enter Tryd.func57, Tryd.ntmps57
 go_wp2
 go_ret
 exact ⟨sd_, ab6_⟩
theorem impl_exprValid.mono_l : ∀ k, (∀ y0 y1 y2 y3, LeO (impl_exprValid.f k y0 y1 y2 y3) (impl_exprValid.f (k + 1) y0 y1 y2 y3))
 | 0 => fun _ _ _ _ r h => by simp [impl_exprValid.f] at h
 | k + 1 => by
  have ih0 := impl_exprValid.mono_l k
  ·intro y0 y1 y2 y3
   unfold impl_exprValid.f
   exact mo_
theorem impl_exprValid.mono : ∀ a0 a1 a2 a3 k, LeO (impl_exprValid.f k a0 a1 a2 a3) (impl_exprValid.f (k + 1) a0 a1 a2 a3) := by
 intro a0 a1 a2 a3 k
 have ih0 := impl_exprValid.mono_l k
 exact ih0 a0 a1 a2 a3
theorem impl_exprValid.calls (k : Nat) : ∀ (a0_0 : Int) (a0_1 : Int) (A0_2 : Option Addr) (c0_2 : Nat) (l0_2 : List (S29)) (a1 : Int) (r : Bool) (w : World) (hr0_2 : Kd.C k29 w A0_2 l0_2.length l0_2) (hc0_2 : l0_2.length ≤ c0_2) (h : impl_exprValid.f k a0_0 a0_1 l0_2 a1 = some r),
  Calls Tryd.prog 36 #[.agg #[.int .i64 a0_0, .int .i64 a0_1, .slice A0_2 l0_2.length c0_2], .int .i64 a1] w fun e w' => e = .returned (.bool r) ∧ Below w.heap.size w w' := by
 induction k using Nat.strongRecOn with
 | _ k ih =>
 intro a0_0 a0_1 A0_2 c0_2 l0_2 a1 r w hr0_2 hc0_2 h
 cases k with
 | zero => exact absurd h (by simp [impl_exprValid.f])
 | succ k =>
 simp only [impl_exprValid.f] at h
 have hu29 := Tryd.underlying29
 have HR0_2 := am hr0_2
 have HC0_2 := am hc0_2
 clear hr0_2 hc0_2
 have HB := am (Below.refl w.heap.size w)
 have H : (if a0_0 = 0 then (if a0_1 ≥ 0 then (if a0_1 ≤ 99999 then (if (l0_2.length : Int) = 0 then (some (decide (a1 > 0))) else (some false)) else (some false)) else (some false)) else (if a0_0 = 13 then (if a0_1 ≥ 0 then (if a0_1 < 4 then (if (l0_2.length : Int) = 0 then (some (decide (a1 > 0))) else (some false)) else (some false)) else (some false)) else ((impl_OpValid.f a0_0).bind fun t20 => (if t20 = true then (if a0_1 = 0 then (if (l0_2.length : Int) = 2 then (if a1 > 1 then (if 0 < (l0_2.length : Int) then ((impl_exprValid.f k ((rd_T29 l0_2 0).f0) ((rd_T29 l0_2 0).f1) ((rd_T29 l0_2 0).f2) (wrap64 (a1 - 1))).bind fun t21 => (if t21 = true then (if 1 < (l0_2.length : Int) then ((impl_exprValid.f k ((rd_T29 l0_2 1).f0) ((rd_T29 l0_2 1).f1) ((rd_T29 l0_2 1).f2) (wrap64 (a1 - 1))).bind fun t22 => (some t22)) else (none)) else (some false))) else (none)) else (some false)) else (some false)) else (some false)) else (some false))))) = some r := h
 clear h
 have HH_ := am H
 clear H
 go_enter Tryd.func36, Tryd.ntmps36
 go_upto_region 1 with (first | ((with_reducible refine gate_dst (N := 2) rfl ?_); (try (refine gate_guard (by rfl) ?_; dsimp only)); refine box_event rfl (N := 2) rfl (cs := #[.int .i64 a0_0, .int .i64 a0_1, .slice A0_2 l0_2.length c0_2]) (t := 29) rn_ ?_; intro gb23 hg w7 hbox hb; have BK23 := am (hbox); have GW23 := am ((by rw [hg]; exact (below_size ab2_) : w.heap.size ≤ gb23)); have GE23 := am ((by rw [hg]; exact (below_size ab2_) : w.heap.size ≤ gb23)); replace HB := am (below_step ab2_ hb); clear hb hbox hg; obtain ⟨hcz8_0, hcz8_1, hcz8_2, hfz8_0, hfz8_1, hfz8_2⟩ := bcf3_ BK23.out))
 have H := HH_.out
 clear HH_
 by_cases c3 : a0_0 = 0
 ·rw [if_pos c3] at H
  have c3b0 : (a0_0 == 0) = true := beq_iff_eq.mpr c3
  have c3b1 : (a0_0 != 0) = false := bne_eq_false_iff_eq.mpr c3
  clear c3
  by_cases c4 : a0_1 ≥ 0
  ·rw [if_pos c4] at H
   have c4b0 : decide (0 ≤ a0_1) = true := decide_eq_true c4
   clear c4
   by_cases c5 : a0_1 ≤ 99999
   ·rw [if_pos c5] at H
    have c5b0 : decide (a0_1 ≤ 99999) = true := decide_eq_true c5
    clear c5
    by_cases c6 : (l0_2.length : Int) = 0
    ·rw [if_pos c6] at H
     have c6b0 : ((l0_2.length : Int) == 0) = true := beq_iff_eq.mpr c6
     have c6b1 : ((l0_2.length : Int) != 0) = false := bne_eq_false_iff_eq.mpr c6
     clear c6
     obtain rfl := Option.some.inj H
     go_wp2
     go_ret
     exact ⟨rr_, ab8_⟩
    rw [if_neg c6] at H
    have c6b0 : ((l0_2.length : Int) == 0) = false := beq_eq_false_iff_ne.mpr c6
    have c6b1 : ((l0_2.length : Int) != 0) = true := bne_iff_ne.mpr c6
    have c6b2 : ¬ (l0_2 = []) := fun h_ => c6 (by rw [h_]; rfl)
    obtain rfl := Option.some.inj H
    go_wp2
    go_ret
    exact ⟨rr_, ab8_⟩
   rw [if_neg c5] at H
   have c5b0 : decide (a0_1 ≤ 99999) = false := decide_eq_false c5
   clear c5
   obtain rfl := Option.some.inj H
   go_wp2
   go_ret
   exact ⟨rr_, ab8_⟩
  rw [if_neg c4] at H
  have c4b0 : decide (0 ≤ a0_1) = false := decide_eq_false c4
  clear c4
  obtain rfl := Option.some.inj H
  go_wp2
  go_ret
  exact ⟨rr_, ab8_⟩
 rw [if_neg c3] at H
 have c3b0 : (a0_0 == 0) = false := beq_eq_false_iff_ne.mpr c3
 have c3b1 : (a0_0 != 0) = true := bne_iff_ne.mpr c3
 by_cases c15 : a0_0 = 13
 ·rw [if_pos c15] at H
  have c15b0 : (a0_0 == 13) = true := beq_iff_eq.mpr c15
  have c15b1 : (a0_0 != 13) = false := bne_eq_false_iff_eq.mpr c15
  clear c15
  by_cases c16 : a0_1 ≥ 0
  ·rw [if_pos c16] at H
   have c16b0 : decide (0 ≤ a0_1) = true := decide_eq_true c16
   clear c16
   by_cases c17 : a0_1 < 4
   ·rw [if_pos c17] at H
    have c17b0 : decide (a0_1 < 4) = true := decide_eq_true c17
    clear c17
    by_cases c18 : (l0_2.length : Int) = 0
    ·rw [if_pos c18] at H
     have c18b0 : ((l0_2.length : Int) == 0) = true := beq_iff_eq.mpr c18
     have c18b1 : ((l0_2.length : Int) != 0) = false := bne_eq_false_iff_eq.mpr c18
     clear c18
     obtain rfl := Option.some.inj H
     go_wp2
     go_ret
     exact ⟨rr_, ab8_⟩
    rw [if_neg c18] at H
    have c18b0 : ((l0_2.length : Int) == 0) = false := beq_eq_false_iff_ne.mpr c18
    have c18b1 : ((l0_2.length : Int) != 0) = true := bne_iff_ne.mpr c18
    have c18b2 : ¬ (l0_2 = []) := fun h_ => c18 (by rw [h_]; rfl)
    obtain rfl := Option.some.inj H
    go_wp2
    go_ret
    exact ⟨rr_, ab8_⟩
   rw [if_neg c17] at H
   have c17b0 : decide (a0_1 < 4) = false := decide_eq_false c17
   clear c17
   obtain rfl := Option.some.inj H
   go_wp2
   go_ret
   exact ⟨rr_, ab8_⟩
  rw [if_neg c16] at H
  have c16b0 : decide (0 ≤ a0_1) = false := decide_eq_false c16
  clear c16
  obtain rfl := Option.some.inj H
  go_wp2
  go_ret
  exact ⟨rr_, ab8_⟩
 rw [if_neg c15] at H
 have c15b0 : (a0_0 == 13) = false := beq_eq_false_iff_ne.mpr c15
 have c15b1 : (a0_0 != 13) = true := bne_iff_ne.mpr c15
 obtain ⟨t20, A24, H⟩ := bsm H
 (try dsimp only at H)
 have A27 := am A24
 clear A24
 by_cases c28 : t20 = true
 ·subst c28
  rw [if_pos rfl] at H
  by_cases c29 : a0_1 = 0
  ·rw [if_pos c29] at H
   have c29b0 : (a0_1 == 0) = true := beq_iff_eq.mpr c29
   have c29b1 : (a0_1 != 0) = false := bne_eq_false_iff_eq.mpr c29
   clear c29
   by_cases c30 : (l0_2.length : Int) = 2
   ·rw [if_pos c30] at H
    have c30b0 : ((l0_2.length : Int) == 2) = true := beq_iff_eq.mpr c30
    have c30b1 : ((l0_2.length : Int) != 2) = false := bne_eq_false_iff_eq.mpr c30
    clear c30
    by_cases c31 : a1 > 1
    ·rw [if_pos c31] at H
     have c31b0 : decide (1 < a1) = true := decide_eq_true c31
     clear c31
     by_cases c32 : 0 < (l0_2.length : Int)
     ·rw [if_pos c32] at H
      have c32b0 : decide (0 < (l0_2.length : Int)) = true := decide_eq_true c32
      have c32b1 : decide (0 < l0_2.length) = true := decide_eq_true (by omega)
      clear c32
      obtain ⟨t21, A25, H⟩ := bsm H
      (try dsimp only at H)
      have A33 := am A25
      clear A25
      by_cases c34 : t21 = true
      ·subst c34
       rw [if_pos rfl] at H
       by_cases c35 : 1 < (l0_2.length : Int)
       ·rw [if_pos c35] at H
        have c35b0 : decide (1 < (l0_2.length : Int)) = true := decide_eq_true c35
        have c35b1 : decide (1 < l0_2.length) = true := decide_eq_true (by omega)
        clear c35
        obtain ⟨t22, A26, H⟩ := bsm H
        (try dsimp only at H)
        have A36 := am A26
        clear A26
        obtain rfl := Option.some.inj H
        go_wp2_with (first | ((with_reducible refine gate_callee (f := 57) rfl ?_); refine gl_ 51 Tryd.func57 #[.int .i64 a0_0] ?_; (with_reducible refine (impl_OpValid.calls a0_0 true _ A27.out).mono ?_); rintro e w' ⟨rfl, ⟨nd, rfl⟩⟩; refine ⟨_, rfl, ?_⟩; have p37 : 0 ≤ (0 : Int) := (by omega); have q37 : 0 < (l0_2.length : Int) := of_decide_eq_true asm_; obtain ⟨ad37, A37_2, c37_2, e37, hx37_0, hx37_1, hx37_2, hl37_2, hi37_2⟩ := at_T29 HR0_2.out 0 p37 q37; cases e37; have qi37 : (0 < l0_2.length) = True := eq_true (by omega); (try rw [show ((0 : Int)).toNat = 0 from rfl] at hx37_0); (try rw [show 0 * 3 = 0 from rfl] at hx37_0); (try rw [Addr.add_zero'] at hx37_0); (try rw [show ((0 : Int)).toNat = 0 from rfl] at hx37_1); (try rw [show 0 * 3 = 0 from rfl] at hx37_1); (try rw [Addr.add_zero'] at hx37_1); (try rw [show ((0 : Int)).toNat = 0 from rfl] at hx37_2); (try rw [show 0 * 3 = 0 from rfl] at hx37_2); (try rw [Addr.add_zero'] at hx37_2); replace hx37_0 := (HB.out.cell (World.block_lt_of_cell? w _ hx37_0)).trans hx37_0; replace hx37_1 := (HB.out.cell (World.block_lt_of_cell? w _ hx37_1)).trans hx37_1; replace hx37_2 := (HB.out.cell (World.block_lt_of_cell? w _ hx37_2)).trans hx37_2; have HR37_2 := am hi37_2; have HC37_2 := am hl37_2; clear hi37_2 hl37_2; replace p37 := eq_true p37; replace q37 := eq_true q37) | (go_at_call 36; (with_reducible refine (ih k (by omega) ((rd_T29 l0_2 0).f0) ((rd_T29 l0_2 0).f1) _ _ ((rd_T29 l0_2 0).f2) (wrap64 (a1 - 1)) true _ (aC_ (Kd.C_below HR37_2.out ab8_)) HC37_2.out A33.out).mono ?_); rintro e w39 ⟨rfl, hb⟩; replace BK23 := am (bbl_ BK23.out hb); replace HB := am (below_step ab8_ hb); (try clear hb); obtain ⟨hcz40_0, hcz40_1, hcz40_2, hfz40_0, hfz40_1, hfz40_2⟩ := bcf3_ BK23.out; have p38 : 0 ≤ (1 : Int) := (by omega); have q38 : 1 < (l0_2.length : Int) := of_decide_eq_true asm_; obtain ⟨ad38, A38_2, c38_2, e38, hx38_0, hx38_1, hx38_2, hl38_2, hi38_2⟩ := at_T29 HR0_2.out 1 p38 q38; obtain rfl : ad37 = ad38 := (by injection e38); (try simp only [show (1 : Int).toNat = 1 from rfl, Nat.reduceMul, Nat.reduceEqDiff, Go.Addr.add, ↓reduceIte] at hx38_0); (try simp only [show (1 : Int).toNat = 1 from rfl, Nat.reduceMul, Nat.reduceEqDiff, Go.Addr.add, ↓reduceIte] at hx38_1); (try simp only [show (1 : Int).toNat = 1 from rfl, Nat.reduceMul, Nat.reduceEqDiff, Go.Addr.add, ↓reduceIte] at hx38_2); have qi38 : (1 < l0_2.length) = True := eq_true (by omega); (try rw [show ((1 : Int)).toNat = 1 from rfl] at hx38_0); (try rw [show 1 * 3 = 3 from rfl] at hx38_0); (try rw [show ((1 : Int)).toNat = 1 from rfl] at hx38_1); (try rw [show 1 * 3 = 3 from rfl] at hx38_1); (try rw [show ((1 : Int)).toNat = 1 from rfl] at hx38_2); (try rw [show 1 * 3 = 3 from rfl] at hx38_2); replace hx38_0 := (HB.out.cell (World.block_lt_of_cell? w _ hx38_0)).trans hx38_0; replace hx38_1 := (HB.out.cell (World.block_lt_of_cell? w _ hx38_1)).trans hx38_1; replace hx38_2 := (HB.out.cell (World.block_lt_of_cell? w _ hx38_2)).trans hx38_2; have HR38_2 := am hi38_2; have HC38_2 := am hl38_2; clear hi38_2 hl38_2; replace p38 := eq_true p38; replace q38 := eq_true q38) | (go_at_call 36; (with_reducible refine (ih k (by omega) ((rd_T29 l0_2 1).f0) ((rd_T29 l0_2 1).f1) _ _ ((rd_T29 l0_2 1).f2) (wrap64 (a1 - 1)) t22 _ (aC_ (Kd.C_below HR38_2.out HB.out)) HC38_2.out A36.out).mono ?_); rintro e w41 ⟨rfl, hb⟩; replace BK23 := am (bbl_ BK23.out hb); replace HB := am (below_step ab8_ hb); (try clear hb)))
        go_ret
        exact ⟨rr_, ab8_⟩
       rw [if_neg c35] at H
       exact absurd H (by simp)
      replace c34 := Bool.eq_false_iff.mpr c34
      subst c34
      rw [if_neg (show ¬ (false = true) by decide)] at H
      obtain rfl := Option.some.inj H
      go_wp2_with (first | ((with_reducible refine gate_callee (f := 57) rfl ?_); refine gl_ 51 Tryd.func57 #[.int .i64 a0_0] ?_; (with_reducible refine (impl_OpValid.calls a0_0 true _ A27.out).mono ?_); rintro e w' ⟨rfl, ⟨nd, rfl⟩⟩; refine ⟨_, rfl, ?_⟩; have p37 : 0 ≤ (0 : Int) := (by omega); have q37 : 0 < (l0_2.length : Int) := of_decide_eq_true asm_; obtain ⟨ad37, A37_2, c37_2, e37, hx37_0, hx37_1, hx37_2, hl37_2, hi37_2⟩ := at_T29 HR0_2.out 0 p37 q37; cases e37; have qi37 : (0 < l0_2.length) = True := eq_true (by omega); (try rw [show ((0 : Int)).toNat = 0 from rfl] at hx37_0); (try rw [show 0 * 3 = 0 from rfl] at hx37_0); (try rw [Addr.add_zero'] at hx37_0); (try rw [show ((0 : Int)).toNat = 0 from rfl] at hx37_1); (try rw [show 0 * 3 = 0 from rfl] at hx37_1); (try rw [Addr.add_zero'] at hx37_1); (try rw [show ((0 : Int)).toNat = 0 from rfl] at hx37_2); (try rw [show 0 * 3 = 0 from rfl] at hx37_2); (try rw [Addr.add_zero'] at hx37_2); replace hx37_0 := (HB.out.cell (World.block_lt_of_cell? w _ hx37_0)).trans hx37_0; replace hx37_1 := (HB.out.cell (World.block_lt_of_cell? w _ hx37_1)).trans hx37_1; replace hx37_2 := (HB.out.cell (World.block_lt_of_cell? w _ hx37_2)).trans hx37_2; have HR37_2 := am hi37_2; have HC37_2 := am hl37_2; clear hi37_2 hl37_2; replace p37 := eq_true p37; replace q37 := eq_true q37) | (go_at_call 36; (with_reducible refine (ih k (by omega) ((rd_T29 l0_2 0).f0) ((rd_T29 l0_2 0).f1) _ _ ((rd_T29 l0_2 0).f2) (wrap64 (a1 - 1)) false _ (aC_ (Kd.C_below HR37_2.out ab8_)) HC37_2.out A33.out).mono ?_); rintro e w44 ⟨rfl, hb⟩; replace BK23 := am (bbl_ BK23.out hb); replace HB := am (below_step ab8_ hb); (try clear hb)))
      go_ret
      exact ⟨rr_, ab8_⟩
     rw [if_neg c32] at H
     exact absurd H (by simp)
    rw [if_neg c31] at H
    have c31b0 : decide (1 < a1) = false := decide_eq_false c31
    clear c31
    obtain rfl := Option.some.inj H
    go_wp2_with (first | ((with_reducible refine gate_callee (f := 57) rfl ?_); refine gl_ 51 Tryd.func57 #[.int .i64 a0_0] ?_; (with_reducible refine (impl_OpValid.calls a0_0 true _ A27.out).mono ?_); rintro e w' ⟨rfl, ⟨nd, rfl⟩⟩; refine ⟨_, rfl, ?_⟩))
    go_ret
    exact ⟨rr_, ab8_⟩
   rw [if_neg c30] at H
   have c30b0 : ((l0_2.length : Int) == 2) = false := beq_eq_false_iff_ne.mpr c30
   have c30b1 : ((l0_2.length : Int) != 2) = true := bne_iff_ne.mpr c30
   obtain rfl := Option.some.inj H
   go_wp2_with (first | ((with_reducible refine gate_callee (f := 57) rfl ?_); refine gl_ 51 Tryd.func57 #[.int .i64 a0_0] ?_; (with_reducible refine (impl_OpValid.calls a0_0 true _ A27.out).mono ?_); rintro e w' ⟨rfl, ⟨nd, rfl⟩⟩; refine ⟨_, rfl, ?_⟩))
   go_ret
   exact ⟨rr_, ab8_⟩
  rw [if_neg c29] at H
  have c29b0 : (a0_1 == 0) = false := beq_eq_false_iff_ne.mpr c29
  have c29b1 : (a0_1 != 0) = true := bne_iff_ne.mpr c29
  obtain rfl := Option.some.inj H
  go_wp2_with (first | ((with_reducible refine gate_callee (f := 57) rfl ?_); refine gl_ 51 Tryd.func57 #[.int .i64 a0_0] ?_; (with_reducible refine (impl_OpValid.calls a0_0 true _ A27.out).mono ?_); rintro e w' ⟨rfl, ⟨nd, rfl⟩⟩; refine ⟨_, rfl, ?_⟩))
  go_ret
  exact ⟨rr_, ab8_⟩
 replace c28 := Bool.eq_false_iff.mpr c28
 subst c28
 rw [if_neg (show ¬ (false = true) by decide)] at H
 obtain rfl := Option.some.inj H
 go_wp2_with (first | ((with_reducible refine gate_callee (f := 57) rfl ?_); refine gl_ 51 Tryd.func57 #[.int .i64 a0_0] ?_; (with_reducible refine (impl_OpValid.calls a0_0 false _ A27.out).mono ?_); rintro e w' ⟨rfl, ⟨nd, rfl⟩⟩; refine ⟨_, rfl, ?_⟩))
 go_ret
 exact ⟨rr_, ab8_⟩
theorem impl_ExprValid.mono : ∀ a0 a1 a2 k, LeO (impl_ExprValid.f k a0 a1 a2) (impl_ExprValid.f (k + 1) a0 a1 a2) := by
 intro a0 a1 a2 k
 unfold impl_ExprValid.f
 have m0 := @impl_exprValid.mono
 exact mo_
theorem impl_ExprValid.calls (k : Nat) (a0_0 : Int) (a0_1 : Int) (A0_2 : Option Addr) (c0_2 : Nat) (l0_2 : List (S29)) (r : Bool) (w : World) (hr0_2 : Kd.C k29 w A0_2 l0_2.length l0_2) (hc0_2 : l0_2.length ≤ c0_2) (h : impl_ExprValid.f k a0_0 a0_1 l0_2 = some r) :
  Calls Tryd.prog 20 #[.agg #[.int .i64 a0_0, .int .i64 a0_1, .slice A0_2 l0_2.length c0_2]] w fun e w' => e = .returned (.bool r) ∧ Below w.heap.size w w' := by
 have hu29 := Tryd.underlying29
 have HR0_2 := am hr0_2
 have HC0_2 := am hc0_2
 clear hr0_2 hc0_2
 have HB := am (Below.refl w.heap.size w)
 have H : ((impl_exprValid.f k a0_0 a0_1 l0_2 5).bind fun t21 => (some t21)) = some r := h
 clear h
 obtain ⟨t21, A2, H⟩ := bsa H
 (try dsimp only at H)
 obtain rfl := Option.some.inj H
 go_enter Tryd.func20, Tryd.ntmps20
 go_wp2_with (first | ((with_reducible refine gate_dst (N := 1) rfl ?_); refine box_event rfl (N := 1) rfl (cs := #[.int .i64 a0_0, .int .i64 a0_1, .slice A0_2 l0_2.length c0_2]) (t := 29) rn_ ?_; intro gb22 hg w3 hbox hb; have BK22 := am (hbox); have GW22 := am ((by rw [hg]; exact (below_size ab2_) : w.heap.size ≤ gb22)); have GE22 := am ((by rw [hg]; exact (below_size ab2_) : w.heap.size ≤ gb22)); replace HB := am (below_step ab2_ hb); clear hb hbox hg; obtain ⟨hcz4_0, hcz4_1, hcz4_2, hfz4_0, hfz4_1, hfz4_2⟩ := bcf3_ BK22.out) | ((with_reducible refine gate_callee (f := 36) rfl ?_); refine gl_ 4 Tryd.func36 #[.agg #[.int .i64 a0_0, .int .i64 a0_1, .slice A0_2 l0_2.length c0_2], .int .i64 5] ?_; (with_reducible refine (impl_exprValid.calls k a0_0 a0_1 _ _ l0_2 5 t21 _ (aC_ (Kd.C_below HR0_2.out HB.out)) HC0_2.out A2.out).mono ?_); rintro e w5 ⟨rfl, hb⟩; refine ⟨_, rfl, ?_⟩; replace BK22 := am (bbl_ BK22.out hb); replace HB := am (below_step ab36_ hb); (try clear hb)))
 go_ret
 exact ⟨rr_, ab36_⟩
theorem impl_isDigit.calls (a0 : Int) (r : Bool) (w : World) (h : impl_isDigit.f a0 = some r) :
  Calls Tryd.prog 50 #[.int .u8 a0] w fun e w' => e = .returned (.bool r) ∧ Drawn0 w w' := by
 have H : (if a0 ≥ 48 then (some (decide (a0 ≤ 57))) else (some false)) = some r := h
 clear h
 by_cases c2 : a0 ≥ 48
 ·rw [if_pos c2] at H
  have c2b0 : decide (48 ≤ a0) = true := decide_eq_true c2
  clear c2
  obtain rfl := Option.some.inj H
  go_enter Tryd.func50, Tryd.ntmps50
  go_wp2
  go_ret
  exact ⟨sd_, ab6_⟩
 rw [if_neg c2] at H
 have c2b0 : decide (48 ≤ a0) = false := decide_eq_false c2
 clear c2
 obtain rfl := Option.some.inj H
 go_enter Tryd.func50, Tryd.ntmps50
 go_wp2
 go_ret
 exact ⟨sd_, ab6_⟩
theorem impl_isLetter.calls (a0 : Int) (r : Bool) (w : World) (h : impl_isLetter.f a0 = some r) :
  Calls Tryd.prog 51 #[.int .u8 a0] w fun e w' => e = .returned (.bool r) ∧ Drawn0 w w' := by
 have H : (if a0 ≥ 97 then (some (decide (a0 ≤ 122))) else (some false)) = some r := h
 clear h
 by_cases c2 : a0 ≥ 97
 ·rw [if_pos c2] at H
  have c2b0 : decide (97 ≤ a0) = true := decide_eq_true c2
  clear c2
  obtain rfl := Option.some.inj H
  go_enter Tryd.func51, Tryd.ntmps51
  go_wp2
  go_ret
  exact ⟨sd_, ab6_⟩
 rw [if_neg c2] at H
 have c2b0 : decide (97 ≤ a0) = false := decide_eq_false c2
 clear c2
 obtain rfl := Option.some.inj H
 go_enter Tryd.func51, Tryd.ntmps51
 go_wp2
 go_ret
 exact ⟨sd_, ab6_⟩
theorem stringslite_HasPrefix.calls (a0 : ByteArray) (a1 : ByteArray) (r : Bool) (w : World) (h : stringslite_HasPrefix.f a0 a1 = some r) :
  Calls Tryd.prog 62 #[.string a0, .string a1] w fun e w' => e = .returned (.bool r) ∧ Drawn0 w w' := by
 have H : (if (a0.size : Int) ≥ (a1.size : Int) then (if 0 ≤ (a1.size : Int) then (if (a1.size : Int) ≤ (a0.size : Int) then (some ((a0.extract 0 ((a1.size : Int) : Int).toNat).toList == a1.toList)) else (none)) else (none)) else (some false)) = some r := h
 clear h
 by_cases c3 : (a0.size : Int) ≥ (a1.size : Int)
 ·rw [if_pos c3] at H
  have c3b0 : decide ((a1.size : Int) ≤ (a0.size : Int)) = true := decide_eq_true c3
  have c3b1 : decide (a1.size ≤ a0.size) = true := decide_eq_true (Int.ofNat_le.mp c3)
  clear c3
  by_cases c4 : 0 ≤ (a1.size : Int)
  ·rw [if_pos c4] at H
   have c4b0 := eq_true c4
   have c4b1 : decide (0 ≤ (a1.size : Int)) = true := decide_eq_true c4
   clear c4
   by_cases c5 : (a1.size : Int) ≤ (a0.size : Int)
   ·rw [if_pos c5] at H
    have c5b0 := eq_true c5
    have c5b1 : decide ((a1.size : Int) ≤ (a0.size : Int)) = true := decide_eq_true c5
    clear c5
    obtain rfl := Option.some.inj H
    go_enter Tryd.func62, Tryd.ntmps62
    go_wp2
    go_ret
    exact ⟨sd_, ab6_⟩
   rw [if_neg c5] at H
   exact absurd H (by simp)
  rw [if_neg c4] at H
  exact absurd H (by simp)
 rw [if_neg c3] at H
 have c3b0 : decide ((a1.size : Int) ≤ (a0.size : Int)) = false := decide_eq_false c3
 have c3b1 : decide (a1.size ≤ a0.size) = false := decide_eq_false (fun h => c3 (Int.ofNat_le.mpr h))
 clear c3
 obtain rfl := Option.some.inj H
 go_enter Tryd.func62, Tryd.ntmps62
 go_wp2
 go_ret
 exact ⟨sd_, ab6_⟩
theorem strings_HasPrefix.calls (a0 : ByteArray) (a1 : ByteArray) (r : Bool) (w : World) (h : strings_HasPrefix.f a0 a1 = some r) :
  Calls Tryd.prog 52 #[.string a0, .string a1] w fun e w' => e = .returned (.bool r) ∧ Drawn0 w w' := by
 have H : ((stringslite_HasPrefix.f a0 a1).bind fun t20 => (some t20)) = some r := h
 clear h
 obtain ⟨t20, A3, H⟩ := bsa H
 (try dsimp only at H)
 obtain rfl := Option.some.inj H
 go_enter Tryd.func52, Tryd.ntmps52
 go_wp2_with (first | ((with_reducible refine gate_callee (f := 62) rfl ?_); refine gl_ 7 Tryd.func62 #[.string a0, .string a1] ?_; (with_reducible refine (stringslite_HasPrefix.calls a0 a1 t20 _ A3.out).mono ?_); rintro e w' ⟨rfl, ⟨nd, rfl⟩⟩; refine ⟨_, rfl, ?_⟩))
 go_ret
 exact ⟨sd_, ab6_⟩
theorem strings_IndexByte.calls (a0 : ByteArray) (a1 : Int) (r : Int) (w : World) (h : strings_IndexByte.f a0 a1 = some r) :
  Calls Tryd.prog 53 #[.string a0, .int .u8 a1] w fun e w' => e = .returned (.int .i64 r) ∧ Drawn0 w w' := by
 obtain rfl := Option.some.inj h
 refine (Tryd.strings_IndexByte a0 a1 w).mono ?_
 rintro e w' ⟨rfl, rfl⟩
 exact ⟨rfl, Drawn0.refl _⟩
theorem impl_tokenLength.mono_l : ∀ k a b c, LeO (impl_tokenLength.l1 k a b c) (impl_tokenLength.l1 (k + 1) a b c)
 | 0, _, _, _ => fun r h => by simp [impl_tokenLength.l1] at h
 | k + 1, a, b, c => by
  unfold impl_tokenLength.l1
  exact LeO.ite (LeO.ite (LeO.bind (LeO.refl _) (fun _ => LeO.ite (impl_tokenLength.mono_l k _ _ _) (LeO.refl _))) (LeO.none _)) (LeO.refl _)
theorem impl_tokenLength.mono : ∀ a0 k, LeO (impl_tokenLength.f k a0) (impl_tokenLength.f (k + 1) a0) := by
 intro a0 k
 exact LeO.bind (impl_tokenLength.mono_l _ _ _ _) (fun _ => LeO.ite (LeO.refl _) (LeO.bind (impl_tokenLength.mono_l _ _ _ _) (fun _ => LeO.refl _)))
theorem lit_run {P : Program} {ops : Array Oper} {Q : Exit → Act → World → Prop} {rest : List Oper} {o : Oper} {a : Act} {W : World} (N : Tmp) (cs : Array Value) (n : Nat) (e : TypeId) (hgd : o.guard = none) (hd : o.dst = some N)
  (hrun : (execOp a.eval o).run P W = .ok (.value (.slice (some ⟨W.heap.size, 0, none⟩) n n)) (W.alloc (.cells cs e)))
  (h : ∀ g W1, W1.heap[g]? = some (.cells cs e (0, 0)) → Below W.heap.size W W1 → wpList P ops Q rest (a.put (some N) (.slice (some ⟨g, 0, none⟩) n n)) W1) : wpList P ops Q (o :: rest) a W := by
 rw [← hd] at h
 exact Kd.event_run hgd hrun (h _ _ (blk_new W _) (below_alloc (Below.refl _ _) _))
theorem tl_nil (a : ByteArray) (h : a.size = 0) : a.toList = [] := by
 unfold ByteArray.toList
 unfold ByteArray.toList.loop
 rw [if_neg (by omega)]
 rfl
theorem impl_tokenLength.calls (k : Nat) (a0 : ByteArray) (r : Int) (w : World) (h : impl_tokenLength.f k a0 = some r) :
  Calls Tryd.prog 26 #[.string a0] w fun e w' => e = .returned (.int .i64 r) ∧ Below w.heap.size w w' := by
 have H' := am h
 clear h
 go_enter Tryd.func26, Tryd.ntmps26
 go_wp2_with (first | ((with_reducible refine gate_dst (N := 8) rfl ?_); refine lit_run 8 #[.func (.func 50) #[] #[], .func (.func 51) #[] #[]] 2 66 rfl rfl (by first | (go_simp; done) | (go_simp; rfl)) ?_; intro gb w1 hbk hb; have BK := am hbk; have HB := am (below_step (by repeat (first | exact Below.refl _ _ | apply pw_below_drewN | apply below_alloc)) hb); clear hbk hb))
 go_loopg [10] 2 (fun kq v10 w' => ∃ i : Nat, v10 = .int .i64 (i : Int) ∧ i + kq = 2 ∧ Aside0 (impl_tokenLength.st k a0 i = some r) ∧ Aside0 (w'.heap[gb]? = some (.cells #[.func (.func 50) #[] #[], .func (.func 51) #[] #[]] 66 (0, 0))) ∧ Aside0 (Below w.heap.size w w'))
 case atStart => exact ⟨0, rfl, rfl, H', BK, HB⟩
 case round =>
  clear H' BK HB
  obtain ⟨i, rfl, hi, HA, BK, HB⟩ := hrel
  have hc_ : (i = 0 ∧ gk = 2) ∨ (i = 1 ∧ gk = 1) ∨ (i = 2 ∧ gk = 0) := by omega
  clear hi
  rcases hc_ with ⟨rfl, rfl⟩ | ⟨rfl, rfl⟩ | ⟨rfl, rfl⟩
  ·have hx : _ := (blk_cell BK.out 0).trans rfl
   obtain ⟨d, hd, H⟩ := Option.bind_eq_some_iff.mp HA.out
   have HD := am hd
   have HN := am H
   clear hd H HA
   go_wp2
   go_loopg [5] k (fun kq v5 w' => ∃ x : Int, v5 = .int .i64 x ∧ Aside0 (impl_tokenLength.l1 kq a0 true x = some d) ∧ Aside0 (kq ≤ k) ∧ Aside0 (w'.heap[gb]? = some (.cells #[.func (.func 50) #[] #[], .func (.func 51) #[] #[]] 66 (0, 0))) ∧ Aside0 (Below w.heap.size w w'))
   case atStart => exact ⟨0, rfl, HD, ⟨Nat.le_refl _⟩, BK, HB⟩
   case round =>
    clear BK HB hx HD
    obtain ⟨x, rfl, HD, HK2, BK, HB⟩ := hrel
    cases gk with
    | zero => exact absurd HD.out (by simp [impl_tokenLength.l1])
    | succ k2 =>
     have H := HD.out
     clear HD
     simp only [impl_tokenLength.l1] at H
     by_cases c1 : x < (a0.size : Int)
     ·rw [if_pos c1] at H
      by_cases c2 : 0 ≤ x
      ·rw [if_pos c2] at H
       have H2 : (impl_isDigit.f (bt a0 x)).bind (fun b => if b = true then impl_tokenLength.l1 k2 a0 true (wrap64 (x + 1)) else some x) = some d := H
       obtain ⟨b, hb_, H3⟩ := Option.bind_eq_some_iff.mp H2
       have A1 := am hb_
       have H' := am H3
       clear H H2 H3 hb_
       have b1 : decide (x < (a0.size : Int)) = true := decide_eq_true c1
       have hx5 := bt_at a0 x
       have p5 := eq_true c2
       have q5 := eq_true c1
       clear c1 c2
       cases b with
       | true =>
        go_wp2_with (first | (go_at_call 50; (with_reducible refine (impl_isDigit.calls (bt a0 x) true _ A1.out).mono ?_); rintro e w1 ⟨rfl, ⟨nd, rfl⟩⟩) | fail)
        go_roundg k2
        case measure => have := HK2.out; omega
        case rel => exact ⟨wrap64 (x + 1), rfl, H', ⟨by have := HK2.out; omega⟩, ⟨by first | exact BK.out | exact blk_drewN BK.out _⟩, ⟨by first | exact HB.out | exact pw_below_drewN HB.out _⟩⟩
       | false =>
        have hd := Option.some.inj H'.out
        subst hd
        by_cases c3 : 0 < x
        ·have h3 := HN.out
         rw [if_pos c3] at h3
         obtain rfl := Option.some.inj h3
         have b3 : decide (0 < x) = true := decide_eq_true c3
         have b4 := eq_true c3
         clear h3
         go_wp2_with (first | (go_at_call 50; (with_reducible refine (impl_isDigit.calls (bt a0 x) false _ A1.out).mono ?_); rintro e w1 ⟨rfl, ⟨nd, rfl⟩⟩) | fail)
         go_ret
         exact ⟨rfl, by first | exact HB.out | exact pw_below_drewN HB.out _⟩
        have h3 := HN.out
        rw [if_neg c3] at h3
        have b3 : decide (0 < x) = false := decide_eq_false c3
        have b4 := eq_false c3
        have h3' := am h3
        clear h3
        go_wp2_with (first | (go_at_call 50; (with_reducible refine (impl_isDigit.calls (bt a0 x) false _ A1.out).mono ?_); rintro e w1 ⟨rfl, ⟨nd, rfl⟩⟩) | fail)
        go_roundg 1
        case measure => omega
        case rel => exact ⟨1, rfl, by omega, ⟨h3'.out⟩, ⟨by first | exact BK.out | exact blk_drewN BK.out _⟩, ⟨by first | exact HB.out | exact pw_below_drewN HB.out _⟩⟩
      rw [if_neg c2] at H
      exact absurd H (by simp)
     rw [if_neg c1] at H
     have hd := Option.some.inj H
     subst hd
     have b1 : decide (x < (a0.size : Int)) = false := decide_eq_false c1
     clear c1 H
     by_cases c3 : 0 < x
     ·have h3 := HN.out
      rw [if_pos c3] at h3
      obtain rfl := Option.some.inj h3
      have b3 : decide (0 < x) = true := decide_eq_true c3
      have b4 := eq_true c3
      clear h3
      go_wp2
      go_ret
      exact ⟨rfl, by first | exact HB.out | exact pw_below_drewN HB.out _⟩
     have h3 := HN.out
     rw [if_neg c3] at h3
     have b3 : decide (0 < x) = false := decide_eq_false c3
     have b4 := eq_false c3
     have h3' := am h3
     clear h3
     go_wp2
     go_roundg 1
     case measure => omega
     case rel => exact ⟨1, rfl, by omega, ⟨h3'.out⟩, ⟨by first | exact BK.out | exact blk_drewN BK.out _⟩, ⟨by first | exact HB.out | exact pw_below_drewN HB.out _⟩⟩
  ·have hx : _ := (blk_cell BK.out 1).trans rfl
   obtain ⟨d, hd, H⟩ := Option.bind_eq_some_iff.mp HA.out
   have HD := am hd
   have HN := am H
   clear hd H HA
   go_wp2
   go_loopg [5] k (fun kq v5 w' => ∃ x : Int, v5 = .int .i64 x ∧ Aside0 (impl_tokenLength.l1 kq a0 false x = some d) ∧ Aside0 (kq ≤ k) ∧ Aside0 (w'.heap[gb]? = some (.cells #[.func (.func 50) #[] #[], .func (.func 51) #[] #[]] 66 (0, 0))) ∧ Aside0 (Below w.heap.size w w'))
   case atStart => exact ⟨0, rfl, HD, ⟨Nat.le_refl _⟩, BK, HB⟩
   case round =>
    clear BK HB hx HD
    obtain ⟨x, rfl, HD, HK2, BK, HB⟩ := hrel
    cases gk with
    | zero => exact absurd HD.out (by simp [impl_tokenLength.l1])
    | succ k2 =>
     have H := HD.out
     clear HD
     simp only [impl_tokenLength.l1] at H
     by_cases c1 : x < (a0.size : Int)
     ·rw [if_pos c1] at H
      by_cases c2 : 0 ≤ x
      ·rw [if_pos c2] at H
       have H2 : (impl_isLetter.f (bt a0 x)).bind (fun b => if b = true then impl_tokenLength.l1 k2 a0 false (wrap64 (x + 1)) else some x) = some d := H
       obtain ⟨b, hb_, H3⟩ := Option.bind_eq_some_iff.mp H2
       have A1 := am hb_
       have H' := am H3
       clear H H2 H3 hb_
       have b1 : decide (x < (a0.size : Int)) = true := decide_eq_true c1
       have hx5 := bt_at a0 x
       have p5 := eq_true c2
       have q5 := eq_true c1
       clear c1 c2
       cases b with
       | true =>
        go_wp2_with (first | (go_at_call 51; (with_reducible refine (impl_isLetter.calls (bt a0 x) true _ A1.out).mono ?_); rintro e w1 ⟨rfl, ⟨nd, rfl⟩⟩) | fail)
        go_roundg k2
        case measure => have := HK2.out; omega
        case rel => exact ⟨wrap64 (x + 1), rfl, H', ⟨by have := HK2.out; omega⟩, ⟨by first | exact BK.out | exact blk_drewN BK.out _⟩, ⟨by first | exact HB.out | exact pw_below_drewN HB.out _⟩⟩
       | false =>
        have hd := Option.some.inj H'.out
        subst hd
        by_cases c3 : 0 < x
        ·have h3 := HN.out
         rw [if_pos c3] at h3
         obtain rfl := Option.some.inj h3
         have b3 : decide (0 < x) = true := decide_eq_true c3
         have b4 := eq_true c3
         clear h3
         go_wp2_with (first | (go_at_call 51; (with_reducible refine (impl_isLetter.calls (bt a0 x) false _ A1.out).mono ?_); rintro e w1 ⟨rfl, ⟨nd, rfl⟩⟩) | fail)
         go_ret
         exact ⟨rfl, by first | exact HB.out | exact pw_below_drewN HB.out _⟩
        have h3 := HN.out
        rw [if_neg c3] at h3
        have b3 : decide (0 < x) = false := decide_eq_false c3
        have b4 := eq_false c3
        have h3' := am h3
        clear h3
        go_wp2_with (first | (go_at_call 51; (with_reducible refine (impl_isLetter.calls (bt a0 x) false _ A1.out).mono ?_); rintro e w1 ⟨rfl, ⟨nd, rfl⟩⟩) | fail)
        go_roundg 0
        case measure => omega
        case rel => exact ⟨2, rfl, by omega, ⟨h3'.out⟩, ⟨by first | exact BK.out | exact blk_drewN BK.out _⟩, ⟨by first | exact HB.out | exact pw_below_drewN HB.out _⟩⟩
      rw [if_neg c2] at H
      exact absurd H (by simp)
     rw [if_neg c1] at H
     have hd := Option.some.inj H
     subst hd
     have b1 : decide (x < (a0.size : Int)) = false := decide_eq_false c1
     clear c1 H
     by_cases c3 : 0 < x
     ·have h3 := HN.out
      rw [if_pos c3] at h3
      obtain rfl := Option.some.inj h3
      have b3 : decide (0 < x) = true := decide_eq_true c3
      have b4 := eq_true c3
      clear h3
      go_wp2
      go_ret
      exact ⟨rfl, by first | exact HB.out | exact pw_below_drewN HB.out _⟩
     have h3 := HN.out
     rw [if_neg c3] at h3
     have b3 : decide (0 < x) = false := decide_eq_false c3
     have b4 := eq_false c3
     have h3' := am h3
     clear h3
     go_wp2
     go_roundg 0
     case measure => omega
     case rel => exact ⟨2, rfl, by omega, ⟨h3'.out⟩, ⟨by first | exact BK.out | exact blk_drewN BK.out _⟩, ⟨by first | exact HB.out | exact pw_below_drewN HB.out _⟩⟩
  ·have H2 : impl_tokenLength.st2 a0 0 = some r := HA.out
   have HS := am H2
   clear HA BK H2
   go_wp2_with (first | ((with_reducible refine gate_dst (N := 31) rfl ?_); refine lit_run 31 #[.string ⟨#[61, 61]⟩, .string ⟨#[60, 60]⟩, .string ⟨#[62, 62]⟩] 3 9 rfl rfl (by first | (go_simp; done) | (go_simp; rfl)) ?_; intro gc w1 hbk hb; have BK := am hbk; replace HB := am (below_step (by repeat (first | exact HB.out | apply pw_below_drewN | apply below_alloc)) hb); clear hbk hb))
   go_loopg [33] 3 (fun kq v33 w' => ∃ j : Nat, v33 = .int .i64 (j : Int) ∧ j + kq = 3 ∧ Aside0 (impl_tokenLength.st2 a0 j = some r) ∧ Aside0 (w'.heap[gc]? = some (.cells #[.string ⟨#[61, 61]⟩, .string ⟨#[60, 60]⟩, .string ⟨#[62, 62]⟩] 9 (0, 0))) ∧ Aside0 (Below w.heap.size w w'))
   case atStart => exact ⟨0, rfl, rfl, HS, BK, HB⟩
   case round =>
    clear HS BK HB
    obtain ⟨j, rfl, hj, HS, BK, HB⟩ := hrel
    have hc_ : (j = 0 ∧ gk = 3) ∨ (j = 1 ∧ gk = 2) ∨ (j = 2 ∧ gk = 1) ∨ (j = 3 ∧ gk = 0) := by omega
    clear hj
    rcases hc_ with ⟨rfl, rfl⟩ | ⟨rfl, rfl⟩ | ⟨rfl, rfl⟩ | ⟨rfl, rfl⟩
    ·have hx : _ := (blk_cell BK.out 0).trans rfl
     obtain ⟨b, hb_, H3⟩ := Option.bind_eq_some_iff.mp HS.out
     have A1 := am hb_
     have H' := am H3
     clear HS hb_ H3
     cases b with
     | true =>
      obtain rfl := Option.some.inj ((if_pos rfl).symm.trans H'.out)
      go_wp2_with (first | (go_at_call 52; (with_reducible refine (strings_HasPrefix.calls a0 ⟨#[61, 61]⟩ true _ A1.out).mono ?_); rintro e w1 ⟨rfl, ⟨nd, rfl⟩⟩) | fail)
      go_ret
      exact ⟨rfl, by first | exact HB.out | exact pw_below_drewN HB.out _⟩
     | false =>
      have h3 := (if_neg Bool.false_ne_true).symm.trans H'.out
      have H3' := am h3
      clear h3 H'
      go_wp2_with (first | (go_at_call 52; (with_reducible refine (strings_HasPrefix.calls a0 ⟨#[61, 61]⟩ false _ A1.out).mono ?_); rintro e w1 ⟨rfl, ⟨nd, rfl⟩⟩) | fail)
      go_roundg 2
      case measure => omega
      case rel => exact ⟨1, rfl, by omega, ⟨H3'.out⟩, ⟨by first | exact BK.out | exact blk_drewN BK.out _⟩, ⟨by first | exact HB.out | exact pw_below_drewN HB.out _⟩⟩
    ·have hx : _ := (blk_cell BK.out 1).trans rfl
     obtain ⟨b, hb_, H3⟩ := Option.bind_eq_some_iff.mp HS.out
     have A1 := am hb_
     have H' := am H3
     clear HS hb_ H3
     cases b with
     | true =>
      obtain rfl := Option.some.inj ((if_pos rfl).symm.trans H'.out)
      go_wp2_with (first | (go_at_call 52; (with_reducible refine (strings_HasPrefix.calls a0 ⟨#[60, 60]⟩ true _ A1.out).mono ?_); rintro e w1 ⟨rfl, ⟨nd, rfl⟩⟩) | fail)
      go_ret
      exact ⟨rfl, by first | exact HB.out | exact pw_below_drewN HB.out _⟩
     | false =>
      have h3 := (if_neg Bool.false_ne_true).symm.trans H'.out
      have H3' := am h3
      clear h3 H'
      go_wp2_with (first | (go_at_call 52; (with_reducible refine (strings_HasPrefix.calls a0 ⟨#[60, 60]⟩ false _ A1.out).mono ?_); rintro e w1 ⟨rfl, ⟨nd, rfl⟩⟩) | fail)
      go_roundg 1
      case measure => omega
      case rel => exact ⟨2, rfl, by omega, ⟨H3'.out⟩, ⟨by first | exact BK.out | exact blk_drewN BK.out _⟩, ⟨by first | exact HB.out | exact pw_below_drewN HB.out _⟩⟩
    ·have hx : _ := (blk_cell BK.out 2).trans rfl
     obtain ⟨b, hb_, H3⟩ := Option.bind_eq_some_iff.mp HS.out
     have A1 := am hb_
     have H' := am H3
     clear HS hb_ H3
     cases b with
     | true =>
      obtain rfl := Option.some.inj ((if_pos rfl).symm.trans H'.out)
      go_wp2_with (first | (go_at_call 52; (with_reducible refine (strings_HasPrefix.calls a0 ⟨#[62, 62]⟩ true _ A1.out).mono ?_); rintro e w1 ⟨rfl, ⟨nd, rfl⟩⟩) | fail)
      go_ret
      exact ⟨rfl, by first | exact HB.out | exact pw_below_drewN HB.out _⟩
     | false =>
      have h3 := (if_neg Bool.false_ne_true).symm.trans H'.out
      have H3' := am h3
      clear h3 H'
      go_wp2_with (first | (go_at_call 52; (with_reducible refine (strings_HasPrefix.calls a0 ⟨#[62, 62]⟩ false _ A1.out).mono ?_); rintro e w1 ⟨rfl, ⟨nd, rfl⟩⟩) | fail)
      go_roundg 0
      case measure => omega
      case rel => exact ⟨3, rfl, by omega, ⟨H3'.out⟩, ⟨by first | exact BK.out | exact blk_drewN BK.out _⟩, ⟨by first | exact HB.out | exact pw_below_drewN HB.out _⟩⟩
    ·have hf : impl_tokenLength.fin a0 = some r := HS.out
     clear HS BK
     unfold impl_tokenLength.fin at hf
     by_cases c2 : a0.toList = ([] : List UInt8)
     ·rw [if_pos c2] at hf
      obtain rfl := Option.some.inj hf
      have c2b0 : (a0.toList == ([] : List UInt8)) = true := beq_iff_eq.mpr c2
      have c2b1 : (a0.toList != ([] : List UInt8)) = false := bne_eq_false_iff_eq.mpr c2
      clear hf
      go_wp2
      go_ret
      exact ⟨rfl, by first | exact HB.out | exact pw_below_drewN HB.out _⟩
     rw [if_neg c2] at hf
     have c2b0 : (a0.toList == ([] : List UInt8)) = false := beq_eq_false_iff_ne.mpr c2
     have c2b1 : (a0.toList != ([] : List UInt8)) = true := bne_iff_ne.mpr c2
     have hsz : 0 < a0.size := by
      rcases Nat.eq_zero_or_pos a0.size with h0 | h0
      ·exact absurd (tl_nil a0 h0) c2
      ·exact h0
     have hx5 : ∀ h : 0 < a0.size, ((a0[0]'h).toNat : Int) = bt a0 0 := fun h => bt_at a0 0 h
     have p5 : (0 < a0.size) = True := eq_true hsz
     have p6 : ((0 : Int) < (a0.size : Int)) = True := eq_true (by omega)
     clear c2 hsz
     obtain ⟨j, hj, hf⟩ := Option.bind_eq_some_iff.mp hf
     have A1 := am hj
     by_cases c3 : 0 ≤ j
     ·rw [if_pos c3] at hf
      obtain rfl := Option.some.inj hf
      have b3 : decide (0 ≤ j) = true := decide_eq_true c3
      have b4 := eq_true c3
      clear hf hj c3
      go_wp2_with (first | (go_at_call 53; (with_reducible refine (strings_IndexByte.calls _ (bt a0 0) j _ A1.out).mono ?_); rintro e w1 ⟨rfl, ⟨nd, rfl⟩⟩) | fail)
      go_ret
      exact ⟨rfl, by first | exact HB.out | exact pw_below_drewN HB.out _⟩
     rw [if_neg c3] at hf
     obtain rfl := Option.some.inj hf
     have b3 : decide (0 ≤ j) = false := decide_eq_false c3
     have b4 := eq_false c3
     clear hf hj c3
     go_wp2_with (first | (go_at_call 53; (with_reducible refine (strings_IndexByte.calls _ (bt a0 0) j _ A1.out).mono ?_); rintro e w1 ⟨rfl, ⟨nd, rfl⟩⟩) | fail)
     go_ret
     exact ⟨rfl, by first | exact HB.out | exact pw_below_drewN HB.out _⟩
theorem impl_TokenValid.mono : ∀ a0 k, LeO (impl_TokenValid.f k a0) (impl_TokenValid.f (k + 1) a0) := by
 intro a0 k
 unfold impl_TokenValid.f
 have m0 := @impl_tokenLength.mono
 exact mo_
theorem impl_TokenValid.calls (k : Nat) (a0 : ByteArray) (r : Bool) (w : World) (h : impl_TokenValid.f k a0 = some r) :
  Calls Tryd.prog 37 #[.string a0] w fun e w' => e = .returned (.bool r) ∧ Below w.heap.size w w' := by
 have HB := am (Below.refl w.heap.size w)
 have H : (if a0.toList = ([] : List UInt8) then (some false) else ((impl_tokenLength.f k a0).bind fun t20 => (some (t20 == (a0.size : Int))))) = some r := h
 clear h
 by_cases c2 : a0.toList = ([] : List UInt8)
 ·rw [if_pos c2] at H
  have c2b0 : (a0.toList == ([] : List UInt8)) = true := beq_iff_eq.mpr c2
  have c2b1 : (a0.toList != ([] : List UInt8)) = false := bne_eq_false_iff_eq.mpr c2
  clear c2
  obtain rfl := Option.some.inj H
  go_enter Tryd.func37, Tryd.ntmps37
  go_wp2
  go_ret
  exact ⟨rr_, ab2_⟩
 rw [if_neg c2] at H
 have c2b0 : (a0.toList == ([] : List UInt8)) = false := beq_eq_false_iff_ne.mpr c2
 have c2b1 : (a0.toList != ([] : List UInt8)) = true := bne_iff_ne.mpr c2
 obtain ⟨t20, A3, H⟩ := bsa H
 (try dsimp only at H)
 obtain rfl := Option.some.inj H
 go_enter Tryd.func37, Tryd.ntmps37
 go_wp2_with (first | (go_at_call 26; (with_reducible refine (impl_tokenLength.calls k a0 t20 _ A3.out).mono ?_); rintro e w4 ⟨rfl, hb⟩; replace HB := am (below_step ab2_ hb); (try clear hb)))
 go_ret
 exact ⟨rr_, ab2_⟩
theorem strings_Join.calls (A0 : Option Addr) (c0 : Nat) (l0 : List ByteArray) (a1 : ByteArray) (r : ByteArray) (w : World) (hr0 : Kd.C Kd.string w A0 l0.length l0) (hc0 : l0.length ≤ c0) (h : strings_Join.f l0 a1 = some r) :
  Calls Tryd.prog 38 #[.slice A0 l0.length c0, .string a1] w fun e w' => e = .returned (.string r) ∧ Below w.heap.size w w' := by
 unfold strings_Join.f at h
 by_cases h1 : l0.length ≤ 140737488355328
 case neg => rw [if_neg h1] at h; cases h
 rw [if_pos h1] at h
 by_cases h2 : (joinB l0 a1).length ≤ 140737488355328
 case neg => rw [if_neg h2] at h; cases h
 rw [if_pos h2] at h
 obtain rfl := Option.some.inj h
 cases l0 with
 | nil =>
  refine (Tryd.strings_Join_none A0 c0 a1 w).mono ?_
  rintro e w' ⟨rfl, rfl⟩
  exact ⟨rfl, Below.refl _ _⟩
 | cons x xs =>
  obtain ⟨ad, rfl, hc⟩ := hr0.2.2 (by simp)
  have hcell : ∀ (j : Nat) y, (x :: xs)[j]? = some y → w.cell? (ad.add j) = some (.string y) := by
   intro j y hj
   obtain ⟨c, hcl, hK, hcc⟩ := hc j y hj
   have hK' : c = [.string y] := hK
   subst hK'
   have := hcc 0 _ rfl
   simpa [Kd.string, Kd.scalar] using this
  obtain ⟨b, o, s⟩ := ad
  have h0 := hcell 0 x rfl
  have hs : s = none := by
   cases s with
   | none => rfl
   | some v => simp [World.cell?, Addr.add] at h0; split at h0 <;> simp at h0
  subst hs
  have hlt := World.block_lt_of_cell? w _ h0
  refine (Tryd.strings_Join b o c0 (x :: xs) a1 w (fun j y hj => by have h_ := hcell j y hj; cases j <;> simpa [Addr.add] using h_) hlt h1 hc0 h2).mono ?_
  rintro e w' ⟨rfl, hb⟩
  exact ⟨rfl, hb⟩
theorem impl_TokensText.mono_l : ∀ k, (∀ y0 y1 y2 y3, LeO (impl_TokensText.l0 k y0 y1 y2 y3) (impl_TokensText.l0 (k + 1) y0 y1 y2 y3))
 | 0 => fun _ _ _ _ r h => by simp [impl_TokensText.l0] at h
 | k + 1 => by
  have ih0 := impl_TokensText.mono_l k
  ·intro y0 y1 y2 y3
   unfold impl_TokensText.l0
   have m0 := @impl_TokenValid.mono
   exact mo_
theorem impl_TokensText.mono : ∀ a0 k, LeO (impl_TokensText.f k a0) (impl_TokensText.f (k + 1) a0) := by
 intro a0 k
 have ih0 := impl_TokensText.mono_l k
 unfold impl_TokensText.f
 have m0 := @impl_TokenValid.mono
 exact mo_
theorem impl_TokensText.calls (k : Nat) (A0 : Option Addr) (c0 : Nat) (l0 : List ByteArray) (r : ByteArray) (w : World) (hr0 : Kd.C Kd.string w A0 l0.length l0) (hc0 : l0.length ≤ c0) (h : impl_TokensText.f k l0 = some r) :
  Calls Tryd.prog 21 #[.slice A0 l0.length c0] w fun e w' => e = .returned (.string r) ∧ Below w.heap.size w w' := by
 have HR0 := am hr0
 have HC0 := am hc0
 clear hr0 hc0
 have HB := am (Below.refl w.heap.size w)
 have H : (impl_TokensText.l0 k l0 l0 (l0.length : Int) 0) = some r := h
 clear h
 have H' := am H
 clear H
 go_enter Tryd.func21, Tryd.ntmps21
 go_wp2
 go_loopg [7] k (fun kq v7 w' => ∃ (x7_1 : Int), v7 = .int .i64 x7_1 ∧ Aside0 (impl_TokensText.l0 kq l0 l0 (l0.length : Int) x7_1 = some r) ∧ Aside0 (kq ≤ k) ∧ Aside0 (Below w.heap.size w w'))
 case atStart => exact ⟨(0), sd_, H', ⟨Nat.le_refl _⟩, ⟨ab2_⟩⟩
 case round =>
  clear H'
  obtain ⟨x7_1, rfl, HA, HK1, HB⟩ := hrel
  cases gk with
  | zero => exact absurd HA.out (by simp [impl_TokensText.l0])
  | succ k1 =>
   have H := HA.out
   clear HA
   simp only [impl_TokensText.l0] at H
   by_cases c2 : x7_1 < (l0.length : Int)
   ·rw [if_pos c2] at H
    have c2b0 : decide (x7_1 < (l0.length : Int)) = true := decide_eq_true c2
    clear c2
    by_cases c3 : 0 ≤ x7_1
    ·rw [if_pos c3] at H
     have c3b0 : decide (0 ≤ x7_1) = true := decide_eq_true c3
     clear c3
     by_cases c4 : x7_1 < (l0.length : Int)
     ·rw [if_pos c4] at H
      have c4b0 : decide (x7_1 < (l0.length : Int)) = true := decide_eq_true c4
      clear c4
      obtain ⟨t20, A5, H⟩ := bsa H
      (try dsimp only at H)
      by_cases c6 : t20 = true
      ·subst c6
       rw [if_pos rfl] at H
       have H' := am H
       clear H
       have p22 : 0 ≤ (x7_1 : Int) := of_decide_eq_true asm_
       have q22 : x7_1 < (l0.length : Int) := of_decide_eq_true asm_
       obtain ⟨ad22, e22, hx22_0⟩ := Kd.at_string HR0.out x7_1 p22 q22
       cases e22
       replace hx22_0 := (HB.out.cell (World.block_lt_of_cell? w _ hx22_0)).trans hx22_0
       replace p22 := eq_true p22
       replace q22 := eq_true q22
       go_wp2_with (first | ((with_reducible refine gate_callee (f := 37) rfl ?_); refine gl_ 12 Tryd.func37 #[.string (rdOf ByteArray.empty l0 x7_1)] ?_; (with_reducible refine (impl_TokenValid.calls k1 (rdOf ByteArray.empty l0 x7_1) true _ A5.out).mono ?_); rintro e w7 ⟨rfl, hb⟩; refine ⟨_, rfl, ?_⟩; replace HB := am (below_step ab2_ hb); (try clear hb)))
       go_roundg k1
       case measure => have := HK1.out; omega
       case rel => exact ⟨(wrap64 (x7_1 + 1)), sd_, H', ⟨by have := HK1.out; omega⟩, ⟨ab2_⟩⟩
      replace c6 := Bool.eq_false_iff.mpr c6
      subst c6
      rw [if_neg (show ¬ (false = true) by decide)] at H
      obtain rfl := Option.some.inj H
      have p22 : 0 ≤ (x7_1 : Int) := of_decide_eq_true asm_
      have q22 : x7_1 < (l0.length : Int) := of_decide_eq_true asm_
      obtain ⟨ad22, e22, hx22_0⟩ := Kd.at_string HR0.out x7_1 p22 q22
      cases e22
      replace hx22_0 := (HB.out.cell (World.block_lt_of_cell? w _ hx22_0)).trans hx22_0
      replace p22 := eq_true p22
      replace q22 := eq_true q22
      go_wp2_with (first | ((with_reducible refine gate_callee (f := 37) rfl ?_); refine gl_ 12 Tryd.func37 #[.string (rdOf ByteArray.empty l0 x7_1)] ?_; (with_reducible refine (impl_TokenValid.calls k1 (rdOf ByteArray.empty l0 x7_1) false _ A5.out).mono ?_); rintro e w8 ⟨rfl, hb⟩; refine ⟨_, rfl, ?_⟩; replace HB := am (below_step ab2_ hb); (try clear hb)))
      go_ret
      exact ⟨rr_, ab2_⟩
     rw [if_neg c4] at H
     exact absurd H (by simp)
    rw [if_neg c3] at H
    exact absurd H (by simp)
   rw [if_neg c2] at H
   have c2b0 : decide (x7_1 < (l0.length : Int)) = false := decide_eq_false c2
   clear c2
   obtain ⟨t23, A9, H⟩ := bsa H
   (try dsimp only at H)
   obtain rfl := Option.some.inj H
   go_wp2_with (first | ((with_reducible refine gate_callee (f := 38) rfl ?_); refine gl_ 16 Tryd.func38 #[.slice A0 l0.length c0, .string (⟨#[32]⟩ : ByteArray)] ?_; (with_reducible refine (strings_Join.calls _ _ l0 (⟨#[32]⟩ : ByteArray) t23 _ (aC_ (Kd.C_below HR0.out HB.out)) HC0.out A9.out).mono ?_); rintro e w10 ⟨rfl, hb⟩; refine ⟨_, rfl, ?_⟩; replace HB := am (below_step ab2_ hb); (try clear hb)))
   go_ret
   exact ⟨rr_, ab2_⟩
theorem impl_OpLevel.mono_l : ∀ k, (∀ y0 y1, LeO (impl_OpLevel.j0 k y0 y1) (impl_OpLevel.j0 (k + 1) y0 y1)) ∧ (∀ y0 y1, LeO (impl_OpLevel.j1 k y0 y1) (impl_OpLevel.j1 (k + 1) y0 y1))
 | 0 => ⟨fun _ _ r h => by simp [impl_OpLevel.j0] at h, fun _ _ r h => by simp [impl_OpLevel.j1] at h⟩
 | k + 1 => by
  obtain ⟨ih0, ih1⟩ := impl_OpLevel.mono_l k
  refine ⟨?_, ?_⟩
  ·intro y0 y1
   unfold impl_OpLevel.j0
   exact mo_
  ·intro y0 y1
   unfold impl_OpLevel.j1
   exact mo_
theorem impl_OpLevel.mono : ∀ a0 k, LeO (impl_OpLevel.f k a0) (impl_OpLevel.f (k + 1) a0) := by
 intro a0 k
 obtain ⟨ih0, ih1⟩ := impl_OpLevel.mono_l k
 unfold impl_OpLevel.f
 exact mo_
theorem impl_OpLevel.calls (k : Nat) (a0 : Int) (r : Int) (w : World) (h : impl_OpLevel.f k a0 = some r) :
  Calls Tryd.prog 41 #[.int .i64 a0] w fun e w' => e = .returned (.int .i64 r) ∧ Drawn0 w w' := by
 have H : (if a0 = 1 then (some 1) else (if a0 = 2 then (some 2) else (if a0 = 3 then (some 3) else (if a0 = 4 then (some 4) else (if a0 = 5 then (some 5) else (if a0 = 6 then (impl_OpLevel.j0 k a0 (a0 == 6)) else (impl_OpLevel.j0 k a0 (a0 == 7)))))))) = some r := h
 clear h
 by_cases c2 : a0 = 1
 ·rw [if_pos c2] at H
  have c2b0 : (a0 == 1) = true := beq_iff_eq.mpr c2
  have c2b1 : (a0 != 1) = false := bne_eq_false_iff_eq.mpr c2
  clear c2
  obtain rfl := Option.some.inj H
  go_enter Tryd.func41, Tryd.ntmps41
  go_wp2
  go_ret
  exact ⟨sd_, ab6_⟩
 rw [if_neg c2] at H
 have c2b0 : (a0 == 1) = false := beq_eq_false_iff_ne.mpr c2
 have c2b1 : (a0 != 1) = true := bne_iff_ne.mpr c2
 by_cases c3 : a0 = 2
 ·rw [if_pos c3] at H
  have c3b0 : (a0 == 2) = true := beq_iff_eq.mpr c3
  have c3b1 : (a0 != 2) = false := bne_eq_false_iff_eq.mpr c3
  clear c3
  obtain rfl := Option.some.inj H
  go_enter Tryd.func41, Tryd.ntmps41
  go_wp2
  go_ret
  exact ⟨sd_, ab6_⟩
 rw [if_neg c3] at H
 have c3b0 : (a0 == 2) = false := beq_eq_false_iff_ne.mpr c3
 have c3b1 : (a0 != 2) = true := bne_iff_ne.mpr c3
 by_cases c4 : a0 = 3
 ·rw [if_pos c4] at H
  have c4b0 : (a0 == 3) = true := beq_iff_eq.mpr c4
  have c4b1 : (a0 != 3) = false := bne_eq_false_iff_eq.mpr c4
  clear c4
  obtain rfl := Option.some.inj H
  go_enter Tryd.func41, Tryd.ntmps41
  go_wp2
  go_ret
  exact ⟨sd_, ab6_⟩
 rw [if_neg c4] at H
 have c4b0 : (a0 == 3) = false := beq_eq_false_iff_ne.mpr c4
 have c4b1 : (a0 != 3) = true := bne_iff_ne.mpr c4
 by_cases c5 : a0 = 4
 ·rw [if_pos c5] at H
  have c5b0 : (a0 == 4) = true := beq_iff_eq.mpr c5
  have c5b1 : (a0 != 4) = false := bne_eq_false_iff_eq.mpr c5
  clear c5
  obtain rfl := Option.some.inj H
  go_enter Tryd.func41, Tryd.ntmps41
  go_wp2
  go_ret
  exact ⟨sd_, ab6_⟩
 rw [if_neg c5] at H
 have c5b0 : (a0 == 4) = false := beq_eq_false_iff_ne.mpr c5
 have c5b1 : (a0 != 4) = true := bne_iff_ne.mpr c5
 by_cases c6 : a0 = 5
 ·rw [if_pos c6] at H
  have c6b0 : (a0 == 5) = true := beq_iff_eq.mpr c6
  have c6b1 : (a0 != 5) = false := bne_eq_false_iff_eq.mpr c6
  clear c6
  obtain rfl := Option.some.inj H
  go_enter Tryd.func41, Tryd.ntmps41
  go_wp2
  go_ret
  exact ⟨sd_, ab6_⟩
 rw [if_neg c6] at H
 have c6b0 : (a0 == 5) = false := beq_eq_false_iff_ne.mpr c6
 have c6b1 : (a0 != 5) = true := bne_iff_ne.mpr c6
 have HC7 := am H
 clear H
 go_enter Tryd.func41, Tryd.ntmps41
 go_upto_if 14 with (fail)
 go_cut [14] (fun v14 wc => ∃ (kq : Nat) (x14_6 : Bool), v14 = .bool x14_6 ∧ Aside0 (impl_OpLevel.j0 kq a0 x14_6 = some r) ∧ Aside0 (kq ≤ k) ∧ Drawn0 w wc)
 case first =>
  have H := HC7.out
  clear HC7
  by_cases c8 : a0 = 6
  ·rw [if_pos c8] at H
   have c8b0 : (a0 == 6) = true := beq_iff_eq.mpr c8
   have c8b1 : (a0 != 6) = false := bne_eq_false_iff_eq.mpr c8
   clear c8
   (first | rw [c8b0] | (simp only [i64_w, i32_w]; rw [c8b0]) | skip)
   have H' := am H
   clear H
   go_wp2
   go_meet
   case rel => exact ⟨_, ((a0 == 6)), sd_, H', ⟨by first | omega | exact Nat.le_refl _⟩, ab6_⟩
  rw [if_neg c8] at H
  have c8b0 : (a0 == 6) = false := beq_eq_false_iff_ne.mpr c8
  have c8b1 : (a0 != 6) = true := bne_iff_ne.mpr c8
  (first | rw [c8b0] | (simp only [i64_w, i32_w]; rw [c8b0]) | skip)
  have H' := am H
  clear H
  go_wp2
  go_meet
  case rel => exact ⟨_, ((a0 == 7)), sd_, H', ⟨by first | omega | exact Nat.le_refl _⟩, ab6_⟩
 case rest =>
  clear HC7
  try clear c2
  try clear c2b0
  try clear c2b1
  try clear c3
  try clear c3b0
  try clear c3b1
  try clear c4
  try clear c4b0
  try clear c4b1
  try clear c5
  try clear c5b0
  try clear c5b1
  try clear c6
  try clear c6b0
  try clear c6b1
  obtain ⟨kq, x14_6, rfl, HA, HJ6, ⟨mc6, rfl⟩⟩ := hcut
  cases kq with
  | zero => exact absurd HA.out (by simp [impl_OpLevel.j0])
  | succ kj6 =>
   have H := HA.out
   clear HA
   simp only [impl_OpLevel.j0] at H
   by_cases c9 : x14_6 = true
   ·subst c9
    rw [if_pos rfl] at H
    obtain rfl := Option.some.inj H
    go_wp2
    go_ret
    exact ⟨sd_, ab6_⟩
   replace c9 := Bool.eq_false_iff.mpr c9
   subst c9
   rw [if_neg (show ¬ (false = true) by decide)] at H
   have HC10 := am H
   clear H
   go_upto_if 17 with (fail)
   go_cut [17] (fun v17 wc => ∃ (kq : Nat) (x17_9 : Bool), v17 = .bool x17_9 ∧ Aside0 (impl_OpLevel.j1 kq a0 x17_9 = some r) ∧ Aside0 (kq ≤ kj6) ∧ Drawn0 w wc)
   case first =>
    have H := HC10.out
    clear HC10
    by_cases c11 : a0 = 8
    ·rw [if_pos c11] at H
     have c11b0 : (a0 == 8) = true := beq_iff_eq.mpr c11
     have c11b1 : (a0 != 8) = false := bne_eq_false_iff_eq.mpr c11
     clear c11
     (first | rw [c11b0] | (simp only [i64_w, i32_w]; rw [c11b0]) | skip)
     have H' := am H
     clear H
     go_wp2
     go_meet
     case rel => exact ⟨_, ((a0 == 8)), sd_, H', ⟨by have := HJ6.out; first | omega | exact Nat.le_refl _⟩, ab6_⟩
    rw [if_neg c11] at H
    have c11b0 : (a0 == 8) = false := beq_eq_false_iff_ne.mpr c11
    have c11b1 : (a0 != 8) = true := bne_iff_ne.mpr c11
    (first | rw [c11b0] | (simp only [i64_w, i32_w]; rw [c11b0]) | skip)
    have H' := am H
    clear H
    go_wp2
    go_meet
    case rel => exact ⟨_, ((a0 == 9)), sd_, H', ⟨by have := HJ6.out; first | omega | exact Nat.le_refl _⟩, ab6_⟩
   case rest =>
    clear HC10
    try clear c2
    try clear c2b0
    try clear c2b1
    try clear c3
    try clear c3b0
    try clear c3b1
    try clear c4
    try clear c4b0
    try clear c4b1
    try clear c5
    try clear c5b0
    try clear c5b1
    try clear c6
    try clear c6b0
    try clear c6b1
    try clear c9
    obtain ⟨kq, x17_9, rfl, HA, HJ9, ⟨mc9, rfl⟩⟩ := hcut
    cases kq with
    | zero => exact absurd HA.out (by simp [impl_OpLevel.j1])
    | succ kj9 =>
     have H := HA.out
     clear HA
     simp only [impl_OpLevel.j1] at H
     by_cases c12 : x17_9 = true
     ·subst c12
      rw [if_pos rfl] at H
      obtain rfl := Option.some.inj H
      go_wp2
      go_ret
      exact ⟨sd_, ab6_⟩
     replace c12 := Bool.eq_false_iff.mpr c12
     subst c12
     rw [if_neg (show ¬ (false = true) by decide)] at H
     by_cases c13 : a0 = 10
     ·rw [if_pos c13] at H
      have c13b0 : (a0 == 10) = true := beq_iff_eq.mpr c13
      have c13b1 : (a0 != 10) = false := bne_eq_false_iff_eq.mpr c13
      clear c13
      obtain rfl := Option.some.inj H
      go_wp2
      go_ret
      exact ⟨sd_, ab6_⟩
     rw [if_neg c13] at H
     have c13b0 : (a0 == 10) = false := beq_eq_false_iff_ne.mpr c13
     have c13b1 : (a0 != 10) = true := bne_iff_ne.mpr c13
     by_cases c14 : a0 = 11
     ·rw [if_pos c14] at H
      have c14b0 : (a0 == 11) = true := beq_iff_eq.mpr c14
      have c14b1 : (a0 != 11) = false := bne_eq_false_iff_eq.mpr c14
      clear c14
      obtain rfl := Option.some.inj H
      go_wp2
      go_ret
      exact ⟨sd_, ab6_⟩
     rw [if_neg c14] at H
     have c14b0 : (a0 == 11) = false := beq_eq_false_iff_ne.mpr c14
     have c14b1 : (a0 != 11) = true := bne_iff_ne.mpr c14
     by_cases c15 : a0 = 12
     ·rw [if_pos c15] at H
      have c15b0 : (a0 == 12) = true := beq_iff_eq.mpr c15
      have c15b1 : (a0 != 12) = false := bne_eq_false_iff_eq.mpr c15
      clear c15
      obtain rfl := Option.some.inj H
      go_wp2
      go_ret
      exact ⟨sd_, ab6_⟩
     rw [if_neg c15] at H
     have c15b0 : (a0 == 12) = false := beq_eq_false_iff_ne.mpr c15
     have c15b1 : (a0 != 12) = true := bne_iff_ne.mpr c15
     obtain rfl := Option.some.inj H
     go_wp2
     go_ret
     exact ⟨sd_, ab6_⟩
theorem impl_operandTokens.mono_all : ∀ k, (∀ y0 y1 y2 y3 y4, LeO (impl_operandTokens.f k y0 y1 y2 y3 y4) (impl_operandTokens.f (k + 1) y0 y1 y2 y3 y4)) ∧ (∀ y0 y1 y2 y3 y4, LeO (impl_operandTokens.j0 k y0 y1 y2 y3 y4) (impl_operandTokens.j0 (k + 1) y0 y1 y2 y3 y4)) ∧ (∀ y0 y1 y2 y3, LeO (impl_exprTokens.f k y0 y1 y2 y3) (impl_exprTokens.f (k + 1) y0 y1 y2 y3))
 | 0 => ⟨fun _ _ _ _ _ r h => by simp [impl_operandTokens.f] at h, fun _ _ _ _ _ r h => by simp [impl_operandTokens.j0] at h, fun _ _ _ _ r h => by simp [impl_exprTokens.f] at h⟩
 | k + 1 => by
  obtain ⟨ih0, ih1, ih2⟩ := impl_operandTokens.mono_all k
  refine ⟨?_, ?_, ?_⟩
  ·intro y0 y1 y2 y3 y4
   unfold impl_operandTokens.f
   have m0 := @impl_OpLevel.mono
   exact mo_
  ·intro y0 y1 y2 y3 y4
   unfold impl_operandTokens.j0
   have m0 := @impl_OpLevel.mono
   exact mo_
  ·intro y0 y1 y2 y3
   unfold impl_exprTokens.f
   have m0 := @impl_OpLevel.mono
   exact mo_
theorem impl_operandTokens.mono : ∀ a0 a1 a2 a3 a4 k, LeO (impl_operandTokens.f k a0 a1 a2 a3 a4) (impl_operandTokens.f (k + 1) a0 a1 a2 a3 a4) := by
 intro a0 a1 a2 a3 a4 k
 obtain ⟨ih0, ih1, ih2⟩ := impl_operandTokens.mono_all k
 exact ih0 a0 a1 a2 a3 a4
theorem impl_exprTokens.mono : ∀ a0 a1 a2 a3 k, LeO (impl_exprTokens.f k a0 a1 a2 a3) (impl_exprTokens.f (k + 1) a0 a1 a2 a3) := by
 intro a0 a1 a2 a3 k
 obtain ⟨ih0, ih1, ih2⟩ := impl_operandTokens.mono_all k
 exact ih2 a0 a1 a2 a3
abbrev impl_operandTokens.CallsAt (k : Nat) : Prop := ∀ (a0_0 : Int) (a0_1 : Int) (A0_2 : Option Addr) (c0_2 : Nat) (l0_2 : List (S29)) (a1 : Int) (P2_ : Nat → Prop) (u20_ : Value) (l2 : List ByteArray) (r : List ByteArray) (w0 w : World) (hB : Below w0.heap.size w0 w) (hr0_2 : ∀ W_, Kept w W_ (fun k_ => P2_ k_) → Kd.C k29 W_ A0_2 l0_2.length l0_2) (hc0_2 : l0_2.length ≤ c0_2) (ho2 : Kd.R Kd.string 9 w w0.heap.size P2_ u20_ l2) (ht_ : Tab w0) (h : impl_operandTokens.f k a0_0 a0_1 l0_2 a1 l2 = some r),
  Calls Tryd.prog 42 #[.agg #[.int .i64 a0_0, .int .i64 a0_1, .slice A0_2 l0_2.length c0_2], .int .i64 a1, u20_] w fun e w' => ∃ v0_ : Value, e = .returned (v0_) ∧ Kd.R Kd.string 9 w' w0.heap.size (fun k_ => (P2_ k_ ∨ w.heap.size ≤ k_)) v0_ r ∧ Below w0.heap.size w0 w' ∧ Kept w w' (fun k_ => P2_ k_)
abbrev impl_exprTokens.CallsAt (k : Nat) : Prop := ∀ (a0_0 : Int) (a0_1 : Int) (A0_2 : Option Addr) (c0_2 : Nat) (l0_2 : List (S29)) (P1_ : Nat → Prop) (u20_ : Value) (l1 : List ByteArray) (r : List ByteArray) (w0 w : World) (hB : Below w0.heap.size w0 w) (hr0_2 : ∀ W_, Kept w W_ (fun k_ => P1_ k_) → Kd.C k29 W_ A0_2 l0_2.length l0_2) (hc0_2 : l0_2.length ≤ c0_2) (ho1 : Kd.R Kd.string 9 w w0.heap.size P1_ u20_ l1) (ht_ : Tab w0) (h : impl_exprTokens.f k a0_0 a0_1 l0_2 l1 = some r),
  Calls Tryd.prog 22 #[.agg #[.int .i64 a0_0, .int .i64 a0_1, .slice A0_2 l0_2.length c0_2], u20_] w fun e w' => ∃ v0_ : Value, e = .returned (v0_) ∧ Kd.R Kd.string 9 w' w0.heap.size (fun k_ => (P1_ k_ ∨ w.heap.size ≤ k_)) v0_ r ∧ Below w0.heap.size w0 w' ∧ Kept w w' (fun k_ => P1_ k_)
theorem impl_operandTokens.step (k : Nat) (ih_impl_operandTokens : ∀ m, m < k → impl_operandTokens.CallsAt m) (ih_impl_exprTokens : ∀ m, m < k → impl_exprTokens.CallsAt m) : impl_operandTokens.CallsAt k := by
 intro a0_0 a0_1 A0_2 c0_2 l0_2 a1 P2_ u28_ l2 r w0 w hB hr0_2 hc0_2 ho2 ht_ h
 cases k with
 | zero => exact absurd h (by simp [impl_operandTokens.f])
 | succ k =>
 simp only [impl_operandTokens.f] at h
 have hu29 := Tryd.underlying29
 have HR0_2 := am hr0_2
 have HC0_2 := am hc0_2
 clear hr0_2 hc0_2
 have HO2 := am (show Kd.R Kd.string 9 w w0.heap.size (fun k_ => (P2_ k_ ∨ w.heap.size ≤ k_)) u28_ l2 from Kd.R_mono ho2 (fun k_ hk => (.inl hk)))
 have HK := am (Kept.refl w (fun k_ => P2_ k_))
 have HW0 := am hB.size
 have HB := am hB
 clear hB
 have H : ((impl_OpValid.f a0_0).bind fun t30 => (if t30 = true then ((impl_OpLevel.f k a0_0).bind fun t31 => (impl_operandTokens.j0 k l2 (decide (t31 ≥ a1)) a0_0 a0_1 l0_2)) else (impl_operandTokens.j0 k l2 true a0_0 a0_1 l0_2))) = some r := h
 clear h
 have HC4 := am H
 clear H
 go_enter Tryd.func42, Tryd.ntmps42
 go_upto_region 1 with (first | ((with_reducible refine gate_dst (N := 3) rfl ?_); refine box_event rfl (N := 3) rfl (cs := #[.int .i64 a0_0, .int .i64 a0_1, .slice A0_2 l0_2.length c0_2]) (t := 29) rn_ ?_; intro gb33 hg w5 hbox hb; replace HO2 := am (Kd.R_below (aR_ HO2.out) hb); have BK33 := am (hbox); have GW33 := am ((by rw [hg]; exact (by first | exact HK.out.1 | exact (show Kept w _ (fun k_ => P2_ k_) from ab34_).1) : w.heap.size ≤ gb33)); replace HK := am (Kept.below (S := (fun k_ => P2_ k_)) ab34_ hb); have GE33 := am ((by rw [hg]; exact (below_size ab2_) : w0.heap.size ≤ gb33)); replace HB := am (below_step ab2_ hb); clear hb hbox hg))
 (try simp only [Act.put, List.setIfInBounds_toArray, List.set_cons_zero, List.set_cons_succ])
 go_cut [17] (fun v17 wc => ∃ (kq : Nat) (x17_3 : Bool), v17 = .bool x17_3 ∧ Aside0 (impl_operandTokens.j0 kq l2 x17_3 a0_0 a0_1 l0_2 = some r) ∧ Aside0 (kq ≤ k) ∧ Aside0 (Kd.R Kd.string 9 wc w0.heap.size (fun k_ => (P2_ k_ ∨ w.heap.size ≤ k_)) u28_ l2) ∧ Aside0 (wc.heap[gb33]? = some (.cells #[.int .i64 a0_0, .int .i64 a0_1, (.slice A0_2 l0_2.length c0_2)] 29 (0, 0))) ∧ Aside0 (Kept w wc (fun k_ => P2_ k_)) ∧ Aside0 (Below w0.heap.size w0 wc))
 case first =>
  have H := HC4.out
  clear HC4
  obtain ⟨t30, A6, H⟩ := bsa H
  (try dsimp only at H)
  by_cases c7 : t30 = true
  ·subst c7
   rw [if_pos rfl] at H
   obtain ⟨t31, A8, H⟩ := bsa H
   (try dsimp only at H)
   have H' := am H
   clear H
   obtain ⟨hcz9_0, hcz9_1, hcz9_2, hfz9_0, hfz9_1, hfz9_2⟩ := bcf3_ BK33.out
   go_wp2_with (first | ((with_reducible refine gate_callee (f := 57) rfl ?_); refine gl_ 9 Tryd.func57 #[.int .i64 a0_0] ?_; (with_reducible refine (impl_OpValid.calls a0_0 true _ A6.out).mono ?_); rintro e w' ⟨rfl, ⟨nd, rfl⟩⟩; refine ⟨_, rfl, ?_⟩) | (go_at_call 41; (with_reducible refine (impl_OpLevel.calls k a0_0 t31 _ A8.out).mono ?_); rintro e w' ⟨rfl, ⟨nd, rfl⟩⟩))
   go_meet
   case rel => exact ⟨_, (decide (t31 ≥ a1)), sd_, H', ⟨by first | omega | exact Nat.le_refl _⟩, ⟨aRw_ HO2.out⟩, ⟨by (with_reducible repeat (first | refine blk_drewN ?_ _ | refine blk_drew ?_ | refine blk_alloc ?_ _)); exact BK33.out⟩, ⟨ab22_⟩, ⟨ab27_⟩⟩
  replace c7 := Bool.eq_false_iff.mpr c7
  subst c7
  rw [if_neg (show ¬ (false = true) by decide)] at H
  have H' := am H
  clear H
  obtain ⟨hcz10_0, hcz10_1, hcz10_2, hfz10_0, hfz10_1, hfz10_2⟩ := bcf3_ BK33.out
  go_wp2_with (first | ((with_reducible refine gate_callee (f := 57) rfl ?_); refine gl_ 9 Tryd.func57 #[.int .i64 a0_0] ?_; (with_reducible refine (impl_OpValid.calls a0_0 false _ A6.out).mono ?_); rintro e w' ⟨rfl, ⟨nd, rfl⟩⟩; refine ⟨_, rfl, ?_⟩))
  go_meet
  case rel => exact ⟨_, (true), sd_, H', ⟨by first | omega | exact Nat.le_refl _⟩, ⟨aRw_ HO2.out⟩, ⟨by (with_reducible repeat (first | refine blk_drewN ?_ _ | refine blk_drew ?_ | refine blk_alloc ?_ _)); exact BK33.out⟩, ⟨ab22_⟩, ⟨ab27_⟩⟩
 case rest =>
  clear HC4
  obtain ⟨kq, x17_3, rfl, HA, HJ3, HO_2, BK33, HK, HB⟩ := hcut
  cases kq with
  | zero => exact absurd HA.out (by simp [impl_operandTokens.j0])
  | succ kj3 =>
   have H := HA.out
   clear HA
   simp only [impl_operandTokens.j0] at H
   by_cases c11 : x17_3 = true
   ·subst c11
    rw [if_pos rfl] at H
    obtain ⟨t34, A35, H⟩ := bsm H
    (try dsimp only at H)
    have A12 := am A35
    clear A35
    obtain rfl := Option.some.inj H
    obtain ⟨hcz13_0, hcz13_1, hcz13_2, hfz13_0, hfz13_1, hfz13_2⟩ := bcf3_ BK33.out
    obtain ⟨Ao14, co14, eo14⟩ := Kd.R_slice HO_2.out
    subst eo14
    go_wp2_with (first | ((with_reducible refine gate_callee (f := 22) rfl ?_); refine gl_ 20 Tryd.func22 #[.agg #[.int .i64 a0_0, .int .i64 a0_1, .slice A0_2 l0_2.length c0_2], .slice Ao14 l2.length co14] ?_; (with_reducible refine (ih_impl_exprTokens kj3 (by have := HJ3.out; omega) a0_0 a0_1 _ _ l0_2 (fun k_ => some k_ = (.slice Ao14 l2.length co14 : Value).ownBlock) (.slice Ao14 l2.length co14) l2 t34 w0 _ ?side1 ?side2 HC0_2.out ?side4 ?sideT A12.out).mono ?_); (case sideT => first | exact ht_ | exact Tab.below ht_ HB.out | exact Tab.below ht_ ab27_); (case side1 => exact ab27_); (case side2 => exact Kd.C_kept_call HR0_2.out ab22_ (fun k_ hs_ => (fun e_ => (HO_2.out.1 k_ e_.symm)) hs_)); (case side4 => exact Kd.R_tight rfl HO_2.out); rintro e w15 ⟨v36, rfl, ho0, hb, hkp⟩; refine ⟨_, rfl, ?_⟩; replace BK33 := am (blk_kept (aG_ BK33.out) hkp (fun hs_ => (fun e_ => (Kd.R_ne HO_2.out BK33.out (by decide)) e_) hs_)); have HO38 := am (Kd.R_mono (ok' := fun k_ => (P2_ k_ ∨ w.heap.size ≤ k_)) ho0 (fun k_ hk_ => Or.elim hk_ (fun hs_ => (HO_2.out.1 k_ (hs_).symm)) (fun hn_ => (.inr (Nat.le_trans (by first | exact HK.out.1 | exact (show Kept w _ (fun k_ => P2_ k_) from ab22_).1) hn_))))); replace HK := am (Kept.then_ (S := (fun k_ => P2_ k_)) ab22_ hkp (fun k_ hs_ => (fun e_ => (HO_2.out.1 k_ e_.symm)) hs_)); replace HB := am (hb); clear HO_2; (try clear hb); (try clear hkp); (try clear ho0)))
    go_ret
    exact ⟨_, ab16_, aRw_ HO38.out, ab27_, ab22_⟩
   replace c11 := Bool.eq_false_iff.mpr c11
   subst c11
   rw [if_neg (show ¬ (false = true) by decide)] at H
   by_cases c16 : l2.length < 8796093022208
   ·rw [if_pos c16] at H
    have LMc16 := am c16
    clear c16
    obtain ⟨y43, hy_⟩ : ∃ y_ : List ByteArray, y_ = (l2 ++ [(⟨#[40]⟩ : ByteArray)]) := ⟨_, rfl⟩
    replace H : ((impl_exprTokens.f kj3 a0_0 a0_1 l0_2 y43).bind fun t39 => (if t39.length < 8796093022208 then (some (t39 ++ [(⟨#[41]⟩ : ByteArray)])) else (none))) = some r := rx_
    have Ny43 := am hy_
    clear hy_
    obtain ⟨t39, A44, H⟩ := bsm H
    (try dsimp only at H)
    have A17 := am A44
    clear A44
    by_cases c18 : t39.length < 8796093022208
    ·rw [if_pos c18] at H
     have LMc18 := am c18
     clear c18
     obtain ⟨y45, hy_⟩ : ∃ y_ : List ByteArray, y_ = (t39 ++ [(⟨#[41]⟩ : ByteArray)]) := ⟨_, rfl⟩
     replace H : (some y45) = some r := rx_
     have Ny45 := am hy_
     clear hy_
     obtain rfl := Option.some.inj H
     try go_wp2
     replace HO_2 := am (Kd.R_drew HO_2.out)
     replace BK33 := am (blk_drew BK33.out)
     replace HK := am (Kept.drew HK.out)
     replace HB := am (below_drew1 HB.out)
     refine start_ (n := 6) (S := fun w' => w'.cell? ⟨gb33, 0, none⟩ = some (.int .i64 a0_0) ∧ w'.cell? ⟨gb33, 1, none⟩ = some (.int .i64 a0_1) ∧ w'.cell? ⟨gb33, 2, none⟩ = some (.slice A0_2 l0_2.length c0_2)) (ds := []) (bz 6 0) (by kernel_rfl) rfl rfl ⟨(blk_cell BK33.out 0).trans rfl, (blk_cell BK33.out 1).trans rfl, (blk_cell BK33.out 2).trans rfl⟩ (fun hHeld => ?_)
     generalize wc.drew = w19 at HO_2 BK33 HK HB hHeld ⊢
     refine pure_ (i := 1) (N := some 22) (v := ?_) (a' := ?_) (bz 6 2) rfl rfl (by kernel_rfl) (fun _ _ _ h => h) (Or.inl ⟨by rfl, ?_⟩) ?_ ?_
     rotate_left
     ·intro w'
      go_simp
      with_reducible rfl
     rotate_left
     ·simp only [Act.put, List.setIfInBounds_toArray, List.set_cons_zero, List.set_cons_succ, i64_w, i32_w]
      rfl
     refine take_ (i := 0) (N := some 21) (v := ?_) (a' := ?_) (bz 6 3) rfl rfl (by kernel_rfl) (fun _ _ _ h => h) (Or.inl ⟨by rfl, ?_⟩) hHeld ?_ ?_
     rotate_left
     ·rintro w' ⟨s0, s1, s2⟩
      go_simp
      with_reducible rfl
     rotate_left
     ·simp only [Act.put, List.setIfInBounds_toArray, List.set_cons_zero, List.set_cons_succ, i64_w, i32_w]
      rfl
     refine one_ (i := 2) (N := some 23) (bz 6 7) rfl rfl (by kernel_rfl) (by decide) (fun K hK => ?_)
     refine value_ (w1 := ?_) (v := ?_) (by rfl) rfl ?_ ?_
     rotate_left 2
     ·go_simp
      constructor
      ·rfl
      ·rfl
     refine hK.out _ _ ⟨(blk_cell (blk_alloc BK33.out _) 0).trans rfl, (blk_cell (blk_alloc BK33.out _) 1).trans rfl, (blk_cell (blk_alloc BK33.out _) 2).trans rfl⟩ (fun hHeld => ?_)
     clear hK K
     refine norm_ (a' := ?_) ?_ ?_
     rotate_left
     ·show Act.put _ (some 23) _ = _
      simp only [Act.put, List.setIfInBounds_toArray, List.set_cons_zero, List.set_cons_succ, i64_w, i32_w]
      rfl
     refine one_ (i := 3) (N := some 24) (bz 6 15) rfl rfl (by kernel_rfl) (by decide) (fun K hK => ?_)
     refine Kd.R_append_step Kd.string (w0 := w0) w0.heap.size (by rfl) (.tmp 22) (.tmp 23) 37 9 (.string ⟨#[]⟩) 16 rfl Tryd.underlying37 info9 rfl (by decide) (by omega) u28_ l2 (⟨#[40]⟩ : ByteArray) [.string (⟨#[40]⟩ : ByteArray)] (fun k_ => (P2_ k_ ∨ w.heap.size ≤ k_)) (fun _ => False) rfl rfl ?aP (fun _ hk => hk.elim) ?aF ?aO ?aB ?aS ?aL ?_
     (case aP => exact rfl)
     (case aB => exact ab27_)
     (case aF => exact (fun k_ hk => (.inr (Nat.le_trans (by first | exact HK.out.1 | exact (show Kept w _ (fun k_ => P2_ k_) from ab22_).1) hk))))
     (case aO => exact (aR_ HO_2.out))
     (case aS => exact (below_size ab27_))
     (case aL => have := LMc16.out; omega)
     intro v46 w20 ho hb hg hat
     rw [← Ny43.out] at ho
     replace BK33 := am (blk_grown (g := gb33) (o := .cells #[.int .i64 a0_0, .int .i64 a0_1, .slice A0_2 l0_2.length c0_2] 29 (0, 0)) (aG_ BK33.out) hg (Kd.R_ne HO_2.out BK33.out (by decide)))
     replace HB := am (hb)
     replace HK := am (Kept.of_grown (S := (fun k_ => P2_ k_)) hg ab22_ (fun k_ e_ => (HO_2.out.1 k_ e_)))
     have HO47 := am (ho)
     clear HO_2
     clear ho hb hg hat
     obtain ⟨Ao21, co21, eo21⟩ := Kd.R_slice HO47.out
     (first | subst eo21 | (injection eo21 with f1_ f2_ f3_; have f4_ := f1_.symm; have f5_ := f3_.symm; clear f1_ f2_ f3_; subst f4_; subst f5_))
     refine hK.out _ _ ⟨(blk_cell BK33.out 0).trans rfl, (blk_cell BK33.out 1).trans rfl, (blk_cell BK33.out 2).trans rfl⟩ (fun hHeld => ?_)
     clear hK K
     refine norm_ (a' := ?_) ?_ ?_
     rotate_left
     ·show Act.put _ (some 24) _ = _
      simp only [Act.put, List.setIfInBounds_toArray, List.set_cons_zero, List.set_cons_succ, i64_w, i32_w]
      rfl
     refine one_ (i := 4) (N := some 25) (bz 6 31) rfl rfl (by kernel_rfl) (by decide) (fun K hK => ?_)
     refine goes_ Tryd.func22 (by kernel_rfl) rfl #[.agg #[.int .i64 a0_0, .int .i64 a0_1, .slice A0_2 l0_2.length c0_2], .slice Ao21 y43.length co21] (by rfl) rfl rfl ab1_ ?_
     with_reducible refine (ih_impl_exprTokens kj3 (by have := HJ3.out; omega) a0_0 a0_1 _ _ l0_2 (fun k_ => some k_ = (.slice Ao21 y43.length co21 : Value).ownBlock) (.slice Ao21 y43.length co21) y43 t39 w0 _ ?side1 ?side2 HC0_2.out ?side4 ?sideT A17.out).mono ?_
     (case sideT => first | exact ht_ | exact Tab.below ht_ HB.out | exact Tab.below ht_ ab27_)
     (case side1 => exact ab27_)
     (case side2 => exact Kd.C_kept_call HR0_2.out ab22_ (fun k_ hs_ => (fun e_ => (HO47.out.1 k_ e_.symm)) hs_))
     (case side4 => exact Kd.R_tight rfl HO47.out)
     rintro e w22 ⟨v48, rfl, ho0, hb, hkp⟩
     refine ⟨_, rfl, ?_⟩
     replace BK33 := am (blk_kept (aG_ BK33.out) hkp (fun hs_ => (fun e_ => (Kd.R_ne HO47.out BK33.out (by decide)) e_) hs_))
     have HO49 := am (Kd.R_mono (ok' := fun k_ => (P2_ k_ ∨ w.heap.size ≤ k_)) ho0 (fun k_ hk_ => Or.elim hk_ (fun hs_ => (HO47.out.1 k_ (hs_).symm)) (fun hn_ => (.inr (Nat.le_trans (by first | exact HK.out.1 | exact (show Kept w _ (fun k_ => P2_ k_) from ab22_).1) hn_)))))
     replace HK := am (Kept.then_ (S := (fun k_ => P2_ k_)) ab22_ hkp (fun k_ hs_ => (fun e_ => (HO47.out.1 k_ e_.symm)) hs_))
     replace HB := am (hb)
     clear HO47
     (try clear hb)
     (try clear hkp)
     (try clear ho0)
     refine hK.out _ _ ⟨(blk_cell BK33.out 0).trans rfl, (blk_cell BK33.out 1).trans rfl, (blk_cell BK33.out 2).trans rfl⟩ (fun hHeld => ?_)
     clear hK K
     refine norm_ (a' := ?_) ?_ ?_
     rotate_left
     ·show Act.put _ (some 25) _ = _
      simp only [Act.put, List.setIfInBounds_toArray, List.set_cons_zero, List.set_cons_succ, i64_w, i32_w]
      rfl
     refine pure_ (i := 5) (N := some 2) (v := ?_) (a' := ?_) (bz 6 63) rfl rfl (by kernel_rfl) (fun _ _ _ h => h) (Or.inl ⟨by rfl, ?_⟩) ?_ ?_
     rotate_left
     ·intro w'
      go_simp
      with_reducible rfl
     rotate_left
     ·simp only [Act.put, List.setIfInBounds_toArray, List.set_cons_zero, List.set_cons_succ, i64_w, i32_w]
      rfl
     refine done_ (by kernel_rfl) ?_
     try go_wp2_with (first | ((with_reducible refine gate_builtin (b := .append) (xs := #[.tmp 26, .tmp 27]) rfl ?_); at_builtin; refine Kd.R_append Kd.string (w0 := w0) w0.heap.size rfl (.tmp 26) (.tmp 27) 37 9 (.string ⟨#[]⟩) 16 rfl Tryd.underlying37 info9 rfl (by decide) (by omega) v48 t39 (⟨#[41]⟩ : ByteArray) [.string (⟨#[41]⟩ : ByteArray)] (fun k_ => (P2_ k_ ∨ w.heap.size ≤ k_)) (fun _ => False) rfl rfl ?aP (fun _ hk => hk.elim) ?aF ?aO ?aB ?aS ?aL ?_; (case aP => exact rfl); (case aB => exact ab27_); (case aF => exact (fun k_ hk => (.inr (Nat.le_trans (by first | exact HK.out.1 | exact (show Kept w _ (fun k_ => P2_ k_) from ab22_).1) hk)))); (case aO => exact (aR_ HO49.out)); (case aS => exact (below_size ab27_)); (case aL => have := LMc18.out; omega); intro v50 w23 ho hb hg hat; rw [← Ny45.out] at ho; replace BK33 := am (blk_grown (g := gb33) (o := .cells #[.int .i64 a0_0, .int .i64 a0_1, .slice A0_2 l0_2.length c0_2] 29 (0, 0)) (aG_ BK33.out) hg (Kd.R_ne HO49.out BK33.out (by decide))); replace HB := am (hb); replace HK := am (Kept.of_grown (S := (fun k_ => P2_ k_)) hg ab22_ (fun k_ e_ => (HO49.out.1 k_ e_))); have HO51 := am (ho); clear HO49 ho hb hg hat))
     go_ret
     exact ⟨_, ab16_, aRw_ HO51.out, ab27_, ab22_⟩
    rw [if_neg c18] at H
    exact absurd H (by simp)
   rw [if_neg c16] at H
   exact absurd H (by simp)
end Go.Proofs.YtjamfkpgmkhbnaaDoor.PA

