/- Part 2 of the proof of FnPlain. -/
import Derived.Test.YtpcbfcaacilghaaQFnPlain0
import Derived.Test.YtpcbfcaacilghaaProg
import Derived.Below
import Derived.Deep.Draws
import Derived.Deep.AppendLies
import Derived.Maps.AppendAt
import Derived.OwnWalk
import Derived.Laws.BytesArg
import Derived.Laws.MakeOwn
import Derived.Laws.OwnMore
import Derived.Deep.OwnRows
import Derived.Tactics
import Derived.Lib.ConvBytes
import Derived.Laws.Slices
import Derived.WalkKit
import Derived.KernelRfl
import Derived.RowKit3
import Derived.Deep.LoopGhost
import Derived.Deep.QuietTactic
import Derived.BigQuiet
import Derived.WideLaws
import Derived.Deep.DeepCutAuto
import Derived.Deep.CutBlock
import Derived.Deep.RegionHeld3
import Derived.Laws.Rows
import Derived.Lib.AppendStr
import Derived.ArgAppend
import Derived.Laws.IdiomCopy
import Derived.OrdersHeld
import Derived.Laws.BitsLemmas
import Derived.RowKit
import Derived.Lib.SliceRun
set_option maxHeartbeats 8000000
set_option maxRecDepth 100000
namespace Go.Proofs.Ytpcbfcaacilghaa.PA
open Go.RowKit Go.Proofs.YtpcbfcaacilghaaW.PrintWords Go.Proofs.YtpcbfcaacilghaaW.PrintLast Go.Proofs.YtpcbfcaacilghaaW.PrintMore
attribute [local go_sem] max2_int min2_int max_two min_two max_three min_three max_four min_four
set_option linter.unusedVariables false
set_option linter.unusedSimpArgs false
def errW : Option Int → Value
 | none => .nilIface
 | some c => .iface 0 (.int .i64 c)
theorem errW_none : errW none = .nilIface := rfl
theorem errW_some (c : Int) : errW (some c) = .iface 0 (.int .i64 c) := rfl
theorem info3 : (Try.prog.info? 3).map (fun i => (i.zero, i.size, i.bytes)) = some (some (.int .i64 0), 1, 8) := by kernel_rfl
theorem info5 : (Try.prog.info? 5).map (fun i => (i.zero, i.size, i.bytes)) = some (some (.int .u8 0), 1, 1) := by kernel_rfl
theorem info31 : (Try.prog.info? 31).map (fun i => (i.zero, i.size, i.bytes)) = some (some (.slice none 0 0), 1, 24) := by kernel_rfl
theorem info37 : (Try.prog.info? 37).map (fun i => (i.zero, i.size, i.bytes)) = some (some (.agg #[(.int .i64 0), (.int .i64 0), (.int .i64 0), (.int .i64 0), (.int .i64 0), (.slice none 0 0), (.slice none 0 0), (.slice none 0 0)]), 8, 112) := by kernel_rfl
structure S34 where
 f0 : Int
 f1 : Int
 f2 : (List S34)
def z34 : S34 := ⟨(0 : Int), (0 : Int), ([] : List S34)⟩
def F34 (d : Kd S34) : Kd S34 := Kd.iso (Kd.pair (Kd.int .i64) (Kd.pair (Kd.int .i64) (Kd.slice 34 d))) (fun x : S34 => (x.f0, x.f1, x.f2))
theorem mono34 : Kd.Mono F34 := Kd.mono_iso _ (Kd.mono_pair (Kd.mono_const _) (Kd.mono_pair (Kd.mono_const _) (Kd.mono_slice 34 Kd.mono_id)))
theorem sub34 : Kd.Sub F34 [34] := Kd.sub_iso _ (Kd.sub_pair (Kd.sub_const _ (by decide)) (Kd.sub_pair (Kd.sub_const _ (by decide)) (Kd.sub_slice 34 (by decide) Kd.sub_id)))
theorem sz34 : ∀ n, (Kd.upto F34 3 [34] n).sz = 3 := Kd.upto_sz (fun _ => rfl)
def k34 : Kd S34 := Kd.fix F34 3 [34] sz34 (Kd.upto_E sub34)
theorem k34_heap : Kd.Heap k34 := Kd.heap_fix (fun _ h_ => Kd.heap_iso _ (Kd.heap_pair (Kd.heap_int .i64) (Kd.heap_pair (Kd.heap_int .i64) (Kd.heap_slice 34 h_))))
theorem k34_open {w : World} {x : S34} {cs : List Value} (h : k34.K w x cs) : ∃ A2 c2, cs = [.int .i64 x.f0, .int .i64 x.f1, .slice A2 x.f2.length c2] ∧ x.f2.length ≤ c2 ∧ k34.C w A2 x.f2.length x.f2 := by
 obtain ⟨n, h⟩ := h
 cases n with
 | zero => exact h.elim
 | succ n =>
  obtain ⟨_, _, rfl, rfl, ⟨_, _, rfl, rfl, ⟨A2, c2, rfl, l2, g2⟩⟩⟩ := h
  exact ⟨A2, c2, rfl, l2, Kd.fix_C g2⟩
theorem k34_mk (w : World) (x : S34) {A2 : Option Addr} {c2 : Nat} (l2 : x.f2.length ≤ c2) (g2 : k34.C w A2 x.f2.length x.f2) : k34.K w x [.int .i64 x.f0, .int .i64 x.f1, .slice A2 x.f2.length c2] := by
 obtain ⟨n2, q2⟩ := Kd.fix_C_back mono34 g2
 have r2 := Kd.upto_C_le mono34 sz34 (show n2 ≤ n2 by omega) q2
 exact ⟨n2 + 1, ⟨[.int .i64 x.f0], [.int .i64 x.f1, .slice A2 x.f2.length c2], rfl, rfl, ⟨[.int .i64 x.f1], [.slice A2 x.f2.length c2], rfl, rfl, ⟨A2, c2, rfl, l2, r2⟩⟩⟩⟩
theorem k34_mkF (W : World) (ok : Nat → Prop) (x : S34) {A2 : Option Addr} {c2 : Nat} (l2 : x.f2.length ≤ c2) (g2 : Kd.F k34 W ok A2 x.f2.length x.f2) : Kd.FK k34 W ok x [.int .i64 x.f0, .int .i64 x.f1, .slice A2 x.f2.length c2] := fun W2 hW => k34_mk W2 x l2 (g2 W2 hW)
def rd_T34 (xs : List S34) (i : Int) : S34 := xs.getD i.toNat z34
theorem at_T34 {w : World} {A : Option Addr} {n : Nat} {xs : List S34} (h : Kd.C k34 w A n xs) (i : Int) (h0 : 0 ≤ i) (h1 : i < n) : ∃ ad A2 c2, A = some ad ∧ w.cell? (ad.add (i.toNat * 3)) = some (.int .i64 (rd_T34 xs i).f0) ∧ w.cell? ⟨(ad.add (i.toNat * 3)).block, (ad.add (i.toNat * 3)).off + 1, none⟩ = some (.int .i64 (rd_T34 xs i).f1) ∧ w.cell? ⟨(ad.add (i.toNat * 3)).block, (ad.add (i.toNat * 3)).off + 2, none⟩ = some (.slice A2 (rd_T34 xs i).f2.length c2) ∧ (rd_T34 xs i).f2.length ≤ c2 ∧ k34.C w A2 (rd_T34 xs i).f2.length (rd_T34 xs i).f2 := by
 obtain ⟨ad, c, e, _, hK, hc0⟩ := Kd.C_get h z34 i h0 h1
 have hc : ∀ j u, c[j]? = some u → w.cell? (ad.add (i.toNat * 3 + j)) = some u := hc0
 obtain ⟨A2, c2, rfl, l2, g2⟩ := k34_open hK
 exact ⟨ad, A2, c2, e, hc 0 _ rfl, by rw [← add_field _ _ 1 (by omega)]; exact hc 1 _ rfl, by rw [← add_field _ _ 2 (by omega)]; exact hc 2 _ rfl, l2, g2⟩
structure S37 where
 f0 : Int
 f1 : Int
 f2 : Int
 f3 : S34
 f4 : (List S37)
 f5 : (List S37)
def z37 : S37 := ⟨(0 : Int), (0 : Int), (0 : Int), z34, ([] : List S37), ([] : List S37)⟩
def F37 (d : Kd S37) : Kd S37 := Kd.iso (Kd.pair (Kd.int .i64) (Kd.pair (Kd.int .i64) (Kd.pair (Kd.int .i64) (Kd.pair k34 (Kd.pair (Kd.slice 37 d) (Kd.slice 37 d)))))) (fun x : S37 => (x.f0, x.f1, x.f2, x.f3, x.f4, x.f5))
theorem mono37 : Kd.Mono F37 := Kd.mono_iso _ (Kd.mono_pair (Kd.mono_const _) (Kd.mono_pair (Kd.mono_const _) (Kd.mono_pair (Kd.mono_const _) (Kd.mono_pair (Kd.mono_const _) (Kd.mono_pair (Kd.mono_slice 37 Kd.mono_id) (Kd.mono_slice 37 Kd.mono_id))))))
theorem sub37 : Kd.Sub F37 [34, 37] := Kd.sub_iso _ (Kd.sub_pair (Kd.sub_const _ (by decide)) (Kd.sub_pair (Kd.sub_const _ (by decide)) (Kd.sub_pair (Kd.sub_const _ (by decide)) (Kd.sub_pair (Kd.sub_const _ (by decide)) (Kd.sub_pair (Kd.sub_slice 37 (by decide) Kd.sub_id) (Kd.sub_slice 37 (by decide) Kd.sub_id))))))
theorem sz37 : ∀ n, (Kd.upto F37 8 [34, 37] n).sz = 8 := Kd.upto_sz (fun _ => rfl)
def k37 : Kd S37 := Kd.fix F37 8 [34, 37] sz37 (Kd.upto_E sub37)
theorem k37_heap : Kd.Heap k37 := Kd.heap_fix (fun _ h_ => Kd.heap_iso _ (Kd.heap_pair (Kd.heap_int .i64) (Kd.heap_pair (Kd.heap_int .i64) (Kd.heap_pair (Kd.heap_int .i64) (Kd.heap_pair k34_heap (Kd.heap_pair (Kd.heap_slice 37 h_) (Kd.heap_slice 37 h_)))))))
theorem k37_open {w : World} {x : S37} {cs : List Value} (h : k37.K w x cs) : ∃ A5 c5 A6 c6 A7 c7, cs = [.int .i64 x.f0, .int .i64 x.f1, .int .i64 x.f2, .int .i64 x.f3.f0, .int .i64 x.f3.f1, .slice A5 x.f3.f2.length c5, .slice A6 x.f4.length c6, .slice A7 x.f5.length c7] ∧ x.f3.f2.length ≤ c5 ∧ k34.C w A5 x.f3.f2.length x.f3.f2 ∧ x.f4.length ≤ c6 ∧ k37.C w A6 x.f4.length x.f4 ∧ x.f5.length ≤ c7 ∧ k37.C w A7 x.f5.length x.f5 := by
 obtain ⟨n, h⟩ := h
 cases n with
 | zero => exact h.elim
 | succ n =>
  obtain ⟨_, _, rfl, rfl, ⟨_, _, rfl, rfl, ⟨_, _, rfl, rfl, ⟨_, _, rfl, s3, ⟨_, _, rfl, ⟨A6, c6, rfl, l6, g6⟩, ⟨A7, c7, rfl, l7, g7⟩⟩⟩⟩⟩⟩ := h
  obtain ⟨A5, c5, rfl, l5, g5⟩ := k34_open s3
  exact ⟨A5, c5, A6, c6, A7, c7, rfl, l5, g5, l6, Kd.fix_C g6, l7, Kd.fix_C g7⟩
theorem k37_mk (w : World) (x : S37) {A5 : Option Addr} {c5 : Nat} (l5 : x.f3.f2.length ≤ c5) (g5 : k34.C w A5 x.f3.f2.length x.f3.f2) {A6 : Option Addr} {c6 : Nat} (l6 : x.f4.length ≤ c6) (g6 : k37.C w A6 x.f4.length x.f4) {A7 : Option Addr} {c7 : Nat} (l7 : x.f5.length ≤ c7) (g7 : k37.C w A7 x.f5.length x.f5) : k37.K w x [.int .i64 x.f0, .int .i64 x.f1, .int .i64 x.f2, .int .i64 x.f3.f0, .int .i64 x.f3.f1, .slice A5 x.f3.f2.length c5, .slice A6 x.f4.length c6, .slice A7 x.f5.length c7] := by
 obtain ⟨n6, q6⟩ := Kd.fix_C_back mono37 g6
 obtain ⟨n7, q7⟩ := Kd.fix_C_back mono37 g7
 have r6 := Kd.upto_C_le mono37 sz37 (show n6 ≤ (max n6 n7) by omega) q6
 have r7 := Kd.upto_C_le mono37 sz37 (show n7 ≤ (max n6 n7) by omega) q7
 exact ⟨(max n6 n7) + 1, ⟨[.int .i64 x.f0], [.int .i64 x.f1, .int .i64 x.f2, .int .i64 x.f3.f0, .int .i64 x.f3.f1, .slice A5 x.f3.f2.length c5, .slice A6 x.f4.length c6, .slice A7 x.f5.length c7], rfl, rfl, ⟨[.int .i64 x.f1], [.int .i64 x.f2, .int .i64 x.f3.f0, .int .i64 x.f3.f1, .slice A5 x.f3.f2.length c5, .slice A6 x.f4.length c6, .slice A7 x.f5.length c7], rfl, rfl, ⟨[.int .i64 x.f2], [.int .i64 x.f3.f0, .int .i64 x.f3.f1, .slice A5 x.f3.f2.length c5, .slice A6 x.f4.length c6, .slice A7 x.f5.length c7], rfl, rfl, ⟨[.int .i64 x.f3.f0, .int .i64 x.f3.f1, .slice A5 x.f3.f2.length c5], [.slice A6 x.f4.length c6, .slice A7 x.f5.length c7], rfl, (k34_mk w x.f3 l5 g5), ⟨[.slice A6 x.f4.length c6], [.slice A7 x.f5.length c7], rfl, ⟨A6, c6, rfl, l6, r6⟩, ⟨A7, c7, rfl, l7, r7⟩⟩⟩⟩⟩⟩⟩
theorem k37_openF {W : World} {ok : Nat → Prop} {x : S37} {cs : List Value} (h : Kd.FK k37 W ok x cs) : ∃ A5 c5 A6 c6 A7 c7, cs = [.int .i64 x.f0, .int .i64 x.f1, .int .i64 x.f2, .int .i64 x.f3.f0, .int .i64 x.f3.f1, .slice A5 x.f3.f2.length c5, .slice A6 x.f4.length c6, .slice A7 x.f5.length c7] ∧ x.f3.f2.length ≤ c5 ∧ Kd.F k34 W ok A5 x.f3.f2.length x.f3.f2 ∧ x.f4.length ≤ c6 ∧ Kd.F k37 W ok A6 x.f4.length x.f4 ∧ x.f5.length ≤ c7 ∧ Kd.F k37 W ok A7 x.f5.length x.f5 := by
 obtain ⟨A5, c5, A6, c6, A7, c7, rfl, l5, _, l6, _, l7, _⟩ := k37_open (Kd.FK_now h)
 exact ⟨A5, c5, A6, c6, A7, c7, rfl, l5, (fun W' hW => by obtain ⟨A5_, c5_, A6_, c6_, A7_, c7_, he, l5_, g5_, l6_, g6_, l7_, g7_⟩ := k37_open (h W' hW); injection (Option.some.inj (show some (Value.slice A5 x.f3.f2.length c5) = some (Value.slice A5_ x.f3.f2.length c5_) from congrArg (fun l => l[5]?) he)) with ha_ _ _; rw [ha_]; exact g5_), l6, (fun W' hW => by obtain ⟨A5_, c5_, A6_, c6_, A7_, c7_, he, l5_, g5_, l6_, g6_, l7_, g7_⟩ := k37_open (h W' hW); injection (Option.some.inj (show some (Value.slice A6 x.f4.length c6) = some (Value.slice A6_ x.f4.length c6_) from congrArg (fun l => l[6]?) he)) with ha_ _ _; rw [ha_]; exact g6_), l7, (fun W' hW => by obtain ⟨A5_, c5_, A6_, c6_, A7_, c7_, he, l5_, g5_, l6_, g6_, l7_, g7_⟩ := k37_open (h W' hW); injection (Option.some.inj (show some (Value.slice A7 x.f5.length c7) = some (Value.slice A7_ x.f5.length c7_) from congrArg (fun l => l[7]?) he)) with ha_ _ _; rw [ha_]; exact g7_)⟩
theorem k37_mkF (W : World) (ok : Nat → Prop) (x : S37) {A5 : Option Addr} {c5 : Nat} (l5 : x.f3.f2.length ≤ c5) (g5 : Kd.F k34 W ok A5 x.f3.f2.length x.f3.f2) {A6 : Option Addr} {c6 : Nat} (l6 : x.f4.length ≤ c6) (g6 : Kd.F k37 W ok A6 x.f4.length x.f4) {A7 : Option Addr} {c7 : Nat} (l7 : x.f5.length ≤ c7) (g7 : Kd.F k37 W ok A7 x.f5.length x.f5) : Kd.FK k37 W ok x [.int .i64 x.f0, .int .i64 x.f1, .int .i64 x.f2, .int .i64 x.f3.f0, .int .i64 x.f3.f1, .slice A5 x.f3.f2.length c5, .slice A6 x.f4.length c6, .slice A7 x.f5.length c7] := fun W2 hW => k37_mk W2 x l5 (g5 W2 hW) l6 (g6 W2 hW) l7 (g7 W2 hW)
def rd_T37 (xs : List S37) (i : Int) : S37 := xs.getD i.toNat z37
theorem at_T37 {w : World} {A : Option Addr} {n : Nat} {xs : List S37} (h : Kd.C k37 w A n xs) (i : Int) (h0 : 0 ≤ i) (h1 : i < n) : ∃ ad A5 c5 A6 c6 A7 c7, A = some ad ∧ w.cell? (ad.add (i.toNat * 8)) = some (.int .i64 (rd_T37 xs i).f0) ∧ w.cell? ⟨(ad.add (i.toNat * 8)).block, (ad.add (i.toNat * 8)).off + 1, none⟩ = some (.int .i64 (rd_T37 xs i).f1) ∧ w.cell? ⟨(ad.add (i.toNat * 8)).block, (ad.add (i.toNat * 8)).off + 2, none⟩ = some (.int .i64 (rd_T37 xs i).f2) ∧ w.cell? ⟨(ad.add (i.toNat * 8)).block, (ad.add (i.toNat * 8)).off + 3, none⟩ = some (.int .i64 (rd_T37 xs i).f3.f0) ∧ w.cell? ⟨(ad.add (i.toNat * 8)).block, (ad.add (i.toNat * 8)).off + 4, none⟩ = some (.int .i64 (rd_T37 xs i).f3.f1) ∧ w.cell? ⟨(ad.add (i.toNat * 8)).block, (ad.add (i.toNat * 8)).off + 5, none⟩ = some (.slice A5 (rd_T37 xs i).f3.f2.length c5) ∧ w.cell? ⟨(ad.add (i.toNat * 8)).block, (ad.add (i.toNat * 8)).off + 6, none⟩ = some (.slice A6 (rd_T37 xs i).f4.length c6) ∧ w.cell? ⟨(ad.add (i.toNat * 8)).block, (ad.add (i.toNat * 8)).off + 7, none⟩ = some (.slice A7 (rd_T37 xs i).f5.length c7) ∧ (rd_T37 xs i).f3.f2.length ≤ c5 ∧ k34.C w A5 (rd_T37 xs i).f3.f2.length (rd_T37 xs i).f3.f2 ∧ (rd_T37 xs i).f4.length ≤ c6 ∧ k37.C w A6 (rd_T37 xs i).f4.length (rd_T37 xs i).f4 ∧ (rd_T37 xs i).f5.length ≤ c7 ∧ k37.C w A7 (rd_T37 xs i).f5.length (rd_T37 xs i).f5 := by
 obtain ⟨ad, c, e, _, hK, hc0⟩ := Kd.C_get h z37 i h0 h1
 have hc : ∀ j u, c[j]? = some u → w.cell? (ad.add (i.toNat * 8 + j)) = some u := hc0
 obtain ⟨A5, c5, A6, c6, A7, c7, rfl, l5, g5, l6, g6, l7, g7⟩ := k37_open hK
 exact ⟨ad, A5, c5, A6, c6, A7, c7, e, hc 0 _ rfl, by rw [← add_field _ _ 1 (by omega)]; exact hc 1 _ rfl, by rw [← add_field _ _ 2 (by omega)]; exact hc 2 _ rfl, by rw [← add_field _ _ 3 (by omega)]; exact hc 3 _ rfl, by rw [← add_field _ _ 4 (by omega)]; exact hc 4 _ rfl, by rw [← add_field _ _ 5 (by omega)]; exact hc 5 _ rfl, by rw [← add_field _ _ 6 (by omega)]; exact hc 6 _ rfl, by rw [← add_field _ _ 7 (by omega)]; exact hc 7 _ rfl, l5, g5, l6, g6, l7, g7⟩
def rd_L4 (xs : List (List S37)) (i : Int) : (List S37) := xs.getD i.toNat ([] : List S37)
theorem at_L4 {w : World} {A : Option Addr} {n : Nat} {xs : List (List S37)} (h : Kd.C (Kd.slice 37 k37) w A n xs) (i : Int) (h0 : 0 ≤ i) (h1 : i < n) : ∃ ad A0 c0, A = some ad ∧ w.cell? (ad.add i.toNat) = some (.slice A0 (rd_L4 xs i).length c0) ∧ (rd_L4 xs i).length ≤ c0 ∧ k37.C w A0 (rd_L4 xs i).length (rd_L4 xs i) := by
 obtain ⟨ad, c, e, _, hK, hc0⟩ := Kd.C_get h ([] : List S37) i h0 h1
 have hc : ∀ j u, c[j]? = some u → w.cell? (ad.add (i.toNat * 1 + j)) = some u := hc0
 obtain ⟨A0, c0, rfl, l0, g0⟩ := hK
 exact ⟨ad, A0, c0, e, by have hq := hc 0 _ rfl; rwa [Nat.mul_one, Nat.add_zero] at hq, l0, g0⟩
structure S87 where
 f0 : Int
 f1 : Int
 f2 : (List S87)
def z87 : S87 := ⟨(0 : Int), (0 : Int), ([] : List S87)⟩
def rd_T87 (xs : List S87) (i : Int) : S87 := xs.getD i.toNat z87
structure S89 where
 f0 : Int
 f1 : Int
 f2 : Int
 f3 : S87
 f4 : (List S89)
 f5 : (List S89)
def z89 : S89 := ⟨(0 : Int), (0 : Int), (0 : Int), z87, ([] : List S89), ([] : List S89)⟩
def rd_T89 (xs : List S89) (i : Int) : S89 := xs.getD i.toNat z89
def rd_L8 (xs : List (List S89)) (i : Int) : (List S89) := xs.getD i.toNat ([] : List S89)
theorem ab1_ {p : Prop} (h : p := by (try simp only [List.map_toArray, List.map_cons, List.map_nil]); first | done | rfl | (simp only [List.length_drop, List.length_take]; rfl)) : p := h
theorem ab2_ {p : Prop} (h : p := by repeat (first | (with_reducible first | exact HB.out | apply below_alloc | apply pw_below_drewN | apply below_drew1) | exact HB.out)) : p := h
theorem ab3_ {p : Prop} (h : p := by repeat (first | (with_reducible first | exact HK.out | apply KeepBut.set_ | apply keep_drewN | apply keep_drew | apply keep_alloc) | exact HK.out)) : p := h
theorem ab4_ {p : Prop} (h : p := by repeat (first | (with_reducible first | exact HI0.out | apply IsS66.alloc | apply IsS66.drewN | apply IsS66.drew | apply IsS66.set_1) | exact HI0.out)) : p := h
theorem ab5_ {p : Prop} (h : p := by repeat (first | (with_reducible first | exact HB.out | apply below_alloc | apply pw_below_drewN | apply below_drew1 | refine below_set ?_ (IsS66.ge HI0.out)) | exact HB.out)) : p := h
theorem ab6_ {p : Prop} (h : p := by repeat (first | (with_reducible first | exact HB.out | apply below_alloc | apply pw_below_drewN | apply below_drew1 | refine below_set ?_ GE568.out) | exact HB.out)) : p := h
theorem ab7_ {p : Prop} (h : p := by repeat (first | (with_reducible first | exact HK.out | apply KeepBut.set_ | apply keep_drewN | apply keep_drew | apply keep_alloc | refine keep_far ?_ GW479.out _ | refine keep_far ?_ GW487.out _) | exact HK.out)) : p := h
theorem ab8_ {p : Prop} (h : p := by repeat (first | (with_reducible first | exact HK.out | apply KeepBut.set_ | apply keep_drewN | apply keep_drew | apply keep_alloc | refine keep_far ?_ GW440.out _ | refine keep_far ?_ GW448.out _) | exact HK.out)) : p := h
theorem ab12_ {p : Prop} (h : p := by repeat (first | (with_reducible first | exact HI0.out | apply IsS66.alloc | apply IsS66.drewN | apply IsS66.drew | apply IsS66.set_1 | refine IsS66.far ?_ NB0_479.out _ | refine IsS66.far ?_ NB0_487.out _) | exact HI0.out)) : p := h
theorem ab13_ {p : Prop} (h : p := by repeat (first | (with_reducible first | exact HB.out | apply below_alloc | apply pw_below_drewN | apply below_drew1 | refine below_set ?_ GE584.out) | exact HB.out)) : p := h
theorem ab14_ {p : Prop} (h : p := by first | rfl | (simp [errW_none, errW_some] <;> rfl) | (simp [*, errW_none, errW_some] <;> rfl)) : p := h
theorem ab15_ {p : Prop} (h : p := by repeat (first | (with_reducible first | exact HI0.out | apply IsS66.alloc | apply IsS66.drewN | apply IsS66.drew | apply IsS66.set_1 | refine IsS66.far ?_ NB0_440.out _ | refine IsS66.far ?_ NB0_448.out _) | exact HI0.out)) : p := h
theorem ab16_ {p : Prop} (h : p := by repeat (first | (with_reducible first | exact HB.out | apply below_alloc | apply pw_below_drewN | apply below_drew1 | refine below_set ?_ (IsS66.ge HI0.out) | refine below_set ?_ GE479.out | refine below_set ?_ GE487.out) | exact HB.out)) : p := h
theorem ab17_ {p : Prop} (h : p := by repeat (first | (with_reducible first | exact HK.out | apply KeepBut.set_ | apply keep_drewN | apply keep_drew | apply keep_alloc | refine keep_far ?_ GW206.out _) | exact HK.out)) : p := h
theorem ab19_ {p : Prop} (h : p := by repeat (first | (with_reducible first | exact HB.out | apply below_alloc | apply pw_below_drewN | apply below_drew1 | refine below_set ?_ GE538.out) | exact HB.out)) : p := h
theorem ab23_ {p : Prop} (h : p := by repeat (first | (with_reducible first | exact HK.out | apply KeepBut.set_ | apply keep_drewN | apply keep_drew | apply keep_alloc | refine keep_far ?_ GW130.out _) | exact HK.out)) : p := h
theorem ab24_ {p : Prop} (h : p := by repeat (first | (with_reducible first | exact HK.out | apply KeepBut.set_ | apply keep_drewN | apply keep_drew | apply keep_alloc | refine keep_far ?_ GW166.out _) | exact HK.out)) : p := h
theorem ab25_ {p : Prop} (h : p := by repeat (first | (with_reducible first | exact HB.out | apply below_alloc | apply pw_below_drewN | apply below_drew1 | refine below_set ?_ GE557.out) | exact HB.out)) : p := h
theorem ab26_ {p : Prop} (h : p := by repeat (first | (with_reducible first | exact HB.out | apply below_alloc | apply pw_below_drewN | apply below_drew1 | refine below_set ?_ GE599.out) | exact HB.out)) : p := h
theorem ab27_ {p : Prop} (h : p := by repeat (first | (with_reducible first | exact HB.out | apply below_alloc | apply pw_below_drewN | apply below_drew1 | refine below_set ?_ GE596.out) | exact HB.out)) : p := h
theorem ab28_ {p : Prop} (h : p := by repeat (first | (with_reducible first | exact HK.out | apply KeepBut.set_ | apply keep_drewN | apply keep_drew | apply keep_alloc | refine keep_far ?_ GW236.out _ | refine keep_far ?_ GW245.out _) | exact HK.out)) : p := h
theorem ab29_ {p : Prop} (h : p := by repeat (first | exact Drawn0.refl _ | apply Drawn0.step)) : p := h
theorem ab32_ {p : Prop} (h : p := by repeat (first | (with_reducible first | exact HK.out | apply KeepBut.set_ | apply keep_drewN | apply keep_drew | apply keep_alloc | refine keep_far ?_ GW166.out _ | refine keep_far ?_ GW183.out _) | exact HK.out)) : p := h
theorem ab33_ {p : Prop} (h : p := by repeat (first | (with_reducible first | exact HB.out | apply below_alloc | apply pw_below_drewN | apply below_drew1 | refine below_set ?_ GE546.out) | exact HB.out)) : p := h
theorem ab37_ {p : Prop} (h : p := by repeat (first | (with_reducible first | exact HK.out | apply KeepBut.set_ | apply keep_drewN | apply keep_drew | apply keep_alloc | refine keep_far ?_ GW440.out _) | exact HK.out)) : p := h
theorem ab38_ {p : Prop} (h : p := by repeat (first | (with_reducible first | exact HK.out | apply KeepBut.set_ | apply keep_drewN | apply keep_drew | apply keep_alloc | refine keep_far ?_ GW428.out _) | exact HK.out)) : p := h
theorem ab39_ {p : Prop} (h : p := by repeat (first | (with_reducible first | exact HK.out | apply KeepBut.set_ | apply keep_drewN | apply keep_drew | apply keep_alloc | refine keep_far ?_ GW479.out _) | exact HK.out)) : p := h
theorem ab40_ {p : Prop} (h : p := by repeat (first | (with_reducible first | exact HB.out | apply below_alloc | apply pw_below_drewN | apply below_drew1 | refine below_set ?_ (IsS66.ge HI0.out) | refine below_set ?_ GE130.out) | exact HB.out)) : p := h
theorem ab41_ {p : Prop} (h : p := by repeat (first | (with_reducible first | exact HB.out | apply below_alloc | apply pw_below_drewN | apply below_drew1 | refine below_set ?_ (IsS66.ge HI0.out) | refine below_set ?_ GE440.out | refine below_set ?_ GE448.out) | exact HB.out)) : p := h
theorem ab43_ {p : Prop} (h : p := by repeat (first | (with_reducible first | exact HI0.out | apply IsS66.alloc | apply IsS66.drewN | apply IsS66.drew | apply IsS66.set_1 | refine IsS66.far ?_ NB0_206.out _) | exact HI0.out)) : p := h
theorem ab44_ {p : Prop} (h : p := by repeat (first | (with_reducible first | exact HI0.out | apply IsS66.alloc | apply IsS66.drewN | apply IsS66.drew | apply IsS66.set_1 | refine IsS66.far ?_ NB0_130.out _) | exact HI0.out)) : p := h
theorem ab45_ {p : Prop} (h : p := by repeat (first | (with_reducible first | exact HK.out | apply KeepBut.set_ | apply keep_drewN | apply keep_drew | apply keep_alloc | refine keep_far ?_ GW236.out _) | exact HK.out)) : p := h
theorem ab49_ {p : Prop} (h : p := by repeat (first | (with_reducible first | exact HB.out | apply below_alloc | apply pw_below_drewN | apply below_drew1 | refine below_set ?_ GE699.out) | exact HB.out)) : p := h
theorem ab51_ {p : Prop} (h : p := by repeat (first | (with_reducible first | exact HI0.out | apply IsS66.alloc | apply IsS66.drewN | apply IsS66.drew | apply IsS66.set_1 | refine IsS66.far ?_ NB0_166.out _) | exact HI0.out)) : p := h
theorem ab52_ {p : Prop} (h : p := by repeat (first | (with_reducible first | exact HI0.out | apply IsS66.alloc | apply IsS66.drewN | apply IsS66.drew | apply IsS66.set_1 | refine IsS66.far ?_ NB0_166.out _ | refine IsS66.far ?_ NB0_183.out _) | exact HI0.out)) : p := h
theorem ab53_ {p : Prop} (h : p := by repeat (first | (with_reducible first | exact HK.out | apply KeepBut.set_ | apply keep_drewN | apply keep_drew | apply keep_alloc | refine keep_far ?_ GW195.out _) | exact HK.out)) : p := h
theorem ab56_ {p : Prop} (h : p := by repeat (first | (with_reducible first | exact HB.out | apply below_alloc | apply pw_below_drewN | apply below_drew1 | refine below_set ?_ (IsS66.ge HI686.out) | refine below_set ?_ GE683.out) | exact HB.out)) : p := h
theorem ab59_ {p : Prop} (h : p := by repeat (first | (with_reducible first | exact HB.out | apply below_alloc | apply pw_below_drewN | apply below_drew1 | refine below_set ?_ GE158.out | refine below_set ?_ GE159.out | refine below_set ?_ GE160.out) | exact HB.out)) : p := h
theorem ab61_ {p : Prop} (h : p := by repeat (first | (with_reducible first | exact HB.out | apply below_alloc | apply pw_below_drewN | apply below_drew1 | refine below_set ?_ (IsS66.ge HI0.out) | refine below_set ?_ GE166.out) | exact HB.out)) : p := h
theorem ab62_ {p : Prop} (h : p := by repeat (first | (with_reducible first | exact HI0.out | apply IsS66.alloc | apply IsS66.drewN | apply IsS66.drew | apply IsS66.set_1 | refine IsS66.far ?_ NB0_428.out _) | exact HI0.out)) : p := h
theorem ab63_ {p : Prop} (h : p := by repeat (first | (with_reducible first | exact HB.out | apply below_alloc | apply pw_below_drewN | apply below_drew1 | refine below_set ?_ (IsS66.ge HI0.out) | refine below_set ?_ GE166.out | refine below_set ?_ GE183.out) | exact HB.out)) : p := h
theorem ab64_ {p : Prop} (h : p := by repeat (first | (with_reducible first | exact HI0.out | apply IsS66.alloc | apply IsS66.drewN | apply IsS66.drew | apply IsS66.set_1 | refine IsS66.far ?_ NB0_236.out _ | refine IsS66.far ?_ NB0_245.out _) | exact HI0.out)) : p := h
theorem ab66_ {p : Prop} (h : p := by repeat (first | (with_reducible first | exact HB.out | apply below_alloc | apply pw_below_drewN | apply below_drew1 | refine below_set ?_ (IsS66.ge HI0.out) | refine below_set ?_ GE206.out) | exact HB.out)) : p := h
theorem ab67_ {p : Prop} (h : p := by repeat (first | (with_reducible first | exact HB.out | apply below_alloc | apply pw_below_drewN | apply below_drew1 | refine below_set ?_ GE158.out | refine below_set ?_ GE159.out) | exact HB.out)) : p := h
theorem ab70_ {p : Prop} (h : p := by repeat (first | (with_reducible first | exact HI0.out | apply IsS66.alloc | apply IsS66.drewN | apply IsS66.drew | apply IsS66.set_1 | refine IsS66.far ?_ NB0_440.out _) | exact HI0.out)) : p := h
theorem ab71_ {p : Prop} (h : p := by repeat (first | (with_reducible first | exact HBW.out | apply below_alloc | apply pw_below_drewN | apply below_drew1) | exact HBW.out)) : p := h
theorem ab72_ {p : Prop} (h : p := by repeat (first | (with_reducible first | exact HB.out | apply below_alloc | apply pw_below_drewN | apply below_drew1 | refine below_set ?_ GE567.out) | exact HB.out)) : p := h
theorem ab73_ {p : Prop} (h : p := by repeat (first | (with_reducible first | exact HB.out | apply below_alloc | apply pw_below_drewN | apply below_drew1 | refine below_set ?_ GE126.out) | exact HB.out)) : p := h
theorem ab74_ {p : Prop} (h : p := by repeat (first | (with_reducible first | exact HB.out | apply below_alloc | apply pw_below_drewN | apply below_drew1 | refine below_set ?_ GE158.out) | exact HB.out)) : p := h
theorem ab81_ {p : Prop} (h : p := by repeat (first | (with_reducible first | exact HB.out | apply below_alloc | apply pw_below_drewN | apply below_drew1 | refine below_set ?_ (IsS66.ge HI0.out) | refine below_set ?_ GE428.out) | exact HB.out)) : p := h
theorem ab82_ {p : Prop} (h : p := by repeat (first | (with_reducible first | exact HB.out | apply below_alloc | apply pw_below_drewN | apply below_drew1 | refine below_set ?_ (IsS66.ge HI0.out) | refine below_set ?_ GE440.out) | exact HB.out)) : p := h
theorem ab85_ {p : Prop} (h : p := by repeat (first | (with_reducible first | exact HI0.out | apply IsS66.alloc | apply IsS66.drewN | apply IsS66.drew | apply IsS66.set_1 | refine IsS66.far ?_ NB0_195.out _) | exact HI0.out)) : p := h
theorem ab86_ {p : Prop} (h : p := by repeat (first | (with_reducible first | exact HI0.out | apply IsS66.alloc | apply IsS66.drewN | apply IsS66.drew | apply IsS66.set_1 | refine IsS66.far ?_ NB0_236.out _) | exact HI0.out)) : p := h
theorem ab87_ {p : Prop} (h : p := by repeat (first | (with_reducible first | exact HI0.out | apply IsS66.alloc | apply IsS66.drewN | apply IsS66.drew | apply IsS66.set_1 | refine IsS66.far ?_ NB0_479.out _) | exact HI0.out)) : p := h
theorem ab88_ {p : Prop} (h : p := by repeat (first | (with_reducible first | exact HB.out | apply below_alloc | apply pw_below_drewN | apply below_drew1 | refine below_set ?_ GE544.out) | exact HB.out)) : p := h
theorem ab89_ {p : Prop} (h : p := by repeat (first | (with_reducible first | exact HB.out | apply below_alloc | apply pw_below_drewN | apply below_drew1 | refine below_set ?_ GE552.out) | exact HB.out)) : p := h
theorem ab90_ {p : Prop} (h : p := by repeat (first | (with_reducible first | exact HB.out | apply below_alloc | apply pw_below_drewN | apply below_drew1 | refine below_set ?_ GE554.out) | exact HB.out)) : p := h
theorem ab91_ {p : Prop} (h : p := by repeat (first | (with_reducible first | exact HB.out | apply below_alloc | apply pw_below_drewN | apply below_drew1 | refine below_set ?_ GE565.out) | exact HB.out)) : p := h
theorem ab93_ {p : Prop} (h : p := by repeat (first | exact Below.refl _ _ | apply pw_below_drewN | apply below_drew1)) : p := h
theorem ab94_ {p : Prop} (h : p := by repeat (first | (with_reducible first | exact HK.out | apply keep_drewN | apply keep_drew) | exact HK.out)) : p := h
theorem aN_ {p q : Prop} (x : q) (h : q → p := by intro hx_; (with_reducible repeat (first | apply Kd.N_alloc | apply Kd.N_drewN | apply Kd.N_drew)); exact hx_) : p := h x
theorem aR_ {p q : Prop} (x : q) (h : q → p := by intro hx_; (with_reducible repeat (first | apply Kd.R_alloc | apply Kd.R_drewN | apply Kd.R_drew)); exact hx_) : p := h x
theorem aG_ {p q : Prop} (x : q) (h : q → p := by intro hx_; (with_reducible repeat (first | refine blk_drewN ?_ _ | refine blk_drew ?_ | refine blk_alloc ?_ _)); exact hx_) : p := h x
theorem rr_ {p : Prop} (h : p := by first | rfl | (simp [errW_none, errW_some] <;> rfl) | (simp [*, errW_none, errW_some] <;> rfl)) : p := h
theorem bsm {α β : Type} {o : Option α} {f : α → Option β} {b : β} (h : o.bind f = some b) : ∃ a, o = some a ∧ f a = some b := Option.bind_eq_some_iff.mp h
theorem am {p : Prop} (h : p) : Aside0 p := ⟨h⟩
theorem bcf2_ {w : World} {g : Nat} {t : TypeId} {x0 x1 : Value} (h : w.heap[g]? = some (.cells #[x0, x1] t (0, 0))) : w.cell? ⟨g, 0, none⟩ = some x0 ∧ w.cell? ⟨g, 1, none⟩ = some x1 ∧ w.frozen? ⟨g, 0, none⟩ = false ∧ w.frozen? ⟨g, 1, none⟩ = false := ⟨(blk_cell h 0).trans rfl, (blk_cell h 1).trans rfl, blk_frozen h 0, blk_frozen h 1⟩
theorem bcf3_ {w : World} {g : Nat} {t : TypeId} {x0 x1 x2 : Value} (h : w.heap[g]? = some (.cells #[x0, x1, x2] t (0, 0))) : w.cell? ⟨g, 0, none⟩ = some x0 ∧ w.cell? ⟨g, 1, none⟩ = some x1 ∧ w.cell? ⟨g, 2, none⟩ = some x2 ∧ w.frozen? ⟨g, 0, none⟩ = false ∧ w.frozen? ⟨g, 1, none⟩ = false ∧ w.frozen? ⟨g, 2, none⟩ = false := ⟨(blk_cell h 0).trans rfl, (blk_cell h 1).trans rfl, (blk_cell h 2).trans rfl, blk_frozen h 0, blk_frozen h 1, blk_frozen h 2⟩
theorem bcf8_ {w : World} {g : Nat} {t : TypeId} {x0 x1 x2 x3 x4 x5 x6 x7 : Value} (h : w.heap[g]? = some (.cells #[x0, x1, x2, x3, x4, x5, x6, x7] t (0, 0))) : w.cell? ⟨g, 0, none⟩ = some x0 ∧ w.cell? ⟨g, 1, none⟩ = some x1 ∧ w.cell? ⟨g, 2, none⟩ = some x2 ∧ w.cell? ⟨g, 3, none⟩ = some x3 ∧ w.cell? ⟨g, 4, none⟩ = some x4 ∧ w.cell? ⟨g, 5, none⟩ = some x5 ∧ w.cell? ⟨g, 6, none⟩ = some x6 ∧ w.cell? ⟨g, 7, none⟩ = some x7 ∧ w.frozen? ⟨g, 0, none⟩ = false ∧ w.frozen? ⟨g, 1, none⟩ = false ∧ w.frozen? ⟨g, 2, none⟩ = false ∧ w.frozen? ⟨g, 3, none⟩ = false ∧ w.frozen? ⟨g, 4, none⟩ = false ∧ w.frozen? ⟨g, 5, none⟩ = false ∧ w.frozen? ⟨g, 6, none⟩ = false ∧ w.frozen? ⟨g, 7, none⟩ = false := ⟨(blk_cell h 0).trans rfl, (blk_cell h 1).trans rfl, (blk_cell h 2).trans rfl, (blk_cell h 3).trans rfl, (blk_cell h 4).trans rfl, (blk_cell h 5).trans rfl, (blk_cell h 6).trans rfl, (blk_cell h 7).trans rfl, blk_frozen h 0, blk_frozen h 1, blk_frozen h 2, blk_frozen h 3, blk_frozen h 4, blk_frozen h 5, blk_frozen h 6, blk_frozen h 7⟩
def spec_l6Rd_pick.j0 : Nat → Int → Bool → List Int → Int → Option (Int × Int)
 | 0, _, _, _, _ => none
 | k + 1, x1, x24, x1000, x1001 => if x24 = true then (some (0, x1001)) else (if (wrap64 (x1001 - 1)) < (x1000.length : Int) then (if 0 ≤ (wrap64 (x1001 - 1)) then (if x1 = 0 then (none) else (some (Int.tmod (wrap64 (rd x1000 (wrap64 (x1001 - 1)))) x1, x1001))) else (none)) else (if (x1000.length : Int) = 0 then (none) else (if 0 ≤ (Int.tmod (wrap64 (x1001 - 1)) (x1000.length : Int)) then (if (Int.tmod (wrap64 (x1001 - 1)) (x1000.length : Int)) < (x1000.length : Int) then (if 0 ≤ (Int.tmod (wrap64 ((wrap64 ((wrap64 (x1001 - 1)) * 7)) + 3)) (x1000.length : Int)) then (if (Int.tmod (wrap64 ((wrap64 ((wrap64 (x1001 - 1)) * 7)) + 3)) (x1000.length : Int)) < (x1000.length : Int) then (if x1 = 0 then (none) else (some (Int.tmod (Go.bits .xor .i64 (wrap64 ((wrap64 ((wrap64 ((wrap64 ((wrap64 (rd x1000 (Int.tmod (wrap64 (x1001 - 1)) (x1000.length : Int)))) * 131)) + (wrap64 ((wrap64 (rd x1000 (Int.tmod (wrap64 ((wrap64 ((wrap64 (x1001 - 1)) * 7)) + 3)) (x1000.length : Int)))) * 1117)))) + (wrap64 ((wrap64 (x1001 - 1)) * 29)))) + (wrap64 ((wrap64 (Int.tdiv (wrap64 (x1001 - 1)) (x1000.length : Int))) * 53)))) (wrap64 (Int.tdiv (wrap64 ((wrap64 ((wrap64 ((wrap64 ((wrap64 (rd x1000 (Int.tmod (wrap64 (x1001 - 1)) (x1000.length : Int)))) * 131)) + (wrap64 ((wrap64 (rd x1000 (Int.tmod (wrap64 ((wrap64 ((wrap64 (x1001 - 1)) * 7)) + 3)) (x1000.length : Int)))) * 1117)))) + (wrap64 ((wrap64 (x1001 - 1)) * 29)))) + (wrap64 ((wrap64 (Int.tdiv (wrap64 (x1001 - 1)) (x1000.length : Int))) * 53)))) 64))) x1, x1001))) else (none)) else (none)) else (none)) else (none))))
def spec_l6Rd_pick.f (k : Nat) (s0_0 : List Int) (s0_1 : Int) (a1 : Int) : Option (Int × Int) := if a1 < 1 then (spec_l6Rd_pick.j0 k a1 true s0_0 (wrap64 (s0_1 + 1))) else (spec_l6Rd_pick.j0 k a1 ((s0_0.length : Int) == 0) s0_0 (wrap64 (s0_1 + 1)))
def spec_l92Rooms.l0 : Nat → List Int → Int → Int → List Int → Int → Option (List Int × Int)
 | 0, _, _, _, _, _ => none
 | k + 1, x3, x4, x5, x1000, x1001 => if x5 < x4 then ((some (([1, 1, 2, 3, 4] : List Int) : List Int)).bind fun y113 => ((spec_l6Rd_pick.f k x1000 x1001 5).bind fun bt116 => (if 0 ≤ bt116.1 then (if bt116.1 < (y113.length : Int) then (if x3.length < 17592186044416 then (spec_l92Rooms.l0 k (x3 ++ [rd y113 bt116.1]) x4 (wrap64 (x5 + 1)) x1000 bt116.2) else (none)) else (none)) else (none)))) else (some (x3, x1001))
def spec_l92Rooms.f (k : Nat) (s0_0 : List Int) (s0_1 : Int) : Option (List Int × Int) := (some (([0, 1, 1, 2, 2, 3] : List Int) : List Int)).bind fun y107 => ((spec_l6Rd_pick.f k s0_0 s0_1 6).bind fun bt110 => (if 0 ≤ bt110.1 then (if bt110.1 < (y107.length : Int) then (spec_l92Rooms.l0 k (([] : List Int)) (rd y107 bt110.1) 0 s0_0 bt110.2) else (none)) else (none)))
mutual
def spec_l11Count.l0 : Nat → List (S37) → Int → Int → Option (Int)
 | 0, _, _, _ => none
 | k + 1, x0, x3, x4 => if x4 < (x0.length : Int) then (if 0 ≤ x4 then ((spec_l11Count.f k ((rd_T37 x0 x4).f4)).bind fun t123 => ((spec_l11Count.f k ((rd_T37 x0 x4).f5)).bind fun t125 => (spec_l11Count.l0 k x0 (wrap64 ((wrap64 ((wrap64 (x3 + 1)) + t123)) + t125)) (wrap64 (x4 + 1))))) else (none)) else (some x3)
def spec_l11Count.f : Nat → List (S37) → Option (Int)
 | 0, _ => none
 | k + 1, l0 => spec_l11Count.l0 k l0 0 0
end
def spec_l4Leaf.f (a0 : Int) (a1 : Int) : Option (Int × Int × (List (S34))) := some (a0, a1, (([] : List (S34))))
def spec_l91Leaf.f (k : Nat) (s0_0 : List Int) (s0_1 : Int) : Option (Int × Int × (List (S34)) × Int) := (spec_l6Rd_pick.f k s0_0 s0_1 4).bind fun bt131 => (if bt131.1 = 0 then ((spec_l6Rd_pick.f k s0_0 bt131.2 4).bind fun bt133 => ((spec_l4Leaf.f 0 bt133.1).bind fun bt135 => (some (bt135.1, bt135.2.1, bt135.2.2, bt133.2)))) else (if bt131.1 = 1 then ((some (([5, 31, 32, 100, 2047, 2048, 65536, 99999] : List Int) : List Int)).bind fun y140 => ((spec_l6Rd_pick.f k s0_0 bt131.2 8).bind fun bt143 => (if 0 ≤ bt143.1 then (if bt143.1 < (y140.length : Int) then ((spec_l4Leaf.f 0 (rd y140 bt143.1)).bind fun bt146 => (some (bt146.1, bt146.2.1, bt146.2.2, bt143.2))) else (none)) else (none)))) else ((spec_l6Rd_pick.f k s0_0 bt131.2 4).bind fun bt151 => ((spec_l4Leaf.f 13 bt151.1).bind fun bt153 => (some (bt153.1, bt153.2.1, bt153.2.2, bt151.2))))))
def spec_l4Both.f (a0 : Int) (a1_0 : Int) (a1_1 : Int) (l1_2 : List (S34)) (a2_0 : Int) (a2_1 : Int) (l2_2 : List (S34)) : Option (Int × Int × (List (S34))) := some (a0, 0, (([(⟨a1_0, a1_1, l1_2⟩ : S34), (⟨a2_0, a2_1, l2_2⟩ : S34)] : List (S34))))
def spec_l91Op.f (k : Nat) (s0_0 : List Int) (s0_1 : Int) : Option (Int × Int) := (spec_l6Rd_pick.f k s0_0 s0_1 12).bind fun bt164 => (some (wrap64 (1 + bt164.1), bt164.2))
mutual
def spec_l91Expr.j0 : Nat → Int → Bool → List Int → Int → Option (Int × Int × (List (S34)) × Int)
 | 0, _, _, _, _ => none
 | k + 1, x1, x13, x1000, x1001 => if x13 = true then ((spec_l91Leaf.f k x1000 x1001).bind fun bt169 => (some (bt169.1, bt169.2.1, bt169.2.2.1, bt169.2.2.2))) else ((spec_l91Op.f k x1000 x1001).bind fun bt175 => ((spec_l91Expr.f k x1000 bt175.2 (wrap64 (x1 - 1))).bind fun bt177 => ((spec_l91Expr.f k x1000 bt177.2.2.2 (wrap64 (x1 - 1))).bind fun bt184 => ((spec_l4Both.f bt175.1 bt177.1 bt177.2.1 bt177.2.2.1 bt184.1 bt184.2.1 bt184.2.2.1).bind fun bt190 => (some (bt190.1, bt190.2.1, bt190.2.2, bt184.2.2.2))))))
def spec_l91Expr.f : Nat → List Int → Int → Int → Option (Int × Int × (List (S34)) × Int)
 | 0, _, _, _ => none
 | k + 1, s0_0, s0_1, a1 => if a1 < 2 then (spec_l91Expr.j0 k a1 true s0_0 s0_1) else ((spec_l6Rd_pick.f k s0_0 s0_1 3).bind fun bt167 => (spec_l91Expr.j0 k a1 (bt167.1 == 0) s0_0 bt167.2))
end
def spec_l92Set.f (k : Nat) (s0_0 : List Int) (s0_1 : Int) : Option (Int × Int × Int × Int × Int × (List (S34)) × (List (S37)) × (List (S37)) × Int) := (spec_l6Rd_pick.f k s0_0 s0_1 3).bind fun bt196 => ((spec_l6Rd_pick.f k s0_0 bt196.2 3).bind fun bt198 => ((spec_l91Expr.f k s0_0 bt198.2 (wrap64 (1 + bt198.1))).bind fun bt200 => (some (1, bt196.1, 0, bt200.1, bt200.2.1, bt200.2.2.1, ([] : List (S37)), ([] : List (S37)), bt200.2.2.2))))
def spec_l92Talk.f (k : Nat) (s0_0 : List Int) (s0_1 : Int) (a1 : Int) : Option (Int × Int × Int × Int × Int × (List (S34)) × (List (S37)) × (List (S37)) × Int) := if a1 < 1 then ((spec_l92Set.f k s0_0 s0_1).bind fun bt207 => (some (bt207.1, bt207.2.1, bt207.2.2.1, bt207.2.2.2.1, bt207.2.2.2.2.1, bt207.2.2.2.2.2.1, bt207.2.2.2.2.2.2.1, bt207.2.2.2.2.2.2.2.1, bt207.2.2.2.2.2.2.2.2))) else ((spec_l6Rd_pick.f k s0_0 s0_1 a1).bind fun bt222 => ((spec_l6Rd_pick.f k s0_0 bt222.2 2).bind fun bt224 => (if bt224.1 = 0 then ((spec_l6Rd_pick.f k s0_0 bt224.2 3).bind fun bt226 => ((spec_l91Expr.f k s0_0 bt226.2 (wrap64 (1 + bt226.1))).bind fun bt228 => (some (4, 0, bt222.1, bt228.1, bt228.2.1, bt228.2.2.1, ([] : List (S37)), ([] : List (S37)), bt228.2.2.2)))) else ((spec_l6Rd_pick.f k s0_0 bt224.2 3).bind fun bt234 => (some (5, bt234.1, bt222.1, 0, 0, ([] : List (S34)), ([] : List (S37)), ([] : List (S37)), bt234.2))))))
mutual
def spec_l92If.f : Nat → List Int → Int → Int → Int → Bool → Option (Int × Int × Int × Int × Int × (List (S34)) × (List (S37)) × (List (S37)) × Int)
 | 0, _, _, _, _, _ => none
 | k + 1, s0_0, s0_1, a1, a2, a3 => (spec_l6Rd_pick.f k s0_0 s0_1 2).bind fun bt237 => ((spec_l91Expr.f k s0_0 bt237.2 (wrap64 (1 + bt237.1))).bind fun bt239 => ((spec_l6Rd_pick.f k s0_0 bt239.2.2.2 3).bind fun bt246 => ((spec_l92Block.f k s0_0 bt246.2 a1 (wrap64 (a2 - 1)) bt246.1 a3).bind fun bt248 => ((spec_l6Rd_pick.f k s0_0 bt248.2 3).bind fun bt252 => ((spec_l92Block.f k s0_0 bt252.2 a1 (wrap64 (a2 - 1)) bt252.1 a3).bind fun bt254 => (some (2, 0, 0, bt239.1, bt239.2.1, bt239.2.2.1, bt248.1, bt254.1, bt254.2)))))))
def spec_l92Loop.f : Nat → List Int → Int → Int → Int → Option ((List (S37)) × Int)
 | 0, _, _, _, _ => none
 | k + 1, s0_0, s0_1, a1, a2 => (spec_l6Rd_pick.f k s0_0 s0_1 3).bind fun bt258 => ((spec_l92Block.f k s0_0 bt258.2 a1 (wrap64 (a2 - 1)) bt258.1 false).bind fun bt260 => ((spec_l4Leaf.f 13 3).bind fun bt264 => ((spec_l4Leaf.f 0 1).bind fun bt269 => ((spec_l4Both.f 8 bt264.1 bt264.2.1 bt264.2.2 bt269.1 bt269.2.1 bt269.2.2).bind fun bt274 => ((spec_l4Leaf.f 13 3).bind fun bt280 => ((spec_l6Rd_pick.f k s0_0 bt260.2 3).bind fun bt285 => ((spec_l4Leaf.f 0 (wrap64 (1 + bt285.1))).bind fun bt287 => ((spec_l4Both.f 5 bt280.1 bt280.2.1 bt280.2.2 bt287.1 bt287.2.1 bt287.2.2).bind fun bt292 => ((some (([(⟨1, 3, 0, (⟨bt274.1, bt274.2.1, bt274.2.2⟩ : S34), ([] : List (S37)), ([] : List (S37))⟩ : S37)] : List (S37)) : List (S37))).bind fun y297 => (if bt260.1.length + y297.length < 1256584717458 then ((spec_l4Leaf.f 0 0).bind fun bt304 => (some ((([(⟨1, 3, 0, (⟨bt304.1, bt304.2.1, bt304.2.2⟩ : S34), ([] : List (S37)), ([] : List (S37))⟩ : S37), (⟨3, 0, 0, (⟨bt292.1, bt292.2.1, bt292.2.2⟩ : S34), (bt260.1 ++ y297), ([] : List (S37))⟩ : S37)] : List (S37))), bt285.2))) else (none)))))))))))
def spec_l92Stmt.j0 : Nat → Int → Int → Bool → Int → Bool → List Int → Int → Option ((List (S37)) × Int)
 | 0, _, _, _, _, _, _, _ => none
 | k + 1, x1, x2, x3, x10, x11, x1000, x1001 => if x11 = true then ((spec_l92Set.f k x1000 x1001).bind fun bt314 => (some ((([(⟨bt314.1, bt314.2.1, bt314.2.2.1, (⟨bt314.2.2.2.1, bt314.2.2.2.2.1, bt314.2.2.2.2.2.1⟩ : S34), bt314.2.2.2.2.2.2.1, bt314.2.2.2.2.2.2.2.1⟩ : S37)] : List (S37))), bt314.2.2.2.2.2.2.2.2))) else (if x10 = 2 then (if x2 > 0 then ((spec_l92If.f k x1000 x1001 x1 x2 x3).bind fun bt332 => (some ((([(⟨bt332.1, bt332.2.1, bt332.2.2.1, (⟨bt332.2.2.2.1, bt332.2.2.2.2.1, bt332.2.2.2.2.2.1⟩ : S34), bt332.2.2.2.2.2.2.1, bt332.2.2.2.2.2.2.2.1⟩ : S37)] : List (S37))), bt332.2.2.2.2.2.2.2.2))) else ((spec_l6Rd_pick.f k x1000 x1001 3).bind fun bt350 => ((spec_l91Expr.f k x1000 bt350.2 (wrap64 (1 + bt350.1))).bind fun bt352 => (some ((([(⟨7, 0, 0, (⟨bt352.1, bt352.2.1, bt352.2.2.1⟩ : S34), ([] : List (S37)), ([] : List (S37))⟩ : S37)] : List (S37))), bt352.2.2.2))))) else (if x10 = 3 then (if x2 > 0 then (spec_l92Stmt.j1 k x1 x2 x3 x1000 x1001) else (spec_l92Stmt.j1 k x1 x2 false x1000 x1001)) else (if x10 = 4 then (spec_l92Stmt.j2 k x1 x10 (x10 == 4) x1000 x1001) else (if x10 = 5 then (spec_l92Stmt.j2 k x1 x10 (x10 == 5) x1000 x1001) else (spec_l92Stmt.j2 k x1 x10 (x10 == 6) x1000 x1001)))))
def spec_l92Stmt.j1 : Nat → Int → Int → Bool → List Int → Int → Option ((List (S37)) × Int)
 | 0, _, _, _, _, _ => none
 | k + 1, x1, x2, x33, x1000, x1001 => if x33 = true then ((spec_l92Loop.f k x1000 x1001 x1 x2).bind fun bt361 => (some (bt361.1, bt361.2))) else ((spec_l6Rd_pick.f k x1000 x1001 3).bind fun bt365 => ((spec_l91Expr.f k x1000 bt365.2 (wrap64 (1 + bt365.1))).bind fun bt367 => (some ((([(⟨7, 0, 0, (⟨bt367.1, bt367.2.1, bt367.2.2.1⟩ : S34), ([] : List (S37)), ([] : List (S37))⟩ : S37)] : List (S37))), bt367.2.2.2))))
def spec_l92Stmt.j2 : Nat → Int → Int → Bool → List Int → Int → Option ((List (S37)) × Int)
 | 0, _, _, _, _, _ => none
 | k + 1, x1, x10, x38, x1000, x1001 => if x38 = true then ((spec_l92Talk.f k x1000 x1001 x1).bind fun bt376 => (some ((([(⟨bt376.1, bt376.2.1, bt376.2.2.1, (⟨bt376.2.2.2.1, bt376.2.2.2.2.1, bt376.2.2.2.2.2.1⟩ : S34), bt376.2.2.2.2.2.2.1, bt376.2.2.2.2.2.2.2.1⟩ : S37)] : List (S37))), bt376.2.2.2.2.2.2.2.2))) else (if x10 = 7 then (some ((([(⟨6, 0, 0, (⟨0, 0, ([] : List (S34))⟩ : S34), ([] : List (S37)), ([] : List (S37))⟩ : S37)] : List (S37))), x1001)) else ((spec_l6Rd_pick.f k x1000 x1001 3).bind fun bt397 => ((spec_l91Expr.f k x1000 bt397.2 (wrap64 (1 + bt397.1))).bind fun bt399 => (some ((([(⟨7, 0, 0, (⟨bt399.1, bt399.2.1, bt399.2.2.1⟩ : S34), ([] : List (S37)), ([] : List (S37))⟩ : S37)] : List (S37))), bt399.2.2.2)))))
def spec_l92Stmt.f : Nat → List Int → Int → Int → Int → Bool → Option ((List (S37)) × Int)
 | 0, _, _, _, _, _ => none
 | k + 1, s0_0, s0_1, a1, a2, a3 => (spec_l6Rd_pick.f k s0_0 s0_1 10).bind fun bt312 => (if bt312.1 = 0 then (spec_l92Stmt.j0 k a1 a2 a3 bt312.1 (bt312.1 == 0) s0_0 bt312.2) else (spec_l92Stmt.j0 k a1 a2 a3 bt312.1 (bt312.1 == 1) s0_0 bt312.2))
def spec_l92Block.l0 : Nat → Int → Int → Int → Bool → List (S37) → Int → List Int → Int → Option ((List (S37)) × Int)
 | 0, _, _, _, _, _, _, _, _ => none
 | k + 1, x1, x2, x3, x4, x11, x12, x1000, x1001 => if x12 < x3 then ((spec_l92Stmt.f k x1000 x1001 x1 x2 x4).bind fun bt411 => (if x11.length + bt411.1.length < 1256584717458 then (spec_l92Block.l0 k x1 x2 x3 x4 (x11 ++ bt411.1) (wrap64 (x12 + 1)) x1000 bt411.2) else (none))) else (some (x11, x1001))
def spec_l92Block.f : Nat → List Int → Int → Int → Int → Int → Bool → Option ((List (S37)) × Int)
 | 0, _, _, _, _, _, _ => none
 | k + 1, s0_0, s0_1, a1, a2, a3, a4 => spec_l92Block.l0 k a1 a2 a3 a4 (([] : List (S37))) 0 s0_0 s0_1
end
def spec_l92Stmts.l0 : Nat → List (S37) → List Int → Int → Option ((List (S37)) × Int)
 | 0, _, _, _ => none
 | k + 1, x5, x1000, x1001 => (spec_l11Count.f k x5).bind fun t424 => (if t424 > 16 then (if 0 ≤ (wrap64 ((x5.length : Int) - 1)) then (if (wrap64 ((x5.length : Int) - 1)) ≤ (x5.length : Int) then (spec_l92Stmts.l0 k (x5.take ((wrap64 ((x5.length : Int) - 1)) : Int).toNat) x1000 x1001) else (none)) else (none)) else (some (x5, x1001)))
def spec_l92Stmts.f (k : Nat) (s0_0 : List Int) (s0_1 : Int) (a1 : Int) : Option ((List (S37)) × Int) := (spec_l6Rd_pick.f k s0_0 s0_1 6).bind fun bt418 => ((spec_l92Block.f k s0_0 bt418.2 a1 3 (wrap64 (1 + bt418.1)) true).bind fun bt420 => (spec_l92Stmts.l0 k bt420.1 s0_0 bt420.2))
def spec_l92Endless.f (k : Nat) (s0_0 : List Int) (s0_1 : Int) : Option (Int × Int × Int × Int × Int × (List (S34)) × (List (S37)) × (List (S37)) × Int) := (spec_l4Leaf.f 0 1).bind fun bt429 => ((spec_l6Rd_pick.f k s0_0 s0_1 2).bind fun bt434 => ((spec_l92Block.f k s0_0 bt434.2 0 1 bt434.1 false).bind fun bt436 => (some (3, 0, 0, bt429.1, bt429.2.1, bt429.2.2, bt436.1, ([] : List (S37)), bt436.2))))
def spec_l92Program.l0 : Nat → Int → Int → List Int → Int → List Int → List (List (S37)) → Option (List Int × (List (List (S37))) × Int)
 | 0, _, _, _, _, _, _ => none
 | k + 1, x4, x5, x1000, x1001, x449000, x449001 => if x5 < x4 then ((spec_l92Stmts.f k x1000 x1001 (x449000.length : Int)).bind fun bt451 => (if x449001.length < 5864062014805 then (spec_l92Program.l0 k x4 (wrap64 (x5 + 1)) x1000 bt451.2 x449000 (x449001 ++ [bt451.1])) else (none))) else ((spec_l6Rd_pick.f k x1000 x1001 16).bind fun bt458 => (if bt458.1 = 0 then ((spec_l92Endless.f k x1000 bt458.2).bind fun bt460 => (if 0 < (x449001.length : Int) then (some (x449000, (x449001.set (0 : Int).toNat (([(⟨bt460.1, bt460.2.1, bt460.2.2.1, (⟨bt460.2.2.2.1, bt460.2.2.2.2.1, bt460.2.2.2.2.2.1⟩ : S34), bt460.2.2.2.2.2.2.1, bt460.2.2.2.2.2.2.2.1⟩ : S37)] : List (S37)))), bt460.2.2.2.2.2.2.2.2)) else (none))) else (some (x449000, x449001, bt458.2))))
def spec_l92Program.f (k : Nat) (s0_0 : List Int) (s0_1 : Int) : Option (List Int × (List (List (S37))) × Int) := (spec_l92Rooms.f k s0_0 s0_1).bind fun bt441 => ((spec_l6Rd_pick.f k s0_0 bt441.2 3).bind fun bt449 => (spec_l92Program.l0 k (wrap64 (1 + bt449.1)) 0 s0_0 bt449.2 bt441.1 (([] : List (List (S37))))))
def spec_l92Wrong.f (k : Nat) (s0_0 : List Int) (s0_1 : Int) : Option (List Int × (List (List (S37))) × Int) := (spec_l92Program.f k s0_0 s0_1).bind fun bt480 => ((spec_l6Rd_pick.f k s0_0 bt480.2.2 30).bind fun bt488 => (if bt488.1 = 0 then ((some (([0, 5] : List Int) : List Int)).bind fun y490 => ((spec_l6Rd_pick.f k s0_0 bt488.2 2).bind fun bt493 => (if 0 ≤ bt493.1 then (if bt493.1 < (y490.length : Int) then (if bt480.1.length < 17592186044416 then (some ((bt480.1 ++ [rd y490 bt493.1]), bt480.2.1, bt493.2)) else (none)) else (none)) else (none)))) else (if bt488.1 = 1 then ((spec_l91Leaf.f k s0_0 bt488.2).bind fun bt499 => (if bt480.2.1.length < 5864062014805 then (some (bt480.1, (bt480.2.1 ++ [(([(⟨4, 0, (bt480.1.length : Int), (⟨bt499.1, bt499.2.1, bt499.2.2.1⟩ : S34), ([] : List (S37)), ([] : List (S37))⟩ : S37)] : List (S37)))]), bt499.2.2.2)) else (none))) else (if bt488.1 = 2 then (some (bt480.1, (([] : List (List (S37)))), bt488.2)) else (if bt488.1 = 3 then (if 0 < (bt480.2.1.length : Int) then ((some (([rd_L4 bt480.2.1 0, rd_L4 bt480.2.1 0, rd_L4 bt480.2.1 0] : List (List (S37))) : List (List (S37)))).bind fun y517 => (if bt480.2.1.length + y517.length < 5864062014805 then (some (bt480.1, (bt480.2.1 ++ y517), bt488.2)) else (none))) else (none)) else (if bt488.1 = 4 then (if 0 < (bt480.2.1.length : Int) then (if (rd_L4 bt480.2.1 0).length + 1 < 1256584717458 then (some (bt480.1, bt480.2.1.set 0 (rd_L4 bt480.2.1 0 ++ [⟨9, 0, 0, ⟨0, 0, []⟩, [], []⟩]), bt488.2)) else (none)) else (none)) else (some (bt480.1, bt480.2.1, bt488.2))))))))
def spec_l6Open.f (l0 : List Int) : Option (List Int × Int) := if (l0.length : Int) > 2000 then (if 2000 ≤ (l0.length : Int) then (some (l0.take 2000, 0)) else (none)) else (some (l0, 0))
def spec_DrawProgramValid.f (k : Nat) (l0 : List Int) : Option (List Int × (List (List (S37)))) := (spec_l6Open.f l0).bind fun bt527 => ((spec_l92Wrong.f k bt527.1 bt527.2).bind fun bt530 => (some (bt530.1, bt530.2.1)))
def impl_roomsValid.l0 : Nat → List Int → List Int → Int → Int → Option (Bool)
 | 0, _, _, _, _ => none
 | k + 1, x0, x5, x6, x7 => if x7 < x6 then (if 0 ≤ x7 then (if x7 < (x5.length : Int) then (if (rd x5 x7) < 1 then (some false) else (if (rd x5 x7) > 4 then (some false) else (impl_roomsValid.l0 k x0 x5 x6 (wrap64 (x7 + 1))))) else (none)) else (none)) else (some (decide ((x0.length : Int) ≤ 3)))
def impl_roomsValid.f (k : Nat) (l0 : List Int) : Option (Bool) := impl_roomsValid.l0 k l0 l0 (l0.length : Int) 0
def impl_OpValid.f (a0 : Int) : Option (Bool) := if a0 ≥ 1 then (some (decide (a0 ≤ 12))) else (some false)
def impl_exprValid.f : Nat → Int → Int → List (S34) → Int → Option (Bool)
 | 0, _, _, _, _ => none
 | k + 1, a0_0, a0_1, l0_2, a1 => if a0_0 = 0 then (if a0_1 ≥ 0 then (if a0_1 ≤ 99999 then (if (l0_2.length : Int) = 0 then (some (decide (a1 > 0))) else (some false)) else (some false)) else (some false)) else (if a0_0 = 13 then (if a0_1 ≥ 0 then (if a0_1 < 4 then (if (l0_2.length : Int) = 0 then (some (decide (a1 > 0))) else (some false)) else (some false)) else (some false)) else ((impl_OpValid.f a0_0).bind fun t539 => (if t539 = true then (if a0_1 = 0 then (if (l0_2.length : Int) = 2 then (if a1 > 1 then (if 0 < (l0_2.length : Int) then ((impl_exprValid.f k ((rd_T34 l0_2 0).f0) ((rd_T34 l0_2 0).f1) ((rd_T34 l0_2 0).f2) (wrap64 (a1 - 1))).bind fun t541 => (if t541 = true then (if 1 < (l0_2.length : Int) then ((impl_exprValid.f k ((rd_T34 l0_2 1).f0) ((rd_T34 l0_2 1).f1) ((rd_T34 l0_2 1).f2) (wrap64 (a1 - 1))).bind fun t543 => (some t543)) else (none)) else (some false))) else (none)) else (some false)) else (some false)) else (some false)) else (some false))))
def impl_ExprValid.f (k : Nat) (a0_0 : Int) (a0_1 : Int) (l0_2 : List (S34)) : Option (Bool) := (impl_exprValid.f k a0_0 a0_1 l0_2 5).bind fun t545 => (some t545)
def inr (n limit : Int) (needed : Bool) : Bool := (n == 0) || (needed && (decide (n > 0) && decide (n < limit)))
def stv_rest (k : Nat) (nv nb ne nd no : Bool) (va bx op n : Int) (la : List S34) (lb le : Nat) (boxes : Int) : Option Bool :=
  if inr va 4 nv = true then (if inr bx boxes nb = true then (if nb = true ∧ boxes ≤ bx then some false else
    (if ne = true then ((impl_ExprValid.f k op n la).bind fun t => if t = true then some ((nd || lb == 0) && (no || le == 0)) else some false)
     else (if op = 0 then (if n = 0 then (if 0 < (la.length : Int) then some false else some ((nd || lb == 0) && (no || le == 0))) else some false) else some false))) else some false) else some false
def impl_stmtValid.f (k : Nat) (kd va bx op n : Int) (la : List S34) (lb le : Nat) (boxes : Int) : Option Bool :=
 if kd = 1 then stv_rest k true false true false false va bx op n la lb le boxes
 else if kd = 2 then stv_rest k false false true true true va bx op n la lb le boxes
 else if kd = 3 then stv_rest k false false true true false va bx op n la lb le boxes
 else if kd = 4 then stv_rest k false true true false false va bx op n la lb le boxes
 else if kd = 5 then stv_rest k true true false false false va bx op n la lb le boxes
 else if kd = 7 then stv_rest k false false true false false va bx op n la lb le boxes
 else if kd = 6 then stv_rest k false false false false false va bx op n la lb le boxes
 else some false
mutual
def impl_blockValid.f : Nat → List S37 → Int → Int → Int → Option (Bool × Int)
 | 0, _, _, _, _ => none
 | k + 1, l, boxes, blocks, cnt => if 16 < wrap64 (cnt + (l.length : Int)) then some (false, wrap64 (cnt + (l.length : Int))) else impl_blockValid.l0 k l boxes blocks 0 (wrap64 (cnt + (l.length : Int)))
def impl_blockValid.l0 : Nat → List S37 → Int → Int → Int → Int → Option (Bool × Int)
 | 0, _, _, _, _, _ => none
 | k + 1, l, boxes, blocks, i, cnt => if i < (l.length : Int) then (if 0 ≤ i then
   ((impl_stmtValid.f k (rd_T37 l i).f0 (rd_T37 l i).f1 (rd_T37 l i).f2 (rd_T37 l i).f3.f0 (rd_T37 l i).f3.f1 (rd_T37 l i).f3.f2 (rd_T37 l i).f4.length (rd_T37 l i).f5.length boxes).bind fun t =>
    if t = true then (if 3 < blocks then some (false, cnt) else
     (if (rd_T37 l i).f0 = 2 ∨ (rd_T37 l i).f0 = 3 then (if 3 ≤ blocks then some (false, cnt) else
      ((impl_blockValid.f k (rd_T37 l i).f4 boxes (wrap64 (blocks + 1)) cnt).bind fun p => if p.1 = true then
       ((impl_blockValid.f k (rd_T37 l i).f5 boxes (wrap64 (blocks + 1)) p.2).bind fun q => if q.1 = true then impl_blockValid.l0 k l boxes blocks (wrap64 (i + 1)) q.2 else some (false, q.2)) else some (false, p.2)))
     else impl_blockValid.l0 k l boxes blocks (wrap64 (i + 1)) cnt)) else some (false, cnt)) else none) else some (true, cnt)
end
def impl_stmtsValid.f (k : Nat) (l0 : List (S37)) (a1 : Int) : Option Bool := (impl_blockValid.f k l0 a1 0 0).bind fun p => some p.1
mutual
def impl_ProgramValid.j0 : Nat → Bool → List Int → List (List (S37)) → Option (Bool)
 | 0, _, _, _ => none
 | k + 1, x20, x547000, x547001 => if x20 = true then (some false) else (impl_ProgramValid.l0 k x547001 (x547001.length : Int) 0 x547000 x547001)
def impl_ProgramValid.l0 : Nat → List (List (S37)) → Int → Int → List Int → List (List (S37)) → Option (Bool)
 | 0, _, _, _, _, _ => none
 | k + 1, x22, x23, x24, x547000, x547001 => if x24 < x23 then (if 0 ≤ x24 then (if x24 < (x22.length : Int) then ((impl_stmtsValid.f k (rd_L4 x22 x24) (x547000.length : Int)).bind fun t549 => (if t549 = true then (impl_ProgramValid.l0 k x22 x23 (wrap64 (x24 + 1)) x547000 x547001) else (some false))) else (none)) else (none)) else (some true)
end
def impl_ProgramValid.f (k : Nat) (l0_0 : List Int) (l0_1 : List (List (S37))) : Option (Bool) := (impl_roomsValid.f k l0_0).bind fun t547 => (if t547 = true then (if (l0_1.length : Int) < 1 then (impl_ProgramValid.j0 k true l0_0 l0_1) else (impl_ProgramValid.j0 k (decide ((l0_1.length : Int) > 3)) l0_0 l0_1)) else (impl_ProgramValid.j0 k true l0_0 l0_1))
def spec_l6In.f (a0 : Int) (a1 : Int) (a2 : Int) : Option (Bool) := if a0 ≥ a1 then (some (decide (a0 ≤ a2))) else (some false)
def spec_l12Rooms.l0 : Nat → List Int → Int → Option (Bool)
 | 0, _, _ => none
 | k + 1, x0, x3 => if x3 < (x0.length : Int) then (if 0 ≤ x3 then ((spec_l6In.f (rd x0 x3) 1 4).bind fun t551 => (if t551 = true then (spec_l12Rooms.l0 k x0 (wrap64 (x3 + 1))) else (some false))) else (none)) else (some (decide ((x0.length : Int) ≤ 3)))
def spec_l12Rooms.f (k : Nat) (l0 : List Int) : Option (Bool) := spec_l12Rooms.l0 k l0 0
def spec_l11Var.f (a0_0 : Int) (a0_1 : Int) (a0_2 : Int) (a0_3 : Int) (a0_4 : Int) (l0_5 : List (S34)) (l0_6 : List (S37)) (l0_7 : List (S37)) (a1 : Bool) : Option (Bool) := if a1 = true then ((spec_l6In.f a0_1 0 3).bind fun t553 => (some t553)) else (some (a0_1 == 0))
def spec_l11Box.f (a0_0 : Int) (a0_1 : Int) (a0_2 : Int) (a0_3 : Int) (a0_4 : Int) (l0_5 : List (S34)) (l0_6 : List (S37)) (l0_7 : List (S37)) (a1 : Bool) : Option (Bool) := if a1 = true then ((spec_l6In.f a0_2 0 2).bind fun t555 => (some t555)) else (some (a0_2 == 0))
def spec_OpValid.f (a0 : Int) : Option (Bool) := (spec_l6In.f a0 1 12).bind fun t556 => (some t556)
def spec_l4Ok.f : Nat → Int → Int → List (S34) → Int → Option (Bool)
 | 0, _, _, _, _ => none
 | k + 1, a0_0, a0_1, l0_2, a1 => if a1 < 1 then (some false) else (if a0_0 = 0 then ((spec_l6In.f a0_1 0 99999).bind fun t558 => (if t558 = true then (some ((l0_2.length : Int) == 0)) else (some false))) else (if a0_0 = 13 then ((spec_l6In.f a0_1 0 3).bind fun t559 => (if t559 = true then (some ((l0_2.length : Int) == 0)) else (some false))) else ((spec_OpValid.f a0_0).bind fun t560 => (if t560 = true then (if a0_1 = 0 then (if (l0_2.length : Int) = 2 then (if 0 < (l0_2.length : Int) then ((spec_l4Ok.f k ((rd_T34 l0_2 0).f0) ((rd_T34 l0_2 0).f1) ((rd_T34 l0_2 0).f2) (wrap64 (a1 - 1))).bind fun t562 => (if t562 = true then (if 1 < (l0_2.length : Int) then ((spec_l4Ok.f k ((rd_T34 l0_2 1).f0) ((rd_T34 l0_2 1).f1) ((rd_T34 l0_2 1).f2) (wrap64 (a1 - 1))).bind fun t564 => (some t564)) else (none)) else (some false))) else (none)) else (some false)) else (some false)) else (some false)))))
def spec_ExprValid.f (k : Nat) (a0_0 : Int) (a0_1 : Int) (l0_2 : List (S34)) : Option (Bool) := (spec_l4Ok.f k a0_0 a0_1 l0_2 5).bind fun t566 => (some t566)
def spec_l11Plain.f (a0_0 : Int) (a0_1 : Int) (l0_2 : List (S34)) : Option (Bool) := if a0_0 = 0 then (if a0_1 = 0 then (some ((l0_2.length : Int) == 0)) else (some false)) else (some false)
def spec_l11Simple.j0 : Nat → Bool → Int → Int → Int → Int → Int → List (S34) → List (S37) → List (S37) → Option (Bool)
 | 0, _, _, _, _, _, _, _, _, _ => none
 | k + 1, x12, x569000, x569001, x569002, x569003, x569004, x569005, x569006, x569007 => if x12 = true then (some false) else (if x569000 = 1 then ((spec_l11Var.f x569000 x569001 x569002 x569003 x569004 x569005 x569006 x569007 true).bind fun t569 => (if t569 = true then ((spec_l11Box.f x569000 x569001 x569002 x569003 x569004 x569005 x569006 x569007 false).bind fun t570 => (if t570 = true then ((spec_ExprValid.f k x569003 x569004 x569005).bind fun t571 => (some t571)) else (some false))) else (some false))) else (if x569000 = 4 then ((spec_l11Var.f x569000 x569001 x569002 x569003 x569004 x569005 x569006 x569007 false).bind fun t572 => (if t572 = true then ((spec_l11Box.f x569000 x569001 x569002 x569003 x569004 x569005 x569006 x569007 true).bind fun t573 => (if t573 = true then ((spec_ExprValid.f k x569003 x569004 x569005).bind fun t574 => (some t574)) else (some false))) else (some false))) else (if x569000 = 5 then ((spec_l11Var.f x569000 x569001 x569002 x569003 x569004 x569005 x569006 x569007 true).bind fun t575 => (if t575 = true then ((spec_l11Box.f x569000 x569001 x569002 x569003 x569004 x569005 x569006 x569007 true).bind fun t576 => (if t576 = true then ((spec_l11Plain.f x569003 x569004 x569005).bind fun t577 => (some t577)) else (some false))) else (some false))) else (if x569000 = 6 then ((spec_l11Var.f x569000 x569001 x569002 x569003 x569004 x569005 x569006 x569007 false).bind fun t578 => (if t578 = true then ((spec_l11Box.f x569000 x569001 x569002 x569003 x569004 x569005 x569006 x569007 false).bind fun t579 => (if t579 = true then ((spec_l11Plain.f x569003 x569004 x569005).bind fun t580 => (some t580)) else (some false))) else (some false))) else (if x569000 = 7 then ((spec_l11Var.f x569000 x569001 x569002 x569003 x569004 x569005 x569006 x569007 false).bind fun t581 => (if t581 = true then ((spec_l11Box.f x569000 x569001 x569002 x569003 x569004 x569005 x569006 x569007 false).bind fun t582 => (if t582 = true then ((spec_ExprValid.f k x569003 x569004 x569005).bind fun t583 => (some t583)) else (some false))) else (some false))) else (some false))))))
def spec_l11Simple.f (k : Nat) (a0_0 : Int) (a0_1 : Int) (a0_2 : Int) (a0_3 : Int) (a0_4 : Int) (l0_5 : List (S34)) (l0_6 : List (S37)) (l0_7 : List (S37)) : Option (Bool) := if (l0_6.length : Int) > 0 then (spec_l11Simple.j0 k true a0_0 a0_1 a0_2 a0_3 a0_4 l0_5 l0_6 l0_7) else (spec_l11Simple.j0 k (decide ((l0_7.length : Int) > 0)) a0_0 a0_1 a0_2 a0_3 a0_4 l0_5 l0_6 l0_7)
mutual
def spec_l11Ok.j0 : Nat → Int → Bool → Int → Int → Int → Int → Int → List (S34) → List (S37) → List (S37) → Option (Bool)
 | 0, _, _, _, _, _, _, _, _, _, _ => none
 | k + 1, x1, x12, x585000, x585001, x585002, x585003, x585004, x585005, x585006, x585007 => if x12 = true then ((spec_l11Simple.f k x585000 x585001 x585002 x585003 x585004 x585005 x585006 x585007).bind fun t585 => (some t585)) else (if x1 < 1 then (spec_l11Ok.j1 k x1 true x585000 x585001 x585002 x585003 x585004 x585005 x585006 x585007) else (if x585000 = 3 then (spec_l11Ok.j1 k x1 (decide ((x585007.length : Int) > 0)) x585000 x585001 x585002 x585003 x585004 x585005 x585006 x585007) else (spec_l11Ok.j1 k x1 false x585000 x585001 x585002 x585003 x585004 x585005 x585006 x585007)))
def spec_l11Ok.j1 : Nat → Int → Bool → Int → Int → Int → Int → Int → List (S34) → List (S37) → List (S37) → Option (Bool)
 | 0, _, _, _, _, _, _, _, _, _, _ => none
 | k + 1, x1, x27, x585000, x585001, x585002, x585003, x585004, x585005, x585006, x585007 => if x27 = true then (some false) else ((spec_l11Var.f x585000 x585001 x585002 x585003 x585004 x585005 x585006 x585007 false).bind fun t586 => (if t586 = true then ((spec_l11Box.f x585000 x585001 x585002 x585003 x585004 x585005 x585006 x585007 false).bind fun t587 => (if t587 = true then ((spec_ExprValid.f k x585003 x585004 x585005).bind fun t588 => (if t588 = true then ((spec_l11Blocks.f k x585006 (wrap64 (x1 - 1))).bind fun t589 => (if t589 = true then ((spec_l11Blocks.f k x585007 (wrap64 (x1 - 1))).bind fun t590 => (some t590)) else (some false))) else (some false))) else (some false))) else (some false)))
def spec_l11Ok.f : Nat → Int → Int → Int → Int → Int → List (S34) → List (S37) → List (S37) → Int → Option (Bool)
 | 0, _, _, _, _, _, _, _, _, _ => none
 | k + 1, a0_0, a0_1, a0_2, a0_3, a0_4, l0_5, l0_6, l0_7, a1 => if a0_0 = 2 then (spec_l11Ok.j0 k a1 false a0_0 a0_1 a0_2 a0_3 a0_4 l0_5 l0_6 l0_7) else (spec_l11Ok.j0 k a1 (a0_0 != 3) a0_0 a0_1 a0_2 a0_3 a0_4 l0_5 l0_6 l0_7)
def spec_l11Blocks.l0 : Nat → List (S37) → Int → Int → Option (Bool)
 | 0, _, _, _ => none
 | k + 1, x0, x1, x5 => if x5 < (x0.length : Int) then (if 0 ≤ x5 then ((spec_l11Ok.f k ((rd_T37 x0 x5).f0) ((rd_T37 x0 x5).f1) ((rd_T37 x0 x5).f2) ((rd_T37 x0 x5).f3.f0) ((rd_T37 x0 x5).f3.f1) ((rd_T37 x0 x5).f3.f2) ((rd_T37 x0 x5).f4) ((rd_T37 x0 x5).f5) x1).bind fun t592 => (if t592 = true then (spec_l11Blocks.l0 k x0 x1 (wrap64 (x5 + 1))) else (some false))) else (none)) else (some true)
def spec_l11Blocks.f : Nat → List (S37) → Int → Option (Bool)
 | 0, _, _ => none
 | k + 1, l0, a1 => spec_l11Blocks.l0 k l0 a1 0
end
def spec_StmtsValid.f (k : Nat) (l0 : List (S37)) : Option (Bool) := (spec_l11Blocks.f k l0 3).bind fun t593 => (if t593 = true then ((spec_l11Count.f k l0).bind fun t594 => (some (decide (t594 ≤ 16)))) else (some false))
mutual
def spec_l12Boxes.l0 : Nat → List (S37) → Int → Int → Option (Bool)
 | 0, _, _, _ => none
 | k + 1, x0, x1, x5 => if x5 < (x0.length : Int) then (if 0 ≤ x5 then (if ((rd_T37 x0 x5).f0) = 4 then (spec_l12Boxes.j1 k x0 x1 x5 (decide (((rd_T37 x0 x5).f2) ≥ x1)) ((rd_T37 x0 x5).f0) ((rd_T37 x0 x5).f1) ((rd_T37 x0 x5).f2) ((rd_T37 x0 x5).f3.f0) ((rd_T37 x0 x5).f3.f1) ((rd_T37 x0 x5).f3.f2) ((rd_T37 x0 x5).f4) ((rd_T37 x0 x5).f5)) else (if ((rd_T37 x0 x5).f0) = 5 then (spec_l12Boxes.j1 k x0 x1 x5 (decide (((rd_T37 x0 x5).f2) ≥ x1)) ((rd_T37 x0 x5).f0) ((rd_T37 x0 x5).f1) ((rd_T37 x0 x5).f2) ((rd_T37 x0 x5).f3.f0) ((rd_T37 x0 x5).f3.f1) ((rd_T37 x0 x5).f3.f2) ((rd_T37 x0 x5).f4) ((rd_T37 x0 x5).f5)) else (spec_l12Boxes.j1 k x0 x1 x5 false ((rd_T37 x0 x5).f0) ((rd_T37 x0 x5).f1) ((rd_T37 x0 x5).f2) ((rd_T37 x0 x5).f3.f0) ((rd_T37 x0 x5).f3.f1) ((rd_T37 x0 x5).f3.f2) ((rd_T37 x0 x5).f4) ((rd_T37 x0 x5).f5)))) else (none)) else (some true)
def spec_l12Boxes.j1 : Nat → List (S37) → Int → Int → Bool → Int → Int → Int → Int → Int → List (S34) → List (S37) → List (S37) → Option (Bool)
 | 0, _, _, _, _, _, _, _, _, _, _, _, _ => none
 | k + 1, x0, x1, x5, x30, x597000, x597001, x597002, x597003, x597004, x597005, x597006, x597007 => if x30 = true then (some false) else ((spec_l12Boxes.f k x597006 x1).bind fun t597 => (if t597 = true then ((spec_l12Boxes.f k x597007 x1).bind fun t598 => (if t598 = true then (spec_l12Boxes.l0 k x0 x1 (wrap64 (x5 + 1))) else (some false))) else (some false)))
def spec_l12Boxes.f : Nat → List (S37) → Int → Option (Bool)
 | 0, _, _ => none
 | k + 1, l0, a1 => spec_l12Boxes.l0 k l0 a1 0
end
mutual
def spec_ProgramValid.j0 : Nat → Bool → List Int → List (List (S37)) → Option (Bool)
 | 0, _, _, _ => none
 | k + 1, x14, x600000, x600001 => if x14 = true then (some false) else (spec_ProgramValid.l0 k 0 x600000 x600001)
def spec_ProgramValid.l0 : Nat → Int → List Int → List (List (S37)) → Option (Bool)
 | 0, _, _, _ => none
 | k + 1, x3, x600000, x600001 => if x3 < (x600001.length : Int) then (if 0 ≤ x3 then ((spec_StmtsValid.f k (rd_L4 x600001 x3)).bind fun t603 => (if t603 = true then ((spec_l12Boxes.f k (rd_L4 x600001 x3) (x600000.length : Int)).bind fun t605 => (if t605 = true then (spec_ProgramValid.l0 k (wrap64 (x3 + 1)) x600000 x600001) else (some false))) else (some false))) else (none)) else (some true)
end
def spec_ProgramValid.f (k : Nat) (l0_0 : List Int) (l0_1 : List (List (S37))) : Option (Bool) := (spec_l12Rooms.f k l0_0).bind fun t600 => (if t600 = true then ((spec_l6In.f (l0_1.length : Int) 1 3).bind fun t601 => (spec_ProgramValid.j0 k (!t601) l0_0 l0_1)) else (spec_ProgramValid.j0 k true l0_0 l0_1))
mutual
def laws_FnProgram.j0 : Nat → List Int → List Int → Bool → Option (Bool)
 | 0, _, _, _ => none
 | k + 1, x0, x1, x16 => if x16 = true then (some true) else ((spec_DrawProgramValid.f k x0).bind fun bt606 => ((impl_ProgramValid.f k bt606.1 bt606.2).bind fun t613 => ((spec_ProgramValid.f k bt606.1 bt606.2).bind fun t614 => (if (t613 != t614) = true then (laws_FnProgram.j1 k x1 t613 t614 true bt606.1 bt606.2) else (laws_FnProgram.j1 k x1 t613 t614 (!t613) bt606.1 bt606.2)))))
def laws_FnProgram.j1 : Nat → List Int → Bool → Bool → Bool → List Int → List (List (S37)) → Option (Bool)
 | 0, _, _, _, _, _, _ => none
 | k + 1, x1, x6, x7, x29, x613000, x613001 => if x29 = true then (some (x6 == x7)) else (if (x613001.length : Int) = 0 then (none) else (if 0 ≤ ((x1.length : Int) % (x613001.length : Int)) then (if ((x1.length : Int) % (x613001.length : Int)) ≤ (wrap64 (((x1.length : Int) % (x613001.length : Int)) + 1)) then (if (wrap64 (((x1.length : Int) % (x613001.length : Int)) + 1)) ≤ (x613001.length : Int) then ((impl_ProgramValid.f k x613000 ((x613001.take ((wrap64 (((x1.length : Int) % (x613001.length : Int)) + 1)) : Int).toNat).drop (((x1.length : Int) % (x613001.length : Int)) : Int).toNat)).bind fun t620 => (if t620 = true then ((impl_ProgramValid.f k x613000 ([] : List (List (S37)))).bind fun t621 => (some (!t621))) else (some false))) else (none)) else (none)) else (none)))
end
def laws_FnProgram.f (k : Nat) (l0 : List Int) (l1 : List Int) : Option (Bool) := if (l0.length : Int) > 1048576 then (laws_FnProgram.j0 k l0 l1 true) else (laws_FnProgram.j0 k l0 l1 (decide ((l1.length : Int) > 1048576)))
def laws_FnProgramRooms.f (k : Nat) (l0 : List Int) : Option Bool := if (l0.length : Int) > 1048576 then some true else ((spec_DrawProgramValid.f k l0).bind fun d => (impl_ProgramValid.f k d.1 d.2).bind fun a => (spec_ProgramValid.f k d.1 d.2).bind fun b => if (a != b || !a) = true then some (a == b) else if d.1.length < 1000 then ((impl_ProgramValid.f k (d.1 ++ [4]) d.2).bind fun x => if (x == decide ((d.1.length : Int) < 3)) = true then ((impl_ProgramValid.f k (d.1 ++ [5]) d.2).bind fun y => if y = true then none else ((impl_ProgramValid.f k (d.1 ++ [0]) d.2).bind fun z => some (!z))) else none) else none)
def laws_FnProgramTasks.f (k : Nat) (l0 : List Int) : Option Bool := if (l0.length : Int) > 1048576 then some true else ((spec_DrawProgramValid.f k l0).bind fun d => (impl_ProgramValid.f k d.1 d.2).bind fun a => (spec_ProgramValid.f k d.1 d.2).bind fun b => if (a != b || !a) = true then some (a == b) else if d.2.length < 1000 then ((impl_ProgramValid.f k d.1 (d.2 ++ [([] : List S37)])).bind fun x => some (x == decide ((d.2.length : Int) < 3))) else none)
def laws_number.f (a0 : Int) : Option (Int × Int × (List (S34))) := some (0, a0, ([] : List (S34)))
def spec_DrawProgramSize.f (k : Nat) (l0 : List Int) : Option (List Int × (List (List (S37)))) := (spec_l6Open.f l0).bind fun bt624 => ((spec_l92Wrong.f k bt624.1 bt624.2).bind fun bt627 => (some (bt627.1, bt627.2.1)))
mutual
def impl_stmtsCount.l0 : Nat → Int → List (S37) → Int → Int → Option (Int)
 | 0, _, _, _, _ => none
 | k + 1, x3, x8, x9, x10 => if x10 < x9 then (if 0 ≤ x10 then (if x10 < (x8.length : Int) then ((impl_stmtsCount.f k ((rd_T37 x8 x10).f4)).bind fun t636 => ((impl_stmtsCount.f k ((rd_T37 x8 x10).f5)).bind fun t637 => (impl_stmtsCount.l0 k (wrap64 (x3 + (wrap64 (t636 + t637)))) x8 x9 (wrap64 (x10 + 1))))) else (none)) else (none)) else (some x3)
def impl_stmtsCount.f : Nat → List (S37) → Option (Int)
 | 0, _ => none
 | k + 1, l0 => impl_stmtsCount.l0 k (l0.length : Int) l0 (l0.length : Int) 0
end
def impl_ProgramSize.l0 : Nat → Int → List (List (S37)) → Int → Int → Option (Int)
 | 0, _, _, _, _ => none
 | k + 1, x3, x10, x11, x12 => if x12 < x11 then (if 0 ≤ x12 then (if x12 < (x10.length : Int) then ((impl_stmtsCount.f k (rd_L4 x10 x12)).bind fun t641 => (impl_ProgramSize.l0 k (wrap64 (x3 + t641)) x10 x11 (wrap64 (x12 + 1)))) else (none)) else (none)) else (some x3)
def impl_ProgramSize.f (k : Nat) (l0_0 : List Int) (l0_1 : List (List (S37))) : Option (Int) := (impl_ProgramValid.f k l0_0 l0_1).bind fun t639 => (if t639 = true then (impl_ProgramSize.l0 k 0 l0_1 (l0_1.length : Int) 0) else (some (-1)))
def spec_ProgramSize.l0 : Nat → Int → Int → List Int → List (List (S37)) → Option (Int)
 | 0, _, _, _, _ => none
 | k + 1, x3, x4, x643000, x643001 => if x4 < (x643001.length : Int) then (if 0 ≤ x4 then ((spec_l11Count.f k (rd_L4 x643001 x4)).bind fun t645 => (spec_ProgramSize.l0 k (wrap64 (x3 + t645)) (wrap64 (x4 + 1)) x643000 x643001)) else (none)) else (some x3)
def spec_ProgramSize.f (k : Nat) (l0_0 : List Int) (l0_1 : List (List (S37))) : Option (Int) := (spec_ProgramValid.f k l0_0 l0_1).bind fun t643 => (if t643 = true then (spec_ProgramSize.l0 k 0 0 l0_0 l0_1) else (some (-1)))
def laws_backward.l0 : Nat → Int → List Int → List (List (S37)) → List Int → List (List (S37)) → Option (List Int × (List (List (S37))))
 | 0, _, _, _, _, _ => none
 | k + 1, x4, x647000, x647001, x649000, x649001 => if x4 ≥ 0 then (if 0 ≤ x4 then (if x4 < (x647001.length : Int) then (if x649001.length < 5864062014805 then (laws_backward.l0 k (wrap64 (x4 - 1)) x647000 x647001 x649000 (x649001 ++ [rd_L4 x647001 x4])) else (none)) else (none)) else (none)) else (some (x649000, x649001))
def laws_backward.f (k : Nat) (l0_0 : List Int) (l0_1 : List (List (S37))) : Option (List Int × (List (List (S37)))) := laws_backward.l0 k (wrap64 ((l0_1.length : Int) - 1)) l0_0 l0_1 l0_0 ([] : List (List (S37)))
def laws_FnProgramOrder.j0 : Nat → Int → Int → Bool → List Int → List (List (S37)) → Option (Bool)
 | 0, _, _, _, _, _ => none
 | k + 1, x4, x5, x21, x660000, x660001 => if x21 = true then (some (x4 == x5)) else ((laws_backward.f k x660000 x660001).bind fun bt662 => ((impl_ProgramSize.f k bt662.1 bt662.2).bind fun t668 => (some (t668 == x4))))
def laws_FnProgramOrder.f (k : Nat) (l0 : List Int) : Option (Bool) := if (l0.length : Int) > 1048576 then (some true) else ((spec_DrawProgramSize.f k l0).bind fun bt653 => ((impl_ProgramSize.f k bt653.1 bt653.2).bind fun t660 => ((spec_ProgramSize.f k bt653.1 bt653.2).bind fun t661 => (if t660 = t661 then (laws_FnProgramOrder.j0 k t660 t661 (decide (t660 < 0)) bt653.1 bt653.2) else (laws_FnProgramOrder.j0 k t660 t661 true bt653.1 bt653.2)))))
def impl_StmtsValid.f (k : Nat) (l0 : List (S37)) : Option (Bool) := (impl_stmtsValid.f k l0 3).bind fun t669 => (some t669)
def impl_StmtsCount.f (k : Nat) (l0 : List (S37)) : Option (Int) := (impl_StmtsValid.f k l0).bind fun t670 => (if t670 = true then ((impl_stmtsCount.f k l0).bind fun t671 => (some t671)) else (some (-1)))
mutual
def laws_FnProgramSize.j0 : Nat → Int → Int → Bool → List Int → List (List (S37)) → Option (Bool)
 | 0, _, _, _, _, _ => none
 | k + 1, x4, x5, x23, x679000, x679001 => if x23 = true then (some (x4 == x5)) else (laws_FnProgramSize.l0 k x4 0 0 x679000 x679001)
def laws_FnProgramSize.l0 : Nat → Int → Int → Int → List Int → List (List (S37)) → Option (Bool)
 | 0, _, _, _, _, _ => none
 | k + 1, x4, x6, x7, x679000, x679001 => if x7 < (x679001.length : Int) then (if 0 ≤ x7 then ((impl_StmtsCount.f k (rd_L4 x679001 x7)).bind fun t682 => (laws_FnProgramSize.l0 k x4 (wrap64 (x6 + t682)) (wrap64 (x7 + 1)) x679000 x679001)) else (none)) else (if x6 = x4 then (some (decide (x4 ≤ (wrap64 (16 * (x679001.length : Int)))))) else (some false))
end
def laws_FnProgramSize.f (k : Nat) (l0 : List Int) : Option (Bool) := if (l0.length : Int) > 1048576 then (some true) else ((spec_DrawProgramSize.f k l0).bind fun bt672 => ((impl_ProgramSize.f k bt672.1 bt672.2).bind fun t679 => ((spec_ProgramSize.f k bt672.1 bt672.2).bind fun t680 => (if t679 = t680 then (laws_FnProgramSize.j0 k t679 t680 (decide (t679 < 0)) bt672.1 bt672.2) else (laws_FnProgramSize.j0 k t679 t680 true bt672.1 bt672.2)))))
def spec_DrawProgramPlain.f (k : Nat) (l0 : List Int) : Option (List Int × (List (List (S37)))) := (spec_l6Open.f l0).bind fun bt684 => ((spec_l92Wrong.f k bt684.1 bt684.2).bind fun bt687 => (some (bt687.1, bt687.2.1)))
mutual
def impl_hasLoop.l0 : Nat → List S37 → Int → Option Bool
 | 0, _, _ => none
 | k + 1, x, i => if i < (x.length : Int) then (if 0 ≤ i then ((impl_hasLoop.one k (rd_T37 x i)).bind fun b => if b = true then some true else impl_hasLoop.l0 k x (wrap64 (i + 1))) else none) else some false
def impl_hasLoop.one : Nat → S37 → Option Bool
 | 0, _ => none
 | k + 1, s => if s.f0 = 3 then some true else ((impl_hasLoop.f k s.f4).bind fun b => if b = true then some true else impl_hasLoop.f k s.f5)
def impl_hasLoop.f : Nat → List S37 → Option Bool
 | 0, _ => none
 | k + 1, l => impl_hasLoop.l0 k l 0
end
def impl_anyLoop.l0 : Nat → List (List S37) → Int → Option Bool
 | 0, _, _ => none
 | k + 1, x, i => if i < (x.length : Int) then (if 0 ≤ i then ((impl_hasLoop.f k (rd_L4 x i)).bind fun b => if b = true then some true else impl_anyLoop.l0 k x (wrap64 (i + 1))) else none) else some false
def impl_ProgramPlain.f (k : Nat) (l0_0 : List Int) (l0_1 : List (List S37)) : Option Bool := (impl_ProgramValid.f k l0_0 l0_1).bind fun v => if v = true then ((impl_anyLoop.l0 k l0_1 0).bind fun b => some (!b)) else some false
mutual
def spec_l12Plain.l0 : Nat → List (S37) → Int → Option (Bool)
 | 0, _, _ => none
 | k + 1, x0, x3 => if x3 < (x0.length : Int) then (if 0 ≤ x3 then (if ((rd_T37 x0 x3).f0) = 3 then (some false) else ((spec_l12Plain.f k ((rd_T37 x0 x3).f4)).bind fun t696 => (if t696 = true then ((spec_l12Plain.f k ((rd_T37 x0 x3).f5)).bind fun t698 => (if t698 = true then (spec_l12Plain.l0 k x0 (wrap64 (x3 + 1))) else (some false))) else (some false)))) else (none)) else (some true)
def spec_l12Plain.f : Nat → List (S37) → Option (Bool)
 | 0, _ => none
 | k + 1, l0 => spec_l12Plain.l0 k l0 0
end
def spec_ProgramPlain.l0 : Nat → Int → List Int → List (List (S37)) → Option (Bool)
 | 0, _, _, _ => none
 | k + 1, x3, x700000, x700001 => if x3 < (x700001.length : Int) then (if 0 ≤ x3 then ((spec_l12Plain.f k (rd_L4 x700001 x3)).bind fun t702 => (if t702 = true then (spec_ProgramPlain.l0 k (wrap64 (x3 + 1)) x700000 x700001) else (some false))) else (none)) else (some true)
def spec_ProgramPlain.f (k : Nat) (l0_0 : List Int) (l0_1 : List (List (S37))) : Option (Bool) := (spec_ProgramValid.f k l0_0 l0_1).bind fun t700 => (if t700 = true then (spec_ProgramPlain.l0 k 0 l0_0 l0_1) else (some false))
mutual
def laws_countKind.l0 : Nat → List (S37) → Int → Int → Int → Option (Int)
 | 0, _, _, _, _ => none
 | k + 1, x0, x1, x5, x6 => if x6 < (x0.length : Int) then (if 0 ≤ x6 then (if ((rd_T37 x0 x6).f0) = x1 then ((laws_countKind.f k ((rd_T37 x0 x6).f4) x1).bind fun t705 => ((laws_countKind.f k ((rd_T37 x0 x6).f5) x1).bind fun t707 => (laws_countKind.l0 k x0 x1 (wrap64 ((wrap64 ((wrap64 (x5 + 1)) + t705)) + t707)) (wrap64 (x6 + 1))))) else ((laws_countKind.f k ((rd_T37 x0 x6).f4) x1).bind fun t709 => ((laws_countKind.f k ((rd_T37 x0 x6).f5) x1).bind fun t711 => (laws_countKind.l0 k x0 x1 (wrap64 ((wrap64 (x5 + t709)) + t711)) (wrap64 (x6 + 1)))))) else (none)) else (some x5)
def laws_countKind.f : Nat → List (S37) → Int → Option (Int)
 | 0, _, _ => none
 | k + 1, l0, a1 => laws_countKind.l0 k l0 a1 0 0
end
def laws_szIntS.f (l0 : List Int) (a1 : Int) : Option (Int) := if (wrap64 (a1 - (l0.length : Int))) < 0 then (some (-1)) else (some (wrap64 (a1 - (l0.length : Int))))
mutual
def laws_szExprS.l0 : Nat → List (S87) → Int → Int → Option (Int)
 | 0, _, _, _ => none
 | k + 1, x0, x1, x5 => if x5 < (x0.length : Int) then (if 0 ≤ x5 then ((laws_szExpr.f k ((rd_T87 x0 x5).f0) ((rd_T87 x0 x5).f1) ((rd_T87 x0 x5).f2) x1).bind fun t713 => (if t713 < 0 then (some (-1)) else (laws_szExprS.l0 k x0 t713 (wrap64 (x5 + 1))))) else (none)) else (some x1)
def laws_szExprS.f : Nat → List (S87) → Int → Option (Int)
 | 0, _, _ => none
 | k + 1, l0, a1 => if (wrap64 (a1 - (l0.length : Int))) < 0 then (some (-1)) else (laws_szExprS.l0 k l0 (wrap64 (a1 - (l0.length : Int))) 0)
def laws_szExpr.f : Nat → Int → Int → List (S87) → Int → Option (Int)
 | 0, _, _, _, _ => none
 | k + 1, a0_0, a0_1, l0_2, a1 => (laws_szExprS.f k l0_2 a1).bind fun t715 => (if t715 < 0 then (some (-1)) else (some t715))
end
mutual
def laws_szStmt.f : Nat → Int → Int → Int → Int → Int → List (S87) → List (S89) → List (S89) → Int → Option (Int)
 | 0, _, _, _, _, _, _, _, _, _ => none
 | k + 1, a0_0, a0_1, a0_2, a0_3, a0_4, l0_5, l0_6, l0_7, a1 => (laws_szExpr.f k a0_3 a0_4 l0_5 a1).bind fun t717 => (if t717 < 0 then (some (-1)) else ((laws_szStmtS.f k l0_6 t717).bind fun t718 => (if t718 < 0 then (some (-1)) else ((laws_szStmtS.f k l0_7 t718).bind fun t719 => (if t719 < 0 then (some (-1)) else (some t719))))))
def laws_szStmtS.l0 : Nat → List (S89) → Int → Int → Option (Int)
 | 0, _, _, _ => none
 | k + 1, x0, x1, x5 => if x5 < (x0.length : Int) then (if 0 ≤ x5 then ((laws_szStmt.f k ((rd_T89 x0 x5).f0) ((rd_T89 x0 x5).f1) ((rd_T89 x0 x5).f2) ((rd_T89 x0 x5).f3.f0) ((rd_T89 x0 x5).f3.f1) ((rd_T89 x0 x5).f3.f2) ((rd_T89 x0 x5).f4) ((rd_T89 x0 x5).f5) x1).bind fun t721 => (if t721 < 0 then (some (-1)) else (laws_szStmtS.l0 k x0 t721 (wrap64 (x5 + 1))))) else (none)) else (some x1)
def laws_szStmtS.f : Nat → List (S89) → Int → Option (Int)
 | 0, _, _ => none
 | k + 1, l0, a1 => if (wrap64 (a1 - (l0.length : Int))) < 0 then (some (-1)) else (laws_szStmtS.l0 k l0 (wrap64 (a1 - (l0.length : Int))) 0)
end
def laws_szStmtSS.l0 : Nat → List (List (S89)) → Int → Int → Option (Int)
 | 0, _, _, _ => none
 | k + 1, x0, x1, x5 => if x5 < (x0.length : Int) then (if 0 ≤ x5 then ((laws_szStmtS.f k (rd_L8 x0 x5) x1).bind fun t723 => (if t723 < 0 then (some (-1)) else (laws_szStmtSS.l0 k x0 t723 (wrap64 (x5 + 1))))) else (none)) else (some x1)
def laws_szStmtSS.f (k : Nat) (l0 : List (List (S89))) (a1 : Int) : Option (Int) := if (wrap64 (a1 - (l0.length : Int))) < 0 then (some (-1)) else (laws_szStmtSS.l0 k l0 (wrap64 (a1 - (l0.length : Int))) 0)
def laws_szProgram.f (k : Nat) (l0_0 : List Int) (l0_1 : List (List (S89))) (a1 : Int) : Option (Int) := (laws_szIntS.f l0_0 a1).bind fun t725 => (if t725 < 0 then (some (-1)) else ((laws_szStmtSS.f k l0_1 t725).bind fun t726 => (if t726 < 0 then (some (-1)) else (some t726))))
def laws_toIntS.l0 : Nat → List Int → List Int → Int → Option (List Int)
 | 0, _, _, _ => none
 | k + 1, x0, x3, x4 => if x4 < (x0.length : Int) then (if 0 ≤ x4 then (if x4 < (x3.length : Int) then (laws_toIntS.l0 k x0 (x3.set (x4 : Int).toNat (rd x0 x4)) (wrap64 (x4 + 1))) else (none)) else (none)) else (some x3)
def laws_toIntS.f (k : Nat) (l0 : List Int) : Option (List Int) := if 0 ≤ (l0.length : Int) then (if ((l0.length : Int) : Int).toNat ≤ 35184372088832 then (laws_toIntS.l0 k l0 (List.replicate ((l0.length : Int) : Int).toNat 0) 0) else (none)) else (none)
mutual
def laws_toExprS.l0 : Nat → List (S87) → List (S34) → Int → Option ((List (S34)))
 | 0, _, _, _ => none
 | k + 1, x0, x3, x4 => if x4 < (x0.length : Int) then (if 0 ≤ x4 then ((laws_toExpr.f k ((rd_T87 x0 x4).f0) ((rd_T87 x0 x4).f1) ((rd_T87 x0 x4).f2)).bind fun bt736 => (if x4 < (x3.length : Int) then (laws_toExprS.l0 k x0 (x3.set (x4 : Int).toNat (⟨bt736.1, bt736.2.1, bt736.2.2⟩ : S34)) (wrap64 (x4 + 1))) else (none))) else (none)) else (some x3)
def laws_toExprS.f : Nat → List (S87) → Option ((List (S34)))
 | 0, _ => none
 | k + 1, l0 => if 0 ≤ (l0.length : Int) then (if ((l0.length : Int) : Int).toNat ≤ 7036874417766 then (laws_toExprS.l0 k l0 (List.replicate ((l0.length : Int) : Int).toNat z34) 0) else (none)) else (none)
def laws_toExpr.f : Nat → Int → Int → List (S87) → Option (Int × Int × (List (S34)))
 | 0, _, _, _ => none
 | k + 1, a0_0, a0_1, l0_2 => (laws_toExprS.f k l0_2).bind fun t745 => (some (a0_0, a0_1, t745))
end
mutual
def laws_toStmtS.l0 : Nat → List S89 → List S37 → Int → Option (List S37)
 | 0, _, _, _ => none
 | k + 1, x0, x3, x4 => if x4 < (x0.length : Int) then (if 0 ≤ x4 then ((laws_toStmt.f k (rd_T89 x0 x4)).bind fun s => (if x4 < (x3.length : Int) then laws_toStmtS.l0 k x0 (x3.set (x4 : Int).toNat s) (wrap64 (x4 + 1)) else none)) else none) else some x3
def laws_toStmtS.f : Nat → List S89 → Option (List S37)
 | 0, _ => none
 | k + 1, l0 => if l0.length ≤ 2513169434916 then laws_toStmtS.l0 k l0 (List.replicate l0.length z37) 0 else none
def laws_toStmt.f : Nat → S89 → Option S37
 | 0, _ => none
 | k + 1, s => (laws_toExpr.f k s.f3.f0 s.f3.f1 s.f3.f2).bind fun e => (laws_toStmtS.f k s.f4).bind fun b => (laws_toStmtS.f k s.f5).bind fun c => some ⟨s.f0, s.f1, s.f2, ⟨e.1, e.2.1, e.2.2⟩, b, c⟩
end
def laws_toStmtSS.l0 : Nat → List (List (S89)) → List (List (S37)) → Int → Option ((List (List (S37))))
 | 0, _, _, _ => none
 | k + 1, x0, x3, x4 => if x4 < (x0.length : Int) then (if 0 ≤ x4 then ((laws_toStmtS.f k (rd_L8 x0 x4)).bind fun t752 => (if x4 < (x3.length : Int) then (laws_toStmtSS.l0 k x0 (x3.set (x4 : Int).toNat t752) (wrap64 (x4 + 1))) else (none))) else (none)) else (some x3)
def laws_toStmtSS.f (k : Nat) (l0 : List (List (S89))) : Option ((List (List (S37)))) := if 0 ≤ (l0.length : Int) then (if ((l0.length : Int) : Int).toNat ≤ 11728124029610 then (laws_toStmtSS.l0 k l0 (List.replicate ((l0.length : Int) : Int).toNat []) 0) else (none)) else (none)
def laws_toProgram.f (k : Nat) (l0_0 : List Int) (l0_1 : List (List (S89))) : Option (List Int × (List (List (S37)))) := (laws_toIntS.f k l0_0).bind fun t759 => ((laws_toStmtSS.f k l0_1).bind fun t762 => (some (t759, t762)))
def laws_eqIntS.l0 : Nat → List Int → List Int → Int → Option (Bool)
 | 0, _, _, _ => none
 | k + 1, x0, x1, x5 => if x5 < (x0.length : Int) then (if 0 ≤ x5 then (if x5 < (x1.length : Int) then (if (rd x0 x5) = (rd x1 x5) then (laws_eqIntS.l0 k x0 x1 (wrap64 (x5 + 1))) else (some false)) else (none)) else (none)) else (some true)
def laws_eqIntS.f (k : Nat) (l0 : List Int) (l1 : List Int) : Option (Bool) := if (l0.length : Int) = (l1.length : Int) then (laws_eqIntS.l0 k l0 l1 0) else (some false)
mutual
def laws_eqExprS.l0 : Nat → List (S34) → List (S34) → Int → Option (Bool)
 | 0, _, _, _ => none
 | k + 1, x0, x1, x5 => if x5 < (x0.length : Int) then (if 0 ≤ x5 then (if x5 < (x1.length : Int) then ((laws_eqExpr.f k ((rd_T34 x0 x5).f0) ((rd_T34 x0 x5).f1) ((rd_T34 x0 x5).f2) ((rd_T34 x1 x5).f0) ((rd_T34 x1 x5).f1) ((rd_T34 x1 x5).f2)).bind fun t769 => (if t769 = true then (laws_eqExprS.l0 k x0 x1 (wrap64 (x5 + 1))) else (some false))) else (none)) else (none)) else (some true)
def laws_eqExprS.f : Nat → List (S34) → List (S34) → Option (Bool)
 | 0, _, _ => none
 | k + 1, l0, l1 => if (l0.length : Int) = (l1.length : Int) then (laws_eqExprS.l0 k l0 l1 0) else (some false)
def laws_eqExpr.f : Nat → Int → Int → List (S34) → Int → Int → List (S34) → Option (Bool)
 | 0, _, _, _, _, _, _ => none
 | k + 1, a0_0, a0_1, l0_2, a1_0, a1_1, l1_2 => if a0_0 = a1_0 then (if a0_1 = a1_1 then ((laws_eqExprS.f k l0_2 l1_2).bind fun t772 => (if t772 = true then (some true) else (some false))) else (some false)) else (some false)
end
mutual
def laws_eqStmt.f : Nat → Int → Int → Int → Int → Int → List (S34) → List (S37) → List (S37) → Int → Int → Int → Int → Int → List (S34) → List (S37) → List (S37) → Option (Bool)
 | 0, _, _, _, _, _, _, _, _, _, _, _, _, _, _, _, _ => none
 | k + 1, a0_0, a0_1, a0_2, a0_3, a0_4, l0_5, l0_6, l0_7, a1_0, a1_1, a1_2, a1_3, a1_4, l1_5, l1_6, l1_7 => if a0_0 = a1_0 then (if a0_1 = a1_1 then (if a0_2 = a1_2 then ((laws_eqExpr.f k a0_3 a0_4 l0_5 a1_3 a1_4 l1_5).bind fun t775 => (if t775 = true then ((laws_eqStmtS.f k l0_6 l1_6).bind fun t776 => (if t776 = true then ((laws_eqStmtS.f k l0_7 l1_7).bind fun t777 => (if t777 = true then (some true) else (some false))) else (some false))) else (some false))) else (some false)) else (some false)) else (some false)
def laws_eqStmtS.l0 : Nat → List (S37) → List (S37) → Int → Option (Bool)
 | 0, _, _, _ => none
 | k + 1, x0, x1, x5 => if x5 < (x0.length : Int) then (if 0 ≤ x5 then (if x5 < (x1.length : Int) then ((laws_eqStmt.f k ((rd_T37 x0 x5).f0) ((rd_T37 x0 x5).f1) ((rd_T37 x0 x5).f2) ((rd_T37 x0 x5).f3.f0) ((rd_T37 x0 x5).f3.f1) ((rd_T37 x0 x5).f3.f2) ((rd_T37 x0 x5).f4) ((rd_T37 x0 x5).f5) ((rd_T37 x1 x5).f0) ((rd_T37 x1 x5).f1) ((rd_T37 x1 x5).f2) ((rd_T37 x1 x5).f3.f0) ((rd_T37 x1 x5).f3.f1) ((rd_T37 x1 x5).f3.f2) ((rd_T37 x1 x5).f4) ((rd_T37 x1 x5).f5)).bind fun t780 => (if t780 = true then (laws_eqStmtS.l0 k x0 x1 (wrap64 (x5 + 1))) else (some false))) else (none)) else (none)) else (some true)
def laws_eqStmtS.f : Nat → List (S37) → List (S37) → Option (Bool)
 | 0, _, _ => none
 | k + 1, l0, l1 => if (l0.length : Int) = (l1.length : Int) then (laws_eqStmtS.l0 k l0 l1 0) else (some false)
end
def laws_eqStmtSS.l0 : Nat → List (List (S37)) → List (List (S37)) → Int → Option (Bool)
 | 0, _, _, _ => none
 | k + 1, x0, x1, x5 => if x5 < (x0.length : Int) then (if 0 ≤ x5 then (if x5 < (x1.length : Int) then ((laws_eqStmtS.f k (rd_L4 x0 x5) (rd_L4 x1 x5)).bind fun t783 => (if t783 = true then (laws_eqStmtSS.l0 k x0 x1 (wrap64 (x5 + 1))) else (some false))) else (none)) else (none)) else (some true)
def laws_eqStmtSS.f (k : Nat) (l0 : List (List (S37))) (l1 : List (List (S37))) : Option (Bool) := if (l0.length : Int) = (l1.length : Int) then (laws_eqStmtSS.l0 k l0 l1 0) else (some false)
def laws_eqProgram.f (k : Nat) (l0_0 : List Int) (l0_1 : List (List (S37))) (l1_0 : List Int) (l1_1 : List (List (S37))) : Option (Bool) := (laws_eqIntS.f k l0_0 l1_0).bind fun t786 => (if t786 = true then ((laws_eqStmtSS.f k l0_1 l1_1).bind fun t787 => (if t787 = true then (some true) else (some false))) else (some false))
def laws_FnExactProgramValid.f (k : Nat) (l0_0 : List Int) (l0_1 : List (List (S89))) : Option (Bool) := (laws_szProgram.f k l0_0 l0_1 1048576).bind fun t789 => (if t789 < 0 then (some true) else ((laws_toProgram.f k l0_0 l0_1).bind fun bt790 => ((spec_ProgramValid.f k bt790.1 bt790.2).bind fun t796 => ((laws_toProgram.f k l0_0 l0_1).bind fun bt797 => ((impl_ProgramValid.f k bt797.1 bt797.2).bind fun t804 => (if (t804 != t796) = true then (some false) else ((laws_toProgram.f k l0_0 l0_1).bind fun bt805 => ((laws_eqProgram.f k bt797.1 bt797.2 bt805.1 bt805.2).bind fun t811 => (if t811 = true then (some true) else (some false))))))))))
def laws_FnExactProgramSize.f (k : Nat) (l0_0 : List Int) (l0_1 : List (List (S89))) : Option (Bool) := (laws_szProgram.f k l0_0 l0_1 1048576).bind fun t813 => (if t813 < 0 then (some true) else ((laws_toProgram.f k l0_0 l0_1).bind fun bt814 => ((spec_ProgramSize.f k bt814.1 bt814.2).bind fun t820 => ((laws_toProgram.f k l0_0 l0_1).bind fun bt821 => ((impl_ProgramSize.f k bt821.1 bt821.2).bind fun t828 => (if t828 = t820 then ((laws_toProgram.f k l0_0 l0_1).bind fun bt829 => ((laws_eqProgram.f k bt821.1 bt821.2 bt829.1 bt829.2).bind fun t835 => (if t835 = true then (some true) else (some false)))) else (some false)))))))
def laws_FnExactProgramPlain.f (k : Nat) (l0_0 : List Int) (l0_1 : List (List (S89))) : Option (Bool) := (laws_szProgram.f k l0_0 l0_1 1048576).bind fun t837 => (if t837 < 0 then (some true) else ((laws_toProgram.f k l0_0 l0_1).bind fun bt838 => ((spec_ProgramPlain.f k bt838.1 bt838.2).bind fun t844 => ((laws_toProgram.f k l0_0 l0_1).bind fun bt845 => ((impl_ProgramPlain.f k bt845.1 bt845.2).bind fun t852 => (if (t852 != t844) = true then (some false) else ((laws_toProgram.f k l0_0 l0_1).bind fun bt853 => ((laws_eqProgram.f k bt845.1 bt845.2 bt853.1 bt853.2).bind fun t859 => (if t859 = true then (some true) else (some false))))))))))
def IsS66 (w0 W : World) (g : Nat) (f0 : List Int) (f1 : Int) : Prop := ∃ A0 c0, W.heap[g]? = some (.cells #[.slice A0 f0.length c0, .int .i64 f1] 66 (0, 0)) ∧ w0.heap.size ≤ g ∧ Kd.C (Kd.int .u8) w0 A0 f0.length f0
theorem IsS66.grown {w0 W : World} {g : Nat} {f0 : List Int} {f1 : Int} {W1 : World} {row : Option Nat} (h : IsS66 w0 W g f0 f1) (hw : W.grownBy W1 row) (hne : some g ≠ row) : IsS66 w0 W1 g f0 f1 := by
 obtain ⟨A0, c0, hb, hg, hr0⟩ := h
 exact ⟨A0, c0, blk_grown hb hw hne, hg, hr0⟩
theorem IsS66.own_neN {w0 W : World} {g : Nat} {f0 : List Int} {f1 : Int} {α : Type} {d : Kd α} {e : Nat} {base : Nat} {ok : Nat → Prop} {v : Value} {xs : List α} (h : IsS66 w0 W g f0 f1) (ho : Kd.N d e W base ok v xs) (ht : e ≠ 66) : some g ≠ v.ownBlock := by
 obtain ⟨A0, c0, hb, hg, hr0⟩ := h
 exact Kd.N_ne ho hb ht
theorem IsS66.fresh {w0 W : World} {g : Nat} {f0 : List Int} {f1 : Int} (h : IsS66 w0 W g f0 f1) : ∀ k, W.heap.size ≤ k → k ≠ g := by
 obtain ⟨A0, c0, hb, hg, hr0⟩ := h
 exact Kd.freshB hb
theorem IsS66.kept {w0 W : World} {g : Nat} {f0 : List Int} {f1 : Int} {W1 : World} {S : Nat → Prop} (h : IsS66 w0 W g f0 f1) (hk : Kept W W1 S) (hne : ¬ S g) : IsS66 w0 W1 g f0 f1 := by
 obtain ⟨A0, c0, hb, hg, hr0⟩ := h
 exact ⟨A0, c0, blk_kept hb hk hne, hg, hr0⟩
theorem IsS66.below {w0 W : World} {g : Nat} {f0 : List Int} {f1 : Int} {W1 : World} (h : IsS66 w0 W g f0 f1) (hw : Below W.heap.size W W1) : IsS66 w0 W1 g f0 f1 := h.grown (grown_of_below hw none) (by simp)
theorem IsS66.alloc {w0 W : World} {g : Nat} {f0 : List Int} {f1 : Int} (h : IsS66 w0 W g f0 f1) (o : Obj) : IsS66 w0 (W.alloc o) g f0 f1 := h.below (below_alloc (Below.refl _ _) o)
theorem IsS66.drewN {w0 W : World} {g : Nat} {f0 : List Int} {f1 : Int} (h : IsS66 w0 W g f0 f1) (m : Nat) : IsS66 w0 (W.drewN m) g f0 f1 := h
theorem IsS66.drew {w0 W : World} {g : Nat} {f0 : List Int} {f1 : Int} (h : IsS66 w0 W g f0 f1) : IsS66 w0 W.drew g f0 f1 := h
theorem IsS66.at_ {w0 W : World} {g : Nat} {f0 : List Int} {f1 : Int} {w' : World} {m : Nat} (hq : W.drewN m = w') (h : IsS66 w0 W g f0 f1) : IsS66 w0 w' g f0 f1 := by subst hq; exact IsS66.drewN h m
theorem IsS66.apart {w0 W : World} {g : Nat} {f0 : List Int} {f1 : Int} {α : Type} {d : Kd α} {e : Nat} {base : Nat} {ok : Nat → Prop} {v : Value} {xs : List α} (h : IsS66 w0 W g f0 f1) (ho : d.R e W base ok v xs) (ht : ∀ q, q ∈ e :: d.E → q ≠ 66) : d.R e W base (fun k => ok k ∧ k ≠ g) v xs := by
 obtain ⟨A0, c0, hb, hg, hr0⟩ := h
 exact Kd.R_types ho hb ht
theorem IsS66.own_ne {w0 W : World} {g : Nat} {f0 : List Int} {f1 : Int} {α : Type} {d : Kd α} {e : Nat} {base : Nat} {ok : Nat → Prop} {v : Value} {xs : List α} (h : IsS66 w0 W g f0 f1) (ho : d.R e W base ok v xs) (ht : e ≠ 66) : some g ≠ v.ownBlock := by
 obtain ⟨A0, c0, hb, hg, hr0⟩ := h
 exact Kd.R_ne ho hb ht
theorem IsS66.lt {w0 W : World} {g : Nat} {f0 : List Int} {f1 : Int} (h : IsS66 w0 W g f0 f1) : g < W.heap.size := by
 obtain ⟨A0, c0, hb, hg, hr0⟩ := h
 exact blk_lt hb
theorem IsS66.ge {w0 W : World} {g : Nat} {f0 : List Int} {f1 : Int} (h : IsS66 w0 W g f0 f1) : w0.heap.size ≤ g := by
 obtain ⟨A0, c0, hb, hg, hr0⟩ := h
 exact hg
theorem IsS66.ne_blk {w0 W : World} {g : Nat} {f0 : List Int} {f1 : Int} {a : Nat} {cs : Array Value} {t : TypeId} {fr : Nat × Nat} (h : IsS66 w0 W g f0 f1) (hb2 : W.heap[a]? = some (.cells cs t fr)) (ht : t ≠ 66) : g ≠ a := by
 obtain ⟨A0, c0, hb, hg, hr0⟩ := h
 rintro rfl
 rw [hb] at hb2
 injection hb2 with hb2
 injection hb2 with _ ht2
 exact ht ht2.symm
theorem IsS66.far {w0 W : World} {g : Nat} {f0 : List Int} {f1 : Int} {p : Addr} (h : IsS66 w0 W g f0 f1) (hne : g ≠ p.block) (u : Value) : IsS66 w0 (W.setCell p u) g f0 f1 := by
 obtain ⟨A0, c0, hb, hg, hr0⟩ := h
 exact ⟨A0, c0, blk_far hb hne u, hg, hr0⟩
theorem cellS66_0 {W : World} {g : Nat} {A0 : Option Addr} {c0 : Nat} {f0 : List Int} {f1 : Int} (h : W.heap[g]? = some (.cells #[.slice A0 f0.length c0, .int .i64 f1] 66 (0, 0))) : W.cell? ⟨g, 0, none⟩ = some (.slice A0 f0.length c0) := (blk_cell h 0).trans rfl
theorem cellS66_1 {W : World} {g : Nat} {A0 : Option Addr} {c0 : Nat} {f0 : List Int} {f1 : Int} (h : W.heap[g]? = some (.cells #[.slice A0 f0.length c0, .int .i64 f1] 66 (0, 0))) : W.cell? ⟨g, 1, none⟩ = some (.int .i64 f1) := (blk_cell h 1).trans rfl
theorem IsS66.set_1 {w0 W : World} {g : Nat} {f0 : List Int} {f1 : Int} (h : IsS66 w0 W g f0 f1) (x : Int) : IsS66 w0 (W.setCell ⟨g, 1, none⟩ (.int .i64 x)) g f0 x := by
 obtain ⟨A0, c0, hb, hg, hr0⟩ := h
 exact ⟨A0, c0, by simpa using blk_set hb 1 (.int .i64 x), hg, hr0⟩
theorem spec_l6Rd_pick.mono_l : ∀ k, (∀ y0 y1 y2 y3, LeO (spec_l6Rd_pick.j0 k y0 y1 y2 y3) (spec_l6Rd_pick.j0 (k + 1) y0 y1 y2 y3))
 | 0 => fun _ _ _ _ r h => by simp [spec_l6Rd_pick.j0] at h
 | k + 1 => by
  have ih0 := spec_l6Rd_pick.mono_l k
  ·intro y0 y1 y2 y3
   unfold spec_l6Rd_pick.j0
   repeat' first
   | (with_reducible exact ih0 _ _ _ _)
   | (with_reducible exact LeO.refl _)
   | (with_reducible exact LeO.none _)
   | (with_reducible refine LeO.ite ?_ ?_)
   | (with_reducible refine LeO.bind ?_ (fun _ => ?_))
theorem spec_l6Rd_pick.mono : ∀ a0 a1 a2 k, LeO (spec_l6Rd_pick.f k a0 a1 a2) (spec_l6Rd_pick.f (k + 1) a0 a1 a2) := by
 intro a0 a1 a2 k
 have ih0 := spec_l6Rd_pick.mono_l k
 unfold spec_l6Rd_pick.f
 repeat' first
   | (with_reducible exact ih0 _ _ _ _)
   | (with_reducible exact LeO.refl _)
   | (with_reducible exact LeO.none _)
   | (with_reducible refine LeO.ite ?_ ?_)
   | (with_reducible refine LeO.bind ?_ (fun _ => ?_))
theorem spec_l6Rd_pick.calls (k : Nat) (g : Nat) (s0_0 : List Int) (s0_1 : Int) (a1 : Int) (r1 : Int) (r2 : Int) (w0 w : World) (hI : IsS66 w0 w g s0_0 s0_1) (hB : Below w0.heap.size w0 w) (h : spec_l6Rd_pick.f k s0_0 s0_1 a1 = some (r1, r2)) :
  Calls Try.prog 50 #[.pointer (some ⟨g, 0, none⟩), .int .i64 a1] w fun e w' => e = .returned (.int .i64 r1) ∧ IsS66 w0 w' g s0_0 r2 ∧ Below w0.heap.size w0 w' ∧ KeepBut w w' g none := by
 have HI0 := am hI
 have HK := am (KeepBut.refl w g none)
 have HL := am hB.size
 clear hI
 have HW0 := am hB.size
 have HB := am hB
 clear hB
 have H : (if a1 < 1 then (spec_l6Rd_pick.j0 k a1 true s0_0 (wrap64 (s0_1 + 1))) else (spec_l6Rd_pick.j0 k a1 ((s0_0.length : Int) == 0) s0_0 (wrap64 (s0_1 + 1)))) = some (r1, r2) := h
 clear h
 have HC3 := am H
 clear H
 obtain ⟨ASz4_0, cSz4_0, HGz4, hgz4, HSz4_0⟩ := HI0.out
 have hcz4_0 := cellS66_0 HGz4
 have hcz4_1 := cellS66_1 HGz4
 have hfz4_1 := blk_frozen HGz4 1
 clear HGz4 hgz4
 go_enter Try.func50, Try.ntmps50
 go_upto_region 2 with (fail)
 repeat (go_quiet (fail); go_upto_region 2 with (fail))
 go_cut [24] (fun v24 wc => ∃ (kq : Nat) (x24_2 : Bool), v24 = .bool x24_2 ∧ Aside0 (spec_l6Rd_pick.j0 kq a1 x24_2 s0_0 (wrap64 (s0_1 + 1)) = some (r1, r2)) ∧ Aside0 (kq ≤ k) ∧ Aside0 (IsS66 w0 wc g s0_0 (wrap64 (s0_1 + 1))) ∧ Aside0 (KeepBut w wc g none) ∧ Aside0 (Below w0.heap.size w0 wc))
 case first =>
  have H := HC3.out
  clear HC3
  by_cases c5 : a1 < 1
  ·rw [if_pos c5] at H
   have c5b0 : decide (a1 < 1) = true := decide_eq_true c5
   clear c5
   (first | rw [c5b0] | (simp only [i64_w, i32_w]; rw [c5b0]) | skip)
   have H' := am H
   clear H
   go_wp2
   repeat (go_quiet (fail); try go_wp2)
   go_meet
   case rel => exact ⟨_, (true), (by first | rfl | (simp; done) | (simp [*]; done)), H', ⟨by first | omega | exact Nat.le_refl _⟩, ⟨ab4_⟩, ⟨ab3_⟩, ⟨ab5_⟩⟩
  rw [if_neg c5] at H
  have c5b0 : decide (a1 < 1) = false := decide_eq_false c5
  clear c5
  (first | rw [c5b0] | (simp only [i64_w, i32_w]; rw [c5b0]) | skip)
  have H' := am H
  clear H
  obtain ⟨ASz6_0, cSz6_0, HGz6, hgz6, HSz6_0⟩ := HI0.out
  have hcz6_0 := cellS66_0 HGz6
  have hcz6_1 := cellS66_1 HGz6
  have hfz6_1 := blk_frozen HGz6 1
  clear HGz6 hgz6
  go_wp2
  repeat (go_quiet (fail); try go_wp2)
  go_meet
  case rel => exact ⟨_, (((s0_0.length : Int) == 0)), (by first | rfl | (simp; done) | (simp [*]; done)), H', ⟨by first | omega | exact Nat.le_refl _⟩, ⟨ab4_⟩, ⟨ab3_⟩, ⟨ab5_⟩⟩
 case rest =>
  clear HC3
  try clear hcz4_0
  try clear hcz4_1
  try clear hfz4_1
  obtain ⟨kq, x24_2, rfl, HA, HJ2, HI0, HK, HB⟩ := hcut
  cases kq with
  | zero => exact absurd HA.out (by simp [spec_l6Rd_pick.j0])
  | succ kj2 =>
   have H := HA.out
   clear HA
   simp only [spec_l6Rd_pick.j0] at H
   by_cases c7 : x24_2 = true
   ·subst c7
    rw [if_pos rfl] at H
    simp only [Option.some.injEq, Prod.mk.injEq] at H
    obtain ⟨rfl, rfl⟩ := H
    go_wp2
    repeat (go_quiet (fail); try go_wp2)
    go_ret
    exact ⟨rr_, ab4_, ab5_, ab3_⟩
   replace c7 := Bool.eq_false_iff.mpr c7
   subst c7
   rw [if_neg (show ¬ (false = true) by decide)] at H
   by_cases c8 : (wrap64 ((wrap64 (s0_1 + 1)) - 1)) < (s0_0.length : Int)
   ·rw [if_pos c8] at H
    have c8b0 : decide ((wrap64 ((wrap64 (s0_1 + 1)) - 1)) < (s0_0.length : Int)) = true := decide_eq_true c8
    clear c8
    obtain ⟨ji9, hji9⟩ : ∃ j_ : Int, (wrap64 ((wrap64 (s0_1 + 1)) - 1)) = j_ := ⟨_, rfl⟩
    replace H : (if 0 ≤ (ji9) then (if a1 = 0 then (none) else (some (Int.tmod (wrap64 (rd s0_0 (ji9))) a1, (wrap64 (s0_1 + 1))))) else (none)) = some (r1, r2) := by first | (rw [hji9] at H; exact H) | (simp only [hji9] at H ⊢; exact H)
    (try rw [hji9] at c8b0)
    have hji9w : (IntKind.i64.wrap ((wrap64 (s0_1 + 1)) - 1)) = ji9 := (i64_w _).trans hji9
    by_cases c10 : 0 ≤ (ji9)
    ·rw [if_pos c10] at H
     have c10b0 : decide (0 ≤ (ji9)) = true := decide_eq_true c10
     clear c10
     by_cases c11 : a1 = 0
     ·rw [if_pos c11] at H
      exact absurd H (by simp)
     rw [if_neg c11] at H
     have c11b0 : (a1 == 0) = false := beq_eq_false_iff_ne.mpr c11
     have c11b1 : (a1 != 0) = true := bne_iff_ne.mpr c11
     simp only [Option.some.injEq, Prod.mk.injEq] at H
     obtain ⟨rfl, rfl⟩ := H
     obtain ⟨ASz12_0, cSz12_0, HGz12, hgz12, HSz12_0⟩ := HI0.out
     have hcz12_0 := cellS66_0 HGz12
     have hcz12_1 := cellS66_1 HGz12
     have hfz12_1 := blk_frozen HGz12 1
     clear HGz12 hgz12
     have p101 : 0 ≤ ((ji9) : Int) := of_decide_eq_true (by first | (with_reducible assumption) | assumption)
     have q101 : (ji9) < (s0_0.length : Int) := of_decide_eq_true (by first | (with_reducible assumption) | assumption)
     obtain ⟨ad101, e101, hx101_0⟩ := Kd.at_int HSz12_0 (ji9) p101 q101
     cases e101
     replace hx101_0 := pw_cell_below HB.out hx101_0
     replace p101 := eq_true p101
     replace q101 := eq_true q101
     go_wp2
     repeat (go_quiet (fail); try go_wp2)
     go_ret
     exact ⟨by first | rfl | (simp [errW_none, errW_some] <;> rfl) | (simp only [← hji9]; first | rfl | (simp [errW_none, errW_some] <;> rfl)) | (simp [*, errW_none, errW_some] <;> rfl), ab4_, ab5_, ab3_⟩
    rw [if_neg c10] at H
    exact absurd H (by simp)
   rw [if_neg c8] at H
   have c8b0 : decide ((wrap64 ((wrap64 (s0_1 + 1)) - 1)) < (s0_0.length : Int)) = false := decide_eq_false c8
   clear c8
   by_cases c13 : (s0_0.length : Int) = 0
   ·rw [if_pos c13] at H
    exact absurd H (by simp)
   rw [if_neg c13] at H
   have c13b0 : ((s0_0.length : Int) == 0) = false := beq_eq_false_iff_ne.mpr c13
   have c13b1 : ((s0_0.length : Int) != 0) = true := bne_iff_ne.mpr c13
   have c13b2 : ¬ (s0_0 = []) := fun h_ => c13 (by rw [h_]; rfl)
   obtain ⟨ji14, hji14⟩ : ∃ j_ : Int, (Int.tmod (wrap64 ((wrap64 (s0_1 + 1)) - 1)) (s0_0.length : Int)) = j_ := ⟨_, rfl⟩
   replace H : (if 0 ≤ (ji14) then (if (ji14) < (s0_0.length : Int) then (if 0 ≤ (Int.tmod (wrap64 ((wrap64 ((wrap64 ((wrap64 (s0_1 + 1)) - 1)) * 7)) + 3)) (s0_0.length : Int)) then (if (Int.tmod (wrap64 ((wrap64 ((wrap64 ((wrap64 (s0_1 + 1)) - 1)) * 7)) + 3)) (s0_0.length : Int)) < (s0_0.length : Int) then (if a1 = 0 then (none) else (some (Int.tmod (Go.bits .xor .i64 (wrap64 ((wrap64 ((wrap64 ((wrap64 ((wrap64 (rd s0_0 (ji14))) * 131)) + (wrap64 ((wrap64 (rd s0_0 (Int.tmod (wrap64 ((wrap64 ((wrap64 ((wrap64 (s0_1 + 1)) - 1)) * 7)) + 3)) (s0_0.length : Int)))) * 1117)))) + (wrap64 ((wrap64 ((wrap64 (s0_1 + 1)) - 1)) * 29)))) + (wrap64 ((wrap64 (Int.tdiv (wrap64 ((wrap64 (s0_1 + 1)) - 1)) (s0_0.length : Int))) * 53)))) (wrap64 (Int.tdiv (wrap64 ((wrap64 ((wrap64 ((wrap64 ((wrap64 (rd s0_0 (ji14))) * 131)) + (wrap64 ((wrap64 (rd s0_0 (Int.tmod (wrap64 ((wrap64 ((wrap64 ((wrap64 (s0_1 + 1)) - 1)) * 7)) + 3)) (s0_0.length : Int)))) * 1117)))) + (wrap64 ((wrap64 ((wrap64 (s0_1 + 1)) - 1)) * 29)))) + (wrap64 ((wrap64 (Int.tdiv (wrap64 ((wrap64 (s0_1 + 1)) - 1)) (s0_0.length : Int))) * 53)))) 64))) a1, (wrap64 (s0_1 + 1))))) else (none)) else (none)) else (none)) else (none)) = some (r1, r2) := by first | (rw [hji14] at H; exact H) | (simp only [hji14] at H ⊢; exact H)
   by_cases c15 : 0 ≤ (ji14)
   ·rw [if_pos c15] at H
    have c15b0 : decide (0 ≤ (ji14)) = true := decide_eq_true c15
    clear c15
    by_cases c16 : (ji14) < (s0_0.length : Int)
    ·rw [if_pos c16] at H
     have c16b0 : decide ((ji14) < (s0_0.length : Int)) = true := decide_eq_true c16
     clear c16
     obtain ⟨ji17, hji17⟩ : ∃ j_ : Int, (Int.tmod (wrap64 ((wrap64 ((wrap64 ((wrap64 (s0_1 + 1)) - 1)) * 7)) + 3)) (s0_0.length : Int)) = j_ := ⟨_, rfl⟩
     replace H : (if 0 ≤ (ji17) then (if (ji17) < (s0_0.length : Int) then (if a1 = 0 then (none) else (some (Int.tmod (Go.bits .xor .i64 (wrap64 ((wrap64 ((wrap64 ((wrap64 ((wrap64 (rd s0_0 (ji14))) * 131)) + (wrap64 ((wrap64 (rd s0_0 (ji17))) * 1117)))) + (wrap64 ((wrap64 ((wrap64 (s0_1 + 1)) - 1)) * 29)))) + (wrap64 ((wrap64 (Int.tdiv (wrap64 ((wrap64 (s0_1 + 1)) - 1)) (s0_0.length : Int))) * 53)))) (wrap64 (Int.tdiv (wrap64 ((wrap64 ((wrap64 ((wrap64 ((wrap64 (rd s0_0 (ji14))) * 131)) + (wrap64 ((wrap64 (rd s0_0 (ji17))) * 1117)))) + (wrap64 ((wrap64 ((wrap64 (s0_1 + 1)) - 1)) * 29)))) + (wrap64 ((wrap64 (Int.tdiv (wrap64 ((wrap64 (s0_1 + 1)) - 1)) (s0_0.length : Int))) * 53)))) 64))) a1, (wrap64 (s0_1 + 1))))) else (none)) else (none)) = some (r1, r2) := by first | (rw [hji17] at H; exact H) | (simp only [hji17] at H ⊢; exact H)
     by_cases c18 : 0 ≤ (ji17)
     ·rw [if_pos c18] at H
      have c18b0 : decide (0 ≤ (ji17)) = true := decide_eq_true c18
      clear c18
      by_cases c19 : (ji17) < (s0_0.length : Int)
      ·rw [if_pos c19] at H
       have c19b0 : decide ((ji17) < (s0_0.length : Int)) = true := decide_eq_true c19
       clear c19
       by_cases c20 : a1 = 0
       ·rw [if_pos c20] at H
        exact absurd H (by simp)
       rw [if_neg c20] at H
       have c20b0 : (a1 == 0) = false := beq_eq_false_iff_ne.mpr c20
       have c20b1 : (a1 != 0) = true := bne_iff_ne.mpr c20
       simp only [Option.some.injEq, Prod.mk.injEq] at H
       obtain ⟨rfl, rfl⟩ := H
       obtain ⟨ASz21_0, cSz21_0, HGz21, hgz21, HSz21_0⟩ := HI0.out
       have hcz21_0 := cellS66_0 HGz21
       have hcz21_1 := cellS66_1 HGz21
       have hfz21_1 := blk_frozen HGz21 1
       clear HGz21 hgz21
       have p102 : 0 ≤ ((ji14) : Int) := of_decide_eq_true (by first | (with_reducible assumption) | assumption)
       have q102 : (ji14) < (s0_0.length : Int) := of_decide_eq_true (by first | (with_reducible assumption) | assumption)
       obtain ⟨ad102, e102, hx102_0⟩ := Kd.at_int HSz21_0 (ji14) p102 q102
       cases e102
       replace hx102_0 := pw_cell_below HB.out hx102_0
       replace p102 := eq_true p102
       replace q102 := eq_true q102
       have p103 : 0 ≤ ((ji17) : Int) := of_decide_eq_true (by first | (with_reducible assumption) | assumption)
       have q103 : (ji17) < (s0_0.length : Int) := of_decide_eq_true (by first | (with_reducible assumption) | assumption)
       obtain ⟨ad103, e103, hx103_0⟩ := Kd.at_int HSz21_0 (ji17) p103 q103
       obtain rfl : ad102 = ad103 := (by injection e103)
       replace hx103_0 := pw_cell_below HB.out hx103_0
       replace p103 := eq_true p103
       replace q103 := eq_true q103
       go_wp2
       repeat (go_quiet (fail); try go_wp2)
       go_ret
       exact ⟨by first | rfl | (simp [errW_none, errW_some] <;> rfl) | (simp only [← hji14, ← hji17]; first | rfl | (simp [errW_none, errW_some] <;> rfl)) | (simp [*, errW_none, errW_some] <;> rfl), ab4_, ab5_, ab3_⟩
      rw [if_neg c19] at H
      exact absurd H (by simp)
     rw [if_neg c18] at H
     exact absurd H (by simp)
    rw [if_neg c16] at H
    exact absurd H (by simp)
   rw [if_neg c15] at H
   exact absurd H (by simp)
theorem spec_l4Leaf.calls (a0 : Int) (a1 : Int) (r1 : Int) (r2 : Int) (r3 : List (S34)) (w : World) (h : spec_l4Leaf.f a0 a1 = some (r1, r2, r3)) :
  Calls Try.prog 63 #[.int .i64 a0, .int .i64 a1] w fun e w' => ∃ v2_ : Value, e = .returned (.agg #[.int .i64 r1, .int .i64 r2, v2_]) ∧ Kd.R k34 34 w' w.heap.size (fun _ => True) v2_ r3 ∧ Below w.heap.size w w' := by
 have hu34 := Try.underlying34
 have HB := am (Below.refl w.heap.size w)
 have H : (some (a0, a1, (([] : List (S34))))) = some (r1, r2, r3) := h
 clear h
 obtain ⟨y127, hy127⟩ : ∃ y_ : List (S34), y_ = (([] : List (S34))) := ⟨_, rfl⟩
 replace H : (some (a0, a1, y127)) = some (r1, r2, r3) := by first | (rw [hy127]; with_reducible exact H) | (have H2_ := (Option.bind_some _ _).symm.trans H; rw [hy127]; with_reducible exact H2_) | (have H2_ := (Option.bind_some _ _).symm.trans H; with_reducible exact H2_) | with_reducible exact H | (rw [hy127]; exact H) | exact H
 have Ny127 := am hy127
 clear hy127
 simp only [Option.some.injEq, Prod.mk.injEq] at H
 obtain ⟨rfl, rfl, rfl⟩ := H
 go_enter Try.func63, Try.ntmps63
 go_wp2_with (first | ((with_reducible refine gate_dst (N := 4) rfl ?_); refine box_event ?hg (N := 4) ?hd (cs := #[.int .i64 0, .int .i64 0, .slice none 0 0]) (t := 34) ?hr ?_; (case hd => rfl); (case hg => rfl); (case hr => first | (go_simp; done) | (go_simp; rfl)); intro gb126 hg w3 hbox hb; have n0_ := am (below_step ab2_ hb); have n1_ := am (hbox); have n2_ := am ((by rw [hg]; exact (below_size ab2_) : w.heap.size ≤ gb126)); have n3_ := am ((by rw [hg]; exact (below_size ab2_) : w.heap.size ≤ gb126)); clear HB; have HB := n0_; have BK126 := n1_; have GW126 := n2_; have GE126 := n3_; clear n0_ n1_ n2_ n3_ hb hbox hg) | ((with_reducible refine gate_dst (N := 7) rfl ?_); refine Kd.R_lit k34 _ 34 ?hg (N := 7) ?hd (xs := ([] : List (S34))) (inner := []) (ok := fun _ => True) (okp := fun _ => True) ?hr ?hp (fun _ hk => hk) trivial (Below.refl _ _) (Nat.le_refl _) (by simp) ?_; (case hd => rfl); (case hg => rfl); (case hr => first | (go_simp; done) | (go_simp; rfl)); (case hp => exact (Reps.none _ _)); intro v128 w4 ho5 hb hg_ hnew_; clear hg_ hnew_; (first | rw [← Ny127.out] at ho5 | (simp only [Int.reduceToNat] at ho5; rw [← Ny127.out] at ho5)); have n0_ := am (Kd.R_lower (Kd.R_newB ho5 (g := gb126) (o := .cells #[.int .i64 0, .int .i64 0, .slice none 0 0] 34 (0, 0)) (aG_ BK126.out)) (below_size ab73_)); have n1_ := am (blk_below (g := gb126) (o := .cells #[.int .i64 0, .int .i64 0, .slice none 0 0] 34 (0, 0)) (aG_ BK126.out) hb); have n2_ := am (below_step ab73_ hb); clear BK126 HB; have HO129 := n0_; have BK126 := n1_; have HB := n2_; clear n0_ n1_ n2_ hb ho5; obtain ⟨Ao6, co6, eo6⟩ := Kd.R_slice HO129.out; subst eo6; obtain ⟨hcz7_0, hcz7_1, hcz7_2, hfz7_0, hfz7_1, hfz7_2⟩ := bcf3_ BK126.out))
 refine bodyPost_ret (results_cell_row rfl _ _ gb126 34 #[.int .i64 a0, .int .i64 a1, .slice Ao6 y127.length co6] (0, 0) _ rfl (by (with_reducible repeat (first | refine blk_drewN ?_ _ | refine blk_drew ?_ | refine blk_alloc ?_ _)); refine blk_put (cs := #[.int .i64 a0, .int .i64 a1, .slice none 0 0]) ?_ 2 _ rfl; (with_reducible repeat (first | refine blk_drewN ?_ _ | refine blk_drew ?_ | refine blk_alloc ?_ _)); refine blk_put (cs := #[.int .i64 a0, .int .i64 0, .slice none 0 0]) ?_ 1 _ rfl; (with_reducible repeat (first | refine blk_drewN ?_ _ | refine blk_drew ?_ | refine blk_alloc ?_ _)); refine blk_put (cs := #[.int .i64 0, .int .i64 0, .slice none 0 0]) ?_ 0 _ rfl; (with_reducible repeat (first | refine blk_drewN ?_ _ | refine blk_drew ?_ | refine blk_alloc ?_ _)); exact BK126.out) Try.underlying34 rfl (by kernel_rfl)) rfl ?_
 exact ⟨_, ab14_, by (with_reducible repeat (first | apply Kd.R_alloc | apply Kd.R_drewN | apply Kd.R_drew)); exact Kd.R_mono (Kd.R_far (p := ⟨gb126, 2, none⟩) (Kd.R_far (p := ⟨gb126, 1, none⟩) (Kd.R_far (p := ⟨gb126, 0, none⟩) (Kd.R_mono HO129.out (fun k_ hk => (⟨hk, hk.2⟩ : _ ∧ k_ ≠ gb126))) (fun _ hk => hk.2) (.int .i64 a0)) (fun _ hk => hk.2) (.int .i64 a1)) (fun _ hk => hk.2) (.slice Ao6 y127.length co6)) (fun _ hk => trivial), ab73_⟩
theorem spec_l4Both.calls (a0 : Int) (a1_0 : Int) (a1_1 : Int) (P1_2_ : Nat → Prop) (A1_2 : Option Addr) (c1_2 : Nat) (l1_2 : List (S34)) (a2_0 : Int) (a2_1 : Int) (P2_2_ : Nat → Prop) (A2_2 : Option Addr) (c2_2 : Nat) (l2_2 : List (S34)) (r1 : Int) (r2 : Int) (r3 : List (S34)) (w : World) (hs1_2 : Kd.V k34 34 w w.heap.size (fun k_ => P1_2_ k_) (.slice A1_2 l1_2.length c1_2) l1_2) (hs2_2 : Kd.V k34 34 w w.heap.size (fun k_ => P2_2_ k_) (.slice A2_2 l2_2.length c2_2) l2_2) (h : spec_l4Both.f a0 a1_0 a1_1 l1_2 a2_0 a2_1 l2_2 = some (r1, r2, r3)) :
  Calls Try.prog 94 #[.int .i64 a0, .agg #[.int .i64 a1_0, .int .i64 a1_1, .slice A1_2 l1_2.length c1_2], .agg #[.int .i64 a2_0, .int .i64 a2_1, .slice A2_2 l2_2.length c2_2]] w fun e w' => ∃ v2_ : Value, e = .returned (.agg #[.int .i64 r1, .int .i64 r2, v2_]) ∧ Kd.N k34 34 w' w.heap.size (fun k_ => ((P1_2_ k_ ∨ P2_2_ k_) ∨ w.heap.size ≤ k_)) v2_ r3 ∧ Below w.heap.size w w' := by
 have hu34 := Try.underlying34
 have HO1_2 := am (show Kd.V k34 34 w w.heap.size (fun k_ => ((P1_2_ k_ ∨ P2_2_ k_) ∨ w.heap.size ≤ k_)) (.slice A1_2 l1_2.length c1_2) l1_2 from Kd.V_mono hs1_2 (fun k_ hk => .inl (.inl hk)))
 have HO2_2 := am (show Kd.V k34 34 w w.heap.size (fun k_ => ((P1_2_ k_ ∨ P2_2_ k_) ∨ w.heap.size ≤ k_)) (.slice A2_2 l2_2.length c2_2) l2_2 from Kd.V_mono hs2_2 (fun k_ hk => .inl (.inr hk)))
 have HB := am (Below.refl w.heap.size w)
 have H : (some (a0, 0, (([(⟨a1_0, a1_1, l1_2⟩ : S34), (⟨a2_0, a2_1, l2_2⟩ : S34)] : List (S34))))) = some (r1, r2, r3) := h
 clear h
 obtain ⟨y161, hy161⟩ : ∃ y_ : List (S34), y_ = (([(⟨a1_0, a1_1, l1_2⟩ : S34), (⟨a2_0, a2_1, l2_2⟩ : S34)] : List (S34))) := ⟨_, rfl⟩
 replace H : (some (a0, 0, y161)) = some (r1, r2, r3) := by first | (rw [hy161]; with_reducible exact H) | (have H2_ := (Option.bind_some _ _).symm.trans H; rw [hy161]; with_reducible exact H2_) | (have H2_ := (Option.bind_some _ _).symm.trans H; with_reducible exact H2_) | with_reducible exact H | (rw [hy161]; exact H) | exact H
 have Ny161 := am hy161
 clear hy161
 simp only [Option.some.injEq, Prod.mk.injEq] at H
 obtain ⟨rfl, rfl, rfl⟩ := H
 go_enter Try.func94, Try.ntmps94
 go_wp2_with (first | ((with_reducible refine gate_dst (N := 4) rfl ?_); refine box_event ?hg (N := 4) ?hd (cs := #[.int .i64 a1_0, .int .i64 a1_1, .slice A1_2 l1_2.length c1_2]) (t := 34) ?hr ?_; (case hd => rfl); (case hg => rfl); (case hr => first | (go_simp; done) | (go_simp; rfl)); intro gb158 hg w4 hbox hb; have n0_ := am (Kd.V_below (Kd.V_elderB (by (with_reducible repeat (first | apply Kd.V_alloc | apply Kd.V_drewN | apply Kd.V_drew)); exact HO1_2.out) gb158 (Nat.le_of_eq hg.symm)) hb); have n1_ := am (Kd.V_below (Kd.V_elderB (by (with_reducible repeat (first | apply Kd.V_alloc | apply Kd.V_drewN | apply Kd.V_drew)); exact HO2_2.out) gb158 (Nat.le_of_eq hg.symm)) hb); have n2_ := am (below_step ab2_ hb); have n3_ := am (hbox); have n4_ := am ((by rw [hg]; exact (below_size ab2_) : w.heap.size ≤ gb158)); have n5_ := am ((by rw [hg]; exact (below_size ab2_) : w.heap.size ≤ gb158)); clear HO1_2 HO2_2 HB; have HO1_2 := n0_; have HO2_2 := n1_; have HB := n2_; have BK158 := n3_; have GW158 := n4_; have GE158 := n5_; clear n0_ n1_ n2_ n3_ n4_ n5_ hb hbox hg) | ((with_reducible refine gate_dst (N := 5) rfl ?_); refine box_event ?hg (N := 5) ?hd (cs := #[.int .i64 a2_0, .int .i64 a2_1, .slice A2_2 l2_2.length c2_2]) (t := 34) ?hr ?_; (case hd => rfl); (case hg => rfl); (case hr => first | (go_simp; done) | (go_simp; rfl)); intro gb159 hg w5 hbox hb; have n0_ := am (Kd.V_below (Kd.V_elderB (by (with_reducible repeat (first | apply Kd.V_alloc | apply Kd.V_drewN | apply Kd.V_drew)); exact HO1_2.out) gb159 (Nat.le_of_eq hg.symm)) hb); have n1_ := am (Kd.V_below (Kd.V_elderB (by (with_reducible repeat (first | apply Kd.V_alloc | apply Kd.V_drewN | apply Kd.V_drew)); exact HO2_2.out) gb159 (Nat.le_of_eq hg.symm)) hb); have n2_ := am (blk_below (g := gb158) (o := .cells #[.int .i64 a1_0, .int .i64 a1_1, .slice A1_2 l1_2.length c1_2] 34 (0, 0)) (aG_ BK158.out) hb); have n3_ := am (below_step ab74_ hb); have n4_ := am (hbox); have n5_ := am ((by rw [hg]; exact (below_size ab74_) : w.heap.size ≤ gb159)); have n6_ := am ((by rw [hg]; exact (below_size ab74_) : w.heap.size ≤ gb159)); have n7_ := am ((by rw [hg]; exact Nat.ne_of_lt (blk_lt (g := gb158) (o := .cells #[.int .i64 a1_0, .int .i64 a1_1, .slice A1_2 l1_2.length c1_2] 34 (0, 0)) (aG_ BK158.out)) : gb158 ≠ gb159)); have n8_ := am ((by rw [hg]; exact Nat.ne_of_gt (blk_lt (g := gb158) (o := .cells #[.int .i64 a1_0, .int .i64 a1_1, .slice A1_2 l1_2.length c1_2] 34 (0, 0)) (aG_ BK158.out)) : gb159 ≠ gb158)); clear HO1_2 HO2_2 BK158 HB; have HO1_2 := n0_; have HO2_2 := n1_; have BK158 := n2_; have HB := n3_; have BK159 := n4_; have GW159 := n5_; have GE159 := n6_; have NB158_159 := n7_; have NB159_158 := n8_; clear n0_ n1_ n2_ n3_ n4_ n5_ n6_ n7_ n8_ hb hbox hg) | ((with_reducible refine gate_dst (N := 6) rfl ?_); refine box_event ?hg (N := 6) ?hd (cs := #[.int .i64 0, .int .i64 0, .slice none 0 0]) (t := 34) ?hr ?_; (case hd => rfl); (case hg => rfl); (case hr => first | (go_simp; done) | (go_simp; rfl)); intro gb160 hg w6 hbox hb; have n0_ := am (Kd.V_below (Kd.V_elderB (by (with_reducible repeat (first | apply Kd.V_alloc | apply Kd.V_drewN | apply Kd.V_drew)); exact HO1_2.out) gb160 (Nat.le_of_eq hg.symm)) hb); have n1_ := am (Kd.V_below (Kd.V_elderB (by (with_reducible repeat (first | apply Kd.V_alloc | apply Kd.V_drewN | apply Kd.V_drew)); exact HO2_2.out) gb160 (Nat.le_of_eq hg.symm)) hb); have n2_ := am (blk_below (g := gb158) (o := .cells #[.int .i64 a1_0, .int .i64 a1_1, .slice A1_2 l1_2.length c1_2] 34 (0, 0)) (aG_ BK158.out) hb); have n3_ := am (blk_below (g := gb159) (o := .cells #[.int .i64 a2_0, .int .i64 a2_1, .slice A2_2 l2_2.length c2_2] 34 (0, 0)) (aG_ BK159.out) hb); have n4_ := am (below_step ab67_ hb); have n5_ := am (hbox); have n6_ := am ((by rw [hg]; exact (below_size ab67_) : w.heap.size ≤ gb160)); have n7_ := am ((by rw [hg]; exact (below_size ab67_) : w.heap.size ≤ gb160)); have n8_ := am ((by rw [hg]; exact Nat.ne_of_lt (blk_lt (g := gb158) (o := .cells #[.int .i64 a1_0, .int .i64 a1_1, .slice A1_2 l1_2.length c1_2] 34 (0, 0)) (aG_ BK158.out)) : gb158 ≠ gb160)); have n9_ := am ((by rw [hg]; exact Nat.ne_of_gt (blk_lt (g := gb158) (o := .cells #[.int .i64 a1_0, .int .i64 a1_1, .slice A1_2 l1_2.length c1_2] 34 (0, 0)) (aG_ BK158.out)) : gb160 ≠ gb158)); have n10_ := am ((by rw [hg]; exact Nat.ne_of_lt (blk_lt (g := gb159) (o := .cells #[.int .i64 a2_0, .int .i64 a2_1, .slice A2_2 l2_2.length c2_2] 34 (0, 0)) (aG_ BK159.out)) : gb159 ≠ gb160)); have n11_ := am ((by rw [hg]; exact Nat.ne_of_gt (blk_lt (g := gb159) (o := .cells #[.int .i64 a2_0, .int .i64 a2_1, .slice A2_2 l2_2.length c2_2] 34 (0, 0)) (aG_ BK159.out)) : gb160 ≠ gb159)); clear HO1_2 HO2_2 BK158 BK159 HB; have HO1_2 := n0_; have HO2_2 := n1_; have BK158 := n2_; have BK159 := n3_; have HB := n4_; have BK160 := n5_; have GW160 := n6_; have GE160 := n7_; have NB158_160 := n8_; have NB160_158 := n9_; have NB159_160 := n10_; have NB160_159 := n11_; clear n0_ n1_ n2_ n3_ n4_ n5_ n6_ n7_ n8_ n9_ n10_ n11_ hb hbox hg; have hnb7 := NB158_159.out; have hnc7 := NB159_158.out; have hnb8 := NB158_160.out; have hnc8 := NB160_158.out; obtain ⟨hcz9_0, hcz9_1, hcz9_2, hfz9_0, hfz9_1, hfz9_2⟩ := bcf3_ BK158.out; have hnb10 := NB159_160.out; have hnc10 := NB160_159.out; obtain ⟨hcz11_0, hcz11_1, hcz11_2, hfz11_0, hfz11_1, hfz11_2⟩ := bcf3_ BK159.out) | ((with_reducible refine gate_dst (N := 10) rfl ?_); refine Kd.N_lit k34 _ 34 ?hg (N' := 10) ?hd (xs := ([(⟨a1_0, a1_1, l1_2⟩ : S34), (⟨a2_0, a2_1, l2_2⟩ : S34)] : List (S34))) (inner := [.int .i64 a1_0, .int .i64 a1_1, .slice A1_2 l1_2.length c1_2, .int .i64 a2_0, .int .i64 a2_1, .slice A2_2 l2_2.length c2_2]) (ok := (fun k_ => ((P1_2_ k_ ∨ P2_2_ k_) ∨ w.heap.size ≤ k_) ∧ k_ ≠ gb158 ∧ k_ ≠ gb159 ∧ k_ ≠ gb160)) (okp := (fun k_ => ((P1_2_ k_ ∨ P2_2_ k_) ∨ w.heap.size ≤ k_) ∧ k_ ≠ gb158 ∧ k_ ≠ gb159 ∧ k_ ≠ gb160)) ?hr ?hp (fun _ hk => hk) ((show ∀ k_, w6.heap.size ≤ k_ → (fun k_ => ((P1_2_ k_ ∨ P2_2_ k_) ∨ w.heap.size ≤ k_) ∧ k_ ≠ gb158 ∧ k_ ≠ gb159 ∧ k_ ≠ gb160) k_ from fun k_ hk => ⟨(.inr (Nat.le_trans (below_size ab59_) hk)), Kd.freshB (g := gb158) (o := .cells #[.int .i64 a1_0, .int .i64 a1_1, .slice A1_2 l1_2.length c1_2] 34 (0, 0)) (aG_ BK158.out) k_ hk, Kd.freshB (g := gb159) (o := .cells #[.int .i64 a2_0, .int .i64 a2_1, .slice A2_2 l2_2.length c2_2] 34 (0, 0)) (aG_ BK159.out) k_ hk, Kd.freshB (g := gb160) (o := .cells #[.int .i64 0, .int .i64 0, .slice none 0 0] 34 (0, 0)) (aG_ BK160.out) k_ hk⟩) _ (Nat.le_refl _)) (Below.refl _ _) (Nat.le_refl _) (by simp) ?_; (case hd => rfl); (case hg => rfl); (case hr => first | (go_simp; done) | (go_simp; rfl)); (case hp => exact (Reps.c3 (show Kd.FK k34 _ _ (⟨a1_0, a1_1, l1_2⟩ : S34) [.int .i64 a1_0, .int .i64 a1_1, .slice A1_2 l1_2.length c1_2] from (k34_mkF _ _ (⟨a1_0, a1_1, l1_2⟩ : S34) (Kd.V_reads' (Kd.V_mono (ok' := (fun k_ => ((P1_2_ k_ ∨ P2_2_ k_) ∨ w.heap.size ≤ k_) ∧ k_ ≠ gb158 ∧ k_ ≠ gb159 ∧ k_ ≠ gb160)) (HO1_2.out) (fun k_ hk => ⟨hk.1.1.1, ⟨hk.1.1.2, ⟨hk.1.2, hk.2⟩⟩⟩))).2.1 (Kd.V_F (Kd.V_mono (ok' := (fun k_ => ((P1_2_ k_ ∨ P2_2_ k_) ∨ w.heap.size ≤ k_) ∧ k_ ≠ gb158 ∧ k_ ≠ gb159 ∧ k_ ≠ gb160)) (HO1_2.out) (fun k_ hk => ⟨hk.1.1.1, ⟨hk.1.1.2, ⟨hk.1.2, hk.2⟩⟩⟩))))) (Reps.c3 (show Kd.FK k34 _ _ (⟨a2_0, a2_1, l2_2⟩ : S34) [.int .i64 a2_0, .int .i64 a2_1, .slice A2_2 l2_2.length c2_2] from (k34_mkF _ _ (⟨a2_0, a2_1, l2_2⟩ : S34) (Kd.V_reads' (Kd.V_mono (ok' := (fun k_ => ((P1_2_ k_ ∨ P2_2_ k_) ∨ w.heap.size ≤ k_) ∧ k_ ≠ gb158 ∧ k_ ≠ gb159 ∧ k_ ≠ gb160)) (HO2_2.out) (fun k_ hk => ⟨hk.1.1.1, ⟨hk.1.1.2, ⟨hk.1.2, hk.2⟩⟩⟩))).2.1 (Kd.V_F (Kd.V_mono (ok' := (fun k_ => ((P1_2_ k_ ∨ P2_2_ k_) ∨ w.heap.size ≤ k_) ∧ k_ ≠ gb158 ∧ k_ ≠ gb159 ∧ k_ ≠ gb160)) (HO2_2.out) (fun k_ hk => ⟨hk.1.1.1, ⟨hk.1.1.2, ⟨hk.1.2, hk.2⟩⟩⟩))))) (Reps.none _ _)))); intro v162 w12 ho13 hb hg_ hnew_; clear hg_ hnew_; (first | rw [← Ny161.out] at ho13 | (simp only [Int.reduceToNat] at ho13; rw [← Ny161.out] at ho13)); have n0_ := am (Kd.V_elder' (by (with_reducible repeat (first | apply Kd.V_alloc | apply Kd.V_drewN | apply Kd.V_drew)); exact HO1_2.out) (Kd.N_base ho13) hb); have n1_ := am (Kd.V_elder' (by (with_reducible repeat (first | apply Kd.V_alloc | apply Kd.V_drewN | apply Kd.V_drew)); exact HO2_2.out) (Kd.N_base ho13) hb); have n2_ := am (Kd.N_lower ho13 (below_size ab59_)); have n3_ := am (blk_below (g := gb158) (o := .cells #[.int .i64 a1_0, .int .i64 a1_1, .slice A1_2 l1_2.length c1_2] 34 (0, 0)) (aG_ BK158.out) hb); have n4_ := am (blk_below (g := gb159) (o := .cells #[.int .i64 a2_0, .int .i64 a2_1, .slice A2_2 l2_2.length c2_2] 34 (0, 0)) (aG_ BK159.out) hb); have n5_ := am (blk_below (g := gb160) (o := .cells #[.int .i64 0, .int .i64 0, .slice none 0 0] 34 (0, 0)) (aG_ BK160.out) hb); have n6_ := am (below_step ab59_ hb); clear HO1_2 HO2_2 BK158 BK159 BK160 HB; have HO1_2 := n0_; have HO2_2 := n1_; have HO163 := n2_; have BK158 := n3_; have BK159 := n4_; have BK160 := n5_; have HB := n6_; clear n0_ n1_ n2_ n3_ n4_ n5_ n6_ hb ho13; obtain ⟨Ao14, co14, eo14⟩ := Kd.N_slice HO163.out; subst eo14; obtain ⟨hcz15_0, hcz15_1, hcz15_2, hfz15_0, hfz15_1, hfz15_2⟩ := bcf3_ BK160.out))
 refine bodyPost_ret (results_cell_row rfl _ _ gb160 34 #[.int .i64 a0, .int .i64 0, .slice Ao14 y161.length co14] (0, 0) _ rfl (by (with_reducible repeat (first | refine blk_drewN ?_ _ | refine blk_drew ?_ | refine blk_alloc ?_ _)); refine blk_put (cs := #[.int .i64 a0, .int .i64 0, .slice none 0 0]) ?_ 2 _ rfl; (with_reducible repeat (first | refine blk_drewN ?_ _ | refine blk_drew ?_ | refine blk_alloc ?_ _)); refine blk_put (cs := #[.int .i64 a0, .int .i64 0, .slice none 0 0]) ?_ 1 _ rfl; (with_reducible repeat (first | refine blk_drewN ?_ _ | refine blk_drew ?_ | refine blk_alloc ?_ _)); refine blk_put (cs := #[.int .i64 0, .int .i64 0, .slice none 0 0]) ?_ 0 _ rfl; (with_reducible repeat (first | refine blk_drewN ?_ _ | refine blk_drew ?_ | refine blk_alloc ?_ _)); exact BK160.out) Try.underlying34 rfl (by kernel_rfl)) rfl ?_
 exact ⟨_, ab14_, by (with_reducible repeat (first | apply Kd.N_alloc | apply Kd.N_drewN | apply Kd.N_drew)); exact Kd.N_mono (Kd.N_far (p := ⟨gb160, 2, none⟩) (Kd.N_far (p := ⟨gb160, 1, none⟩) (Kd.N_far (p := ⟨gb160, 0, none⟩) (Kd.N_mono HO163.out (fun k_ hk => (⟨hk, hk.2.2.2⟩ : _ ∧ k_ ≠ gb160))) (fun _ hk => hk.2) (.int .i64 a0)) (fun _ hk => hk.2) (.int .i64 0)) (fun _ hk => hk.2) (.slice Ao14 y161.length co14)) (fun _ hk => hk.1.1), ab59_⟩
theorem spec_l91Leaf.mono : ∀ a0 a1 k, LeO (spec_l91Leaf.f k a0 a1) (spec_l91Leaf.f (k + 1) a0 a1) := by
 intro a0 a1 k
 unfold spec_l91Leaf.f
 repeat' first
   | (with_reducible exact spec_l6Rd_pick.mono _ _ _ _)
   | (with_reducible exact LeO.refl _)
   | (with_reducible exact LeO.none _)
   | (with_reducible refine LeO.ite ?_ ?_)
   | (with_reducible refine LeO.bind ?_ (fun _ => ?_))
theorem spec_l91Leaf.calls (k : Nat) (g : Nat) (s0_0 : List Int) (s0_1 : Int) (r1 : Int) (r2 : Int) (r3 : List (S34)) (r4 : Int) (w0 w : World) (hI : IsS66 w0 w g s0_0 s0_1) (hB : Below w0.heap.size w0 w) (h : spec_l91Leaf.f k s0_0 s0_1 = some (r1, r2, r3, r4)) :
  Calls Try.prog 51 #[.pointer (some ⟨g, 0, none⟩)] w fun e w' => ∃ v2_ : Value, e = .returned (.agg #[.int .i64 r1, .int .i64 r2, v2_]) ∧ Kd.R k34 34 w' w.heap.size (fun _ => True) v2_ r3 ∧ IsS66 w0 w' g s0_0 r4 ∧ Below w0.heap.size w0 w' ∧ KeepBut w w' g none := by
 have hu34 := Try.underlying34
 have HI0 := am hI
 have HK := am (KeepBut.refl w g none)
 have HL := am hB.size
 clear hI
 have HW0 := am hB.size
 have HB := am hB
 clear hB
 have H : ((spec_l6Rd_pick.f k s0_0 s0_1 4).bind fun bt131 => (if bt131.1 = 0 then ((spec_l6Rd_pick.f k s0_0 bt131.2 4).bind fun bt133 => ((spec_l4Leaf.f 0 bt133.1).bind fun bt135 => (some (bt135.1, bt135.2.1, bt135.2.2, bt133.2)))) else (if bt131.1 = 1 then ((some (([5, 31, 32, 100, 2047, 2048, 65536, 99999] : List Int) : List Int)).bind fun y140 => ((spec_l6Rd_pick.f k s0_0 bt131.2 8).bind fun bt143 => (if 0 ≤ bt143.1 then (if bt143.1 < (y140.length : Int) then ((spec_l4Leaf.f 0 (rd y140 bt143.1)).bind fun bt146 => (some (bt146.1, bt146.2.1, bt146.2.2, bt143.2))) else (none)) else (none)))) else ((spec_l6Rd_pick.f k s0_0 bt131.2 4).bind fun bt151 => ((spec_l4Leaf.f 13 bt151.1).bind fun bt153 => (some (bt153.1, bt153.2.1, bt153.2.2, bt151.2))))))) = some (r1, r2, r3, r4) := h
 clear h
 obtain ⟨⟨t131, t132⟩, A20, H⟩ := bsm H
 (try dsimp only at H)
 have A2 := am A20
 clear A20
 have HH_ := am H
 clear H
 go_enter Try.func51, Try.ntmps51
 go_upto_region 2 with (first | ((with_reducible refine gate_dst (N := 2) rfl ?_); refine box_event ?hg (N := 2) ?hd (cs := #[.int .i64 0, .int .i64 0, .slice none 0 0]) (t := 34) ?hr ?_; (case hd => rfl); (case hg => rfl); (case hr => first | (go_simp; done) | (go_simp; rfl)); intro gb130 hg w6 hbox hb; have n0_ := am (IsS66.below ab4_ hb); have n1_ := am (KeepBut.trans ab3_ (KeepBut.of_below hb g none) (.inl rfl)); have n2_ := am (below_step ab5_ hb); have n3_ := am (hbox); have n4_ := am ((by rw [hg]; exact (keep_size (w := w) (g := g) (row := none) ab3_) : w.heap.size ≤ gb130)); have n5_ := am ((Nat.le_trans HW0.out (by rw [hg]; exact (keep_size (w := w) (g := g) (row := none) ab3_) : w.heap.size ≤ gb130) : w0.heap.size ≤ gb130)); have n6_ := am ((by rw [hg]; exact Nat.ne_of_lt (IsS66.lt (show IsS66 w0 _ g s0_0 s0_1 from by repeat (first | (with_reducible first | exact HI0.out | apply IsS66.alloc | apply IsS66.drewN | apply IsS66.drew | apply IsS66.set_1) | exact HI0.out))) : g ≠ gb130)); have n7_ := am ((by rw [hg]; exact Nat.ne_of_gt (IsS66.lt (show IsS66 w0 _ g s0_0 s0_1 from by repeat (first | (with_reducible first | exact HI0.out | apply IsS66.alloc | apply IsS66.drewN | apply IsS66.drew | apply IsS66.set_1) | exact HI0.out))) : gb130 ≠ g)); clear HI0 HK HB; have HI0 := n0_; have HK := n1_; have HB := n2_; have BK130 := n3_; have GW130 := n4_; have GE130 := n5_; have NB0_130 := n6_; have NB130_0 := n7_; clear n0_ n1_ n2_ n3_ n4_ n5_ n6_ n7_ hb hbox hg) | ((with_reducible refine gate_callee (f := 50) rfl ?_); refine goesL_ (some 4) rfl rfl Try.func50 (by kernel_rfl) rfl #[.pointer (some ⟨g, 0, none⟩), .int .i64 4] rfl ab1_ ?_; (with_reducible refine (spec_l6Rd_pick.calls k g s0_0 s0_1 4 t131 t132 w0 _ ?side1 ?side2 A2.out).mono ?_); (case side1 => exact ab44_); (case side2 => exact ab40_); rintro e w7 ⟨rfl, hi, hb, hk⟩; refine ⟨_, rfl, ?_⟩; have n0_ := am (KeepBut.blk hk (g' := gb130) (o := .cells #[.int .i64 0, .int .i64 0, .slice none 0 0] 34 (0, 0)) (aG_ BK130.out) NB130_0.out (by simp)); have n1_ := am (KeepBut.trans ab23_ hk (.inl rfl)); have n2_ := am (hb); have n3_ := am (hi); clear BK130 HK HB HI0; have BK130 := n0_; have HK := n1_; have HB := n2_; have HI0 := n3_; clear n0_ n1_ n2_ n3_; (try clear hb); (try clear hb2); (try clear hk); (try clear hi)))
 have H := HH_.out
 clear HH_
 by_cases c3 : t131 = 0
 ·rw [if_pos c3] at H
  have c3b0 : (t131 == 0) = true := beq_iff_eq.mpr c3
  have c3b1 : (t131 != 0) = false := bne_eq_false_iff_eq.mpr c3
  clear c3
  obtain ⟨⟨t133, t134⟩, A40, H⟩ := bsm H
  (try dsimp only at H)
  have A4 := am A40
  clear A40
  obtain ⟨⟨t135, t136, t137⟩, A50, H⟩ := bsm H
  (try dsimp only at H)
  have A5 := am A50
  clear A50
  simp only [Option.some.injEq, Prod.mk.injEq] at H
  obtain ⟨rfl, rfl, rfl, rfl⟩ := H
  go_wp2_with (first | ((with_reducible refine gate_callee (f := 50) rfl ?_); refine goesL_ (some 8) rfl rfl Try.func50 (by kernel_rfl) rfl #[.pointer (some ⟨g, 0, none⟩), .int .i64 4] rfl ab1_ ?_; (with_reducible refine (spec_l6Rd_pick.calls k g s0_0 t132 4 t133 t134 w0 _ ?side1 ?side2 A4.out).mono ?_); (case side1 => exact ab44_); (case side2 => exact ab40_); rintro e w8 ⟨rfl, hi, hb, hk⟩; refine ⟨_, rfl, ?_⟩; have n0_ := am (KeepBut.blk hk (g' := gb130) (o := .cells #[.int .i64 0, .int .i64 0, .slice none 0 0] 34 (0, 0)) (aG_ BK130.out) NB130_0.out (by simp)); have n1_ := am (KeepBut.trans ab23_ hk (.inl rfl)); have n2_ := am (hb); have n3_ := am (hi); clear BK130 HK HB HI0; have BK130 := n0_; have HK := n1_; have HB := n2_; have HI0 := n3_; clear n0_ n1_ n2_ n3_; (try clear hb); (try clear hb2); (try clear hk); (try clear hi)) | ((with_reducible refine gate_callee (f := 63) rfl ?_); refine goesL_ (some 9) rfl rfl Try.func63 (by kernel_rfl) rfl #[.int .i64 0, .int .i64 t133] rfl ab1_ ?_; (with_reducible refine (spec_l4Leaf.calls 0 t133 t135 t136 t137 _ A5.out).mono ?_); rintro e w9 ⟨v138, rfl, ho0, hb⟩; refine ⟨_, rfl, ?_⟩; have n0_ := am (Kd.R_lower (Kd.R_newB ho0 (g := gb130) (o := .cells #[.int .i64 0, .int .i64 0, .slice none 0 0] 34 (0, 0)) (aG_ BK130.out)) (keep_size (w := w) (g := g) (row := none) ab23_)); have n1_ := am (IsS66.below ab44_ hb); have n2_ := am (blk_below (g := gb130) (o := .cells #[.int .i64 0, .int .i64 0, .slice none 0 0] 34 (0, 0)) (aG_ BK130.out) hb); have n3_ := am (KeepBut.trans ab23_ (KeepBut.of_below hb g none) (.inl rfl)); have n4_ := am (below_step ab40_ hb); clear HI0 BK130 HK HB; have HO139 := n0_; have HI0 := n1_; have BK130 := n2_; have HK := n3_; have HB := n4_; clear n0_ n1_ n2_ n3_ n4_; (try clear hb); (try clear hb2); (try clear hk); (try clear hi); (try clear ho0); have hnb10 := NB130_0.out; have hnc10 := NB0_130.out; obtain ⟨hcz11_0, hcz11_1, hcz11_2, hfz11_0, hfz11_1, hfz11_2⟩ := bcf3_ BK130.out; obtain ⟨Ao12, co12, eo12⟩ := Kd.R_slice HO139.out; subst eo12))
  refine bodyPost_ret (results_cell_row rfl _ _ gb130 34 #[.int .i64 t135, .int .i64 t136, .slice Ao12 t137.length co12] (0, 0) _ rfl (by (with_reducible repeat (first | refine blk_drewN ?_ _ | refine blk_drew ?_ | refine blk_alloc ?_ _)); refine blk_put (cs := #[.int .i64 t135, .int .i64 t136, .slice none 0 0]) ?_ 2 _ rfl; (with_reducible repeat (first | refine blk_drewN ?_ _ | refine blk_drew ?_ | refine blk_alloc ?_ _)); refine blk_put (cs := #[.int .i64 t135, .int .i64 0, .slice none 0 0]) ?_ 1 _ rfl; (with_reducible repeat (first | refine blk_drewN ?_ _ | refine blk_drew ?_ | refine blk_alloc ?_ _)); refine blk_put (cs := #[.int .i64 0, .int .i64 0, .slice none 0 0]) ?_ 0 _ rfl; (with_reducible repeat (first | refine blk_drewN ?_ _ | refine blk_drew ?_ | refine blk_alloc ?_ _)); exact BK130.out) Try.underlying34 rfl (by kernel_rfl)) rfl ?_
  exact ⟨_, ab14_, by (with_reducible repeat (first | apply Kd.R_alloc | apply Kd.R_drewN | apply Kd.R_drew)); exact Kd.R_mono (Kd.R_far (p := ⟨gb130, 2, none⟩) (Kd.R_far (p := ⟨gb130, 1, none⟩) (Kd.R_far (p := ⟨gb130, 0, none⟩) (Kd.R_mono HO139.out (fun k_ hk => (⟨hk, hk.2⟩ : _ ∧ k_ ≠ gb130))) (fun _ hk => hk.2) (.int .i64 t135)) (fun _ hk => hk.2) (.int .i64 t136)) (fun _ hk => hk.2) (.slice Ao12 t137.length co12)) (fun _ hk => trivial), ab44_, ab40_, ab23_⟩
 rw [if_neg c3] at H
 have c3b0 : (t131 == 0) = false := beq_eq_false_iff_ne.mpr c3
 have c3b1 : (t131 != 0) = true := bne_iff_ne.mpr c3
 by_cases c13 : t131 = 1
 ·rw [if_pos c13] at H
  have c13b0 : (t131 == 1) = true := beq_iff_eq.mpr c13
  have c13b1 : (t131 != 1) = false := bne_eq_false_iff_eq.mpr c13
  clear c13
  obtain ⟨y140, hy140⟩ : ∃ y_ : List Int, y_ = (([5, 31, 32, 100, 2047, 2048, 65536, 99999] : List Int)) := ⟨_, rfl⟩
  replace H : ((spec_l6Rd_pick.f k s0_0 t132 8).bind fun bt143 => (if 0 ≤ bt143.1 then (if bt143.1 < (y140.length : Int) then ((spec_l4Leaf.f 0 (rd y140 bt143.1)).bind fun bt146 => (some (bt146.1, bt146.2.1, bt146.2.2, bt143.2))) else (none)) else (none))) = some (r1, r2, r3, r4) := by first | (rw [hy140]; with_reducible exact H) | (have H2_ := (Option.bind_some _ _).symm.trans H; rw [hy140]; with_reducible exact H2_) | (have H2_ := (Option.bind_some _ _).symm.trans H; with_reducible exact H2_) | with_reducible exact H | (rw [hy140]; exact H) | exact H
  have Ny140 := am hy140
  clear hy140
  obtain ⟨⟨t143, t144⟩, A140, H⟩ := bsm H
  (try dsimp only at H)
  have A14 := am A140
  clear A140
  by_cases c15 : 0 ≤ t143
  ·rw [if_pos c15] at H
   have c15b0 : decide (0 ≤ t143) = true := decide_eq_true c15
   clear c15
   by_cases c16 : t143 < (y140.length : Int)
   ·rw [if_pos c16] at H
    have c16b0 : decide (t143 < (y140.length : Int)) = true := decide_eq_true c16
    clear c16
    obtain ⟨⟨t146, t147, t148⟩, A170, H⟩ := bsm H
    (try dsimp only at H)
    have A17 := am A170
    clear A170
    simp only [Option.some.injEq, Prod.mk.injEq] at H
    obtain ⟨rfl, rfl, rfl, rfl⟩ := H
    go_wp2_with (first | ((with_reducible refine gate_dst (N := 12) rfl ?_); refine Kd.R_lit (Kd.int .i64) _ 3 ?hg (N := 12) ?hd (xs := ([5, 31, 32, 100, 2047, 2048, 65536, 99999] : List Int)) (inner := [.int .i64 5, .int .i64 31, .int .i64 32, .int .i64 100, .int .i64 2047, .int .i64 2048, .int .i64 65536, .int .i64 99999]) (ok := fun _ => True) (okp := fun _ => True) ?hr ?hp (fun _ hk => hk) trivial (Below.refl _ _) (Nat.le_refl _) (by simp) ?_; (case hd => rfl); (case hg => rfl); (case hr => first | (go_simp; done) | (go_simp; rfl)); (case hp => exact (Reps.one (show Kd.M (Kd.int .i64) _ _ _ 5 [.int .i64 5] from rfl) (Reps.one (show Kd.M (Kd.int .i64) _ _ _ 31 [.int .i64 31] from rfl) (Reps.one (show Kd.M (Kd.int .i64) _ _ _ 32 [.int .i64 32] from rfl) (Reps.one (show Kd.M (Kd.int .i64) _ _ _ 100 [.int .i64 100] from rfl) (Reps.one (show Kd.M (Kd.int .i64) _ _ _ 2047 [.int .i64 2047] from rfl) (Reps.one (show Kd.M (Kd.int .i64) _ _ _ 2048 [.int .i64 2048] from rfl) (Reps.one (show Kd.M (Kd.int .i64) _ _ _ 65536 [.int .i64 65536] from rfl) (Reps.one (show Kd.M (Kd.int .i64) _ _ _ 99999 [.int .i64 99999] from rfl) (Reps.none _ _)))))))))); intro v141 w20 ho21 hb hg_ hnew_; clear hg_ hnew_; (first | rw [← Ny140.out] at ho21 | (simp only [Int.reduceToNat] at ho21; rw [← Ny140.out] at ho21)); have n0_ := am (Kd.R_lower ho21 (keep_size (w := w) (g := g) (row := none) ab23_)); have n1_ := am (IsS66.below ab44_ hb); have n2_ := am (blk_below (g := gb130) (o := .cells #[.int .i64 0, .int .i64 0, .slice none 0 0] 34 (0, 0)) (aG_ BK130.out) hb); have n3_ := am (KeepBut.trans ab23_ (KeepBut.of_below hb g none) (.inl rfl)); have n4_ := am (below_step ab40_ hb); clear HI0 BK130 HK HB; have HO142 := n0_; have HI0 := n1_; have BK130 := n2_; have HK := n3_; have HB := n4_; clear n0_ n1_ n2_ n3_ n4_ hb ho21) | ((with_reducible refine gate_callee (f := 50) rfl ?_); refine goesL_ (some 14) rfl rfl Try.func50 (by kernel_rfl) rfl #[.pointer (some ⟨g, 0, none⟩), .int .i64 8] rfl ab1_ ?_; (with_reducible refine (spec_l6Rd_pick.calls k g s0_0 t132 8 t143 t144 w0 _ ?side1 ?side2 A14.out).mono ?_); (case side1 => exact ab44_); (case side2 => exact ab40_); rintro e w22 ⟨rfl, hi, hb, hk⟩; refine ⟨_, rfl, ?_⟩; have n0_ := am (KeepBut.blk hk (g' := gb130) (o := .cells #[.int .i64 0, .int .i64 0, .slice none 0 0] 34 (0, 0)) (aG_ BK130.out) NB130_0.out (by simp)); have n1_ := am (Kd.R_mono (Kd.R_keep (IsS66.apart (show IsS66 w0 _ g s0_0 t132 from by repeat (first | (with_reducible first | exact HI0.out | apply IsS66.alloc | apply IsS66.drewN | apply IsS66.drew | apply IsS66.set_1 | refine IsS66.far ?_ NB0_130.out _) | exact HI0.out)) (aR_ HO142.out) (by decide)) hk (fun _ h => h.2)) (fun _ h => h.1)); have n2_ := am (KeepBut.trans ab23_ hk (.inl rfl)); have n3_ := am (hb); have n4_ := am (hi); clear BK130 HO142 HK HB HI0; have BK130 := n0_; have HO142 := n1_; have HK := n2_; have HB := n3_; have HI0 := n4_; clear n0_ n1_ n2_ n3_ n4_; (try clear hb); (try clear hb2); (try clear hk); (try clear hi); obtain ⟨Ao23, co23, eo23⟩ := Kd.R_slice HO142.out; subst eo23; have p145 : 0 ≤ (t143 : Int) := of_decide_eq_true (by first | (with_reducible assumption) | assumption); have q145 : t143 < (y140.length : Int) := of_decide_eq_true (by first | (with_reducible assumption) | assumption); obtain ⟨ad145, e145, hx145_0⟩ := Kd.at_int (Kd.R_reads' HO142.out).2.2 t143 p145 q145; cases e145; replace p145 := eq_true p145; replace q145 := eq_true q145) | ((with_reducible refine gate_callee (f := 63) rfl ?_); refine goesL_ (some 17) rfl rfl Try.func63 (by kernel_rfl) rfl #[.int .i64 0, .int .i64 (rd y140 t143)] rfl ab1_ ?_; (with_reducible refine (spec_l4Leaf.calls 0 (rd y140 t143) t146 t147 t148 _ A17.out).mono ?_); rintro e w24 ⟨v149, rfl, ho0, hb⟩; refine ⟨_, rfl, ?_⟩; have n0_ := am (Kd.R_below (aR_ HO142.out) hb); have n1_ := am (Kd.R_lower (Kd.R_newB ho0 (g := gb130) (o := .cells #[.int .i64 0, .int .i64 0, .slice none 0 0] 34 (0, 0)) (aG_ BK130.out)) (keep_size (w := w) (g := g) (row := none) ab23_)); have n2_ := am (IsS66.below ab44_ hb); have n3_ := am (blk_below (g := gb130) (o := .cells #[.int .i64 0, .int .i64 0, .slice none 0 0] 34 (0, 0)) (aG_ BK130.out) hb); have n4_ := am (KeepBut.trans ab23_ (KeepBut.of_below hb g none) (.inl rfl)); have n5_ := am (below_step ab40_ hb); clear HO142 HI0 BK130 HK HB; have HO142 := n0_; have HO150 := n1_; have HI0 := n2_; have BK130 := n3_; have HK := n4_; have HB := n5_; clear n0_ n1_ n2_ n3_ n4_ n5_; (try clear hb); (try clear hb2); (try clear hk); (try clear hi); (try clear ho0); have hnb25 := NB130_0.out; have hnc25 := NB0_130.out; obtain ⟨hcz26_0, hcz26_1, hcz26_2, hfz26_0, hfz26_1, hfz26_2⟩ := bcf3_ BK130.out; obtain ⟨Ao27, co27, eo27⟩ := Kd.R_slice HO150.out; subst eo27))
    refine bodyPost_ret (results_cell_row rfl _ _ gb130 34 #[.int .i64 t146, .int .i64 t147, .slice Ao27 t148.length co27] (0, 0) _ rfl (by (with_reducible repeat (first | refine blk_drewN ?_ _ | refine blk_drew ?_ | refine blk_alloc ?_ _)); refine blk_put (cs := #[.int .i64 t146, .int .i64 t147, .slice none 0 0]) ?_ 2 _ rfl; (with_reducible repeat (first | refine blk_drewN ?_ _ | refine blk_drew ?_ | refine blk_alloc ?_ _)); refine blk_put (cs := #[.int .i64 t146, .int .i64 0, .slice none 0 0]) ?_ 1 _ rfl; (with_reducible repeat (first | refine blk_drewN ?_ _ | refine blk_drew ?_ | refine blk_alloc ?_ _)); refine blk_put (cs := #[.int .i64 0, .int .i64 0, .slice none 0 0]) ?_ 0 _ rfl; (with_reducible repeat (first | refine blk_drewN ?_ _ | refine blk_drew ?_ | refine blk_alloc ?_ _)); exact BK130.out) Try.underlying34 rfl (by kernel_rfl)) rfl ?_
    exact ⟨_, ab14_, by (with_reducible repeat (first | apply Kd.R_alloc | apply Kd.R_drewN | apply Kd.R_drew)); exact Kd.R_mono (Kd.R_far (p := ⟨gb130, 2, none⟩) (Kd.R_far (p := ⟨gb130, 1, none⟩) (Kd.R_far (p := ⟨gb130, 0, none⟩) (Kd.R_mono HO150.out (fun k_ hk => (⟨hk, hk.2⟩ : _ ∧ k_ ≠ gb130))) (fun _ hk => hk.2) (.int .i64 t146)) (fun _ hk => hk.2) (.int .i64 t147)) (fun _ hk => hk.2) (.slice Ao27 t148.length co27)) (fun _ hk => trivial), ab44_, ab40_, ab23_⟩
   rw [if_neg c16] at H
   exact absurd H (by simp)
  rw [if_neg c15] at H
  exact absurd H (by simp)
 rw [if_neg c13] at H
 have c13b0 : (t131 == 1) = false := beq_eq_false_iff_ne.mpr c13
 have c13b1 : (t131 != 1) = true := bne_iff_ne.mpr c13
 obtain ⟨⟨t151, t152⟩, A280, H⟩ := bsm H
 (try dsimp only at H)
 have A28 := am A280
 clear A280
 obtain ⟨⟨t153, t154, t155⟩, A290, H⟩ := bsm H
 (try dsimp only at H)
 have A29 := am A290
 clear A290
 simp only [Option.some.injEq, Prod.mk.injEq] at H
 obtain ⟨rfl, rfl, rfl, rfl⟩ := H
 go_wp2_with (first | ((with_reducible refine gate_callee (f := 50) rfl ?_); refine goesL_ (some 19) rfl rfl Try.func50 (by kernel_rfl) rfl #[.pointer (some ⟨g, 0, none⟩), .int .i64 4] rfl ab1_ ?_; (with_reducible refine (spec_l6Rd_pick.calls k g s0_0 t132 4 t151 t152 w0 _ ?side1 ?side2 A28.out).mono ?_); (case side1 => exact ab44_); (case side2 => exact ab40_); rintro e w32 ⟨rfl, hi, hb, hk⟩; refine ⟨_, rfl, ?_⟩; have n0_ := am (KeepBut.blk hk (g' := gb130) (o := .cells #[.int .i64 0, .int .i64 0, .slice none 0 0] 34 (0, 0)) (aG_ BK130.out) NB130_0.out (by simp)); have n1_ := am (KeepBut.trans ab23_ hk (.inl rfl)); have n2_ := am (hb); have n3_ := am (hi); clear BK130 HK HB HI0; have BK130 := n0_; have HK := n1_; have HB := n2_; have HI0 := n3_; clear n0_ n1_ n2_ n3_; (try clear hb); (try clear hb2); (try clear hk); (try clear hi)) | ((with_reducible refine gate_callee (f := 63) rfl ?_); refine goesL_ (some 20) rfl rfl Try.func63 (by kernel_rfl) rfl #[.int .i64 13, .int .i64 t151] rfl ab1_ ?_; (with_reducible refine (spec_l4Leaf.calls 13 t151 t153 t154 t155 _ A29.out).mono ?_); rintro e w33 ⟨v156, rfl, ho0, hb⟩; refine ⟨_, rfl, ?_⟩; have n0_ := am (Kd.R_lower (Kd.R_newB ho0 (g := gb130) (o := .cells #[.int .i64 0, .int .i64 0, .slice none 0 0] 34 (0, 0)) (aG_ BK130.out)) (keep_size (w := w) (g := g) (row := none) ab23_)); have n1_ := am (IsS66.below ab44_ hb); have n2_ := am (blk_below (g := gb130) (o := .cells #[.int .i64 0, .int .i64 0, .slice none 0 0] 34 (0, 0)) (aG_ BK130.out) hb); have n3_ := am (KeepBut.trans ab23_ (KeepBut.of_below hb g none) (.inl rfl)); have n4_ := am (below_step ab40_ hb); clear HI0 BK130 HK HB; have HO157 := n0_; have HI0 := n1_; have BK130 := n2_; have HK := n3_; have HB := n4_; clear n0_ n1_ n2_ n3_ n4_; (try clear hb); (try clear hb2); (try clear hk); (try clear hi); (try clear ho0); have hnb34 := NB130_0.out; have hnc34 := NB0_130.out; obtain ⟨hcz35_0, hcz35_1, hcz35_2, hfz35_0, hfz35_1, hfz35_2⟩ := bcf3_ BK130.out; obtain ⟨Ao36, co36, eo36⟩ := Kd.R_slice HO157.out; subst eo36))
 refine bodyPost_ret (results_cell_row rfl _ _ gb130 34 #[.int .i64 t153, .int .i64 t154, .slice Ao36 t155.length co36] (0, 0) _ rfl (by (with_reducible repeat (first | refine blk_drewN ?_ _ | refine blk_drew ?_ | refine blk_alloc ?_ _)); refine blk_put (cs := #[.int .i64 t153, .int .i64 t154, .slice none 0 0]) ?_ 2 _ rfl; (with_reducible repeat (first | refine blk_drewN ?_ _ | refine blk_drew ?_ | refine blk_alloc ?_ _)); refine blk_put (cs := #[.int .i64 t153, .int .i64 0, .slice none 0 0]) ?_ 1 _ rfl; (with_reducible repeat (first | refine blk_drewN ?_ _ | refine blk_drew ?_ | refine blk_alloc ?_ _)); refine blk_put (cs := #[.int .i64 0, .int .i64 0, .slice none 0 0]) ?_ 0 _ rfl; (with_reducible repeat (first | refine blk_drewN ?_ _ | refine blk_drew ?_ | refine blk_alloc ?_ _)); exact BK130.out) Try.underlying34 rfl (by kernel_rfl)) rfl ?_
 exact ⟨_, ab14_, by (with_reducible repeat (first | apply Kd.R_alloc | apply Kd.R_drewN | apply Kd.R_drew)); exact Kd.R_mono (Kd.R_far (p := ⟨gb130, 2, none⟩) (Kd.R_far (p := ⟨gb130, 1, none⟩) (Kd.R_far (p := ⟨gb130, 0, none⟩) (Kd.R_mono HO157.out (fun k_ hk => (⟨hk, hk.2⟩ : _ ∧ k_ ≠ gb130))) (fun _ hk => hk.2) (.int .i64 t153)) (fun _ hk => hk.2) (.int .i64 t154)) (fun _ hk => hk.2) (.slice Ao36 t155.length co36)) (fun _ hk => trivial), ab44_, ab40_, ab23_⟩
theorem spec_l91Op.mono : ∀ a0 a1 k, LeO (spec_l91Op.f k a0 a1) (spec_l91Op.f (k + 1) a0 a1) := by
 intro a0 a1 k
 unfold spec_l91Op.f
 repeat' first
   | (with_reducible exact spec_l6Rd_pick.mono _ _ _ _)
   | (with_reducible exact LeO.refl _)
   | (with_reducible exact LeO.none _)
   | (with_reducible refine LeO.ite ?_ ?_)
   | (with_reducible refine LeO.bind ?_ (fun _ => ?_))
theorem spec_l91Op.calls (k : Nat) (g : Nat) (s0_0 : List Int) (s0_1 : Int) (r1 : Int) (r2 : Int) (w0 w : World) (hI : IsS66 w0 w g s0_0 s0_1) (hB : Below w0.heap.size w0 w) (h : spec_l91Op.f k s0_0 s0_1 = some (r1, r2)) :
  Calls Try.prog 95 #[.pointer (some ⟨g, 0, none⟩)] w fun e w' => e = .returned (.int .i64 r1) ∧ IsS66 w0 w' g s0_0 r2 ∧ Below w0.heap.size w0 w' ∧ KeepBut w w' g none := by
 have HI0 := am hI
 have HK := am (KeepBut.refl w g none)
 have HL := am hB.size
 clear hI
 have HW0 := am hB.size
 have HB := am hB
 clear hB
 have H : ((spec_l6Rd_pick.f k s0_0 s0_1 12).bind fun bt164 => (some (wrap64 (1 + bt164.1), bt164.2))) = some (r1, r2) := h
 clear h
 obtain ⟨⟨t164, t165⟩, A20, H⟩ := bsm H
 (try dsimp only at H)
 have A2 := am A20
 clear A20
 simp only [Option.some.injEq, Prod.mk.injEq] at H
 obtain ⟨rfl, rfl⟩ := H
 go_enter Try.func95, Try.ntmps95
 go_wp2_with (first | ((with_reducible refine gate_callee (f := 50) rfl ?_); refine goesL_ (some 4) rfl rfl Try.func50 (by kernel_rfl) rfl #[.pointer (some ⟨g, 0, none⟩), .int .i64 12] rfl ab1_ ?_; (with_reducible refine (spec_l6Rd_pick.calls k g s0_0 s0_1 12 t164 t165 w0 _ ?side1 ?side2 A2.out).mono ?_); (case side1 => exact ab4_); (case side2 => exact ab5_); rintro e w3 ⟨rfl, hi, hb, hk⟩; refine ⟨_, rfl, ?_⟩; have n0_ := am (KeepBut.trans ab3_ hk (.inl rfl)); have n1_ := am (hb); have n2_ := am (hi); clear HK HB HI0; have HK := n0_; have HB := n1_; have HI0 := n2_; clear n0_ n1_ n2_; (try clear hb); (try clear hb2); (try clear hk); (try clear hi)))
 go_ret
 exact ⟨rr_, ab4_, ab5_, ab3_⟩
theorem spec_l91Expr.mono_l : ∀ k, (∀ y0 y1 y2, LeO (spec_l91Expr.f k y0 y1 y2) (spec_l91Expr.f (k + 1) y0 y1 y2)) ∧ (∀ y0 y1 y2 y3, LeO (spec_l91Expr.j0 k y0 y1 y2 y3) (spec_l91Expr.j0 (k + 1) y0 y1 y2 y3))
 | 0 => ⟨fun _ _ _ r h => by simp [spec_l91Expr.f] at h, fun _ _ _ _ r h => by simp [spec_l91Expr.j0] at h⟩
 | k + 1 => by
  obtain ⟨ih0, ih1⟩ := spec_l91Expr.mono_l k
  refine ⟨?_, ?_⟩
  ·intro y0 y1 y2
   unfold spec_l91Expr.f
   repeat' first
   | (with_reducible exact ih0 _ _ _)
   | (with_reducible exact ih1 _ _ _ _)
   | (with_reducible exact spec_l6Rd_pick.mono _ _ _ _)
   | (with_reducible exact spec_l91Leaf.mono _ _ _)
   | (with_reducible exact spec_l91Op.mono _ _ _)
   | (with_reducible exact LeO.refl _)
   | (with_reducible exact LeO.none _)
   | (with_reducible refine LeO.ite ?_ ?_)
   | (with_reducible refine LeO.bind ?_ (fun _ => ?_))
  ·intro y0 y1 y2 y3
   unfold spec_l91Expr.j0
   repeat' first
   | (with_reducible exact ih0 _ _ _)
   | (with_reducible exact ih1 _ _ _ _)
   | (with_reducible exact spec_l6Rd_pick.mono _ _ _ _)
   | (with_reducible exact spec_l91Leaf.mono _ _ _)
   | (with_reducible exact spec_l91Op.mono _ _ _)
   | (with_reducible exact LeO.refl _)
   | (with_reducible exact LeO.none _)
   | (with_reducible refine LeO.ite ?_ ?_)
   | (with_reducible refine LeO.bind ?_ (fun _ => ?_))
theorem spec_l91Expr.mono : ∀ a0 a1 a2 k, LeO (spec_l91Expr.f k a0 a1 a2) (spec_l91Expr.f (k + 1) a0 a1 a2) := by
 intro a0 a1 a2 k
 obtain ⟨ih0, ih1⟩ := spec_l91Expr.mono_l k
 exact ih0 a0 a1 a2
def spec_l91Expr.T5 : Bool × List (List Nat × List Nat) := (true, [([], []), ([], []), ([], []), ([], []), ([3], [3]), ([2, 4], [2, 4]), ([0, 1, 5, 5], [0, 1, 5]), ([6, 6, 0, 1, 2, 3, 4, 5, 6], [6])])
def spec_l91Expr.B5 : List Nat := [0, 0, 0, 0, 8, 28, 63, 127]
theorem spec_l91Expr.tab5 : rtab .any (opsOf Try.f91 5) = spec_l91Expr.T5 := by kernel_rfl
theorem spec_l91Expr.bits5 : waitsOk spec_l91Expr.T5.2 spec_l91Expr.B5 = true := by kernel_rfl
theorem spec_l91Expr.calls (k : Nat) : ∀ (g : Nat) (s0_0 : List Int) (s0_1 : Int) (a1 : Int) (r1 : Int) (r2 : Int) (r3 : List (S34)) (r4 : Int) (w0 w : World) (hI : IsS66 w0 w g s0_0 s0_1) (hB : Below w0.heap.size w0 w) (h : spec_l91Expr.f k s0_0 s0_1 a1 = some (r1, r2, r3, r4)),
  Calls Try.prog 91 #[.pointer (some ⟨g, 0, none⟩), .int .i64 a1] w fun e w' => ∃ v2_ : Value, e = .returned (.agg #[.int .i64 r1, .int .i64 r2, v2_]) ∧ Kd.N k34 34 w' w.heap.size (fun k_ => (w.heap.size ≤ k_)) v2_ r3 ∧ IsS66 w0 w' g s0_0 r4 ∧ Below w0.heap.size w0 w' ∧ KeepBut w w' g none := by
 induction k using Nat.strongRecOn with
 | _ k ih =>
 intro g s0_0 s0_1 a1 r1 r2 r3 r4 w0 w hI hB h
 cases k with
 | zero => exact absurd h (by simp [spec_l91Expr.f])
 | succ k =>
 simp only [spec_l91Expr.f] at h
 have hu34 := Try.underlying34
 have HI0 := am hI
 have HK := am (KeepBut.refl w g none)
 have HL := am hB.size
 clear hI
 have HW0 := am hB.size
 have HB := am hB
 clear hB
 have H : (if a1 < 2 then (spec_l91Expr.j0 k a1 true s0_0 s0_1) else ((spec_l6Rd_pick.f k s0_0 s0_1 3).bind fun bt167 => (spec_l91Expr.j0 k a1 (bt167.1 == 0) s0_0 bt167.2))) = some (r1, r2, r3, r4) := h
 clear h
 have HC3 := am H
 clear H
 go_enter Try.func91, Try.ntmps91
 go_upto_region 1 with (first | ((with_reducible refine gate_dst (N := 4) rfl ?_); refine box_event ?hg (N := 4) ?hd (cs := #[.int .i64 0, .int .i64 0, .slice none 0 0]) (t := 34) ?hr ?_; (case hd => rfl); (case hg => rfl); (case hr => first | (go_simp; done) | (go_simp; rfl)); intro gb166 hg w4 hbox hb; have n0_ := am (IsS66.below ab4_ hb); have n1_ := am (KeepBut.trans ab3_ (KeepBut.of_below hb g none) (.inl rfl)); have n2_ := am (below_step ab5_ hb); have n3_ := am (hbox); have n4_ := am ((by rw [hg]; exact (keep_size (w := w) (g := g) (row := none) ab3_) : w.heap.size ≤ gb166)); have n5_ := am ((Nat.le_trans HW0.out (by rw [hg]; exact (keep_size (w := w) (g := g) (row := none) ab3_) : w.heap.size ≤ gb166) : w0.heap.size ≤ gb166)); have n6_ := am ((by rw [hg]; exact Nat.ne_of_lt (IsS66.lt (show IsS66 w0 _ g s0_0 s0_1 from by repeat (first | (with_reducible first | exact HI0.out | apply IsS66.alloc | apply IsS66.drewN | apply IsS66.drew | apply IsS66.set_1) | exact HI0.out))) : g ≠ gb166)); have n7_ := am ((by rw [hg]; exact Nat.ne_of_gt (IsS66.lt (show IsS66 w0 _ g s0_0 s0_1 from by repeat (first | (with_reducible first | exact HI0.out | apply IsS66.alloc | apply IsS66.drewN | apply IsS66.drew | apply IsS66.set_1) | exact HI0.out))) : gb166 ≠ g)); clear HI0 HK HB; have HI0 := n0_; have HK := n1_; have HB := n2_; have BK166 := n3_; have GW166 := n4_; have GE166 := n5_; have NB0_166 := n6_; have NB166_0 := n7_; clear n0_ n1_ n2_ n3_ n4_ n5_ n6_ n7_ hb hbox hg))
 (try simp only [Act.put, List.setIfInBounds_toArray, List.set_cons_zero, List.set_cons_succ])
 go_cut [13] (fun v13 wc => ∃ (kq : Nat) (x13_2 : Bool) (x1001_2 : Int), v13 = .bool x13_2 ∧ Aside0 (spec_l91Expr.j0 kq a1 x13_2 s0_0 x1001_2 = some (r1, r2, r3, r4)) ∧ Aside0 (kq ≤ k) ∧ Aside0 (wc.heap[gb166]? = some (.cells #[.int .i64 0, .int .i64 0, (.slice none 0 0)] 34 (0, 0))) ∧ Aside0 (IsS66 w0 wc g s0_0 x1001_2) ∧ Aside0 (KeepBut w wc g none) ∧ Aside0 (Below w0.heap.size w0 wc))
 case first =>
  have H := HC3.out
  clear HC3
  by_cases c5 : a1 < 2
  ·rw [if_pos c5] at H
   have c5b0 : decide (a1 < 2) = true := decide_eq_true c5
   clear c5
   (first | rw [c5b0] | (simp only [i64_w, i32_w]; rw [c5b0]) | skip)
   have H' := am H
   clear H
   go_wp2
   go_meet
   case rel => exact ⟨_, (true), (s0_1), (by first | rfl | (simp; done) | (simp [*]; done)), H', ⟨by first | omega | exact Nat.le_refl _⟩, ⟨by (with_reducible repeat (first | refine blk_drewN ?_ _ | refine blk_drew ?_ | refine blk_alloc ?_ _)); exact BK166.out⟩, ⟨ab51_⟩, ⟨ab24_⟩, ⟨ab61_⟩⟩
  rw [if_neg c5] at H
  have c5b0 : decide (a1 < 2) = false := decide_eq_false c5
  clear c5
  (first | rw [c5b0] | (simp only [i64_w, i32_w]; rw [c5b0]) | skip)
  obtain ⟨⟨t167, t168⟩, A60, H⟩ := bsm H
  (try dsimp only at H)
  have A6 := am A60
  clear A60
  have H' := am H
  clear H
  go_wp2_with (first | (go_at_call 50; (with_reducible refine (spec_l6Rd_pick.calls k g s0_0 s0_1 3 t167 t168 w0 _ ?side1 ?side2 A6.out).mono ?_); (case side1 => exact ab51_); (case side2 => exact ab61_); rintro e w7 ⟨rfl, hi, hb, hk⟩; have n0_ := am (KeepBut.blk hk (g' := gb166) (o := .cells #[.int .i64 0, .int .i64 0, .slice none 0 0] 34 (0, 0)) (aG_ BK166.out) NB166_0.out (by simp)); have n1_ := am (KeepBut.trans ab24_ hk (.inl rfl)); have n2_ := am (hb); have n3_ := am (hi); clear BK166 HK HB HI0; have BK166 := n0_; have HK := n1_; have HB := n2_; have HI0 := n3_; clear n0_ n1_ n2_ n3_; (try clear hb); (try clear hb2); (try clear hk); (try clear hi)))
  go_meet
  case rel => exact ⟨_, ((t167 == 0)), (t168), (by first | rfl | (simp; done) | (simp [*]; done)), H', ⟨by first | omega | exact Nat.le_refl _⟩, ⟨by (with_reducible repeat (first | refine blk_drewN ?_ _ | refine blk_drew ?_ | refine blk_alloc ?_ _)); exact BK166.out⟩, ⟨ab51_⟩, ⟨ab24_⟩, ⟨ab61_⟩⟩
 case rest =>
  clear HC3
  obtain ⟨kq, x13_2, x1001_2, rfl, HA, HJ2, BK166, HI0, HK, HB⟩ := hcut
  cases kq with
  | zero => exact absurd HA.out (by simp [spec_l91Expr.j0])
  | succ kj2 =>
   have H := HA.out
   clear HA
   simp only [spec_l91Expr.j0] at H
   by_cases c8 : x13_2 = true
   ·subst c8
    rw [if_pos rfl] at H
    obtain ⟨⟨t169, t170, t171, t174⟩, A90, H⟩ := bsm H
    (try dsimp only at H)
    have A9 := am A90
    clear A90
    simp only [Option.some.injEq, Prod.mk.injEq] at H
    obtain ⟨rfl, rfl, rfl, rfl⟩ := H
    go_wp2_with (first | ((with_reducible refine gate_callee (f := 51) rfl ?_); refine goesL_ (some 15) rfl rfl Try.func51 (by kernel_rfl) rfl #[.pointer (some ⟨g, 0, none⟩)] rfl ab1_ ?_; (with_reducible refine (spec_l91Leaf.calls kj2 g s0_0 x1001_2 t169 t170 t171 t174 w0 _ ?side1 ?side2 A9.out).mono ?_); (case side1 => exact ab51_); (case side2 => exact ab61_); rintro e w10 ⟨v172, rfl, ho0, hi, hb, hk⟩; refine ⟨_, rfl, ?_⟩; have n0_ := am (KeepBut.blk hk (g' := gb166) (o := .cells #[.int .i64 0, .int .i64 0, .slice none 0 0] 34 (0, 0)) (aG_ BK166.out) NB166_0.out (by simp)); have n1_ := am (Kd.N_lower (Kd.N_mono (ok' := fun k_ => (w.heap.size ≤ k_) ∧ k_ ≠ gb166 ∧ k_ ≠ g) (Kd.R_N (Kd.R_bound ho0)) (fun k_ hk_ => ⟨(Nat.le_trans (keep_size (w := w) (g := g) (row := none) ab24_) hk_.2.1), (Kd.freshB (g := gb166) (o := .cells #[.int .i64 0, .int .i64 0, .slice none 0 0] 34 (0, 0)) (aG_ BK166.out) k_ hk_.2.1), (IsS66.fresh ab51_ k_ hk_.2.1)⟩)) (keep_size (w := w) (g := g) (row := none) ab24_)); have n2_ := am (KeepBut.trans ab24_ hk (.inl rfl)); have n3_ := am (hb); have n4_ := am (hi); clear BK166 HK HB HI0; have BK166 := n0_; have HO173 := n1_; have HK := n2_; have HB := n3_; have HI0 := n4_; clear n0_ n1_ n2_ n3_ n4_; (try clear hb); (try clear hb2); (try clear hk); (try clear hi); (try clear ho0); have hnb11 := NB166_0.out; have hnc11 := NB0_166.out; obtain ⟨hcz12_0, hcz12_1, hcz12_2, hfz12_0, hfz12_1, hfz12_2⟩ := bcf3_ BK166.out; obtain ⟨Ao13, co13, eo13⟩ := Kd.N_slice HO173.out; subst eo13))
    refine bodyPost_ret (results_cell_row rfl _ _ gb166 34 #[.int .i64 t169, .int .i64 t170, .slice Ao13 t171.length co13] (0, 0) _ rfl (by (with_reducible repeat (first | refine blk_drewN ?_ _ | refine blk_drew ?_ | refine blk_alloc ?_ _)); refine blk_put (cs := #[.int .i64 t169, .int .i64 t170, .slice none 0 0]) ?_ 2 _ rfl; (with_reducible repeat (first | refine blk_drewN ?_ _ | refine blk_drew ?_ | refine blk_alloc ?_ _)); refine blk_put (cs := #[.int .i64 t169, .int .i64 0, .slice none 0 0]) ?_ 1 _ rfl; (with_reducible repeat (first | refine blk_drewN ?_ _ | refine blk_drew ?_ | refine blk_alloc ?_ _)); refine blk_put (cs := #[.int .i64 0, .int .i64 0, .slice none 0 0]) ?_ 0 _ rfl; (with_reducible repeat (first | refine blk_drewN ?_ _ | refine blk_drew ?_ | refine blk_alloc ?_ _)); exact BK166.out) Try.underlying34 rfl (by kernel_rfl)) rfl ?_
    exact ⟨_, ab14_, by (with_reducible repeat (first | apply Kd.N_alloc | apply Kd.N_drewN | apply Kd.N_drew)); exact Kd.N_mono (Kd.N_far (p := ⟨gb166, 2, none⟩) (Kd.N_far (p := ⟨gb166, 1, none⟩) (Kd.N_far (p := ⟨gb166, 0, none⟩) (Kd.N_mono HO173.out (fun k_ hk => (⟨hk, hk.2.1⟩ : _ ∧ k_ ≠ gb166))) (fun _ hk => hk.2) (.int .i64 t169)) (fun _ hk => hk.2) (.int .i64 t170)) (fun _ hk => hk.2) (.slice Ao13 t171.length co13)) (fun _ hk => hk.1.1), ab51_, ab61_, ab24_⟩
   replace c8 := Bool.eq_false_iff.mpr c8
   subst c8
   rw [if_neg (show ¬ (false = true) by decide)] at H
   obtain ⟨⟨t175, t176⟩, A140, H⟩ := bsm H
   (try dsimp only at H)
   have A14 := am A140
   clear A140
   obtain ⟨⟨t177, t178, t179, t182⟩, A150, H⟩ := bsm H
   (try dsimp only at H)
   have A15 := am A150
   clear A150
   obtain ⟨⟨t184, t185, t186, t189⟩, A160, H⟩ := bsm H
   (try dsimp only at H)
   have A16 := am A160
   clear A160
   obtain ⟨⟨t190, t191, t192⟩, A170, H⟩ := bsm H
   (try dsimp only at H)
   have A17 := am A170
   clear A170
   simp only [Option.some.injEq, Prod.mk.injEq] at H
   obtain ⟨rfl, rfl, rfl, rfl⟩ := H
   try go_wp2_with (first | ((with_reducible refine gate_callee (f := 95) rfl ?_); refine goesL_ (some 17) rfl rfl Try.func95 (by kernel_rfl) rfl #[.pointer (some ⟨g, 0, none⟩)] rfl ab1_ ?_; (with_reducible refine (spec_l91Op.calls kj2 g s0_0 x1001_2 t175 t176 w0 _ ?side1 ?side2 A14.out).mono ?_); (case side1 => exact ab51_); (case side2 => exact ab61_); rintro e w18 ⟨rfl, hi, hb, hk⟩; refine ⟨_, rfl, ?_⟩; have n0_ := am (KeepBut.blk hk (g' := gb166) (o := .cells #[.int .i64 0, .int .i64 0, .slice none 0 0] 34 (0, 0)) (aG_ BK166.out) NB166_0.out (by simp)); have n1_ := am (KeepBut.trans ab24_ hk (.inl rfl)); have n2_ := am (hb); have n3_ := am (hi); clear BK166 HK HB HI0; have BK166 := n0_; have HK := n1_; have HB := n2_; have HI0 := n3_; clear n0_ n1_ n2_ n3_; (try clear hb); (try clear hb2); (try clear hk); (try clear hi)) | ((with_reducible refine gate_callee (f := 91) rfl ?_); refine goesL_ (some 21) rfl rfl Try.func91 (by kernel_rfl) rfl #[.pointer (some ⟨g, 0, none⟩), .int .i64 (wrap64 (a1 - 1))] rfl ab1_ ?_; (with_reducible refine (ih kj2 (by have := HJ2.out; omega) g s0_0 t176 (wrap64 (a1 - 1)) t177 t178 t179 t182 w0 _ ?side1 ?side2 A15.out).mono ?_); (case side1 => exact ab51_); (case side2 => exact ab61_); rintro e w19 ⟨v180, rfl, ho0, hi, hb, hk⟩; refine ⟨_, rfl, ?_⟩; have n0_ := am (KeepBut.blk hk (g' := gb166) (o := .cells #[.int .i64 0, .int .i64 0, .slice none 0 0] 34 (0, 0)) (aG_ BK166.out) NB166_0.out (by simp)); have n1_ := am (Kd.N_lower (Kd.N_mono (ok' := fun k_ => (w.heap.size ≤ k_) ∧ k_ ≠ gb166 ∧ k_ ≠ g) ho0 (fun k_ hk_ => ⟨(Nat.le_trans (keep_size (w := w) (g := g) (row := none) ab24_) hk_), (Kd.freshB (g := gb166) (o := .cells #[.int .i64 0, .int .i64 0, .slice none 0 0] 34 (0, 0)) (aG_ BK166.out) k_ hk_), (IsS66.fresh ab51_ k_ hk_)⟩)) (keep_size (w := w) (g := g) (row := none) ab24_)); have n2_ := am (KeepBut.trans ab24_ hk (.inl rfl)); have n3_ := am (hb); have n4_ := am (hi); clear BK166 HK HB HI0; have BK166 := n0_; have HO181 := n1_; have HK := n2_; have HB := n3_; have HI0 := n4_; clear n0_ n1_ n2_ n3_ n4_; (try clear hb); (try clear hb2); (try clear hk); (try clear hi); (try clear ho0)) | ((with_reducible refine gate_dst (N := 6) rfl ?_); refine box_event ?hg (N := 6) ?hd (cs := #[.int .i64 0, .int .i64 0, .slice none 0 0]) (t := 34) ?hr ?_; (case hd => rfl); (case hg => rfl); (case hr => first | (go_simp; done) | (go_simp; rfl)); intro gb183 hg w20 hbox hb; have n0_ := am (Kd.N_below (Kd.N_elderB (aN_ HO181.out) gb183 (Nat.le_of_eq hg.symm)) hb); have n1_ := am (blk_below (g := gb166) (o := .cells #[.int .i64 0, .int .i64 0, .slice none 0 0] 34 (0, 0)) (aG_ BK166.out) hb); have n2_ := am (IsS66.below ab51_ hb); have n3_ := am (KeepBut.trans ab24_ (KeepBut.of_below hb g none) (.inl rfl)); have n4_ := am (below_step ab61_ hb); have n5_ := am (hbox); have n6_ := am ((by rw [hg]; exact (keep_size (w := w) (g := g) (row := none) ab24_) : w.heap.size ≤ gb183)); have n7_ := am ((Nat.le_trans HW0.out (by rw [hg]; exact (keep_size (w := w) (g := g) (row := none) ab24_) : w.heap.size ≤ gb183) : w0.heap.size ≤ gb183)); have n8_ := am ((by rw [hg]; exact Nat.ne_of_lt (blk_lt (g := gb166) (o := .cells #[.int .i64 0, .int .i64 0, .slice none 0 0] 34 (0, 0)) (aG_ BK166.out)) : gb166 ≠ gb183)); have n9_ := am ((by rw [hg]; exact Nat.ne_of_gt (blk_lt (g := gb166) (o := .cells #[.int .i64 0, .int .i64 0, .slice none 0 0] 34 (0, 0)) (aG_ BK166.out)) : gb183 ≠ gb166)); have n10_ := am ((by rw [hg]; exact Nat.ne_of_lt (IsS66.lt (show IsS66 w0 _ g s0_0 t182 from by repeat (first | (with_reducible first | exact HI0.out | apply IsS66.alloc | apply IsS66.drewN | apply IsS66.drew | apply IsS66.set_1 | refine IsS66.far ?_ NB0_166.out _) | exact HI0.out))) : g ≠ gb183)); have n11_ := am ((by rw [hg]; exact Nat.ne_of_gt (IsS66.lt (show IsS66 w0 _ g s0_0 t182 from by repeat (first | (with_reducible first | exact HI0.out | apply IsS66.alloc | apply IsS66.drewN | apply IsS66.drew | apply IsS66.set_1 | refine IsS66.far ?_ NB0_166.out _) | exact HI0.out))) : gb183 ≠ g)); clear HO181 BK166 HI0 HK HB; have HO181 := n0_; have BK166 := n1_; have HI0 := n2_; have HK := n3_; have HB := n4_; have BK183 := n5_; have GW183 := n6_; have GE183 := n7_; have NB166_183 := n8_; have NB183_166 := n9_; have NB0_183 := n10_; have NB183_0 := n11_; clear n0_ n1_ n2_ n3_ n4_ n5_ n6_ n7_ n8_ n9_ n10_ n11_ hb hbox hg; have hnb21 := NB183_166.out; have hnc21 := NB166_183.out; have hnb22 := NB183_0.out; have hnc22 := NB0_183.out; obtain ⟨hcz23_0, hcz23_1, hcz23_2, hfz23_0, hfz23_1, hfz23_2⟩ := bcf3_ BK183.out; obtain ⟨Ao24, co24, eo24⟩ := Kd.N_slice HO181.out; subst eo24))
   have n0_ : Aside0 (Kd.N k34 34 (((w20.setCell ⟨gb183, 0, none⟩ (.int .i64 t177)).setCell ⟨gb183, 1, none⟩ (.int .i64 t178)).setCell ⟨gb183, 2, none⟩ (.slice Ao24 t179.length co24)) w.heap.size (fun k_ => (w.heap.size ≤ k_) ∧ k_ ≠ gb166 ∧ k_ ≠ g ∧ k_ ≠ gb183) (.slice Ao24 t179.length co24) t179) := ⟨by (with_reducible repeat (first | apply Kd.N_alloc | apply Kd.N_drewN | apply Kd.N_drew)); exact Kd.N_mono (Kd.N_far (p := ⟨gb183, 2, none⟩) (Kd.N_far (p := ⟨gb183, 1, none⟩) (Kd.N_far (p := ⟨gb183, 0, none⟩) (Kd.N_mono HO181.out (fun k_ hk => (⟨hk, hk.2⟩ : _ ∧ k_ ≠ gb183))) (fun _ hk => hk.2) (.int .i64 t177)) (fun _ hk => hk.2) (.int .i64 t178)) (fun _ hk => hk.2) (.slice Ao24 t179.length co24)) (fun _ hk => ⟨hk.1.1.1, ⟨hk.1.1.2.1, ⟨hk.1.1.2.2, hk.1.2⟩⟩⟩)⟩
   have n1_ : Aside0 ((((w20.setCell ⟨gb183, 0, none⟩ (.int .i64 t177)).setCell ⟨gb183, 1, none⟩ (.int .i64 t178)).setCell ⟨gb183, 2, none⟩ (.slice Ao24 t179.length co24)).heap[gb166]? = some (.cells #[.int .i64 0, .int .i64 0, .slice none 0 0] 34 (0, 0))) := ⟨by (with_reducible repeat (first | refine blk_drewN ?_ _ | refine blk_drew ?_ | refine blk_alloc ?_ _)); refine blk_far ?_ NB166_183.out _; (with_reducible repeat (first | refine blk_drewN ?_ _ | refine blk_drew ?_ | refine blk_alloc ?_ _)); refine blk_far ?_ NB166_183.out _; (with_reducible repeat (first | refine blk_drewN ?_ _ | refine blk_drew ?_ | refine blk_alloc ?_ _)); refine blk_far ?_ NB166_183.out _; (with_reducible repeat (first | refine blk_drewN ?_ _ | refine blk_drew ?_ | refine blk_alloc ?_ _)); exact BK166.out⟩
   have n2_ : Aside0 ((((w20.setCell ⟨gb183, 0, none⟩ (.int .i64 t177)).setCell ⟨gb183, 1, none⟩ (.int .i64 t178)).setCell ⟨gb183, 2, none⟩ (.slice Ao24 t179.length co24)).heap[gb183]? = some (.cells #[.int .i64 t177, .int .i64 t178, .slice Ao24 t179.length co24] 34 (0, 0))) := ⟨by (with_reducible repeat (first | refine blk_drewN ?_ _ | refine blk_drew ?_ | refine blk_alloc ?_ _)); refine blk_put (cs := #[.int .i64 t177, .int .i64 t178, .slice none 0 0]) ?_ 2 _ rfl; (with_reducible repeat (first | refine blk_drewN ?_ _ | refine blk_drew ?_ | refine blk_alloc ?_ _)); refine blk_put (cs := #[.int .i64 t177, .int .i64 0, .slice none 0 0]) ?_ 1 _ rfl; (with_reducible repeat (first | refine blk_drewN ?_ _ | refine blk_drew ?_ | refine blk_alloc ?_ _)); refine blk_put (cs := #[.int .i64 0, .int .i64 0, .slice none 0 0]) ?_ 0 _ rfl; (with_reducible repeat (first | refine blk_drewN ?_ _ | refine blk_drew ?_ | refine blk_alloc ?_ _)); exact BK183.out⟩
   have n3_ : Aside0 (IsS66 w0 (((w20.setCell ⟨gb183, 0, none⟩ (.int .i64 t177)).setCell ⟨gb183, 1, none⟩ (.int .i64 t178)).setCell ⟨gb183, 2, none⟩ (.slice Ao24 t179.length co24)) g s0_0 t182) := ⟨ab52_⟩
   have n4_ : Aside0 (KeepBut w (((w20.setCell ⟨gb183, 0, none⟩ (.int .i64 t177)).setCell ⟨gb183, 1, none⟩ (.int .i64 t178)).setCell ⟨gb183, 2, none⟩ (.slice Ao24 t179.length co24)) g none) := ⟨ab32_⟩
   have n5_ : Aside0 (Below w0.heap.size w0 (((w20.setCell ⟨gb183, 0, none⟩ (.int .i64 t177)).setCell ⟨gb183, 1, none⟩ (.int .i64 t178)).setCell ⟨gb183, 2, none⟩ (.slice Ao24 t179.length co24))) := ⟨ab63_⟩
   (try clear HO181)
   (try clear BK166)
   (try clear BK183)
   (try clear HI0)
   (try clear HK)
   (try clear HB)
   generalize (((w20.setCell ⟨gb183, 0, none⟩ (.int .i64 t177)).setCell ⟨gb183, 1, none⟩ (.int .i64 t178)).setCell ⟨gb183, 2, none⟩ (.slice Ao24 t179.length co24)) = w25 at n0_ n1_ n2_ n3_ n4_ n5_ ⊢
   have HO181 := n0_
   have BK166 := n1_
   have BK183 := n2_
   have HI0 := n3_
   have HK := n4_
   have HB := n5_
   clear n0_ n1_ n2_ n3_ n4_ n5_
   have n0_ := am (Kd.N_drew HO181.out)
   have n1_ := am (blk_drew BK166.out)
   have n2_ := am (blk_drew BK183.out)
   have n3_ := am (IsS66.drew HI0.out)
   have n4_ := am (keep_drew HK.out)
   have n5_ := am (below_drew1 HB.out)
   clear HO181
   clear BK166
   clear BK183
   clear HI0
   clear HK
   clear HB
   have HO181 := n0_
   have BK166 := n1_
   have BK183 := n2_
   have HI0 := n3_
   have HK := n4_
   have HB := n5_
   clear n0_ n1_ n2_ n3_ n4_ n5_
   refine start_ (n := 8) (S := fun w' => w'.cell? ⟨gb183, 0, none⟩ = some (.int .i64 t177) ∧ w'.cell? ⟨gb183, 1, none⟩ = some (.int .i64 t178) ∧ w'.cell? ⟨gb183, 2, none⟩ = some (.slice Ao24 t179.length co24)) (ds := []) #[false, false, false, false, false, false, false, false] (by kernel_rfl) rfl rfl ⟨(blk_cell BK183.out 0).trans rfl, (blk_cell BK183.out 1).trans rfl, (blk_cell BK183.out 2).trans rfl⟩ (fun hHeld => ?_); refine with_tabW spec_l91Expr.tab5 spec_l91Expr.bits5 (fun HT_ HW_ => ?_)
   generalize w25.drew = w26 at HO181 BK166 BK183 HI0 HK HB hHeld ⊢
   refine pure_ (i := 0) (N := some 22) (v := ?_) (a' := ?_) #[true, false, false, false, false, false, false, false] rfl rfl (any_of HT_.out (by kernel_rfl)) (fun _ _ _ h => h) (Or.inl ⟨by rfl, ?_⟩) ?_ ?_
   rotate_left
   ·intro w'
    go_simp
    with_reducible rfl
   rotate_left
   ·simp only [Act.put, List.setIfInBounds_toArray, List.set_cons_zero, List.set_cons_succ, i64_w, i32_w]
    rfl
   refine pure_ (i := 2) (N := some 24) (v := ?_) (a' := ?_) #[true, false, true, false, false, false, false, false] rfl rfl (any_of HT_.out (by kernel_rfl)) (fun _ _ _ h => h) (Or.inl ⟨by rfl, ?_⟩) ?_ ?_
   rotate_left
   ·intro w'
    go_simp
    with_reducible rfl
   rotate_left
   ·simp only [Act.put, List.setIfInBounds_toArray, List.set_cons_zero, List.set_cons_succ, i64_w, i32_w]
    rfl
   refine pure_ (i := 3) (N := some 25) (v := ?_) (a' := ?_) #[true, false, true, true, false, false, false, false] rfl rfl (any_of HT_.out (by kernel_rfl)) (fun _ _ _ h => h) (Or.inl ⟨by rfl, ?_⟩) ?_ ?_
   rotate_left
   ·intro w'
    go_simp
    with_reducible rfl
   rotate_left
   ·simp only [Act.put, List.setIfInBounds_toArray, List.set_cons_zero, List.set_cons_succ, i64_w, i32_w]
    rfl
   refine pure_ (i := 4) (N := some 26) (v := ?_) (a' := ?_) #[true, false, true, true, true, false, false, false] rfl rfl (any_of HT_.out (by kernel_rfl)) (fun _ _ _ h => h) (Or.inl ⟨by rfl, ?_⟩) ?_ ?_
   rotate_left
   ·intro w'
    go_simp
    with_reducible rfl
   rotate_left
   ·simp only [Act.put, List.setIfInBounds_toArray, List.set_cons_zero, List.set_cons_succ, i64_w, i32_w]
    rfl
   refine take_ (i := 1) (N := some 23) (v := ?_) (a' := ?_) #[true, true, true, true, true, false, false, false] rfl rfl (take_ofW HT_.out HW_.out (by kernel_rfl)) (fun _ _ _ h => h) (Or.inl ⟨by rfl, ?_⟩) hHeld ?_ ?_
   rotate_left
   ·rintro w' ⟨s0, s1, s2⟩
    go_simp
    with_reducible rfl
   rotate_left
   ·simp only [Act.put, List.setIfInBounds_toArray, List.set_cons_zero, List.set_cons_succ, i64_w, i32_w]
    rfl
   refine one_ (i := 5) (N := some 27) #[true, true, true, true, true, true, false, false] rfl rfl (one_of HT_.out (by kernel_rfl)) (by decide) (fun K hK => ?_)
   refine goes_ Try.func91 (by kernel_rfl) rfl #[.pointer (some ⟨g, 0, none⟩), .int .i64 (wrap64 (a1 - 1))] (by rfl) rfl rfl ab1_ ?_
   with_reducible refine (ih kj2 (by have := HJ2.out; omega) g s0_0 t182 (wrap64 (a1 - 1)) t184 t185 t186 t189 w0 _ ?side1 ?side2 A16.out).mono ?_
   (case side1 => exact ab52_)
   (case side2 => exact ab63_)
   rintro e w27 ⟨v187, rfl, ho0, hi, hb, hk⟩
   refine ⟨_, rfl, ?_⟩
   have n0_ := am (KeepBut.blk hk (g' := gb166) (o := .cells #[.int .i64 0, .int .i64 0, .slice none 0 0] 34 (0, 0)) (aG_ BK166.out) NB166_0.out (by simp))
   have n1_ := am (Kd.N_mono (Kd.N_told (Kd.N_oldK (Kd.N_mono (ok := fun k_ => (((w.heap.size ≤ k_)) ∧ (k_ ≠ gb166 ∧ (k_ ≠ g ∧ k_ ≠ gb183)))) (aN_ HO181.out) (fun k_ hk_ => (⟨hk_, hk_.2.2.1⟩ : _ ∧ k_ ≠ g))) hk) (by first | exact Kd.N_base ho0 | exact Kd.N_base (Kd.R_N ho0))) (fun _ h_ => h_.1))
   have n2_ := am (KeepBut.blk hk (g' := gb183) (o := .cells #[.int .i64 t177, .int .i64 t178, .slice Ao24 t179.length co24] 34 (0, 0)) (aG_ BK183.out) NB183_0.out (by simp))
   have n3_ := am (Kd.N_lower (Kd.N_mono (ok' := fun k_ => (w.heap.size ≤ k_) ∧ some k_ ≠ (.slice Ao24 t179.length co24 : Value).ownBlock ∧ k_ ≠ gb166 ∧ k_ ≠ gb183 ∧ k_ ≠ g) ho0 (fun k_ hk_ => ⟨(Nat.le_trans (keep_size (w := w) (g := g) (row := none) ab32_) hk_), (Kd.fresh' (Kd.N_lt (aN_ HO181.out)) k_ hk_), (Kd.freshB (g := gb166) (o := .cells #[.int .i64 0, .int .i64 0, .slice none 0 0] 34 (0, 0)) (aG_ BK166.out) k_ hk_), (Kd.freshB (g := gb183) (o := .cells #[.int .i64 t177, .int .i64 t178, .slice Ao24 t179.length co24] 34 (0, 0)) (aG_ BK183.out) k_ hk_), (IsS66.fresh ab52_ k_ hk_)⟩)) (keep_size (w := w) (g := g) (row := none) ab32_))
   have n4_ := am (KeepBut.trans ab32_ hk (.inl rfl))
   have n5_ := am (hb)
   have n6_ := am (hi)
   clear BK166
   clear HO181
   clear BK183
   clear HK
   clear HB
   clear HI0
   have BK166 := n0_
   have HO181 := n1_
   have BK183 := n2_
   have HO188 := n3_
   have HK := n4_
   have HB := n5_
   have HI0 := n6_
   clear n0_ n1_ n2_ n3_ n4_ n5_ n6_
   (try clear hb)
   (try clear hb2)
   (try clear hk)
   (try clear hi)
   (try clear ho0)
   obtain ⟨Ao28, co28, eo28⟩ := Kd.N_slice HO188.out
   (first | subst eo28 | (injection eo28 with f1_ f2_ f3_; have f4_ := f1_.symm; have f5_ := f3_.symm; clear f1_ f2_ f3_; subst f4_; subst f5_))
   refine hK.out _ _ ⟨(blk_cell BK183.out 0).trans rfl, (blk_cell BK183.out 1).trans rfl, (blk_cell BK183.out 2).trans rfl⟩ (fun hHeld => ?_)
   clear hK K
   refine norm_ (a' := ?_) ?_ ?_
   rotate_left
   ·show Act.put _ (some 27) _ = _
    simp only [Act.put, List.setIfInBounds_toArray, List.set_cons_zero, List.set_cons_succ, i64_w, i32_w]
    rfl
   refine one_ (i := 6) (N := some 28) #[true, true, true, true, true, true, true, false] rfl rfl (one_of HT_.out (by kernel_rfl)) (by decide) (fun K hK => ?_)
   refine goes_ Try.func94 (by kernel_rfl) rfl #[.int .i64 t175, .agg #[.int .i64 t177, .int .i64 t178, .slice Ao24 t179.length co24], .agg #[.int .i64 t184, .int .i64 t185, .slice Ao28 t186.length co28]] (by rfl) rfl rfl ab1_ ?_
   with_reducible refine (spec_l4Both.calls t175 t177 t178 (fun k_ => (((w.heap.size ≤ k_) ∧ (k_ ≠ gb166 ∧ (k_ ≠ g ∧ k_ ≠ gb183))) ∧ some k_ ≠ (.slice Ao28 t186.length co28 : Value).ownBlock)) _ _ t179 t184 t185 (fun k_ => ((w.heap.size ≤ k_) ∧ (some k_ ≠ (.slice Ao24 t179.length co24 : Value).ownBlock ∧ (k_ ≠ gb166 ∧ (k_ ≠ gb183 ∧ k_ ≠ g))))) _ _ t186 t190 t191 t192 _ ?side1 ?side2 A17.out).mono ?_
   (case side1 => exact Kd.N_V (HO181.out))
   (case side2 => exact Kd.N_V (HO188.out))
   rintro e w29 ⟨v193, rfl, ho0, hb⟩
   refine ⟨_, rfl, ?_⟩
   have n0_ := am (Kd.N_elder' (aN_ HO181.out) (by first | exact Kd.N_base ho0 | exact Kd.N_base (Kd.R_N ho0)) hb)
   have n1_ := am (Kd.N_elder' (aN_ HO188.out) (by first | exact Kd.N_base ho0 | exact Kd.N_base (Kd.R_N ho0)) hb)
   have n2_ := am (Kd.N_lower (Kd.N_mono (ok' := fun k_ => (w.heap.size ≤ k_) ∧ k_ ≠ gb166 ∧ k_ ≠ gb183 ∧ k_ ≠ g) ho0 (fun k_ hk_ => ⟨Or.elim hk_ (fun hs_ => Or.elim hs_ (fun hs_ => hs_.1.1) (fun hs_ => hs_.1)) (fun hn_ => (Nat.le_trans (keep_size (w := w) (g := g) (row := none) ab32_) hn_)), Or.elim hk_ (fun hs_ => Or.elim hs_ (fun hs_ => hs_.1.2.1) (fun hs_ => hs_.2.2.1)) (fun hn_ => (Kd.freshB (g := gb166) (o := .cells #[.int .i64 0, .int .i64 0, .slice none 0 0] 34 (0, 0)) (aG_ BK166.out) k_ hn_)), Or.elim hk_ (fun hs_ => Or.elim hs_ (fun hs_ => hs_.1.2.2.2) (fun hs_ => hs_.2.2.2.1)) (fun hn_ => (Kd.freshB (g := gb183) (o := .cells #[.int .i64 t177, .int .i64 t178, .slice Ao24 t179.length co24] 34 (0, 0)) (aG_ BK183.out) k_ hn_)), Or.elim hk_ (fun hs_ => Or.elim hs_ (fun hs_ => hs_.1.2.2.1) (fun hs_ => hs_.2.2.2.2)) (fun hn_ => (IsS66.fresh ab52_ k_ hn_))⟩)) (keep_size (w := w) (g := g) (row := none) ab32_))
   have n3_ := am (blk_below (g := gb166) (o := .cells #[.int .i64 0, .int .i64 0, .slice none 0 0] 34 (0, 0)) (aG_ BK166.out) hb)
   have n4_ := am (IsS66.below ab52_ hb)
   have n5_ := am (blk_below (g := gb183) (o := .cells #[.int .i64 t177, .int .i64 t178, .slice Ao24 t179.length co24] 34 (0, 0)) (aG_ BK183.out) hb)
   have n6_ := am (KeepBut.trans ab32_ (KeepBut.of_below hb g none) (.inl rfl))
   have n7_ := am (below_step ab63_ hb)
   clear HO181
   clear HO188
   clear BK166
   clear HI0
   clear BK183
   clear HK
   clear HB
   have HO181 := n0_
   have HO188 := n1_
   have HO194 := n2_
   have BK166 := n3_
   have HI0 := n4_
   have BK183 := n5_
   have HK := n6_
   have HB := n7_
   clear n0_ n1_ n2_ n3_ n4_ n5_ n6_ n7_
   (try clear hb)
   (try clear hb2)
   (try clear hk)
   (try clear hi)
   (try clear ho0)
   obtain ⟨Ao32, co32, eo32⟩ := Kd.N_slice HO194.out
   (first | subst eo32 | (injection eo32 with f1_ f2_ f3_; have f4_ := f1_.symm; have f5_ := f3_.symm; clear f1_ f2_ f3_; subst f4_; subst f5_))
   refine hK.out _ _ ⟨(blk_cell BK183.out 0).trans rfl, (blk_cell BK183.out 1).trans rfl, (blk_cell BK183.out 2).trans rfl⟩ (fun hHeld => ?_)
   clear hK K
   refine norm_ (a' := ?_) ?_ ?_
   rotate_left
   ·show Act.put _ (some 28) _ = _
    simp only [Act.put, List.setIfInBounds_toArray, List.set_cons_zero, List.set_cons_succ, i64_w, i32_w]
    rfl
   refine one_ (i := 7) (N := none) #[true, true, true, true, true, true, true, true] rfl rfl (one_of HT_.out (by kernel_rfl)) (by decide) (fun K hK => ?_)
   have hs30 : w29.cell? ⟨gb166, 0, none⟩ = some (.int .i64 0) := (blk_cell BK166.out 0).trans rfl
   have hfs30 := blk_frozen BK166.out 0
   have hns30_1 := NB183_166.out
   have hms30_1 := NB166_183.out
   have hs31 : w29.cell? ⟨gb166, 1, none⟩ = some (.int .i64 0) := (blk_cell BK166.out 1).trans rfl
   have hfs31 := blk_frozen BK166.out 1
   have hns31_1 := NB183_166.out
   have hms31_1 := NB166_183.out
   have hs33 : w29.cell? ⟨gb166, 2, none⟩ = some (.slice none 0 0) := (blk_cell BK166.out 2).trans rfl
   have hfs33 := blk_frozen BK166.out 2
   have hns33_1 := NB183_166.out
   have hms33_1 := NB166_183.out
   refine skip_ (w1 := ?_) (by rfl) rfl ?_ ?_
   rotate_left
   ·go_simp
    rfl
   refine hK.out _ _ ⟨((cell_far (p := ⟨gb166, _, none⟩) NB183_166.out _).trans (((cell_far (p := ⟨gb166, _, none⟩) NB183_166.out _).trans (((cell_far (p := ⟨gb166, _, none⟩) NB183_166.out _).trans (hHeld.1)))))), ((cell_far (p := ⟨gb166, _, none⟩) NB183_166.out _).trans (((cell_far (p := ⟨gb166, _, none⟩) NB183_166.out _).trans (((cell_far (p := ⟨gb166, _, none⟩) NB183_166.out _).trans (hHeld.2.1)))))), ((cell_far (p := ⟨gb166, _, none⟩) NB183_166.out _).trans (((cell_far (p := ⟨gb166, _, none⟩) NB183_166.out _).trans (((cell_far (p := ⟨gb166, _, none⟩) NB183_166.out _).trans (hHeld.2.2))))))⟩ (fun hHeld => ?_)
   clear hK K
   refine done_ (done_of HT_.out (by kernel_rfl)) ?_
   try go_wp2
   refine bodyPost_ret (results_cell_row rfl _ _ gb166 34 #[.int .i64 t190, .int .i64 t191, .slice Ao32 t192.length co32] (0, 0) _ rfl (by (with_reducible repeat (first | refine blk_drewN ?_ _ | refine blk_drew ?_ | refine blk_alloc ?_ _)); refine blk_put (cs := #[.int .i64 t190, .int .i64 t191, .slice none 0 0]) ?_ 2 _ rfl; (with_reducible repeat (first | refine blk_drewN ?_ _ | refine blk_drew ?_ | refine blk_alloc ?_ _)); refine blk_put (cs := #[.int .i64 t190, .int .i64 0, .slice none 0 0]) ?_ 1 _ rfl; (with_reducible repeat (first | refine blk_drewN ?_ _ | refine blk_drew ?_ | refine blk_alloc ?_ _)); refine blk_put (cs := #[.int .i64 0, .int .i64 0, .slice none 0 0]) ?_ 0 _ rfl; (with_reducible repeat (first | refine blk_drewN ?_ _ | refine blk_drew ?_ | refine blk_alloc ?_ _)); exact BK166.out) Try.underlying34 rfl (by kernel_rfl)) rfl ?_
   exact ⟨_, ab14_, by (with_reducible repeat (first | apply Kd.N_alloc | apply Kd.N_drewN | apply Kd.N_drew)); exact Kd.N_mono (Kd.N_far (p := ⟨gb166, 2, none⟩) (Kd.N_far (p := ⟨gb166, 1, none⟩) (Kd.N_far (p := ⟨gb166, 0, none⟩) (Kd.N_mono HO194.out (fun k_ hk => (⟨hk, hk.2.1⟩ : _ ∧ k_ ≠ gb166))) (fun _ hk => hk.2) (.int .i64 t190)) (fun _ hk => hk.2) (.int .i64 t191)) (fun _ hk => hk.2) (.slice Ao32 t192.length co32)) (fun _ hk => hk.1.1), ab52_, ab63_, ab32_⟩
theorem spec_l92Set.mono : ∀ a0 a1 k, LeO (spec_l92Set.f k a0 a1) (spec_l92Set.f (k + 1) a0 a1) := by
 intro a0 a1 k
 unfold spec_l92Set.f
 repeat' first
   | (with_reducible exact spec_l6Rd_pick.mono _ _ _ _)
   | (with_reducible exact spec_l91Expr.mono _ _ _ _)
   | (with_reducible exact LeO.refl _)
   | (with_reducible exact LeO.none _)
   | (with_reducible refine LeO.ite ?_ ?_)
   | (with_reducible refine LeO.bind ?_ (fun _ => ?_))
theorem spec_l92Set.calls (k : Nat) (g : Nat) (s0_0 : List Int) (s0_1 : Int) (r1 : Int) (r2 : Int) (r3 : Int) (r4 : Int) (r5 : Int) (r6 : List (S34)) (r7 : List (S37)) (r8 : List (S37)) (r9 : Int) (w0 w : World) (hI : IsS66 w0 w g s0_0 s0_1) (hB : Below w0.heap.size w0 w) (h : spec_l92Set.f k s0_0 s0_1 = some (r1, r2, r3, r4, r5, r6, r7, r8, r9)) :
  Calls Try.prog 87 #[.pointer (some ⟨g, 0, none⟩)] w fun e w' => ∃ v5_ v6_ v7_ : Value, e = .returned (.agg #[.int .i64 r1, .int .i64 r2, .int .i64 r3, .int .i64 r4, .int .i64 r5, v5_, v6_, v7_]) ∧ Kd.N k34 34 w' w.heap.size (fun k_ => (w.heap.size ≤ k_) ∧ some k_ ≠ (v6_ : Value).ownBlock ∧ some k_ ≠ (v7_ : Value).ownBlock) v5_ r6 ∧ Kd.N k37 37 w' w.heap.size (fun k_ => (w.heap.size ≤ k_) ∧ some k_ ≠ (v5_ : Value).ownBlock ∧ some k_ ≠ (v7_ : Value).ownBlock) v6_ r7 ∧ Kd.N k37 37 w' w.heap.size (fun k_ => (w.heap.size ≤ k_) ∧ some k_ ≠ (v5_ : Value).ownBlock ∧ some k_ ≠ (v6_ : Value).ownBlock) v7_ r8 ∧ IsS66 w0 w' g s0_0 r9 ∧ Below w0.heap.size w0 w' ∧ KeepBut w w' g none := by
 have hu37 := Try.underlying37
 have HI0 := am hI
 have HK := am (KeepBut.refl w g none)
 have HL := am hB.size
 clear hI
 have HW0 := am hB.size
 have HB := am hB
 clear hB
 have H : ((spec_l6Rd_pick.f k s0_0 s0_1 3).bind fun bt196 => ((spec_l6Rd_pick.f k s0_0 bt196.2 3).bind fun bt198 => ((spec_l91Expr.f k s0_0 bt198.2 (wrap64 (1 + bt198.1))).bind fun bt200 => (some (1, bt196.1, 0, bt200.1, bt200.2.1, bt200.2.2.1, ([] : List (S37)), ([] : List (S37)), bt200.2.2.2))))) = some (r1, r2, r3, r4, r5, r6, r7, r8, r9) := h
 clear h
 obtain ⟨⟨t196, t197⟩, A20, H⟩ := bsm H
 (try dsimp only at H)
 have A2 := am A20
 clear A20
 obtain ⟨⟨t198, t199⟩, A30, H⟩ := bsm H
 (try dsimp only at H)
 have A3 := am A30
 clear A30
 obtain ⟨⟨t200, t201, t202, t205⟩, A40, H⟩ := bsm H
 (try dsimp only at H)
 have A4 := am A40
 clear A40
 simp only [Option.some.injEq, Prod.mk.injEq] at H
 obtain ⟨rfl, rfl, rfl, rfl, rfl, rfl, rfl, rfl, rfl⟩ := H
 go_enter Try.func87, Try.ntmps87
 go_wp2_with (first | ((with_reducible refine gate_dst (N := 2) rfl ?_); refine box_event ?hg (N := 2) ?hd (cs := #[.int .i64 0, .int .i64 0, .int .i64 0, .int .i64 0, .int .i64 0, .slice none 0 0, .slice none 0 0, .slice none 0 0]) (t := 37) ?hr ?_; (case hd => rfl); (case hg => rfl); (case hr => first | (go_simp; done) | (go_simp; rfl)); intro gb195 hg w5 hbox hb; have n0_ := am (IsS66.below ab4_ hb); have n1_ := am (KeepBut.trans ab3_ (KeepBut.of_below hb g none) (.inl rfl)); have n2_ := am (below_step ab5_ hb); have n3_ := am (hbox); have n4_ := am ((by rw [hg]; exact (keep_size (w := w) (g := g) (row := none) ab3_) : w.heap.size ≤ gb195)); have n5_ := am ((Nat.le_trans HW0.out (by rw [hg]; exact (keep_size (w := w) (g := g) (row := none) ab3_) : w.heap.size ≤ gb195) : w0.heap.size ≤ gb195)); have n6_ := am ((by rw [hg]; exact Nat.ne_of_lt (IsS66.lt (show IsS66 w0 _ g s0_0 s0_1 from by repeat (first | (with_reducible first | exact HI0.out | apply IsS66.alloc | apply IsS66.drewN | apply IsS66.drew | apply IsS66.set_1) | exact HI0.out))) : g ≠ gb195)); have n7_ := am ((by rw [hg]; exact Nat.ne_of_gt (IsS66.lt (show IsS66 w0 _ g s0_0 s0_1 from by repeat (first | (with_reducible first | exact HI0.out | apply IsS66.alloc | apply IsS66.drewN | apply IsS66.drew | apply IsS66.set_1) | exact HI0.out))) : gb195 ≠ g)); clear HI0 HK HB; have HI0 := n0_; have HK := n1_; have HB := n2_; have BK195 := n3_; have GW195 := n4_; have GE195 := n5_; have NB0_195 := n6_; have NB195_0 := n7_; clear n0_ n1_ n2_ n3_ n4_ n5_ n6_ n7_ hb hbox hg) | ((with_reducible refine gate_callee (f := 50) rfl ?_); refine goesL_ (some 5) rfl rfl Try.func50 (by kernel_rfl) rfl #[.pointer (some ⟨g, 0, none⟩), .int .i64 3] rfl ab1_ ?_; (with_reducible refine (spec_l6Rd_pick.calls k g s0_0 s0_1 3 t196 t197 w0 _ ?side1 ?side2 A2.out).mono ?_); (case side1 => exact ab85_); (case side2 => repeat (first | (with_reducible first | exact HB.out | apply below_alloc | apply pw_below_drewN | apply below_drew1 | refine below_set ?_ (IsS66.ge HI0.out) | refine below_set ?_ GE195.out) | exact HB.out)); rintro e w6 ⟨rfl, hi, hb, hk⟩; refine ⟨_, rfl, ?_⟩; have n0_ := am (KeepBut.blk hk (g' := gb195) (o := .cells #[.int .i64 0, .int .i64 0, .int .i64 0, .int .i64 0, .int .i64 0, .slice none 0 0, .slice none 0 0, .slice none 0 0] 37 (0, 0)) (aG_ BK195.out) NB195_0.out (by simp)); have n1_ := am (KeepBut.trans ab53_ hk (.inl rfl)); have n2_ := am (hb); have n3_ := am (hi); clear BK195 HK HB HI0; have BK195 := n0_; have HK := n1_; have HB := n2_; have HI0 := n3_; clear n0_ n1_ n2_ n3_; (try clear hb); (try clear hb2); (try clear hk); (try clear hi)) | ((with_reducible refine gate_callee (f := 50) rfl ?_); refine goesL_ (some 9) rfl rfl Try.func50 (by kernel_rfl) rfl #[.pointer (some ⟨g, 0, none⟩), .int .i64 3] rfl ab1_ ?_; (with_reducible refine (spec_l6Rd_pick.calls k g s0_0 t197 3 t198 t199 w0 _ ?side1 ?side2 A3.out).mono ?_); (case side1 => exact ab85_); (case side2 => repeat (first | (with_reducible first | exact HB.out | apply below_alloc | apply pw_below_drewN | apply below_drew1 | refine below_set ?_ (IsS66.ge HI0.out) | refine below_set ?_ GE195.out) | exact HB.out)); rintro e w7 ⟨rfl, hi, hb, hk⟩; refine ⟨_, rfl, ?_⟩; have n0_ := am (KeepBut.blk hk (g' := gb195) (o := .cells #[.int .i64 0, .int .i64 0, .int .i64 0, .int .i64 0, .int .i64 0, .slice none 0 0, .slice none 0 0, .slice none 0 0] 37 (0, 0)) (aG_ BK195.out) NB195_0.out (by simp)); have n1_ := am (KeepBut.trans ab53_ hk (.inl rfl)); have n2_ := am (hb); have n3_ := am (hi); clear BK195 HK HB HI0; have BK195 := n0_; have HK := n1_; have HB := n2_; have HI0 := n3_; clear n0_ n1_ n2_ n3_; (try clear hb); (try clear hb2); (try clear hk); (try clear hi)) | ((with_reducible refine gate_callee (f := 91) rfl ?_); refine goesL_ (some 11) rfl rfl Try.func91 (by kernel_rfl) rfl #[.pointer (some ⟨g, 0, none⟩), .int .i64 (wrap64 (1 + t198))] rfl ab1_ ?_; (with_reducible refine (spec_l91Expr.calls k g s0_0 t199 (wrap64 (1 + t198)) t200 t201 t202 t205 w0 _ ?side1 ?side2 A4.out).mono ?_); (case side1 => exact ab85_); (case side2 => repeat (first | (with_reducible first | exact HB.out | apply below_alloc | apply pw_below_drewN | apply below_drew1 | refine below_set ?_ (IsS66.ge HI0.out) | refine below_set ?_ GE195.out) | exact HB.out)); rintro e w8 ⟨v203, rfl, ho0, hi, hb, hk⟩; refine ⟨_, rfl, ?_⟩; have n0_ := am (KeepBut.blk hk (g' := gb195) (o := .cells #[.int .i64 0, .int .i64 0, .int .i64 0, .int .i64 0, .int .i64 0, .slice none 0 0, .slice none 0 0, .slice none 0 0] 37 (0, 0)) (aG_ BK195.out) NB195_0.out (by simp)); have n1_ := am (Kd.N_lower (Kd.N_mono (ok' := fun k_ => (w.heap.size ≤ k_) ∧ k_ ≠ gb195 ∧ k_ ≠ g) ho0 (fun k_ hk_ => ⟨(Nat.le_trans (keep_size (w := w) (g := g) (row := none) ab53_) hk_), (Kd.freshB (g := gb195) (o := .cells #[.int .i64 0, .int .i64 0, .int .i64 0, .int .i64 0, .int .i64 0, .slice none 0 0, .slice none 0 0, .slice none 0 0] 37 (0, 0)) (aG_ BK195.out) k_ hk_), (IsS66.fresh ab85_ k_ hk_)⟩)) (keep_size (w := w) (g := g) (row := none) ab53_)); have n2_ := am (KeepBut.trans ab53_ hk (.inl rfl)); have n3_ := am (hb); have n4_ := am (hi); clear BK195 HK HB HI0; have BK195 := n0_; have HO204 := n1_; have HK := n2_; have HB := n3_; have HI0 := n4_; clear n0_ n1_ n2_ n3_ n4_; (try clear hb); (try clear hb2); (try clear hk); (try clear hi); (try clear ho0); obtain ⟨Ao9, co9, eo9⟩ := Kd.N_slice HO204.out; subst eo9; have hnb10 := NB195_0.out; have hnc10 := NB0_195.out; obtain ⟨hcz11_0, hcz11_1, hcz11_2, hcz11_3, hcz11_4, hcz11_5, hcz11_6, hcz11_7, hfz11_0, hfz11_1, hfz11_2, hfz11_3, hfz11_4, hfz11_5, hfz11_6, hfz11_7⟩ := bcf8_ BK195.out))
 refine bodyPost_ret (results_cell_row rfl _ _ gb195 37 #[.int .i64 1, .int .i64 t196, .int .i64 0, .int .i64 t200, .int .i64 t201, .slice Ao9 t202.length co9, .slice none 0 0, .slice none 0 0] (0, 0) _ rfl (by (with_reducible repeat (first | refine blk_drewN ?_ _ | refine blk_drew ?_ | refine blk_alloc ?_ _)); refine blk_put (cs := #[.int .i64 1, .int .i64 t196, .int .i64 0, .int .i64 t200, .int .i64 t201, .slice Ao9 t202.length co9, .slice none 0 0, .slice none 0 0]) ?_ 7 _ rfl; (with_reducible repeat (first | refine blk_drewN ?_ _ | refine blk_drew ?_ | refine blk_alloc ?_ _)); refine blk_put (cs := #[.int .i64 1, .int .i64 t196, .int .i64 0, .int .i64 t200, .int .i64 t201, .slice Ao9 t202.length co9, .slice none 0 0, .slice none 0 0]) ?_ 6 _ rfl; (with_reducible repeat (first | refine blk_drewN ?_ _ | refine blk_drew ?_ | refine blk_alloc ?_ _)); refine blk_put (cs := #[.int .i64 1, .int .i64 t196, .int .i64 0, .int .i64 t200, .int .i64 t201, .slice none 0 0, .slice none 0 0, .slice none 0 0]) ?_ 5 _ rfl; (with_reducible repeat (first | refine blk_drewN ?_ _ | refine blk_drew ?_ | refine blk_alloc ?_ _)); refine blk_put (cs := #[.int .i64 1, .int .i64 t196, .int .i64 0, .int .i64 t200, .int .i64 0, .slice none 0 0, .slice none 0 0, .slice none 0 0]) ?_ 4 _ rfl; (with_reducible repeat (first | refine blk_drewN ?_ _ | refine blk_drew ?_ | refine blk_alloc ?_ _)); refine blk_put (cs := #[.int .i64 1, .int .i64 t196, .int .i64 0, .int .i64 0, .int .i64 0, .slice none 0 0, .slice none 0 0, .slice none 0 0]) ?_ 3 _ rfl; (with_reducible repeat (first | refine blk_drewN ?_ _ | refine blk_drew ?_ | refine blk_alloc ?_ _)); refine blk_put (cs := #[.int .i64 1, .int .i64 t196, .int .i64 0, .int .i64 0, .int .i64 0, .slice none 0 0, .slice none 0 0, .slice none 0 0]) ?_ 2 _ rfl; (with_reducible repeat (first | refine blk_drewN ?_ _ | refine blk_drew ?_ | refine blk_alloc ?_ _)); refine blk_put (cs := #[.int .i64 1, .int .i64 0, .int .i64 0, .int .i64 0, .int .i64 0, .slice none 0 0, .slice none 0 0, .slice none 0 0]) ?_ 1 _ rfl; (with_reducible repeat (first | refine blk_drewN ?_ _ | refine blk_drew ?_ | refine blk_alloc ?_ _)); refine blk_put (cs := #[.int .i64 0, .int .i64 0, .int .i64 0, .int .i64 0, .int .i64 0, .slice none 0 0, .slice none 0 0, .slice none 0 0]) ?_ 0 _ rfl; (with_reducible repeat (first | refine blk_drewN ?_ _ | refine blk_drew ?_ | refine blk_alloc ?_ _)); exact BK195.out) Try.underlying37 rfl (by kernel_rfl)) rfl ?_
 exact ⟨_, _, _, ab14_, by (with_reducible repeat (first | apply Kd.N_alloc | apply Kd.N_drewN | apply Kd.N_drew)); exact Kd.N_mono (Kd.N_far (p := ⟨gb195, 7, none⟩) (Kd.N_far (p := ⟨gb195, 6, none⟩) (Kd.N_far (p := ⟨gb195, 5, none⟩) (Kd.N_far (p := ⟨gb195, 4, none⟩) (Kd.N_far (p := ⟨gb195, 3, none⟩) (Kd.N_far (p := ⟨gb195, 2, none⟩) (Kd.N_far (p := ⟨gb195, 1, none⟩) (Kd.N_far (p := ⟨gb195, 0, none⟩) (Kd.N_mono HO204.out (fun k_ hk => (⟨hk, hk.2.1⟩ : _ ∧ k_ ≠ gb195))) (fun _ hk => hk.2) (.int .i64 1)) (fun _ hk => hk.2) (.int .i64 t196)) (fun _ hk => hk.2) (.int .i64 0)) (fun _ hk => hk.2) (.int .i64 t200)) (fun _ hk => hk.2) (.int .i64 t201)) (fun _ hk => hk.2) (.slice Ao9 t202.length co9)) (fun _ hk => hk.2) (.slice none 0 0)) (fun _ hk => hk.2) (.slice none 0 0)) (fun _ hk => ⟨hk.1.1, ⟨(by simp [Value.ownBlock]), (by simp [Value.ownBlock])⟩⟩), by first | exact Kd.R_nil _ _ _ _ _ | exact Kd.N_nil _ _ _ _ _ | exact Kd.V_nil _ _ _ _ _ | exact Kd.Q_nil _ _ _ _ _ | exact Kd.S_nil _ _ _ _ _, by first | exact Kd.R_nil _ _ _ _ _ | exact Kd.N_nil _ _ _ _ _ | exact Kd.V_nil _ _ _ _ _ | exact Kd.Q_nil _ _ _ _ _ | exact Kd.S_nil _ _ _ _ _, ab85_, by repeat (first | (with_reducible first | exact HB.out | apply below_alloc | apply pw_below_drewN | apply below_drew1 | refine below_set ?_ (IsS66.ge HI0.out) | refine below_set ?_ GE195.out) | exact HB.out), ab53_⟩
theorem spec_l92Talk.mono : ∀ a0 a1 a2 k, LeO (spec_l92Talk.f k a0 a1 a2) (spec_l92Talk.f (k + 1) a0 a1 a2) := by
 intro a0 a1 a2 k
 unfold spec_l92Talk.f
 repeat' first
   | (with_reducible exact spec_l6Rd_pick.mono _ _ _ _)
   | (with_reducible exact spec_l91Expr.mono _ _ _ _)
   | (with_reducible exact spec_l92Set.mono _ _ _)
   | (with_reducible exact LeO.refl _)
   | (with_reducible exact LeO.none _)
   | (with_reducible refine LeO.ite ?_ ?_)
   | (with_reducible refine LeO.bind ?_ (fun _ => ?_))
theorem spec_l92Talk.calls (k : Nat) (g : Nat) (s0_0 : List Int) (s0_1 : Int) (a1 : Int) (r1 : Int) (r2 : Int) (r3 : Int) (r4 : Int) (r5 : Int) (r6 : List (S34)) (r7 : List (S37)) (r8 : List (S37)) (r9 : Int) (w0 w : World) (hI : IsS66 w0 w g s0_0 s0_1) (hB : Below w0.heap.size w0 w) (h : spec_l92Talk.f k s0_0 s0_1 a1 = some (r1, r2, r3, r4, r5, r6, r7, r8, r9)) :
  Calls Try.prog 90 #[.pointer (some ⟨g, 0, none⟩), .int .i64 a1] w fun e w' => ∃ v5_ v6_ v7_ : Value, e = .returned (.agg #[.int .i64 r1, .int .i64 r2, .int .i64 r3, .int .i64 r4, .int .i64 r5, v5_, v6_, v7_]) ∧ Kd.N k34 34 w' w.heap.size (fun k_ => (w.heap.size ≤ k_) ∧ some k_ ≠ (v6_ : Value).ownBlock ∧ some k_ ≠ (v7_ : Value).ownBlock) v5_ r6 ∧ Kd.N k37 37 w' w.heap.size (fun k_ => (w.heap.size ≤ k_) ∧ some k_ ≠ (v5_ : Value).ownBlock ∧ some k_ ≠ (v7_ : Value).ownBlock) v6_ r7 ∧ Kd.N k37 37 w' w.heap.size (fun k_ => (w.heap.size ≤ k_) ∧ some k_ ≠ (v5_ : Value).ownBlock ∧ some k_ ≠ (v6_ : Value).ownBlock) v7_ r8 ∧ IsS66 w0 w' g s0_0 r9 ∧ Below w0.heap.size w0 w' ∧ KeepBut w w' g none := by
 have hu37 := Try.underlying37
 have HI0 := am hI
 have HK := am (KeepBut.refl w g none)
 have HL := am hB.size
 clear hI
 have HW0 := am hB.size
 have HB := am hB
 clear hB
 have H : (if a1 < 1 then ((spec_l92Set.f k s0_0 s0_1).bind fun bt207 => (some (bt207.1, bt207.2.1, bt207.2.2.1, bt207.2.2.2.1, bt207.2.2.2.2.1, bt207.2.2.2.2.2.1, bt207.2.2.2.2.2.2.1, bt207.2.2.2.2.2.2.2.1, bt207.2.2.2.2.2.2.2.2))) else ((spec_l6Rd_pick.f k s0_0 s0_1 a1).bind fun bt222 => ((spec_l6Rd_pick.f k s0_0 bt222.2 2).bind fun bt224 => (if bt224.1 = 0 then ((spec_l6Rd_pick.f k s0_0 bt224.2 3).bind fun bt226 => ((spec_l91Expr.f k s0_0 bt226.2 (wrap64 (1 + bt226.1))).bind fun bt228 => (some (4, 0, bt222.1, bt228.1, bt228.2.1, bt228.2.2.1, ([] : List (S37)), ([] : List (S37)), bt228.2.2.2)))) else ((spec_l6Rd_pick.f k s0_0 bt224.2 3).bind fun bt234 => (some (5, bt234.1, bt222.1, 0, 0, ([] : List (S34)), ([] : List (S37)), ([] : List (S37)), bt234.2))))))) = some (r1, r2, r3, r4, r5, r6, r7, r8, r9) := h
 clear h
 have HH_ := am H
 clear H
 go_enter Try.func90, Try.ntmps90
 go_upto_region 1 with (first | ((with_reducible refine gate_dst (N := 4) rfl ?_); refine box_event ?hg (N := 4) ?hd (cs := #[.int .i64 0, .int .i64 0, .int .i64 0, .int .i64 0, .int .i64 0, .slice none 0 0, .slice none 0 0, .slice none 0 0]) (t := 37) ?hr ?_; (case hd => rfl); (case hg => rfl); (case hr => first | (go_simp; done) | (go_simp; rfl)); intro gb206 hg w5 hbox hb; have n0_ := am (IsS66.below ab4_ hb); have n1_ := am (KeepBut.trans ab3_ (KeepBut.of_below hb g none) (.inl rfl)); have n2_ := am (below_step ab5_ hb); have n3_ := am (hbox); have n4_ := am ((by rw [hg]; exact (keep_size (w := w) (g := g) (row := none) ab3_) : w.heap.size ≤ gb206)); have n5_ := am ((Nat.le_trans HW0.out (by rw [hg]; exact (keep_size (w := w) (g := g) (row := none) ab3_) : w.heap.size ≤ gb206) : w0.heap.size ≤ gb206)); have n6_ := am ((by rw [hg]; exact Nat.ne_of_lt (IsS66.lt (show IsS66 w0 _ g s0_0 s0_1 from by repeat (first | (with_reducible first | exact HI0.out | apply IsS66.alloc | apply IsS66.drewN | apply IsS66.drew | apply IsS66.set_1) | exact HI0.out))) : g ≠ gb206)); have n7_ := am ((by rw [hg]; exact Nat.ne_of_gt (IsS66.lt (show IsS66 w0 _ g s0_0 s0_1 from by repeat (first | (with_reducible first | exact HI0.out | apply IsS66.alloc | apply IsS66.drewN | apply IsS66.drew | apply IsS66.set_1) | exact HI0.out))) : gb206 ≠ g)); clear HI0 HK HB; have HI0 := n0_; have HK := n1_; have HB := n2_; have BK206 := n3_; have GW206 := n4_; have GE206 := n5_; have NB0_206 := n6_; have NB206_0 := n7_; clear n0_ n1_ n2_ n3_ n4_ n5_ n6_ n7_ hb hbox hg))
 have H := HH_.out
 clear HH_
 by_cases c3 : a1 < 1
 ·rw [if_pos c3] at H
  have c3b0 : decide (a1 < 1) = true := decide_eq_true c3
  clear c3
  obtain ⟨⟨t207, t208, t209, t210, t211, t212, t215, t218, t221⟩, A40, H⟩ := bsm H
  (try dsimp only at H)
  have A4 := am A40
  clear A40
  simp only [Option.some.injEq, Prod.mk.injEq] at H
  obtain ⟨rfl, rfl, rfl, rfl, rfl, rfl, rfl, rfl, rfl⟩ := H
  go_wp2_with (first | ((with_reducible refine gate_callee (f := 87) rfl ?_); refine goesL_ (some 9) rfl rfl Try.func87 (by kernel_rfl) rfl #[.pointer (some ⟨g, 0, none⟩)] rfl ab1_ ?_; (with_reducible refine (spec_l92Set.calls k g s0_0 s0_1 t207 t208 t209 t210 t211 t212 t215 t218 t221 w0 _ ?side1 ?side2 A4.out).mono ?_); (case side1 => exact ab43_); (case side2 => exact ab66_); rintro e w6 ⟨v213, v216, v219, rfl, ho0, ho1, ho2, hi, hb, hk⟩; refine ⟨_, rfl, ?_⟩; have n0_ := am (KeepBut.blk hk (g' := gb206) (o := .cells #[.int .i64 0, .int .i64 0, .int .i64 0, .int .i64 0, .int .i64 0, .slice none 0 0, .slice none 0 0, .slice none 0 0] 37 (0, 0)) (aG_ BK206.out) NB206_0.out (by simp)); have n1_ := am (Kd.N_lower (Kd.N_mono (ok' := fun k_ => (w.heap.size ≤ k_) ∧ some k_ ≠ (v216 : Value).ownBlock ∧ some k_ ≠ (v219 : Value).ownBlock ∧ k_ ≠ gb206 ∧ k_ ≠ g) ho0 (fun k_ hk_ => ⟨(Nat.le_trans (keep_size (w := w) (g := g) (row := none) ab17_) hk_.1), hk_.2.1, hk_.2.2, (Kd.freshB (g := gb206) (o := .cells #[.int .i64 0, .int .i64 0, .int .i64 0, .int .i64 0, .int .i64 0, .slice none 0 0, .slice none 0 0, .slice none 0 0] 37 (0, 0)) (aG_ BK206.out) k_ hk_.1), (IsS66.fresh ab43_ k_ hk_.1)⟩)) (keep_size (w := w) (g := g) (row := none) ab17_)); have n2_ := am (Kd.N_lower (Kd.N_mono (ok' := fun k_ => (w.heap.size ≤ k_) ∧ some k_ ≠ (v213 : Value).ownBlock ∧ some k_ ≠ (v219 : Value).ownBlock ∧ k_ ≠ gb206 ∧ k_ ≠ g) ho1 (fun k_ hk_ => ⟨(Nat.le_trans (keep_size (w := w) (g := g) (row := none) ab17_) hk_.1), hk_.2.1, hk_.2.2, (Kd.freshB (g := gb206) (o := .cells #[.int .i64 0, .int .i64 0, .int .i64 0, .int .i64 0, .int .i64 0, .slice none 0 0, .slice none 0 0, .slice none 0 0] 37 (0, 0)) (aG_ BK206.out) k_ hk_.1), (IsS66.fresh ab43_ k_ hk_.1)⟩)) (keep_size (w := w) (g := g) (row := none) ab17_)); have n3_ := am (Kd.N_lower (Kd.N_mono (ok' := fun k_ => (w.heap.size ≤ k_) ∧ some k_ ≠ (v213 : Value).ownBlock ∧ some k_ ≠ (v216 : Value).ownBlock ∧ k_ ≠ gb206 ∧ k_ ≠ g) ho2 (fun k_ hk_ => ⟨(Nat.le_trans (keep_size (w := w) (g := g) (row := none) ab17_) hk_.1), hk_.2.1, hk_.2.2, (Kd.freshB (g := gb206) (o := .cells #[.int .i64 0, .int .i64 0, .int .i64 0, .int .i64 0, .int .i64 0, .slice none 0 0, .slice none 0 0, .slice none 0 0] 37 (0, 0)) (aG_ BK206.out) k_ hk_.1), (IsS66.fresh ab43_ k_ hk_.1)⟩)) (keep_size (w := w) (g := g) (row := none) ab17_)); have n4_ := am (KeepBut.trans ab17_ hk (.inl rfl)); have n5_ := am (hb); have n6_ := am (hi); clear BK206 HK HB HI0; have BK206 := n0_; have HO214 := n1_; have HO217 := n2_; have HO220 := n3_; have HK := n4_; have HB := n5_; have HI0 := n6_; clear n0_ n1_ n2_ n3_ n4_ n5_ n6_; (try clear hb); (try clear hb2); (try clear hk); (try clear hi); (try clear ho0); (try clear ho1); (try clear ho2); have hnb7 := NB206_0.out; have hnc7 := NB0_206.out; obtain ⟨hcz8_0, hcz8_1, hcz8_2, hcz8_3, hcz8_4, hcz8_5, hcz8_6, hcz8_7, hfz8_0, hfz8_1, hfz8_2, hfz8_3, hfz8_4, hfz8_5, hfz8_6, hfz8_7⟩ := bcf8_ BK206.out; obtain ⟨Ao9, co9, eo9⟩ := Kd.N_slice HO214.out; subst eo9; obtain ⟨Ao10, co10, eo10⟩ := Kd.N_slice HO217.out; subst eo10; obtain ⟨Ao11, co11, eo11⟩ := Kd.N_slice HO220.out; subst eo11))
  refine bodyPost_ret (results_cell_row rfl _ _ gb206 37 #[.int .i64 t207, .int .i64 t208, .int .i64 t209, .int .i64 t210, .int .i64 t211, .slice Ao9 t212.length co9, .slice Ao10 t215.length co10, .slice Ao11 t218.length co11] (0, 0) _ rfl (by (with_reducible repeat (first | refine blk_drewN ?_ _ | refine blk_drew ?_ | refine blk_alloc ?_ _)); refine blk_put (cs := #[.int .i64 t207, .int .i64 t208, .int .i64 t209, .int .i64 t210, .int .i64 t211, .slice Ao9 t212.length co9, .slice Ao10 t215.length co10, .slice none 0 0]) ?_ 7 _ rfl; (with_reducible repeat (first | refine blk_drewN ?_ _ | refine blk_drew ?_ | refine blk_alloc ?_ _)); refine blk_put (cs := #[.int .i64 t207, .int .i64 t208, .int .i64 t209, .int .i64 t210, .int .i64 t211, .slice Ao9 t212.length co9, .slice none 0 0, .slice none 0 0]) ?_ 6 _ rfl; (with_reducible repeat (first | refine blk_drewN ?_ _ | refine blk_drew ?_ | refine blk_alloc ?_ _)); refine blk_put (cs := #[.int .i64 t207, .int .i64 t208, .int .i64 t209, .int .i64 t210, .int .i64 t211, .slice none 0 0, .slice none 0 0, .slice none 0 0]) ?_ 5 _ rfl; (with_reducible repeat (first | refine blk_drewN ?_ _ | refine blk_drew ?_ | refine blk_alloc ?_ _)); refine blk_put (cs := #[.int .i64 t207, .int .i64 t208, .int .i64 t209, .int .i64 t210, .int .i64 0, .slice none 0 0, .slice none 0 0, .slice none 0 0]) ?_ 4 _ rfl; (with_reducible repeat (first | refine blk_drewN ?_ _ | refine blk_drew ?_ | refine blk_alloc ?_ _)); refine blk_put (cs := #[.int .i64 t207, .int .i64 t208, .int .i64 t209, .int .i64 0, .int .i64 0, .slice none 0 0, .slice none 0 0, .slice none 0 0]) ?_ 3 _ rfl; (with_reducible repeat (first | refine blk_drewN ?_ _ | refine blk_drew ?_ | refine blk_alloc ?_ _)); refine blk_put (cs := #[.int .i64 t207, .int .i64 t208, .int .i64 0, .int .i64 0, .int .i64 0, .slice none 0 0, .slice none 0 0, .slice none 0 0]) ?_ 2 _ rfl; (with_reducible repeat (first | refine blk_drewN ?_ _ | refine blk_drew ?_ | refine blk_alloc ?_ _)); refine blk_put (cs := #[.int .i64 t207, .int .i64 0, .int .i64 0, .int .i64 0, .int .i64 0, .slice none 0 0, .slice none 0 0, .slice none 0 0]) ?_ 1 _ rfl; (with_reducible repeat (first | refine blk_drewN ?_ _ | refine blk_drew ?_ | refine blk_alloc ?_ _)); refine blk_put (cs := #[.int .i64 0, .int .i64 0, .int .i64 0, .int .i64 0, .int .i64 0, .slice none 0 0, .slice none 0 0, .slice none 0 0]) ?_ 0 _ rfl; (with_reducible repeat (first | refine blk_drewN ?_ _ | refine blk_drew ?_ | refine blk_alloc ?_ _)); exact BK206.out) Try.underlying37 rfl (by kernel_rfl)) rfl ?_
  exact ⟨_, _, _, ab14_, by (with_reducible repeat (first | apply Kd.N_alloc | apply Kd.N_drewN | apply Kd.N_drew)); exact Kd.N_mono (Kd.N_far (p := ⟨gb206, 7, none⟩) (Kd.N_far (p := ⟨gb206, 6, none⟩) (Kd.N_far (p := ⟨gb206, 5, none⟩) (Kd.N_far (p := ⟨gb206, 4, none⟩) (Kd.N_far (p := ⟨gb206, 3, none⟩) (Kd.N_far (p := ⟨gb206, 2, none⟩) (Kd.N_far (p := ⟨gb206, 1, none⟩) (Kd.N_far (p := ⟨gb206, 0, none⟩) (Kd.N_mono HO214.out (fun k_ hk => (⟨hk, hk.2.2.2.1⟩ : _ ∧ k_ ≠ gb206))) (fun _ hk => hk.2) (.int .i64 t207)) (fun _ hk => hk.2) (.int .i64 t208)) (fun _ hk => hk.2) (.int .i64 t209)) (fun _ hk => hk.2) (.int .i64 t210)) (fun _ hk => hk.2) (.int .i64 t211)) (fun _ hk => hk.2) (.slice Ao9 t212.length co9)) (fun _ hk => hk.2) (.slice Ao10 t215.length co10)) (fun _ hk => hk.2) (.slice Ao11 t218.length co11)) (fun _ hk => ⟨hk.1.1, ⟨hk.1.2.1, hk.1.2.2.1⟩⟩), by (with_reducible repeat (first | apply Kd.N_alloc | apply Kd.N_drewN | apply Kd.N_drew)); exact Kd.N_mono (Kd.N_far (p := ⟨gb206, 7, none⟩) (Kd.N_far (p := ⟨gb206, 6, none⟩) (Kd.N_far (p := ⟨gb206, 5, none⟩) (Kd.N_far (p := ⟨gb206, 4, none⟩) (Kd.N_far (p := ⟨gb206, 3, none⟩) (Kd.N_far (p := ⟨gb206, 2, none⟩) (Kd.N_far (p := ⟨gb206, 1, none⟩) (Kd.N_far (p := ⟨gb206, 0, none⟩) (Kd.N_mono HO217.out (fun k_ hk => (⟨hk, hk.2.2.2.1⟩ : _ ∧ k_ ≠ gb206))) (fun _ hk => hk.2) (.int .i64 t207)) (fun _ hk => hk.2) (.int .i64 t208)) (fun _ hk => hk.2) (.int .i64 t209)) (fun _ hk => hk.2) (.int .i64 t210)) (fun _ hk => hk.2) (.int .i64 t211)) (fun _ hk => hk.2) (.slice Ao9 t212.length co9)) (fun _ hk => hk.2) (.slice Ao10 t215.length co10)) (fun _ hk => hk.2) (.slice Ao11 t218.length co11)) (fun _ hk => ⟨hk.1.1, ⟨hk.1.2.1, hk.1.2.2.1⟩⟩), by (with_reducible repeat (first | apply Kd.N_alloc | apply Kd.N_drewN | apply Kd.N_drew)); exact Kd.N_mono (Kd.N_far (p := ⟨gb206, 7, none⟩) (Kd.N_far (p := ⟨gb206, 6, none⟩) (Kd.N_far (p := ⟨gb206, 5, none⟩) (Kd.N_far (p := ⟨gb206, 4, none⟩) (Kd.N_far (p := ⟨gb206, 3, none⟩) (Kd.N_far (p := ⟨gb206, 2, none⟩) (Kd.N_far (p := ⟨gb206, 1, none⟩) (Kd.N_far (p := ⟨gb206, 0, none⟩) (Kd.N_mono HO220.out (fun k_ hk => (⟨hk, hk.2.2.2.1⟩ : _ ∧ k_ ≠ gb206))) (fun _ hk => hk.2) (.int .i64 t207)) (fun _ hk => hk.2) (.int .i64 t208)) (fun _ hk => hk.2) (.int .i64 t209)) (fun _ hk => hk.2) (.int .i64 t210)) (fun _ hk => hk.2) (.int .i64 t211)) (fun _ hk => hk.2) (.slice Ao9 t212.length co9)) (fun _ hk => hk.2) (.slice Ao10 t215.length co10)) (fun _ hk => hk.2) (.slice Ao11 t218.length co11)) (fun _ hk => ⟨hk.1.1, ⟨hk.1.2.1, hk.1.2.2.1⟩⟩), ab43_, ab66_, ab17_⟩
 rw [if_neg c3] at H
 have c3b0 : decide (a1 < 1) = false := decide_eq_false c3
 clear c3
 obtain ⟨⟨t222, t223⟩, A120, H⟩ := bsm H
 (try dsimp only at H)
 have A12 := am A120
 clear A120
 obtain ⟨⟨t224, t225⟩, A130, H⟩ := bsm H
 (try dsimp only at H)
 have A13 := am A130
 clear A130
 by_cases c14 : t224 = 0
 ·rw [if_pos c14] at H
  have c14b0 : (t224 == 0) = true := beq_iff_eq.mpr c14
  have c14b1 : (t224 != 0) = false := bne_eq_false_iff_eq.mpr c14
  clear c14
  obtain ⟨⟨t226, t227⟩, A150, H⟩ := bsm H
  (try dsimp only at H)
  have A15 := am A150
  clear A150
  obtain ⟨⟨t228, t229, t230, t233⟩, A160, H⟩ := bsm H
  (try dsimp only at H)
  have A16 := am A160
  clear A160
  simp only [Option.some.injEq, Prod.mk.injEq] at H
  obtain ⟨rfl, rfl, rfl, rfl, rfl, rfl, rfl, rfl, rfl⟩ := H
  go_wp2_with (first | ((with_reducible refine gate_callee (f := 50) rfl ?_); refine goesL_ (some 12) rfl rfl Try.func50 (by kernel_rfl) rfl #[.pointer (some ⟨g, 0, none⟩), .int .i64 a1] rfl ab1_ ?_; (with_reducible refine (spec_l6Rd_pick.calls k g s0_0 s0_1 a1 t222 t223 w0 _ ?side1 ?side2 A12.out).mono ?_); (case side1 => exact ab43_); (case side2 => exact ab66_); rintro e w18 ⟨rfl, hi, hb, hk⟩; refine ⟨_, rfl, ?_⟩; have n0_ := am (KeepBut.blk hk (g' := gb206) (o := .cells #[.int .i64 0, .int .i64 0, .int .i64 0, .int .i64 0, .int .i64 0, .slice none 0 0, .slice none 0 0, .slice none 0 0] 37 (0, 0)) (aG_ BK206.out) NB206_0.out (by simp)); have n1_ := am (KeepBut.trans ab17_ hk (.inl rfl)); have n2_ := am (hb); have n3_ := am (hi); clear BK206 HK HB HI0; have BK206 := n0_; have HK := n1_; have HB := n2_; have HI0 := n3_; clear n0_ n1_ n2_ n3_; (try clear hb); (try clear hb2); (try clear hk); (try clear hi)) | ((with_reducible refine gate_callee (f := 50) rfl ?_); refine goesL_ (some 14) rfl rfl Try.func50 (by kernel_rfl) rfl #[.pointer (some ⟨g, 0, none⟩), .int .i64 2] rfl ab1_ ?_; (with_reducible refine (spec_l6Rd_pick.calls k g s0_0 t223 2 t224 t225 w0 _ ?side1 ?side2 A13.out).mono ?_); (case side1 => exact ab43_); (case side2 => exact ab66_); rintro e w19 ⟨rfl, hi, hb, hk⟩; refine ⟨_, rfl, ?_⟩; have n0_ := am (KeepBut.blk hk (g' := gb206) (o := .cells #[.int .i64 0, .int .i64 0, .int .i64 0, .int .i64 0, .int .i64 0, .slice none 0 0, .slice none 0 0, .slice none 0 0] 37 (0, 0)) (aG_ BK206.out) NB206_0.out (by simp)); have n1_ := am (KeepBut.trans ab17_ hk (.inl rfl)); have n2_ := am (hb); have n3_ := am (hi); clear BK206 HK HB HI0; have BK206 := n0_; have HK := n1_; have HB := n2_; have HI0 := n3_; clear n0_ n1_ n2_ n3_; (try clear hb); (try clear hb2); (try clear hk); (try clear hi)) | ((with_reducible refine gate_callee (f := 50) rfl ?_); refine goesL_ (some 19) rfl rfl Try.func50 (by kernel_rfl) rfl #[.pointer (some ⟨g, 0, none⟩), .int .i64 3] rfl ab1_ ?_; (with_reducible refine (spec_l6Rd_pick.calls k g s0_0 t225 3 t226 t227 w0 _ ?side1 ?side2 A15.out).mono ?_); (case side1 => exact ab43_); (case side2 => exact ab66_); rintro e w20 ⟨rfl, hi, hb, hk⟩; refine ⟨_, rfl, ?_⟩; have n0_ := am (KeepBut.blk hk (g' := gb206) (o := .cells #[.int .i64 0, .int .i64 0, .int .i64 0, .int .i64 0, .int .i64 0, .slice none 0 0, .slice none 0 0, .slice none 0 0] 37 (0, 0)) (aG_ BK206.out) NB206_0.out (by simp)); have n1_ := am (KeepBut.trans ab17_ hk (.inl rfl)); have n2_ := am (hb); have n3_ := am (hi); clear BK206 HK HB HI0; have BK206 := n0_; have HK := n1_; have HB := n2_; have HI0 := n3_; clear n0_ n1_ n2_ n3_; (try clear hb); (try clear hb2); (try clear hk); (try clear hi)) | ((with_reducible refine gate_callee (f := 91) rfl ?_); refine goesL_ (some 21) rfl rfl Try.func91 (by kernel_rfl) rfl #[.pointer (some ⟨g, 0, none⟩), .int .i64 (wrap64 (1 + t226))] rfl ab1_ ?_; (with_reducible refine (spec_l91Expr.calls k g s0_0 t227 (wrap64 (1 + t226)) t228 t229 t230 t233 w0 _ ?side1 ?side2 A16.out).mono ?_); (case side1 => exact ab43_); (case side2 => exact ab66_); rintro e w21 ⟨v231, rfl, ho0, hi, hb, hk⟩; refine ⟨_, rfl, ?_⟩; have n0_ := am (KeepBut.blk hk (g' := gb206) (o := .cells #[.int .i64 0, .int .i64 0, .int .i64 0, .int .i64 0, .int .i64 0, .slice none 0 0, .slice none 0 0, .slice none 0 0] 37 (0, 0)) (aG_ BK206.out) NB206_0.out (by simp)); have n1_ := am (Kd.N_lower (Kd.N_mono (ok' := fun k_ => (w.heap.size ≤ k_) ∧ k_ ≠ gb206 ∧ k_ ≠ g) ho0 (fun k_ hk_ => ⟨(Nat.le_trans (keep_size (w := w) (g := g) (row := none) ab17_) hk_), (Kd.freshB (g := gb206) (o := .cells #[.int .i64 0, .int .i64 0, .int .i64 0, .int .i64 0, .int .i64 0, .slice none 0 0, .slice none 0 0, .slice none 0 0] 37 (0, 0)) (aG_ BK206.out) k_ hk_), (IsS66.fresh ab43_ k_ hk_)⟩)) (keep_size (w := w) (g := g) (row := none) ab17_)); have n2_ := am (KeepBut.trans ab17_ hk (.inl rfl)); have n3_ := am (hb); have n4_ := am (hi); clear BK206 HK HB HI0; have BK206 := n0_; have HO232 := n1_; have HK := n2_; have HB := n3_; have HI0 := n4_; clear n0_ n1_ n2_ n3_ n4_; (try clear hb); (try clear hb2); (try clear hk); (try clear hi); (try clear ho0); obtain ⟨Ao22, co22, eo22⟩ := Kd.N_slice HO232.out; subst eo22; have hnb23 := NB206_0.out; have hnc23 := NB0_206.out; obtain ⟨hcz24_0, hcz24_1, hcz24_2, hcz24_3, hcz24_4, hcz24_5, hcz24_6, hcz24_7, hfz24_0, hfz24_1, hfz24_2, hfz24_3, hfz24_4, hfz24_5, hfz24_6, hfz24_7⟩ := bcf8_ BK206.out))
  refine bodyPost_ret (results_cell_row rfl _ _ gb206 37 #[.int .i64 4, .int .i64 0, .int .i64 t222, .int .i64 t228, .int .i64 t229, .slice Ao22 t230.length co22, .slice none 0 0, .slice none 0 0] (0, 0) _ rfl (by (with_reducible repeat (first | refine blk_drewN ?_ _ | refine blk_drew ?_ | refine blk_alloc ?_ _)); refine blk_put (cs := #[.int .i64 4, .int .i64 0, .int .i64 t222, .int .i64 t228, .int .i64 t229, .slice Ao22 t230.length co22, .slice none 0 0, .slice none 0 0]) ?_ 7 _ rfl; (with_reducible repeat (first | refine blk_drewN ?_ _ | refine blk_drew ?_ | refine blk_alloc ?_ _)); refine blk_put (cs := #[.int .i64 4, .int .i64 0, .int .i64 t222, .int .i64 t228, .int .i64 t229, .slice Ao22 t230.length co22, .slice none 0 0, .slice none 0 0]) ?_ 6 _ rfl; (with_reducible repeat (first | refine blk_drewN ?_ _ | refine blk_drew ?_ | refine blk_alloc ?_ _)); refine blk_put (cs := #[.int .i64 4, .int .i64 0, .int .i64 t222, .int .i64 t228, .int .i64 t229, .slice none 0 0, .slice none 0 0, .slice none 0 0]) ?_ 5 _ rfl; (with_reducible repeat (first | refine blk_drewN ?_ _ | refine blk_drew ?_ | refine blk_alloc ?_ _)); refine blk_put (cs := #[.int .i64 4, .int .i64 0, .int .i64 t222, .int .i64 t228, .int .i64 0, .slice none 0 0, .slice none 0 0, .slice none 0 0]) ?_ 4 _ rfl; (with_reducible repeat (first | refine blk_drewN ?_ _ | refine blk_drew ?_ | refine blk_alloc ?_ _)); refine blk_put (cs := #[.int .i64 4, .int .i64 0, .int .i64 t222, .int .i64 0, .int .i64 0, .slice none 0 0, .slice none 0 0, .slice none 0 0]) ?_ 3 _ rfl; (with_reducible repeat (first | refine blk_drewN ?_ _ | refine blk_drew ?_ | refine blk_alloc ?_ _)); refine blk_put (cs := #[.int .i64 4, .int .i64 0, .int .i64 0, .int .i64 0, .int .i64 0, .slice none 0 0, .slice none 0 0, .slice none 0 0]) ?_ 2 _ rfl; (with_reducible repeat (first | refine blk_drewN ?_ _ | refine blk_drew ?_ | refine blk_alloc ?_ _)); refine blk_put (cs := #[.int .i64 4, .int .i64 0, .int .i64 0, .int .i64 0, .int .i64 0, .slice none 0 0, .slice none 0 0, .slice none 0 0]) ?_ 1 _ rfl; (with_reducible repeat (first | refine blk_drewN ?_ _ | refine blk_drew ?_ | refine blk_alloc ?_ _)); refine blk_put (cs := #[.int .i64 0, .int .i64 0, .int .i64 0, .int .i64 0, .int .i64 0, .slice none 0 0, .slice none 0 0, .slice none 0 0]) ?_ 0 _ rfl; (with_reducible repeat (first | refine blk_drewN ?_ _ | refine blk_drew ?_ | refine blk_alloc ?_ _)); exact BK206.out) Try.underlying37 rfl (by kernel_rfl)) rfl ?_
  exact ⟨_, _, _, ab14_, by (with_reducible repeat (first | apply Kd.N_alloc | apply Kd.N_drewN | apply Kd.N_drew)); exact Kd.N_mono (Kd.N_far (p := ⟨gb206, 7, none⟩) (Kd.N_far (p := ⟨gb206, 6, none⟩) (Kd.N_far (p := ⟨gb206, 5, none⟩) (Kd.N_far (p := ⟨gb206, 4, none⟩) (Kd.N_far (p := ⟨gb206, 3, none⟩) (Kd.N_far (p := ⟨gb206, 2, none⟩) (Kd.N_far (p := ⟨gb206, 1, none⟩) (Kd.N_far (p := ⟨gb206, 0, none⟩) (Kd.N_mono HO232.out (fun k_ hk => (⟨hk, hk.2.1⟩ : _ ∧ k_ ≠ gb206))) (fun _ hk => hk.2) (.int .i64 4)) (fun _ hk => hk.2) (.int .i64 0)) (fun _ hk => hk.2) (.int .i64 t222)) (fun _ hk => hk.2) (.int .i64 t228)) (fun _ hk => hk.2) (.int .i64 t229)) (fun _ hk => hk.2) (.slice Ao22 t230.length co22)) (fun _ hk => hk.2) (.slice none 0 0)) (fun _ hk => hk.2) (.slice none 0 0)) (fun _ hk => ⟨hk.1.1, ⟨(by simp [Value.ownBlock]), (by simp [Value.ownBlock])⟩⟩), by first | exact Kd.R_nil _ _ _ _ _ | exact Kd.N_nil _ _ _ _ _ | exact Kd.V_nil _ _ _ _ _ | exact Kd.Q_nil _ _ _ _ _ | exact Kd.S_nil _ _ _ _ _, by first | exact Kd.R_nil _ _ _ _ _ | exact Kd.N_nil _ _ _ _ _ | exact Kd.V_nil _ _ _ _ _ | exact Kd.Q_nil _ _ _ _ _ | exact Kd.S_nil _ _ _ _ _, ab43_, ab66_, ab17_⟩
 rw [if_neg c14] at H
 have c14b0 : (t224 == 0) = false := beq_eq_false_iff_ne.mpr c14
 have c14b1 : (t224 != 0) = true := bne_iff_ne.mpr c14
 obtain ⟨⟨t234, t235⟩, A250, H⟩ := bsm H
 (try dsimp only at H)
 have A25 := am A250
 clear A250
 simp only [Option.some.injEq, Prod.mk.injEq] at H
 obtain ⟨rfl, rfl, rfl, rfl, rfl, rfl, rfl, rfl, rfl⟩ := H
 go_wp2_with (first | ((with_reducible refine gate_callee (f := 50) rfl ?_); refine goesL_ (some 12) rfl rfl Try.func50 (by kernel_rfl) rfl #[.pointer (some ⟨g, 0, none⟩), .int .i64 a1] rfl ab1_ ?_; (with_reducible refine (spec_l6Rd_pick.calls k g s0_0 s0_1 a1 t222 t223 w0 _ ?side1 ?side2 A12.out).mono ?_); (case side1 => exact ab43_); (case side2 => exact ab66_); rintro e w27 ⟨rfl, hi, hb, hk⟩; refine ⟨_, rfl, ?_⟩; have n0_ := am (KeepBut.blk hk (g' := gb206) (o := .cells #[.int .i64 0, .int .i64 0, .int .i64 0, .int .i64 0, .int .i64 0, .slice none 0 0, .slice none 0 0, .slice none 0 0] 37 (0, 0)) (aG_ BK206.out) NB206_0.out (by simp)); have n1_ := am (KeepBut.trans ab17_ hk (.inl rfl)); have n2_ := am (hb); have n3_ := am (hi); clear BK206 HK HB HI0; have BK206 := n0_; have HK := n1_; have HB := n2_; have HI0 := n3_; clear n0_ n1_ n2_ n3_; (try clear hb); (try clear hb2); (try clear hk); (try clear hi)) | ((with_reducible refine gate_callee (f := 50) rfl ?_); refine goesL_ (some 14) rfl rfl Try.func50 (by kernel_rfl) rfl #[.pointer (some ⟨g, 0, none⟩), .int .i64 2] rfl ab1_ ?_; (with_reducible refine (spec_l6Rd_pick.calls k g s0_0 t223 2 t224 t225 w0 _ ?side1 ?side2 A13.out).mono ?_); (case side1 => exact ab43_); (case side2 => exact ab66_); rintro e w28 ⟨rfl, hi, hb, hk⟩; refine ⟨_, rfl, ?_⟩; have n0_ := am (KeepBut.blk hk (g' := gb206) (o := .cells #[.int .i64 0, .int .i64 0, .int .i64 0, .int .i64 0, .int .i64 0, .slice none 0 0, .slice none 0 0, .slice none 0 0] 37 (0, 0)) (aG_ BK206.out) NB206_0.out (by simp)); have n1_ := am (KeepBut.trans ab17_ hk (.inl rfl)); have n2_ := am (hb); have n3_ := am (hi); clear BK206 HK HB HI0; have BK206 := n0_; have HK := n1_; have HB := n2_; have HI0 := n3_; clear n0_ n1_ n2_ n3_; (try clear hb); (try clear hb2); (try clear hk); (try clear hi)) | ((with_reducible refine gate_callee (f := 50) rfl ?_); refine goesL_ (some 25) rfl rfl Try.func50 (by kernel_rfl) rfl #[.pointer (some ⟨g, 0, none⟩), .int .i64 3] rfl ab1_ ?_; (with_reducible refine (spec_l6Rd_pick.calls k g s0_0 t225 3 t234 t235 w0 _ ?side1 ?side2 A25.out).mono ?_); (case side1 => exact ab43_); (case side2 => exact ab66_); rintro e w29 ⟨rfl, hi, hb, hk⟩; refine ⟨_, rfl, ?_⟩; have n0_ := am (KeepBut.blk hk (g' := gb206) (o := .cells #[.int .i64 0, .int .i64 0, .int .i64 0, .int .i64 0, .int .i64 0, .slice none 0 0, .slice none 0 0, .slice none 0 0] 37 (0, 0)) (aG_ BK206.out) NB206_0.out (by simp)); have n1_ := am (KeepBut.trans ab17_ hk (.inl rfl)); have n2_ := am (hb); have n3_ := am (hi); clear BK206 HK HB HI0; have BK206 := n0_; have HK := n1_; have HB := n2_; have HI0 := n3_; clear n0_ n1_ n2_ n3_; (try clear hb); (try clear hb2); (try clear hk); (try clear hi); have hnb30 := NB206_0.out; have hnc30 := NB0_206.out; obtain ⟨hcz31_0, hcz31_1, hcz31_2, hcz31_3, hcz31_4, hcz31_5, hcz31_6, hcz31_7, hfz31_0, hfz31_1, hfz31_2, hfz31_3, hfz31_4, hfz31_5, hfz31_6, hfz31_7⟩ := bcf8_ BK206.out))
 refine bodyPost_ret (results_cell_row rfl _ _ gb206 37 #[.int .i64 5, .int .i64 t234, .int .i64 t222, .int .i64 0, .int .i64 0, .slice none 0 0, .slice none 0 0, .slice none 0 0] (0, 0) _ rfl (by (with_reducible repeat (first | refine blk_drewN ?_ _ | refine blk_drew ?_ | refine blk_alloc ?_ _)); refine blk_put (cs := #[.int .i64 5, .int .i64 t234, .int .i64 t222, .int .i64 0, .int .i64 0, .slice none 0 0, .slice none 0 0, .slice none 0 0]) ?_ 7 _ rfl; (with_reducible repeat (first | refine blk_drewN ?_ _ | refine blk_drew ?_ | refine blk_alloc ?_ _)); refine blk_put (cs := #[.int .i64 5, .int .i64 t234, .int .i64 t222, .int .i64 0, .int .i64 0, .slice none 0 0, .slice none 0 0, .slice none 0 0]) ?_ 6 _ rfl; (with_reducible repeat (first | refine blk_drewN ?_ _ | refine blk_drew ?_ | refine blk_alloc ?_ _)); refine blk_put (cs := #[.int .i64 5, .int .i64 t234, .int .i64 t222, .int .i64 0, .int .i64 0, .slice none 0 0, .slice none 0 0, .slice none 0 0]) ?_ 5 _ rfl; (with_reducible repeat (first | refine blk_drewN ?_ _ | refine blk_drew ?_ | refine blk_alloc ?_ _)); refine blk_put (cs := #[.int .i64 5, .int .i64 t234, .int .i64 t222, .int .i64 0, .int .i64 0, .slice none 0 0, .slice none 0 0, .slice none 0 0]) ?_ 4 _ rfl; (with_reducible repeat (first | refine blk_drewN ?_ _ | refine blk_drew ?_ | refine blk_alloc ?_ _)); refine blk_put (cs := #[.int .i64 5, .int .i64 t234, .int .i64 t222, .int .i64 0, .int .i64 0, .slice none 0 0, .slice none 0 0, .slice none 0 0]) ?_ 3 _ rfl; (with_reducible repeat (first | refine blk_drewN ?_ _ | refine blk_drew ?_ | refine blk_alloc ?_ _)); refine blk_put (cs := #[.int .i64 5, .int .i64 t234, .int .i64 0, .int .i64 0, .int .i64 0, .slice none 0 0, .slice none 0 0, .slice none 0 0]) ?_ 2 _ rfl; (with_reducible repeat (first | refine blk_drewN ?_ _ | refine blk_drew ?_ | refine blk_alloc ?_ _)); refine blk_put (cs := #[.int .i64 5, .int .i64 0, .int .i64 0, .int .i64 0, .int .i64 0, .slice none 0 0, .slice none 0 0, .slice none 0 0]) ?_ 1 _ rfl; (with_reducible repeat (first | refine blk_drewN ?_ _ | refine blk_drew ?_ | refine blk_alloc ?_ _)); refine blk_put (cs := #[.int .i64 0, .int .i64 0, .int .i64 0, .int .i64 0, .int .i64 0, .slice none 0 0, .slice none 0 0, .slice none 0 0]) ?_ 0 _ rfl; (with_reducible repeat (first | refine blk_drewN ?_ _ | refine blk_drew ?_ | refine blk_alloc ?_ _)); exact BK206.out) Try.underlying37 rfl (by kernel_rfl)) rfl ?_
 exact ⟨_, _, _, ab14_, by first | exact Kd.R_nil _ _ _ _ _ | exact Kd.N_nil _ _ _ _ _ | exact Kd.V_nil _ _ _ _ _ | exact Kd.Q_nil _ _ _ _ _ | exact Kd.S_nil _ _ _ _ _, by first | exact Kd.R_nil _ _ _ _ _ | exact Kd.N_nil _ _ _ _ _ | exact Kd.V_nil _ _ _ _ _ | exact Kd.Q_nil _ _ _ _ _ | exact Kd.S_nil _ _ _ _ _, by first | exact Kd.R_nil _ _ _ _ _ | exact Kd.N_nil _ _ _ _ _ | exact Kd.V_nil _ _ _ _ _ | exact Kd.Q_nil _ _ _ _ _ | exact Kd.S_nil _ _ _ _ _, ab43_, ab66_, ab17_⟩
theorem spec_l92If.mono_all : ∀ k, (∀ y0 y1 y2 y3 y4, LeO (spec_l92If.f k y0 y1 y2 y3 y4) (spec_l92If.f (k + 1) y0 y1 y2 y3 y4)) ∧ (∀ y0 y1 y2 y3, LeO (spec_l92Loop.f k y0 y1 y2 y3) (spec_l92Loop.f (k + 1) y0 y1 y2 y3)) ∧ (∀ y0 y1 y2 y3 y4, LeO (spec_l92Stmt.f k y0 y1 y2 y3 y4) (spec_l92Stmt.f (k + 1) y0 y1 y2 y3 y4)) ∧ (∀ y0 y1 y2 y3 y4 y5 y6, LeO (spec_l92Stmt.j0 k y0 y1 y2 y3 y4 y5 y6) (spec_l92Stmt.j0 (k + 1) y0 y1 y2 y3 y4 y5 y6)) ∧ (∀ y0 y1 y2 y3 y4, LeO (spec_l92Stmt.j1 k y0 y1 y2 y3 y4) (spec_l92Stmt.j1 (k + 1) y0 y1 y2 y3 y4)) ∧ (∀ y0 y1 y2 y3 y4, LeO (spec_l92Stmt.j2 k y0 y1 y2 y3 y4) (spec_l92Stmt.j2 (k + 1) y0 y1 y2 y3 y4)) ∧ (∀ y0 y1 y2 y3 y4 y5, LeO (spec_l92Block.f k y0 y1 y2 y3 y4 y5) (spec_l92Block.f (k + 1) y0 y1 y2 y3 y4 y5)) ∧ (∀ y0 y1 y2 y3 y4 y5 y6 y7, LeO (spec_l92Block.l0 k y0 y1 y2 y3 y4 y5 y6 y7) (spec_l92Block.l0 (k + 1) y0 y1 y2 y3 y4 y5 y6 y7))
 | 0 => ⟨fun _ _ _ _ _ r h => by simp [spec_l92If.f] at h, fun _ _ _ _ r h => by simp [spec_l92Loop.f] at h, fun _ _ _ _ _ r h => by simp [spec_l92Stmt.f] at h, fun _ _ _ _ _ _ _ r h => by simp [spec_l92Stmt.j0] at h, fun _ _ _ _ _ r h => by simp [spec_l92Stmt.j1] at h, fun _ _ _ _ _ r h => by simp [spec_l92Stmt.j2] at h, fun _ _ _ _ _ _ r h => by simp [spec_l92Block.f] at h, fun _ _ _ _ _ _ _ _ r h => by simp [spec_l92Block.l0] at h⟩
 | k + 1 => by
  obtain ⟨ih0, ih1, ih2, ih3, ih4, ih5, ih6, ih7⟩ := spec_l92If.mono_all k
  refine ⟨?_, ?_, ?_, ?_, ?_, ?_, ?_, ?_⟩
  ·intro y0 y1 y2 y3 y4
   unfold spec_l92If.f
   repeat' first
   | (with_reducible exact ih0 _ _ _ _ _)
   | (with_reducible exact ih1 _ _ _ _)
   | (with_reducible exact ih2 _ _ _ _ _)
   | (with_reducible exact ih3 _ _ _ _ _ _ _)
   | (with_reducible exact ih4 _ _ _ _ _)
   | (with_reducible exact ih5 _ _ _ _ _)
   | (with_reducible exact ih6 _ _ _ _ _ _)
   | (with_reducible exact ih7 _ _ _ _ _ _ _ _)
   | (with_reducible exact spec_l6Rd_pick.mono _ _ _ _)
   | (with_reducible exact spec_l91Expr.mono _ _ _ _)
   | (with_reducible exact spec_l92Set.mono _ _ _)
   | (with_reducible exact spec_l92Talk.mono _ _ _ _)
   | (with_reducible exact LeO.refl _)
   | (with_reducible exact LeO.none _)
   | (with_reducible refine LeO.ite ?_ ?_)
   | (with_reducible refine LeO.bind ?_ (fun _ => ?_))
  ·intro y0 y1 y2 y3
   unfold spec_l92Loop.f
   repeat' first
   | (with_reducible exact ih0 _ _ _ _ _)
   | (with_reducible exact ih1 _ _ _ _)
   | (with_reducible exact ih2 _ _ _ _ _)
   | (with_reducible exact ih3 _ _ _ _ _ _ _)
   | (with_reducible exact ih4 _ _ _ _ _)
   | (with_reducible exact ih5 _ _ _ _ _)
   | (with_reducible exact ih6 _ _ _ _ _ _)
   | (with_reducible exact ih7 _ _ _ _ _ _ _ _)
   | (with_reducible exact spec_l6Rd_pick.mono _ _ _ _)
   | (with_reducible exact spec_l91Expr.mono _ _ _ _)
   | (with_reducible exact spec_l92Set.mono _ _ _)
   | (with_reducible exact spec_l92Talk.mono _ _ _ _)
   | (with_reducible exact LeO.refl _)
   | (with_reducible exact LeO.none _)
   | (with_reducible refine LeO.ite ?_ ?_)
   | (with_reducible refine LeO.bind ?_ (fun _ => ?_))
  ·intro y0 y1 y2 y3 y4
   unfold spec_l92Stmt.f
   repeat' first
   | (with_reducible exact ih0 _ _ _ _ _)
   | (with_reducible exact ih1 _ _ _ _)
   | (with_reducible exact ih2 _ _ _ _ _)
   | (with_reducible exact ih3 _ _ _ _ _ _ _)
   | (with_reducible exact ih4 _ _ _ _ _)
   | (with_reducible exact ih5 _ _ _ _ _)
   | (with_reducible exact ih6 _ _ _ _ _ _)
   | (with_reducible exact ih7 _ _ _ _ _ _ _ _)
   | (with_reducible exact spec_l6Rd_pick.mono _ _ _ _)
   | (with_reducible exact spec_l91Expr.mono _ _ _ _)
   | (with_reducible exact spec_l92Set.mono _ _ _)
   | (with_reducible exact spec_l92Talk.mono _ _ _ _)
   | (with_reducible exact LeO.refl _)
   | (with_reducible exact LeO.none _)
   | (with_reducible refine LeO.ite ?_ ?_)
   | (with_reducible refine LeO.bind ?_ (fun _ => ?_))
  ·intro y0 y1 y2 y3 y4 y5 y6
   unfold spec_l92Stmt.j0
   repeat' first
   | (with_reducible exact ih0 _ _ _ _ _)
   | (with_reducible exact ih1 _ _ _ _)
   | (with_reducible exact ih2 _ _ _ _ _)
   | (with_reducible exact ih3 _ _ _ _ _ _ _)
   | (with_reducible exact ih4 _ _ _ _ _)
   | (with_reducible exact ih5 _ _ _ _ _)
   | (with_reducible exact ih6 _ _ _ _ _ _)
   | (with_reducible exact ih7 _ _ _ _ _ _ _ _)
   | (with_reducible exact spec_l6Rd_pick.mono _ _ _ _)
   | (with_reducible exact spec_l91Expr.mono _ _ _ _)
   | (with_reducible exact spec_l92Set.mono _ _ _)
   | (with_reducible exact spec_l92Talk.mono _ _ _ _)
   | (with_reducible exact LeO.refl _)
   | (with_reducible exact LeO.none _)
   | (with_reducible refine LeO.ite ?_ ?_)
   | (with_reducible refine LeO.bind ?_ (fun _ => ?_))
  ·intro y0 y1 y2 y3 y4
   unfold spec_l92Stmt.j1
   repeat' first
   | (with_reducible exact ih0 _ _ _ _ _)
   | (with_reducible exact ih1 _ _ _ _)
   | (with_reducible exact ih2 _ _ _ _ _)
   | (with_reducible exact ih3 _ _ _ _ _ _ _)
   | (with_reducible exact ih4 _ _ _ _ _)
   | (with_reducible exact ih5 _ _ _ _ _)
   | (with_reducible exact ih6 _ _ _ _ _ _)
   | (with_reducible exact ih7 _ _ _ _ _ _ _ _)
   | (with_reducible exact spec_l6Rd_pick.mono _ _ _ _)
   | (with_reducible exact spec_l91Expr.mono _ _ _ _)
   | (with_reducible exact spec_l92Set.mono _ _ _)
   | (with_reducible exact spec_l92Talk.mono _ _ _ _)
   | (with_reducible exact LeO.refl _)
   | (with_reducible exact LeO.none _)
   | (with_reducible refine LeO.ite ?_ ?_)
   | (with_reducible refine LeO.bind ?_ (fun _ => ?_))
  ·intro y0 y1 y2 y3 y4
   unfold spec_l92Stmt.j2
   repeat' first
   | (with_reducible exact ih0 _ _ _ _ _)
   | (with_reducible exact ih1 _ _ _ _)
   | (with_reducible exact ih2 _ _ _ _ _)
   | (with_reducible exact ih3 _ _ _ _ _ _ _)
   | (with_reducible exact ih4 _ _ _ _ _)
   | (with_reducible exact ih5 _ _ _ _ _)
   | (with_reducible exact ih6 _ _ _ _ _ _)
   | (with_reducible exact ih7 _ _ _ _ _ _ _ _)
   | (with_reducible exact spec_l6Rd_pick.mono _ _ _ _)
   | (with_reducible exact spec_l91Expr.mono _ _ _ _)
   | (with_reducible exact spec_l92Set.mono _ _ _)
   | (with_reducible exact spec_l92Talk.mono _ _ _ _)
   | (with_reducible exact LeO.refl _)
   | (with_reducible exact LeO.none _)
   | (with_reducible refine LeO.ite ?_ ?_)
   | (with_reducible refine LeO.bind ?_ (fun _ => ?_))
  ·intro y0 y1 y2 y3 y4 y5
   unfold spec_l92Block.f
   repeat' first
   | (with_reducible exact ih0 _ _ _ _ _)
   | (with_reducible exact ih1 _ _ _ _)
   | (with_reducible exact ih2 _ _ _ _ _)
   | (with_reducible exact ih3 _ _ _ _ _ _ _)
   | (with_reducible exact ih4 _ _ _ _ _)
   | (with_reducible exact ih5 _ _ _ _ _)
   | (with_reducible exact ih6 _ _ _ _ _ _)
   | (with_reducible exact ih7 _ _ _ _ _ _ _ _)
   | (with_reducible exact spec_l6Rd_pick.mono _ _ _ _)
   | (with_reducible exact spec_l91Expr.mono _ _ _ _)
   | (with_reducible exact spec_l92Set.mono _ _ _)
   | (with_reducible exact spec_l92Talk.mono _ _ _ _)
   | (with_reducible exact LeO.refl _)
   | (with_reducible exact LeO.none _)
   | (with_reducible refine LeO.ite ?_ ?_)
   | (with_reducible refine LeO.bind ?_ (fun _ => ?_))
  ·intro y0 y1 y2 y3 y4 y5 y6 y7
   unfold spec_l92Block.l0
   repeat' first
   | (with_reducible exact ih0 _ _ _ _ _)
   | (with_reducible exact ih1 _ _ _ _)
   | (with_reducible exact ih2 _ _ _ _ _)
   | (with_reducible exact ih3 _ _ _ _ _ _ _)
   | (with_reducible exact ih4 _ _ _ _ _)
   | (with_reducible exact ih5 _ _ _ _ _)
   | (with_reducible exact ih6 _ _ _ _ _ _)
   | (with_reducible exact ih7 _ _ _ _ _ _ _ _)
   | (with_reducible exact spec_l6Rd_pick.mono _ _ _ _)
   | (with_reducible exact spec_l91Expr.mono _ _ _ _)
   | (with_reducible exact spec_l92Set.mono _ _ _)
   | (with_reducible exact spec_l92Talk.mono _ _ _ _)
   | (with_reducible exact LeO.refl _)
   | (with_reducible exact LeO.none _)
   | (with_reducible refine LeO.ite ?_ ?_)
   | (with_reducible refine LeO.bind ?_ (fun _ => ?_))
theorem spec_l92If.mono : ∀ a0 a1 a2 a3 a4 k, LeO (spec_l92If.f k a0 a1 a2 a3 a4) (spec_l92If.f (k + 1) a0 a1 a2 a3 a4) := by
 intro a0 a1 a2 a3 a4 k
 obtain ⟨ih0, ih1, ih2, ih3, ih4, ih5, ih6, ih7⟩ := spec_l92If.mono_all k
 exact ih0 a0 a1 a2 a3 a4
theorem spec_l92Loop.mono : ∀ a0 a1 a2 a3 k, LeO (spec_l92Loop.f k a0 a1 a2 a3) (spec_l92Loop.f (k + 1) a0 a1 a2 a3) := by
 intro a0 a1 a2 a3 k
 obtain ⟨ih0, ih1, ih2, ih3, ih4, ih5, ih6, ih7⟩ := spec_l92If.mono_all k
 exact ih1 a0 a1 a2 a3
theorem spec_l92Stmt.mono : ∀ a0 a1 a2 a3 a4 k, LeO (spec_l92Stmt.f k a0 a1 a2 a3 a4) (spec_l92Stmt.f (k + 1) a0 a1 a2 a3 a4) := by
 intro a0 a1 a2 a3 a4 k
 obtain ⟨ih0, ih1, ih2, ih3, ih4, ih5, ih6, ih7⟩ := spec_l92If.mono_all k
 exact ih2 a0 a1 a2 a3 a4
theorem spec_l92Block.mono : ∀ a0 a1 a2 a3 a4 a5 k, LeO (spec_l92Block.f k a0 a1 a2 a3 a4 a5) (spec_l92Block.f (k + 1) a0 a1 a2 a3 a4 a5) := by
 intro a0 a1 a2 a3 a4 a5 k
 obtain ⟨ih0, ih1, ih2, ih3, ih4, ih5, ih6, ih7⟩ := spec_l92If.mono_all k
 exact ih6 a0 a1 a2 a3 a4 a5
abbrev spec_l92If.CallsAt (k : Nat) : Prop := ∀ (g : Nat) (s0_0 : List Int) (s0_1 : Int) (a1 : Int) (a2 : Int) (a3 : Bool) (r1 : Int) (r2 : Int) (r3 : Int) (r4 : Int) (r5 : Int) (r6 : List (S34)) (r7 : List (S37)) (r8 : List (S37)) (r9 : Int) (w0 w : World) (hI : IsS66 w0 w g s0_0 s0_1) (hB : Below w0.heap.size w0 w) (h : spec_l92If.f k s0_0 s0_1 a1 a2 a3 = some (r1, r2, r3, r4, r5, r6, r7, r8, r9)),
  Calls Try.prog 88 #[.pointer (some ⟨g, 0, none⟩), .int .i64 a1, .int .i64 a2, .bool a3] w fun e w' => ∃ v5_ v6_ v7_ : Value, e = .returned (.agg #[.int .i64 r1, .int .i64 r2, .int .i64 r3, .int .i64 r4, .int .i64 r5, v5_, v6_, v7_]) ∧ Kd.N k34 34 w' w.heap.size (fun k_ => (w.heap.size ≤ k_) ∧ some k_ ≠ (v6_ : Value).ownBlock ∧ some k_ ≠ (v7_ : Value).ownBlock) v5_ r6 ∧ Kd.N k37 37 w' w.heap.size (fun k_ => (w.heap.size ≤ k_) ∧ some k_ ≠ (v5_ : Value).ownBlock ∧ some k_ ≠ (v7_ : Value).ownBlock) v6_ r7 ∧ Kd.N k37 37 w' w.heap.size (fun k_ => (w.heap.size ≤ k_) ∧ some k_ ≠ (v5_ : Value).ownBlock ∧ some k_ ≠ (v6_ : Value).ownBlock) v7_ r8 ∧ IsS66 w0 w' g s0_0 r9 ∧ Below w0.heap.size w0 w' ∧ KeepBut w w' g none
abbrev spec_l92Loop.CallsAt (k : Nat) : Prop := ∀ (g : Nat) (s0_0 : List Int) (s0_1 : Int) (a1 : Int) (a2 : Int) (r1 : List (S37)) (r2 : Int) (w0 w : World) (hI : IsS66 w0 w g s0_0 s0_1) (hB : Below w0.heap.size w0 w) (h : spec_l92Loop.f k s0_0 s0_1 a1 a2 = some (r1, r2)),
  Calls Try.prog 89 #[.pointer (some ⟨g, 0, none⟩), .int .i64 a1, .int .i64 a2] w fun e w' => ∃ v0_ : Value, e = .returned (v0_) ∧ Kd.N k37 37 w' w.heap.size (fun k_ => (w.heap.size ≤ k_)) v0_ r1 ∧ IsS66 w0 w' g s0_0 r2 ∧ Below w0.heap.size w0 w' ∧ KeepBut w w' g none
abbrev spec_l92Stmt.CallsAt (k : Nat) : Prop := ∀ (g : Nat) (s0_0 : List Int) (s0_1 : Int) (a1 : Int) (a2 : Int) (a3 : Bool) (r1 : List (S37)) (r2 : Int) (w0 w : World) (hI : IsS66 w0 w g s0_0 s0_1) (hB : Below w0.heap.size w0 w) (h : spec_l92Stmt.f k s0_0 s0_1 a1 a2 a3 = some (r1, r2)),
  Calls Try.prog 80 #[.pointer (some ⟨g, 0, none⟩), .int .i64 a1, .int .i64 a2, .bool a3] w fun e w' => ∃ v0_ : Value, e = .returned (v0_) ∧ Kd.N k37 37 w' w.heap.size (fun k_ => (w.heap.size ≤ k_)) v0_ r1 ∧ IsS66 w0 w' g s0_0 r2 ∧ Below w0.heap.size w0 w' ∧ KeepBut w w' g none
abbrev spec_l92Block.CallsAt (k : Nat) : Prop := ∀ (g : Nat) (s0_0 : List Int) (s0_1 : Int) (a1 : Int) (a2 : Int) (a3 : Int) (a4 : Bool) (r1 : List (S37)) (r2 : Int) (w0 w : World) (hI : IsS66 w0 w g s0_0 s0_1) (hB : Below w0.heap.size w0 w) (h : spec_l92Block.f k s0_0 s0_1 a1 a2 a3 a4 = some (r1, r2)),
  Calls Try.prog 70 #[.pointer (some ⟨g, 0, none⟩), .int .i64 a1, .int .i64 a2, .int .i64 a3, .bool a4] w fun e w' => ∃ v0_ : Value, e = .returned (v0_) ∧ Kd.N k37 37 w' w.heap.size (fun k_ => (w.heap.size ≤ k_)) v0_ r1 ∧ IsS66 w0 w' g s0_0 r2 ∧ Below w0.heap.size w0 w' ∧ KeepBut w w' g none
end Go.Proofs.Ytpcbfcaacilghaa.PA

