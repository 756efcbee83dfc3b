/- Part 2 of the proof of FnStmtsFoldIf. -/
import Derived.Test.YtodhbeeibagiaaaQFnStmtsFoldIf0
import Derived.Test.YtodhbeeibagiaaaProg
import Derived.Below
import Derived.Deep.Draws
import Derived.Deep.AppendLies
import Derived.Maps.AppendAt
import Derived.OwnWalk
import Derived.Laws.BytesArg
import Derived.Laws.MakeOwn
import Derived.Laws.OwnMore
import Derived.Deep.OwnRows
import Derived.Tactics
import Derived.Lib.ConvBytes
import Derived.Laws.Slices
import Derived.WalkKit
import Derived.KernelRfl
import Derived.RowKit3
import Derived.Deep.LoopGhost
import Derived.Deep.QuietTactic
import Derived.BigQuiet
import Derived.WideLaws
import Derived.Deep.DeepCutAuto
import Derived.Deep.CutBlock
import Derived.Deep.RegionHeld3
import Derived.Laws.Rows
import Derived.Lib.AppendStr
import Derived.ArgAppend
import Derived.Laws.IdiomCopy
import Derived.OrdersHeld
import Derived.Laws.BitsLemmas
import Derived.RowKit
import Derived.Lib.SliceRun
set_option maxHeartbeats 8000000
set_option maxRecDepth 100000
namespace Go.Proofs.Ytodhbeeibagiaaa.PA
open Go.RowKit Go.Proofs.YtodhbeeibagiaaaW.PrintWords Go.Proofs.YtodhbeeibagiaaaW.PrintLast Go.Proofs.YtodhbeeibagiaaaW.PrintMore
attribute [local go_sem] max2_int min2_int max_two min_two max_three min_three max_four min_four
set_option linter.unusedVariables false
set_option linter.unusedSimpArgs false
def errW : Option Int → Value
 | none => .nilIface
 | some c => .iface 0 (.int .i64 c)
theorem errW_none : errW none = .nilIface := rfl
theorem errW_some (c : Int) : errW (some c) = .iface 0 (.int .i64 c) := rfl
theorem info5 : (Try.prog.info? 5).map (fun i => (i.zero, i.size, i.bytes)) = some (some (.int .u8 0), 1, 1) := by kernel_rfl
theorem info35 : (Try.prog.info? 35).map (fun i => (i.zero, i.size, i.bytes)) = some (some (.agg #[(.int .i64 0), (.int .i64 0), (.int .i64 0), (.int .i64 0), (.int .i64 0), (.slice none 0 0), (.slice none 0 0), (.slice none 0 0)]), 8, 112) := by kernel_rfl
structure S32 where
 f0 : Int
 f1 : Int
 f2 : (List S32)
def z32 : S32 := ⟨(0 : Int), (0 : Int), ([] : List S32)⟩
def F32 (d : Kd S32) : Kd S32 := Kd.iso (Kd.pair (Kd.int .i64) (Kd.pair (Kd.int .i64) (Kd.slice 32 d))) (fun x : S32 => (x.f0, x.f1, x.f2))
theorem mono32 : Kd.Mono F32 := Kd.mono_iso _ (Kd.mono_pair (Kd.mono_const _) (Kd.mono_pair (Kd.mono_const _) (Kd.mono_slice 32 Kd.mono_id)))
theorem sub32 : Kd.Sub F32 [32] := Kd.sub_iso _ (Kd.sub_pair (Kd.sub_const _ (by decide)) (Kd.sub_pair (Kd.sub_const _ (by decide)) (Kd.sub_slice 32 (by decide) Kd.sub_id)))
theorem sz32 : ∀ n, (Kd.upto F32 3 [32] n).sz = 3 := Kd.upto_sz (fun _ => rfl)
def k32 : Kd S32 := Kd.fix F32 3 [32] sz32 (Kd.upto_E sub32)
theorem k32_heap : Kd.Heap k32 := Kd.heap_fix (fun _ h_ => Kd.heap_iso _ (Kd.heap_pair (Kd.heap_int .i64) (Kd.heap_pair (Kd.heap_int .i64) (Kd.heap_slice 32 h_))))
theorem k32_open {w : World} {x : S32} {cs : List Value} (h : k32.K w x cs) : ∃ A2 c2, cs = [.int .i64 x.f0, .int .i64 x.f1, .slice A2 x.f2.length c2] ∧ x.f2.length ≤ c2 ∧ k32.C w A2 x.f2.length x.f2 := by
 obtain ⟨n, h⟩ := h
 cases n with
 | zero => exact h.elim
 | succ n =>
  obtain ⟨_, _, rfl, rfl, ⟨_, _, rfl, rfl, ⟨A2, c2, rfl, l2, g2⟩⟩⟩ := h
  exact ⟨A2, c2, rfl, l2, Kd.fix_C g2⟩
theorem k32_mk (w : World) (x : S32) {A2 : Option Addr} {c2 : Nat} (l2 : x.f2.length ≤ c2) (g2 : k32.C w A2 x.f2.length x.f2) : k32.K w x [.int .i64 x.f0, .int .i64 x.f1, .slice A2 x.f2.length c2] := by
 obtain ⟨n2, q2⟩ := Kd.fix_C_back mono32 g2
 have r2 := Kd.upto_C_le mono32 sz32 (show n2 ≤ n2 by omega) q2
 exact ⟨n2 + 1, ⟨[.int .i64 x.f0], [.int .i64 x.f1, .slice A2 x.f2.length c2], rfl, rfl, ⟨[.int .i64 x.f1], [.slice A2 x.f2.length c2], rfl, rfl, ⟨A2, c2, rfl, l2, r2⟩⟩⟩⟩
theorem k32_mkF (W : World) (ok : Nat → Prop) (x : S32) {A2 : Option Addr} {c2 : Nat} (l2 : x.f2.length ≤ c2) (g2 : Kd.F k32 W ok A2 x.f2.length x.f2) : Kd.FK k32 W ok x [.int .i64 x.f0, .int .i64 x.f1, .slice A2 x.f2.length c2] := fun W2 hW => k32_mk W2 x l2 (g2 W2 hW)
def rd_T32 (xs : List S32) (i : Int) : S32 := xs.getD i.toNat z32
theorem at_T32 {w : World} {A : Option Addr} {n : Nat} {xs : List S32} (h : Kd.C k32 w A n xs) (i : Int) (h0 : 0 ≤ i) (h1 : i < n) : ∃ ad A2 c2, A = some ad ∧ w.cell? (ad.add (i.toNat * 3)) = some (.int .i64 (rd_T32 xs i).f0) ∧ w.cell? ⟨(ad.add (i.toNat * 3)).block, (ad.add (i.toNat * 3)).off + 1, none⟩ = some (.int .i64 (rd_T32 xs i).f1) ∧ w.cell? ⟨(ad.add (i.toNat * 3)).block, (ad.add (i.toNat * 3)).off + 2, none⟩ = some (.slice A2 (rd_T32 xs i).f2.length c2) ∧ (rd_T32 xs i).f2.length ≤ c2 ∧ k32.C w A2 (rd_T32 xs i).f2.length (rd_T32 xs i).f2 := by
 obtain ⟨ad, c, e, _, hK, hc0⟩ := Kd.C_get h z32 i h0 h1
 have hc : ∀ j u, c[j]? = some u → w.cell? (ad.add (i.toNat * 3 + j)) = some u := hc0
 obtain ⟨A2, c2, rfl, l2, g2⟩ := k32_open hK
 exact ⟨ad, A2, c2, e, hc 0 _ rfl, by rw [← add_field _ _ 1 (by omega)]; exact hc 1 _ rfl, by rw [← add_field _ _ 2 (by omega)]; exact hc 2 _ rfl, l2, g2⟩
structure S35 where
 f0 : Int
 f1 : Int
 f2 : Int
 f3 : S32
 f4 : (List S35)
 f5 : (List S35)
def z35 : S35 := ⟨(0 : Int), (0 : Int), (0 : Int), z32, ([] : List S35), ([] : List S35)⟩
def F35 (d : Kd S35) : Kd S35 := Kd.iso (Kd.pair (Kd.int .i64) (Kd.pair (Kd.int .i64) (Kd.pair (Kd.int .i64) (Kd.pair k32 (Kd.pair (Kd.slice 35 d) (Kd.slice 35 d)))))) (fun x : S35 => (x.f0, x.f1, x.f2, x.f3, x.f4, x.f5))
theorem mono35 : Kd.Mono F35 := Kd.mono_iso _ (Kd.mono_pair (Kd.mono_const _) (Kd.mono_pair (Kd.mono_const _) (Kd.mono_pair (Kd.mono_const _) (Kd.mono_pair (Kd.mono_const _) (Kd.mono_pair (Kd.mono_slice 35 Kd.mono_id) (Kd.mono_slice 35 Kd.mono_id))))))
theorem sub35 : Kd.Sub F35 [32, 35] := Kd.sub_iso _ (Kd.sub_pair (Kd.sub_const _ (by decide)) (Kd.sub_pair (Kd.sub_const _ (by decide)) (Kd.sub_pair (Kd.sub_const _ (by decide)) (Kd.sub_pair (Kd.sub_const _ (by decide)) (Kd.sub_pair (Kd.sub_slice 35 (by decide) Kd.sub_id) (Kd.sub_slice 35 (by decide) Kd.sub_id))))))
theorem sz35 : ∀ n, (Kd.upto F35 8 [32, 35] n).sz = 8 := Kd.upto_sz (fun _ => rfl)
def k35 : Kd S35 := Kd.fix F35 8 [32, 35] sz35 (Kd.upto_E sub35)
theorem k35_heap : Kd.Heap k35 := Kd.heap_fix (fun _ h_ => Kd.heap_iso _ (Kd.heap_pair (Kd.heap_int .i64) (Kd.heap_pair (Kd.heap_int .i64) (Kd.heap_pair (Kd.heap_int .i64) (Kd.heap_pair k32_heap (Kd.heap_pair (Kd.heap_slice 35 h_) (Kd.heap_slice 35 h_)))))))
theorem k35_open {w : World} {x : S35} {cs : List Value} (h : k35.K w x cs) : ∃ A5 c5 A6 c6 A7 c7, cs = [.int .i64 x.f0, .int .i64 x.f1, .int .i64 x.f2, .int .i64 x.f3.f0, .int .i64 x.f3.f1, .slice A5 x.f3.f2.length c5, .slice A6 x.f4.length c6, .slice A7 x.f5.length c7] ∧ x.f3.f2.length ≤ c5 ∧ k32.C w A5 x.f3.f2.length x.f3.f2 ∧ x.f4.length ≤ c6 ∧ k35.C w A6 x.f4.length x.f4 ∧ x.f5.length ≤ c7 ∧ k35.C w A7 x.f5.length x.f5 := by
 obtain ⟨n, h⟩ := h
 cases n with
 | zero => exact h.elim
 | succ n =>
  obtain ⟨_, _, rfl, rfl, ⟨_, _, rfl, rfl, ⟨_, _, rfl, rfl, ⟨_, _, rfl, s3, ⟨_, _, rfl, ⟨A6, c6, rfl, l6, g6⟩, ⟨A7, c7, rfl, l7, g7⟩⟩⟩⟩⟩⟩ := h
  obtain ⟨A5, c5, rfl, l5, g5⟩ := k32_open s3
  exact ⟨A5, c5, A6, c6, A7, c7, rfl, l5, g5, l6, Kd.fix_C g6, l7, Kd.fix_C g7⟩
theorem k35_mk (w : World) (x : S35) {A5 : Option Addr} {c5 : Nat} (l5 : x.f3.f2.length ≤ c5) (g5 : k32.C w A5 x.f3.f2.length x.f3.f2) {A6 : Option Addr} {c6 : Nat} (l6 : x.f4.length ≤ c6) (g6 : k35.C w A6 x.f4.length x.f4) {A7 : Option Addr} {c7 : Nat} (l7 : x.f5.length ≤ c7) (g7 : k35.C w A7 x.f5.length x.f5) : k35.K w x [.int .i64 x.f0, .int .i64 x.f1, .int .i64 x.f2, .int .i64 x.f3.f0, .int .i64 x.f3.f1, .slice A5 x.f3.f2.length c5, .slice A6 x.f4.length c6, .slice A7 x.f5.length c7] := by
 obtain ⟨n6, q6⟩ := Kd.fix_C_back mono35 g6
 obtain ⟨n7, q7⟩ := Kd.fix_C_back mono35 g7
 have r6 := Kd.upto_C_le mono35 sz35 (show n6 ≤ (max n6 n7) by omega) q6
 have r7 := Kd.upto_C_le mono35 sz35 (show n7 ≤ (max n6 n7) by omega) q7
 exact ⟨(max n6 n7) + 1, ⟨[.int .i64 x.f0], [.int .i64 x.f1, .int .i64 x.f2, .int .i64 x.f3.f0, .int .i64 x.f3.f1, .slice A5 x.f3.f2.length c5, .slice A6 x.f4.length c6, .slice A7 x.f5.length c7], rfl, rfl, ⟨[.int .i64 x.f1], [.int .i64 x.f2, .int .i64 x.f3.f0, .int .i64 x.f3.f1, .slice A5 x.f3.f2.length c5, .slice A6 x.f4.length c6, .slice A7 x.f5.length c7], rfl, rfl, ⟨[.int .i64 x.f2], [.int .i64 x.f3.f0, .int .i64 x.f3.f1, .slice A5 x.f3.f2.length c5, .slice A6 x.f4.length c6, .slice A7 x.f5.length c7], rfl, rfl, ⟨[.int .i64 x.f3.f0, .int .i64 x.f3.f1, .slice A5 x.f3.f2.length c5], [.slice A6 x.f4.length c6, .slice A7 x.f5.length c7], rfl, (k32_mk w x.f3 l5 g5), ⟨[.slice A6 x.f4.length c6], [.slice A7 x.f5.length c7], rfl, ⟨A6, c6, rfl, l6, r6⟩, ⟨A7, c7, rfl, l7, r7⟩⟩⟩⟩⟩⟩⟩
theorem k35_openF {W : World} {ok : Nat → Prop} {x : S35} {cs : List Value} (h : Kd.FK k35 W ok x cs) : ∃ A5 c5 A6 c6 A7 c7, cs = [.int .i64 x.f0, .int .i64 x.f1, .int .i64 x.f2, .int .i64 x.f3.f0, .int .i64 x.f3.f1, .slice A5 x.f3.f2.length c5, .slice A6 x.f4.length c6, .slice A7 x.f5.length c7] ∧ x.f3.f2.length ≤ c5 ∧ Kd.F k32 W ok A5 x.f3.f2.length x.f3.f2 ∧ x.f4.length ≤ c6 ∧ Kd.F k35 W ok A6 x.f4.length x.f4 ∧ x.f5.length ≤ c7 ∧ Kd.F k35 W ok A7 x.f5.length x.f5 := by
 obtain ⟨A5, c5, A6, c6, A7, c7, rfl, l5, _, l6, _, l7, _⟩ := k35_open (Kd.FK_now h)
 exact ⟨A5, c5, A6, c6, A7, c7, rfl, l5, (fun W' hW => by obtain ⟨A5_, c5_, A6_, c6_, A7_, c7_, he, l5_, g5_, l6_, g6_, l7_, g7_⟩ := k35_open (h W' hW); injection (Option.some.inj (show some (Value.slice A5 x.f3.f2.length c5) = some (Value.slice A5_ x.f3.f2.length c5_) from congrArg (fun l => l[5]?) he)) with ha_ _ _; rw [ha_]; exact g5_), l6, (fun W' hW => by obtain ⟨A5_, c5_, A6_, c6_, A7_, c7_, he, l5_, g5_, l6_, g6_, l7_, g7_⟩ := k35_open (h W' hW); injection (Option.some.inj (show some (Value.slice A6 x.f4.length c6) = some (Value.slice A6_ x.f4.length c6_) from congrArg (fun l => l[6]?) he)) with ha_ _ _; rw [ha_]; exact g6_), l7, (fun W' hW => by obtain ⟨A5_, c5_, A6_, c6_, A7_, c7_, he, l5_, g5_, l6_, g6_, l7_, g7_⟩ := k35_open (h W' hW); injection (Option.some.inj (show some (Value.slice A7 x.f5.length c7) = some (Value.slice A7_ x.f5.length c7_) from congrArg (fun l => l[7]?) he)) with ha_ _ _; rw [ha_]; exact g7_)⟩
theorem k35_mkF (W : World) (ok : Nat → Prop) (x : S35) {A5 : Option Addr} {c5 : Nat} (l5 : x.f3.f2.length ≤ c5) (g5 : Kd.F k32 W ok A5 x.f3.f2.length x.f3.f2) {A6 : Option Addr} {c6 : Nat} (l6 : x.f4.length ≤ c6) (g6 : Kd.F k35 W ok A6 x.f4.length x.f4) {A7 : Option Addr} {c7 : Nat} (l7 : x.f5.length ≤ c7) (g7 : Kd.F k35 W ok A7 x.f5.length x.f5) : Kd.FK k35 W ok x [.int .i64 x.f0, .int .i64 x.f1, .int .i64 x.f2, .int .i64 x.f3.f0, .int .i64 x.f3.f1, .slice A5 x.f3.f2.length c5, .slice A6 x.f4.length c6, .slice A7 x.f5.length c7] := fun W2 hW => k35_mk W2 x l5 (g5 W2 hW) l6 (g6 W2 hW) l7 (g7 W2 hW)
def rd_T35 (xs : List S35) (i : Int) : S35 := xs.getD i.toNat z35
theorem at_T35 {w : World} {A : Option Addr} {n : Nat} {xs : List S35} (h : Kd.C k35 w A n xs) (i : Int) (h0 : 0 ≤ i) (h1 : i < n) : ∃ ad A5 c5 A6 c6 A7 c7, A = some ad ∧ w.cell? (ad.add (i.toNat * 8)) = some (.int .i64 (rd_T35 xs i).f0) ∧ w.cell? ⟨(ad.add (i.toNat * 8)).block, (ad.add (i.toNat * 8)).off + 1, none⟩ = some (.int .i64 (rd_T35 xs i).f1) ∧ w.cell? ⟨(ad.add (i.toNat * 8)).block, (ad.add (i.toNat * 8)).off + 2, none⟩ = some (.int .i64 (rd_T35 xs i).f2) ∧ w.cell? ⟨(ad.add (i.toNat * 8)).block, (ad.add (i.toNat * 8)).off + 3, none⟩ = some (.int .i64 (rd_T35 xs i).f3.f0) ∧ w.cell? ⟨(ad.add (i.toNat * 8)).block, (ad.add (i.toNat * 8)).off + 4, none⟩ = some (.int .i64 (rd_T35 xs i).f3.f1) ∧ w.cell? ⟨(ad.add (i.toNat * 8)).block, (ad.add (i.toNat * 8)).off + 5, none⟩ = some (.slice A5 (rd_T35 xs i).f3.f2.length c5) ∧ w.cell? ⟨(ad.add (i.toNat * 8)).block, (ad.add (i.toNat * 8)).off + 6, none⟩ = some (.slice A6 (rd_T35 xs i).f4.length c6) ∧ w.cell? ⟨(ad.add (i.toNat * 8)).block, (ad.add (i.toNat * 8)).off + 7, none⟩ = some (.slice A7 (rd_T35 xs i).f5.length c7) ∧ (rd_T35 xs i).f3.f2.length ≤ c5 ∧ k32.C w A5 (rd_T35 xs i).f3.f2.length (rd_T35 xs i).f3.f2 ∧ (rd_T35 xs i).f4.length ≤ c6 ∧ k35.C w A6 (rd_T35 xs i).f4.length (rd_T35 xs i).f4 ∧ (rd_T35 xs i).f5.length ≤ c7 ∧ k35.C w A7 (rd_T35 xs i).f5.length (rd_T35 xs i).f5 := by
 obtain ⟨ad, c, e, _, hK, hc0⟩ := Kd.C_get h z35 i h0 h1
 have hc : ∀ j u, c[j]? = some u → w.cell? (ad.add (i.toNat * 8 + j)) = some u := hc0
 obtain ⟨A5, c5, A6, c6, A7, c7, rfl, l5, g5, l6, g6, l7, g7⟩ := k35_open hK
 exact ⟨ad, A5, c5, A6, c6, A7, c7, e, hc 0 _ rfl, by rw [← add_field _ _ 1 (by omega)]; exact hc 1 _ rfl, by rw [← add_field _ _ 2 (by omega)]; exact hc 2 _ rfl, by rw [← add_field _ _ 3 (by omega)]; exact hc 3 _ rfl, by rw [← add_field _ _ 4 (by omega)]; exact hc 4 _ rfl, by rw [← add_field _ _ 5 (by omega)]; exact hc 5 _ rfl, by rw [← add_field _ _ 6 (by omega)]; exact hc 6 _ rfl, by rw [← add_field _ _ 7 (by omega)]; exact hc 7 _ rfl, l5, g5, l6, g6, l7, g7⟩
def rd_L4 (xs : List (List S35)) (i : Int) : (List S35) := xs.getD i.toNat ([] : List S35)
theorem ab1_ {p : Prop} (h : p := by (try simp only [List.map_toArray, List.map_cons, List.map_nil]); first | done | rfl | (simp only [List.length_drop, List.length_take]; rfl)) : p := h
theorem ab2_ {p : Prop} (h : p := by repeat (first | (with_reducible first | exact HB.out | apply below_alloc | apply pw_below_drewN | apply below_drew1) | exact HB.out)) : p := h
theorem ab3_ {p : Prop} (h : p := by repeat (first | (with_reducible first | exact HK.out | apply KeepBut.set_ | apply keep_drewN | apply keep_drew | apply keep_alloc) | exact HK.out)) : p := h
theorem ab4_ {p : Prop} (h : p := by repeat (first | (with_reducible first | exact HI0.out | apply IsS91.alloc | apply IsS91.drewN | apply IsS91.drew | apply IsS91.set_1) | exact HI0.out)) : p := h
theorem ab5_ {p : Prop} (h : p := by repeat (first | (with_reducible first | exact HB.out | apply below_alloc | apply pw_below_drewN | apply below_drew1 | refine below_set ?_ (IsS91.ge HI0.out)) | exact HB.out)) : p := h
theorem ab6_ {p : Prop} (h : p := by repeat (first | (with_reducible first | exact HB.out | apply below_alloc | apply pw_below_drewN | apply below_drew1 | refine below_set ?_ GE600.out) | exact HB.out)) : p := h
theorem ab8_ {p : Prop} (h : p := by repeat (first | (with_reducible first | exact HB.out | apply below_alloc | apply pw_below_drewN | apply below_drew1 | refine below_set ?_ GE526.out | refine below_set ?_ GE527.out | refine below_set ?_ GE540.out | refine below_set ?_ GE541.out) | exact HB.out)) : p := h
theorem ab10_ {p : Prop} (h : p := by repeat (first | (with_reducible first | exact HB.out | apply below_alloc | apply pw_below_drewN | apply below_drew1 | refine below_set ?_ GE553.out) | exact HB.out)) : p := h
theorem ab11_ {p : Prop} (h : p := by first | rfl | (simp [errW_none, errW_some] <;> rfl) | (simp [*, errW_none, errW_some] <;> rfl)) : p := h
theorem ab12_ {p : Prop} (h : p := by repeat (first | (with_reducible first | exact HB.out | apply below_alloc | apply pw_below_drewN | apply below_drew1 | refine below_set ?_ GE526.out | refine below_set ?_ GE527.out) | exact HB.out)) : p := h
theorem ab13_ {p : Prop} (h : p := by repeat (first | (with_reducible first | exact HB.out | apply below_alloc | apply pw_below_drewN | apply below_drew1 | refine below_set ?_ GE642.out | refine below_set ?_ GE643.out | refine below_set ?_ GE655.out | refine below_set ?_ GE662.out) | exact HB.out)) : p := h
theorem ab15_ {p : Prop} (h : p := by repeat (first | (with_reducible first | exact HB.out | apply below_alloc | apply pw_below_drewN | apply below_drew1 | refine below_set ?_ GE616.out) | exact HB.out)) : p := h
theorem ab16_ {p : Prop} (h : p := by repeat (first | (with_reducible first | exact HB.out | apply below_alloc | apply pw_below_drewN | apply below_drew1 | refine below_set ?_ GE526.out | refine below_set ?_ GE527.out | refine below_set ?_ GE540.out) | exact HB.out)) : p := h
theorem ab17_ {p : Prop} (h : p := by repeat (first | (with_reducible first | exact HB.out | apply below_alloc | apply pw_below_drewN | apply below_drew1 | refine below_set ?_ GE526.out | refine below_set ?_ GE527.out | refine below_set ?_ GE541.out) | exact HB.out)) : p := h
theorem ab18_ {p : Prop} (h : p := by repeat (first | exact Drawn0.refl _ | apply Drawn0.step)) : p := h
theorem ab21_ {p : Prop} (h : p := by repeat (first | (with_reducible first | exact HK.out | apply KeepBut.set_ | apply keep_drewN | apply keep_drew | apply keep_alloc | refine keep_far ?_ GW187.out _) | exact HK.out)) : p := h
theorem ab22_ {p : Prop} (h : p := by repeat (first | (with_reducible first | exact HB.out | apply below_alloc | apply pw_below_drewN | apply below_drew1 | refine below_set ?_ GE694.out | refine below_set ?_ GE696.out) | exact HB.out)) : p := h
theorem ab23_ {p : Prop} (h : p := by repeat (first | (with_reducible first | exact HB.out | apply below_alloc | apply pw_below_drewN | apply below_drew1 | refine below_set ?_ GE510.out) | exact HB.out)) : p := h
theorem ab25_ {p : Prop} (h : p := by repeat (first | (with_reducible first | exact HK.out | apply KeepBut.set_ | apply keep_drewN | apply keep_drew | apply keep_alloc | refine keep_far ?_ GW119.out _) | exact HK.out)) : p := h
theorem ab26_ {p : Prop} (h : p := by repeat (first | (with_reducible first | exact HK.out | apply KeepBut.set_ | apply keep_drewN | apply keep_drew | apply keep_alloc | refine keep_far ?_ GW485.out _) | exact HK.out)) : p := h
theorem ab27_ {p : Prop} (h : p := by repeat (first | (with_reducible first | exact HK.out | apply KeepBut.set_ | apply keep_drewN | apply keep_drew | apply keep_alloc | refine keep_far ?_ GW147.out _) | exact HK.out)) : p := h
theorem ab28_ {p : Prop} (h : p := by repeat (first | (with_reducible first | exact HB.out | apply below_alloc | apply pw_below_drewN | apply below_drew1 | refine below_set ?_ GE589.out) | exact HB.out)) : p := h
theorem ab29_ {p : Prop} (h : p := by repeat (first | (with_reducible first | exact HB.out | apply below_alloc | apply pw_below_drewN | apply below_drew1 | refine below_set ?_ GE822.out) | exact HB.out)) : p := h
theorem ab34_ {p : Prop} (h : p := by repeat (first | (with_reducible first | exact HB.out | apply below_alloc | apply pw_below_drewN | apply below_drew1 | refine below_set ?_ GE642.out | refine below_set ?_ GE643.out) | exact HB.out)) : p := h
theorem ab35_ {p : Prop} (h : p := by repeat (first | (with_reducible first | exact HB.out | apply below_alloc | apply pw_below_drewN | apply below_drew1 | refine below_set ?_ GE688.out | refine below_set ?_ GE689.out) | exact HB.out)) : p := h
theorem ab36_ {p : Prop} (h : p := by repeat (first | (with_reducible first | exact HK.out | apply KeepBut.set_ | apply keep_drewN | apply keep_drew | apply keep_alloc | refine keep_far ?_ GW377.out _ | refine keep_far ?_ GW386.out _) | exact HK.out)) : p := h
theorem ab39_ {p : Prop} (h : p := by repeat (first | (with_reducible first | exact HK.out | apply KeepBut.set_ | apply keep_drewN | apply keep_drew | apply keep_alloc | refine keep_far ?_ GW147.out _ | refine keep_far ?_ GW164.out _) | exact HK.out)) : p := h
theorem ab40_ {p : Prop} (h : p := by repeat (first | (with_reducible first | exact HI0.out | apply IsS91.alloc | apply IsS91.drewN | apply IsS91.drew | apply IsS91.set_1 | refine IsS91.far ?_ NB0_485.out _) | exact HI0.out)) : p := h
theorem ab43_ {p : Prop} (h : p := by repeat (first | (with_reducible first | exact HB.out | apply below_alloc | apply pw_below_drewN | apply below_drew1 | refine below_set ?_ GE642.out | refine below_set ?_ GE643.out | refine below_set ?_ GE655.out) | exact HB.out)) : p := h
theorem ab44_ {p : Prop} (h : p := by repeat (first | (with_reducible first | exact HK.out | apply KeepBut.set_ | apply keep_drewN | apply keep_drew | apply keep_alloc | refine keep_far ?_ GW413.out _) | exact HK.out)) : p := h
theorem ab45_ {p : Prop} (h : p := by repeat (first | (with_reducible first | exact HB.out | apply below_alloc | apply pw_below_drewN | apply below_drew1 | refine below_set ?_ (IsS91.ge HI0.out) | refine below_set ?_ GE119.out) | exact HB.out)) : p := h
theorem ab48_ {p : Prop} (h : p := by repeat (first | (with_reducible first | exact HI0.out | apply IsS91.alloc | apply IsS91.drewN | apply IsS91.drew | apply IsS91.set_1 | refine IsS91.far ?_ NB0_187.out _) | exact HI0.out)) : p := h
theorem ab49_ {p : Prop} (h : p := by repeat (first | (with_reducible first | exact HI0.out | apply IsS91.alloc | apply IsS91.drewN | apply IsS91.drew | apply IsS91.set_1 | refine IsS91.far ?_ NB0_119.out _) | exact HI0.out)) : p := h
theorem ab50_ {p : Prop} (h : p := by repeat (first | (with_reducible first | exact HK.out | apply KeepBut.set_ | apply keep_drewN | apply keep_drew | apply keep_alloc | refine keep_far ?_ GW377.out _) | exact HK.out)) : p := h
theorem ab51_ {p : Prop} (h : p := by repeat (first | (with_reducible first | exact HB.out | apply below_alloc | apply pw_below_drewN | apply below_drew1 | refine below_set ?_ (IsS91.ge HI0.out) | refine below_set ?_ GE485.out) | exact HB.out)) : p := h
theorem ab53_ {p : Prop} (h : p := by repeat (first | (with_reducible first | exact HI0.out | apply IsS91.alloc | apply IsS91.drewN | apply IsS91.drew | apply IsS91.set_1 | refine IsS91.far ?_ NB0_147.out _) | exact HI0.out)) : p := h
theorem ab54_ {p : Prop} (h : p := by repeat (first | (with_reducible first | exact HI0.out | apply IsS91.alloc | apply IsS91.drewN | apply IsS91.drew | apply IsS91.set_1 | refine IsS91.far ?_ NB0_147.out _ | refine IsS91.far ?_ NB0_164.out _) | exact HI0.out)) : p := h
theorem ab55_ {p : Prop} (h : p := by repeat (first | (with_reducible first | exact HK.out | apply KeepBut.set_ | apply keep_drewN | apply keep_drew | apply keep_alloc | refine keep_far ?_ GW176.out _) | exact HK.out)) : p := h
theorem ab56_ {p : Prop} (h : p := by repeat (first | (with_reducible first | exact HB.out | apply below_alloc | apply pw_below_drewN | apply below_drew1 | refine below_set ?_ GE642.out) | exact HB.out)) : p := h
theorem ab57_ {p : Prop} (h : p := by repeat (first | (with_reducible first | exact HB.out | apply below_alloc | apply pw_below_drewN | apply below_drew1 | refine below_set ?_ GE107.out | refine below_set ?_ GE108.out | refine below_set ?_ GE109.out) | exact HB.out)) : p := h
theorem ab58_ {p : Prop} (h : p := by repeat (first | (with_reducible first | exact HB.out | apply below_alloc | apply pw_below_drewN | apply below_drew1 | refine below_set ?_ (IsS91.ge HI0.out) | refine below_set ?_ GE147.out) | exact HB.out)) : p := h
theorem ab59_ {p : Prop} (h : p := by repeat (first | (with_reducible first | exact HB.out | apply below_alloc | apply pw_below_drewN | apply below_drew1 | refine below_set ?_ GE526.out | refine below_set ?_ GE527.out | refine below_set ?_ GE541.out | refine below_set ?_ GE540.out) | exact HB.out)) : p := h
theorem ab60_ {p : Prop} (h : p := by repeat (first | (with_reducible first | exact HI0.out | apply IsS91.alloc | apply IsS91.drewN | apply IsS91.drew | apply IsS91.set_1 | refine IsS91.far ?_ NB0_413.out _) | exact HI0.out)) : p := h
theorem ab61_ {p : Prop} (h : p := by repeat (first | (with_reducible first | exact HB.out | apply below_alloc | apply pw_below_drewN | apply below_drew1 | refine below_set ?_ (IsS91.ge HI0.out) | refine below_set ?_ GE147.out | refine below_set ?_ GE164.out) | exact HB.out)) : p := h
theorem ab62_ {p : Prop} (h : p := by repeat (first | (with_reducible first | exact HI0.out | apply IsS91.alloc | apply IsS91.drewN | apply IsS91.drew | apply IsS91.set_1 | refine IsS91.far ?_ NB0_377.out _ | refine IsS91.far ?_ NB0_386.out _) | exact HI0.out)) : p := h
theorem ab64_ {p : Prop} (h : p := by repeat (first | (with_reducible first | exact HB.out | apply below_alloc | apply pw_below_drewN | apply below_drew1 | refine below_set ?_ (IsS91.ge HI0.out) | refine below_set ?_ GE187.out) | exact HB.out)) : p := h
theorem ab65_ {p : Prop} (h : p := by repeat (first | (with_reducible first | exact HB.out | apply below_alloc | apply pw_below_drewN | apply below_drew1 | refine below_set ?_ GE107.out | refine below_set ?_ GE108.out) | exact HB.out)) : p := h
theorem ab67_ {p : Prop} (h : p := by repeat (first | (with_reducible first | exact HBW.out | apply below_alloc | apply pw_below_drewN | apply below_drew1) | exact HBW.out)) : p := h
theorem ab71_ {p : Prop} (h : p := by repeat (first | (with_reducible first | exact HB.out | apply below_alloc | apply pw_below_drewN | apply below_drew1 | refine below_set ?_ GE526.out) | exact HB.out)) : p := h
theorem ab72_ {p : Prop} (h : p := by repeat (first | (with_reducible first | exact HB.out | apply below_alloc | apply pw_below_drewN | apply below_drew1 | refine below_set ?_ GE107.out) | exact HB.out)) : p := h
theorem ab73_ {p : Prop} (h : p := by repeat (first | (with_reducible first | exact HB.out | apply below_alloc | apply pw_below_drewN | apply below_drew1 | refine below_set ?_ GE599.out) | exact HB.out)) : p := h
theorem ab74_ {p : Prop} (h : p := by repeat (first | (with_reducible first | exact HB.out | apply below_alloc | apply pw_below_drewN | apply below_drew1 | refine below_set ?_ GE688.out) | exact HB.out)) : p := h
theorem ab75_ {p : Prop} (h : p := by repeat (first | (with_reducible first | exact HB.out | apply below_alloc | apply pw_below_drewN | apply below_drew1 | refine below_set ?_ GE115.out) | exact HB.out)) : p := h
theorem ab76_ {p : Prop} (h : p := by repeat (first | (with_reducible first | exact HB.out | apply below_alloc | apply pw_below_drewN | apply below_drew1 | refine below_set ?_ GE694.out) | exact HB.out)) : p := h
theorem ab77_ {p : Prop} (h : p := by repeat (first | (with_reducible first | exact HB.out | apply below_alloc | apply pw_below_drewN | apply below_drew1 | refine below_set ?_ (IsS91.ge HI0.out) | refine below_set ?_ GE413.out) | exact HB.out)) : p := h
theorem ab79_ {p : Prop} (h : p := by repeat (first | (with_reducible first | exact HI0.out | apply IsS91.alloc | apply IsS91.drewN | apply IsS91.drew | apply IsS91.set_1 | refine IsS91.far ?_ NB0_377.out _) | exact HI0.out)) : p := h
theorem ab81_ {p : Prop} (h : p := by repeat (first | (with_reducible first | exact HI0.out | apply IsS91.alloc | apply IsS91.drewN | apply IsS91.drew | apply IsS91.set_1 | refine IsS91.far ?_ NB0_176.out _) | exact HI0.out)) : p := h
theorem ab82_ {p : Prop} (h : p := by repeat (first | (with_reducible first | exact HB.out | apply below_alloc | apply pw_below_drewN | apply below_drew1 | refine below_set ?_ GE516.out) | exact HB.out)) : p := h
theorem ab83_ {p : Prop} (h : p := by repeat (first | (with_reducible first | exact HB.out | apply below_alloc | apply pw_below_drewN | apply below_drew1 | refine below_set ?_ GE584.out) | exact HB.out)) : p := h
theorem ab84_ {p : Prop} (h : p := by repeat (first | (with_reducible first | exact HB.out | apply below_alloc | apply pw_below_drewN | apply below_drew1 | refine below_set ?_ GE586.out) | exact HB.out)) : p := h
theorem ab85_ {p : Prop} (h : p := by repeat (first | (with_reducible first | exact HB.out | apply below_alloc | apply pw_below_drewN | apply below_drew1 | refine below_set ?_ GE597.out) | exact HB.out)) : p := h
theorem ab86_ {p : Prop} (h : p := by repeat (first | (with_reducible first | exact HK.out | apply keep_drewN | apply keep_drew) | exact HK.out)) : p := h
theorem aN_ {p q : Prop} (x : q) (h : q → p := by intro hx_; (with_reducible repeat (first | apply Kd.N_alloc | apply Kd.N_drewN | apply Kd.N_drew)); exact hx_) : p := h x
theorem aR_ {p q : Prop} (x : q) (h : q → p := by intro hx_; (with_reducible repeat (first | apply Kd.R_alloc | apply Kd.R_drewN | apply Kd.R_drew)); exact hx_) : p := h x
theorem aG_ {p q : Prop} (x : q) (h : q → p := by intro hx_; (with_reducible repeat (first | refine blk_drewN ?_ _ | refine blk_drew ?_ | refine blk_alloc ?_ _)); exact hx_) : p := h x
theorem rr_ {p : Prop} (h : p := by first | rfl | (simp [errW_none, errW_some] <;> rfl) | (simp [*, errW_none, errW_some] <;> rfl)) : p := h
theorem bsm {α β : Type} {o : Option α} {f : α → Option β} {b : β} (h : o.bind f = some b) : ∃ a, o = some a ∧ f a = some b := Option.bind_eq_some_iff.mp h
theorem am {p : Prop} (h : p) : Aside0 p := ⟨h⟩
theorem bcf1_ {w : World} {g : Nat} {t : TypeId} {x0 : Value} (h : w.heap[g]? = some (.cells #[x0] t (0, 0))) : w.cell? ⟨g, 0, none⟩ = some x0 ∧ w.frozen? ⟨g, 0, none⟩ = false := ⟨(blk_cell h 0).trans rfl, blk_frozen h 0⟩
theorem bcf3_ {w : World} {g : Nat} {t : TypeId} {x0 x1 x2 : Value} (h : w.heap[g]? = some (.cells #[x0, x1, x2] t (0, 0))) : w.cell? ⟨g, 0, none⟩ = some x0 ∧ w.cell? ⟨g, 1, none⟩ = some x1 ∧ w.cell? ⟨g, 2, none⟩ = some x2 ∧ w.frozen? ⟨g, 0, none⟩ = false ∧ w.frozen? ⟨g, 1, none⟩ = false ∧ w.frozen? ⟨g, 2, none⟩ = false := ⟨(blk_cell h 0).trans rfl, (blk_cell h 1).trans rfl, (blk_cell h 2).trans rfl, blk_frozen h 0, blk_frozen h 1, blk_frozen h 2⟩
theorem bcf8_ {w : World} {g : Nat} {t : TypeId} {x0 x1 x2 x3 x4 x5 x6 x7 : Value} (h : w.heap[g]? = some (.cells #[x0, x1, x2, x3, x4, x5, x6, x7] t (0, 0))) : w.cell? ⟨g, 0, none⟩ = some x0 ∧ w.cell? ⟨g, 1, none⟩ = some x1 ∧ w.cell? ⟨g, 2, none⟩ = some x2 ∧ w.cell? ⟨g, 3, none⟩ = some x3 ∧ w.cell? ⟨g, 4, none⟩ = some x4 ∧ w.cell? ⟨g, 5, none⟩ = some x5 ∧ w.cell? ⟨g, 6, none⟩ = some x6 ∧ w.cell? ⟨g, 7, none⟩ = some x7 ∧ w.frozen? ⟨g, 0, none⟩ = false ∧ w.frozen? ⟨g, 1, none⟩ = false ∧ w.frozen? ⟨g, 2, none⟩ = false ∧ w.frozen? ⟨g, 3, none⟩ = false ∧ w.frozen? ⟨g, 4, none⟩ = false ∧ w.frozen? ⟨g, 5, none⟩ = false ∧ w.frozen? ⟨g, 6, none⟩ = false ∧ w.frozen? ⟨g, 7, none⟩ = false := ⟨(blk_cell h 0).trans rfl, (blk_cell h 1).trans rfl, (blk_cell h 2).trans rfl, (blk_cell h 3).trans rfl, (blk_cell h 4).trans rfl, (blk_cell h 5).trans rfl, (blk_cell h 6).trans rfl, (blk_cell h 7).trans rfl, blk_frozen h 0, blk_frozen h 1, blk_frozen h 2, blk_frozen h 3, blk_frozen h 4, blk_frozen h 5, blk_frozen h 6, blk_frozen h 7⟩
theorem bbl_ {W0 W W1 : World} {g : Nat} {o : Obj} (x : W0.heap[g]? = some o) (hb : Below W.heap.size W W1) (h : W0.heap[g]? = some o → W.heap[g]? = some o := by intro hx_; (with_reducible repeat (first | refine blk_drewN ?_ _ | refine blk_drew ?_ | refine blk_alloc ?_ _)); exact hx_) : W1.heap[g]? = some o := blk_below (h x) hb
theorem blt_ {W0 W : World} {g : Nat} {o : Obj} (x : W0.heap[g]? = some o) (h : W0.heap[g]? = some o → W.heap[g]? = some o := by intro hx_; (with_reducible repeat (first | refine blk_drewN ?_ _ | refine blk_drew ?_ | refine blk_alloc ?_ _)); exact hx_) : g < W.heap.size := blk_lt (h x)
theorem frb_ {W0 W : World} {g : Nat} {o : Obj} (x : W0.heap[g]? = some o) (k : Nat) (hk : W.heap.size ≤ k) (h : W0.heap[g]? = some o → W.heap[g]? = some o := by intro hx_; (with_reducible repeat (first | refine blk_drewN ?_ _ | refine blk_drew ?_ | refine blk_alloc ?_ _)); exact hx_) : k ≠ g := Kd.freshB (h x) k hk
theorem aC_ {p q : Prop} (x : q) (h : q → p := by intro hx_; repeat (first | exact hx_ | (with_reducible refine Kd.C_alloc ?_ _) | (with_reducible refine Kd.C_drewN ?_ _) | (with_reducible refine Kd.C_drew ?_))) : p := h x
theorem rn_ {p : Prop} (h : p := by first | (go_simp; done) | (go_simp; rfl)) : p := h
theorem nm_ {p : Prop} (h : p := by first | (simp only [putAll, Act.put, List.setIfInBounds_toArray, List.set_cons_zero, List.set_cons_succ]; done) | (simp only [putAll, Act.put, List.setIfInBounds_toArray, List.set_cons_zero, List.set_cons_succ]; rfl)) : p := h
theorem sd_ {p : Prop} (h : p := by first | rfl | (simp; done) | (simp [*]; done)) : p := h
theorem asm_ {p : Prop} (h : p := by first | (with_reducible assumption) | assumption) : p := h
theorem nb_ {p q : Prop} (x : q) (h : q → p := by intro hx_; first | (rw [add_block]; exact hx_) | (show (Addr.add _ _).block ≠ _; rw [add_block]; exact hx_) | exact hx_) : p := h x
def spec_l6Open.f (l0 : List Int) : Option (List Int × Int) := if (l0.length : Int) > 2000 then (if 2000 ≤ (l0.length : Int) then (some (l0.take 2000, 0)) else (none)) else (some (l0, 0))
def spec_l6Rd_pick.j0 : Nat → Int → Bool → List Int → Int → Option (Int × Int)
 | 0, _, _, _, _ => none
 | k + 1, x1, x24, x1000, x1001 => if x24 = true then (some (0, x1001)) else (if (wrap64 (x1001 - 1)) < (x1000.length : Int) then (if 0 ≤ (wrap64 (x1001 - 1)) then (if x1 = 0 then (none) else (some (Int.tmod (wrap64 (rd x1000 (wrap64 (x1001 - 1)))) x1, x1001))) else (none)) else (if (x1000.length : Int) = 0 then (none) else (if 0 ≤ (Int.tmod (wrap64 (x1001 - 1)) (x1000.length : Int)) then (if (Int.tmod (wrap64 (x1001 - 1)) (x1000.length : Int)) < (x1000.length : Int) then (if 0 ≤ (Int.tmod (wrap64 ((wrap64 ((wrap64 (x1001 - 1)) * 7)) + 3)) (x1000.length : Int)) then (if (Int.tmod (wrap64 ((wrap64 ((wrap64 (x1001 - 1)) * 7)) + 3)) (x1000.length : Int)) < (x1000.length : Int) then (if x1 = 0 then (none) else (some (Int.tmod (Go.bits .xor .i64 (wrap64 ((wrap64 ((wrap64 ((wrap64 ((wrap64 (rd x1000 (Int.tmod (wrap64 (x1001 - 1)) (x1000.length : Int)))) * 131)) + (wrap64 ((wrap64 (rd x1000 (Int.tmod (wrap64 ((wrap64 ((wrap64 (x1001 - 1)) * 7)) + 3)) (x1000.length : Int)))) * 1117)))) + (wrap64 ((wrap64 (x1001 - 1)) * 29)))) + (wrap64 ((wrap64 (Int.tdiv (wrap64 (x1001 - 1)) (x1000.length : Int))) * 53)))) (wrap64 (Int.tdiv (wrap64 ((wrap64 ((wrap64 ((wrap64 ((wrap64 (rd x1000 (Int.tmod (wrap64 (x1001 - 1)) (x1000.length : Int)))) * 131)) + (wrap64 ((wrap64 (rd x1000 (Int.tmod (wrap64 ((wrap64 ((wrap64 (x1001 - 1)) * 7)) + 3)) (x1000.length : Int)))) * 1117)))) + (wrap64 ((wrap64 (x1001 - 1)) * 29)))) + (wrap64 ((wrap64 (Int.tdiv (wrap64 (x1001 - 1)) (x1000.length : Int))) * 53)))) 64))) x1, x1001))) else (none)) else (none)) else (none)) else (none))))
def spec_l6Rd_pick.f (k : Nat) (s0_0 : List Int) (s0_1 : Int) (a1 : Int) : Option (Int × Int) := if a1 < 1 then (spec_l6Rd_pick.j0 k a1 true s0_0 (wrap64 (s0_1 + 1))) else (spec_l6Rd_pick.j0 k a1 ((s0_0.length : Int) == 0) s0_0 (wrap64 (s0_1 + 1)))
def spec_l4Both.f (a0 : Int) (a1_0 : Int) (a1_1 : Int) (l1_2 : List (S32)) (a2_0 : Int) (a2_1 : Int) (l2_2 : List (S32)) : Option (Int × Int × (List (S32))) := some (a0, 0, (([(⟨a1_0, a1_1, l1_2⟩ : S32), (⟨a2_0, a2_1, l2_2⟩ : S32)] : List (S32))))
def spec_l91Op.f (k : Nat) (s0_0 : List Int) (s0_1 : Int) : Option (Int × Int) := (spec_l6Rd_pick.f k s0_0 s0_1 12).bind fun bt113 => (some (wrap64 (1 + bt113.1), bt113.2))
def spec_l4Leaf.f (a0 : Int) (a1 : Int) : Option (Int × Int × (List (S32))) := some (a0, a1, (([] : List (S32))))
def spec_l91Leaf.f (k : Nat) (s0_0 : List Int) (s0_1 : Int) : Option (Int × Int × (List (S32)) × Int) := (spec_l6Rd_pick.f k s0_0 s0_1 4).bind fun bt120 => (if bt120.1 = 0 then ((spec_l6Rd_pick.f k s0_0 bt120.2 4).bind fun bt122 => ((spec_l4Leaf.f 0 bt122.1).bind fun bt124 => (some (bt124.1, bt124.2.1, bt124.2.2, bt122.2)))) else (if bt120.1 = 1 then ((some (([5, 31, 32, 100, 2047, 2048, 65536, 99999] : List Int) : List Int)).bind fun y129 => ((spec_l6Rd_pick.f k s0_0 bt120.2 8).bind fun bt132 => (if 0 ≤ bt132.1 then (if bt132.1 < (y129.length : Int) then ((spec_l4Leaf.f 0 (rd y129 bt132.1)).bind fun bt135 => (some (bt135.1, bt135.2.1, bt135.2.2, bt132.2))) else (none)) else (none)))) else ((spec_l6Rd_pick.f k s0_0 bt120.2 4).bind fun bt140 => ((spec_l4Leaf.f 13 bt140.1).bind fun bt142 => (some (bt142.1, bt142.2.1, bt142.2.2, bt140.2))))))
mutual
def spec_l91Expr.j0 : Nat → Int → Bool → List Int → Int → Option (Int × Int × (List (S32)) × Int)
 | 0, _, _, _, _ => none
 | k + 1, x1, x13, x1000, x1001 => if x13 = true then ((spec_l91Leaf.f k x1000 x1001).bind fun bt150 => (some (bt150.1, bt150.2.1, bt150.2.2.1, bt150.2.2.2))) else ((spec_l91Op.f k x1000 x1001).bind fun bt156 => ((spec_l91Expr.f k x1000 bt156.2 (wrap64 (x1 - 1))).bind fun bt158 => ((spec_l91Expr.f k x1000 bt158.2.2.2 (wrap64 (x1 - 1))).bind fun bt165 => ((spec_l4Both.f bt156.1 bt158.1 bt158.2.1 bt158.2.2.1 bt165.1 bt165.2.1 bt165.2.2.1).bind fun bt171 => (some (bt171.1, bt171.2.1, bt171.2.2, bt165.2.2.2))))))
def spec_l91Expr.f : Nat → List Int → Int → Int → Option (Int × Int × (List (S32)) × Int)
 | 0, _, _, _ => none
 | k + 1, s0_0, s0_1, a1 => if a1 < 2 then (spec_l91Expr.j0 k a1 true s0_0 s0_1) else ((spec_l6Rd_pick.f k s0_0 s0_1 3).bind fun bt148 => (spec_l91Expr.j0 k a1 (bt148.1 == 0) s0_0 bt148.2))
end
def spec_l92Set.f (k : Nat) (s0_0 : List Int) (s0_1 : Int) : Option (Int × Int × Int × Int × Int × (List (S32)) × (List (S35)) × (List (S35)) × Int) := (spec_l6Rd_pick.f k s0_0 s0_1 3).bind fun bt177 => ((spec_l6Rd_pick.f k s0_0 bt177.2 3).bind fun bt179 => ((spec_l91Expr.f k s0_0 bt179.2 (wrap64 (1 + bt179.1))).bind fun bt181 => (some (1, bt177.1, 0, bt181.1, bt181.2.1, bt181.2.2.1, ([] : List (S35)), ([] : List (S35)), bt181.2.2.2))))
def spec_l92Talk.f (k : Nat) (s0_0 : List Int) (s0_1 : Int) (a1 : Int) : Option (Int × Int × Int × Int × Int × (List (S32)) × (List (S35)) × (List (S35)) × Int) := if a1 < 1 then ((spec_l92Set.f k s0_0 s0_1).bind fun bt188 => (some (bt188.1, bt188.2.1, bt188.2.2.1, bt188.2.2.2.1, bt188.2.2.2.2.1, bt188.2.2.2.2.2.1, bt188.2.2.2.2.2.2.1, bt188.2.2.2.2.2.2.2.1, bt188.2.2.2.2.2.2.2.2))) else ((spec_l6Rd_pick.f k s0_0 s0_1 a1).bind fun bt203 => ((spec_l6Rd_pick.f k s0_0 bt203.2 2).bind fun bt205 => (if bt205.1 = 0 then ((spec_l6Rd_pick.f k s0_0 bt205.2 3).bind fun bt207 => ((spec_l91Expr.f k s0_0 bt207.2 (wrap64 (1 + bt207.1))).bind fun bt209 => (some (4, 0, bt203.1, bt209.1, bt209.2.1, bt209.2.2.1, ([] : List (S35)), ([] : List (S35)), bt209.2.2.2)))) else ((spec_l6Rd_pick.f k s0_0 bt205.2 3).bind fun bt215 => (some (5, bt215.1, bt203.1, 0, 0, ([] : List (S32)), ([] : List (S35)), ([] : List (S35)), bt215.2))))))
mutual
def spec_l92Loop.f : Nat → List Int → Int → Int → Int → Option ((List (S35)) × Int)
 | 0, _, _, _, _ => none
 | k + 1, s0_0, s0_1, a1, a2 => (spec_l6Rd_pick.f k s0_0 s0_1 3).bind fun bt217 => ((spec_l92Block.f k s0_0 bt217.2 a1 (wrap64 (a2 - 1)) bt217.1 false).bind fun bt219 => ((spec_l4Leaf.f 13 3).bind fun bt223 => ((spec_l4Leaf.f 0 1).bind fun bt228 => ((spec_l4Both.f 8 bt223.1 bt223.2.1 bt223.2.2 bt228.1 bt228.2.1 bt228.2.2).bind fun bt233 => ((spec_l4Leaf.f 13 3).bind fun bt239 => ((spec_l6Rd_pick.f k s0_0 bt219.2 3).bind fun bt244 => ((spec_l4Leaf.f 0 (wrap64 (1 + bt244.1))).bind fun bt246 => ((spec_l4Both.f 5 bt239.1 bt239.2.1 bt239.2.2 bt246.1 bt246.2.1 bt246.2.2).bind fun bt251 => ((some (([(⟨1, 3, 0, (⟨bt233.1, bt233.2.1, bt233.2.2⟩ : S32), ([] : List (S35)), ([] : List (S35))⟩ : S35)] : List (S35)) : List (S35))).bind fun y256 => (if bt219.1.length + y256.length < 1256584717458 then ((spec_l4Leaf.f 0 0).bind fun bt263 => (some ((([(⟨1, 3, 0, (⟨bt263.1, bt263.2.1, bt263.2.2⟩ : S32), ([] : List (S35)), ([] : List (S35))⟩ : S35), (⟨3, 0, 0, (⟨bt251.1, bt251.2.1, bt251.2.2⟩ : S32), (bt219.1 ++ y256), ([] : List (S35))⟩ : S35)] : List (S35))), bt244.2))) else (none)))))))))))
def spec_l92Stmt.j0 : Nat → Int → Int → Bool → Int → Bool → List Int → Int → Option ((List (S35)) × Int)
 | 0, _, _, _, _, _, _, _ => none
 | k + 1, x1, x2, x3, x10, x11, x1000, x1001 => if x11 = true then ((spec_l92Set.f k x1000 x1001).bind fun bt273 => (some ((([(⟨bt273.1, bt273.2.1, bt273.2.2.1, (⟨bt273.2.2.2.1, bt273.2.2.2.2.1, bt273.2.2.2.2.2.1⟩ : S32), bt273.2.2.2.2.2.2.1, bt273.2.2.2.2.2.2.2.1⟩ : S35)] : List (S35))), bt273.2.2.2.2.2.2.2.2))) else (if x10 = 2 then (if x2 > 0 then ((spec_l92If.f k x1000 x1001 x1 x2 x3).bind fun bt291 => (some ((([(⟨bt291.1, bt291.2.1, bt291.2.2.1, (⟨bt291.2.2.2.1, bt291.2.2.2.2.1, bt291.2.2.2.2.2.1⟩ : S32), bt291.2.2.2.2.2.2.1, bt291.2.2.2.2.2.2.2.1⟩ : S35)] : List (S35))), bt291.2.2.2.2.2.2.2.2))) else ((spec_l6Rd_pick.f k x1000 x1001 3).bind fun bt309 => ((spec_l91Expr.f k x1000 bt309.2 (wrap64 (1 + bt309.1))).bind fun bt311 => (some ((([(⟨7, 0, 0, (⟨bt311.1, bt311.2.1, bt311.2.2.1⟩ : S32), ([] : List (S35)), ([] : List (S35))⟩ : S35)] : List (S35))), bt311.2.2.2))))) else (if x10 = 3 then (if x2 > 0 then (spec_l92Stmt.j1 k x1 x2 x3 x1000 x1001) else (spec_l92Stmt.j1 k x1 x2 false x1000 x1001)) else (if x10 = 4 then (spec_l92Stmt.j2 k x1 x10 (x10 == 4) x1000 x1001) else (if x10 = 5 then (spec_l92Stmt.j2 k x1 x10 (x10 == 5) x1000 x1001) else (spec_l92Stmt.j2 k x1 x10 (x10 == 6) x1000 x1001)))))
def spec_l92Stmt.j1 : Nat → Int → Int → Bool → List Int → Int → Option ((List (S35)) × Int)
 | 0, _, _, _, _, _ => none
 | k + 1, x1, x2, x33, x1000, x1001 => if x33 = true then ((spec_l92Loop.f k x1000 x1001 x1 x2).bind fun bt320 => (some (bt320.1, bt320.2))) else ((spec_l6Rd_pick.f k x1000 x1001 3).bind fun bt324 => ((spec_l91Expr.f k x1000 bt324.2 (wrap64 (1 + bt324.1))).bind fun bt326 => (some ((([(⟨7, 0, 0, (⟨bt326.1, bt326.2.1, bt326.2.2.1⟩ : S32), ([] : List (S35)), ([] : List (S35))⟩ : S35)] : List (S35))), bt326.2.2.2))))
def spec_l92Stmt.j2 : Nat → Int → Int → Bool → List Int → Int → Option ((List (S35)) × Int)
 | 0, _, _, _, _, _ => none
 | k + 1, x1, x10, x38, x1000, x1001 => if x38 = true then ((spec_l92Talk.f k x1000 x1001 x1).bind fun bt335 => (some ((([(⟨bt335.1, bt335.2.1, bt335.2.2.1, (⟨bt335.2.2.2.1, bt335.2.2.2.2.1, bt335.2.2.2.2.2.1⟩ : S32), bt335.2.2.2.2.2.2.1, bt335.2.2.2.2.2.2.2.1⟩ : S35)] : List (S35))), bt335.2.2.2.2.2.2.2.2))) else (if x10 = 7 then (some ((([(⟨6, 0, 0, (⟨0, 0, ([] : List (S32))⟩ : S32), ([] : List (S35)), ([] : List (S35))⟩ : S35)] : List (S35))), x1001)) else ((spec_l6Rd_pick.f k x1000 x1001 3).bind fun bt356 => ((spec_l91Expr.f k x1000 bt356.2 (wrap64 (1 + bt356.1))).bind fun bt358 => (some ((([(⟨7, 0, 0, (⟨bt358.1, bt358.2.1, bt358.2.2.1⟩ : S32), ([] : List (S35)), ([] : List (S35))⟩ : S35)] : List (S35))), bt358.2.2.2)))))
def spec_l92Stmt.f : Nat → List Int → Int → Int → Int → Bool → Option ((List (S35)) × Int)
 | 0, _, _, _, _, _ => none
 | k + 1, s0_0, s0_1, a1, a2, a3 => (spec_l6Rd_pick.f k s0_0 s0_1 10).bind fun bt271 => (if bt271.1 = 0 then (spec_l92Stmt.j0 k a1 a2 a3 bt271.1 (bt271.1 == 0) s0_0 bt271.2) else (spec_l92Stmt.j0 k a1 a2 a3 bt271.1 (bt271.1 == 1) s0_0 bt271.2))
def spec_l92Block.l0 : Nat → Int → Int → Int → Bool → List (S35) → Int → List Int → Int → Option ((List (S35)) × Int)
 | 0, _, _, _, _, _, _, _, _ => none
 | k + 1, x1, x2, x3, x4, x11, x12, x1000, x1001 => if x12 < x3 then ((spec_l92Stmt.f k x1000 x1001 x1 x2 x4).bind fun bt370 => (if x11.length + bt370.1.length < 1256584717458 then (spec_l92Block.l0 k x1 x2 x3 x4 (x11 ++ bt370.1) (wrap64 (x12 + 1)) x1000 bt370.2) else (none))) else (some (x11, x1001))
def spec_l92Block.f : Nat → List Int → Int → Int → Int → Int → Bool → Option ((List (S35)) × Int)
 | 0, _, _, _, _, _, _ => none
 | k + 1, s0_0, s0_1, a1, a2, a3, a4 => spec_l92Block.l0 k a1 a2 a3 a4 (([] : List (S35))) 0 s0_0 s0_1
def spec_l92If.f : Nat → List Int → Int → Int → Int → Bool → Option (Int × Int × Int × Int × Int × (List (S32)) × (List (S35)) × (List (S35)) × Int)
 | 0, _, _, _, _, _ => none
 | k + 1, s0_0, s0_1, a1, a2, a3 => (spec_l6Rd_pick.f k s0_0 s0_1 2).bind fun bt378 => ((spec_l91Expr.f k s0_0 bt378.2 (wrap64 (1 + bt378.1))).bind fun bt380 => ((spec_l6Rd_pick.f k s0_0 bt380.2.2.2 3).bind fun bt387 => ((spec_l92Block.f k s0_0 bt387.2 a1 (wrap64 (a2 - 1)) bt387.1 a3).bind fun bt389 => ((spec_l6Rd_pick.f k s0_0 bt389.2 3).bind fun bt393 => ((spec_l92Block.f k s0_0 bt393.2 a1 (wrap64 (a2 - 1)) bt393.1 a3).bind fun bt395 => (some (2, 0, 0, bt380.1, bt380.2.1, bt380.2.2.1, bt389.1, bt395.1, bt395.2)))))))
end
mutual
def spec_l11Count.l0 : Nat → List (S35) → Int → Int → Option (Int)
 | 0, _, _, _ => none
 | k + 1, x0, x3, x4 => if x4 < (x0.length : Int) then (if 0 ≤ x4 then ((spec_l11Count.f k ((rd_T35 x0 x4).f4)).bind fun t400 => ((spec_l11Count.f k ((rd_T35 x0 x4).f5)).bind fun t402 => (spec_l11Count.l0 k x0 (wrap64 ((wrap64 ((wrap64 (x3 + 1)) + t400)) + t402)) (wrap64 (x4 + 1))))) else (none)) else (some x3)
def spec_l11Count.f : Nat → List (S35) → Option (Int)
 | 0, _ => none
 | k + 1, l0 => spec_l11Count.l0 k l0 0 0
end
def spec_l92Stmts.l0 : Nat → List (S35) → List Int → Int → Option ((List (S35)) × Int)
 | 0, _, _, _ => none
 | k + 1, x5, x1000, x1001 => (spec_l11Count.f k x5).bind fun t409 => (if t409 > 16 then (if 0 ≤ (wrap64 ((x5.length : Int) - 1)) then (if (wrap64 ((x5.length : Int) - 1)) ≤ (x5.length : Int) then (spec_l92Stmts.l0 k (x5.take ((wrap64 ((x5.length : Int) - 1)) : Int).toNat) x1000 x1001) else (none)) else (none)) else (some (x5, x1001)))
def spec_l92Stmts.f (k : Nat) (s0_0 : List Int) (s0_1 : Int) (a1 : Int) : Option ((List (S35)) × Int) := (spec_l6Rd_pick.f k s0_0 s0_1 6).bind fun bt403 => ((spec_l92Block.f k s0_0 bt403.2 a1 3 (wrap64 (1 + bt403.1)) true).bind fun bt405 => (spec_l92Stmts.l0 k bt405.1 s0_0 bt405.2))
def spec_l92Endless.f (k : Nat) (s0_0 : List Int) (s0_1 : Int) : Option (Int × Int × Int × Int × Int × (List (S32)) × (List (S35)) × (List (S35)) × Int) := (spec_l4Leaf.f 0 1).bind fun bt414 => ((spec_l6Rd_pick.f k s0_0 s0_1 2).bind fun bt419 => ((spec_l92Block.f k s0_0 bt419.2 0 1 bt419.1 false).bind fun bt421 => (some (3, 0, 0, bt414.1, bt414.2.1, bt414.2.2, bt421.1, ([] : List (S35)), bt421.2))))
def spec_l92Some.f (k : Nat) (s0_0 : List Int) (s0_1 : Int) : Option ((List (S35)) × Int) := (spec_l92Stmts.f k s0_0 s0_1 3).bind fun bt425 => ((spec_l6Rd_pick.f k s0_0 bt425.2 24).bind fun bt429 => (if bt429.1 = 0 then ((spec_l92Endless.f k s0_0 bt429.2).bind fun bt431 => (if bt425.1.length < 1256584717458 then (some ((bt425.1 ++ [(⟨bt431.1, bt431.2.1, bt431.2.2.1, (⟨bt431.2.2.2.1, bt431.2.2.2.2.1, bt431.2.2.2.2.2.1⟩ : S32), bt431.2.2.2.2.2.2.1, bt431.2.2.2.2.2.2.2.1⟩ : S35)]), bt431.2.2.2.2.2.2.2.2)) else (none))) else (if bt429.1 = 1 then ((some (([0, 8] : List Int) : List Int)).bind fun y449 => ((spec_l6Rd_pick.f k s0_0 bt429.2 2).bind fun bt452 => (if 0 ≤ bt452.1 then (if bt452.1 < (y449.length : Int) then (if bt425.1.length < 1256584717458 then (some ((bt425.1 ++ [(⟨rd y449 bt452.1, 0, 0, (⟨0, 0, ([] : List (S32))⟩ : S32), ([] : List (S35)), ([] : List (S35))⟩ : S35)]), bt452.2)) else (none)) else (none)) else (none)))) else (if bt429.1 = 2 then ((spec_l91Leaf.f k s0_0 bt429.2).bind fun bt458 => (if bt425.1.length < 1256584717458 then (some ((bt425.1 ++ [(⟨4, 0, 3, (⟨bt458.1, bt458.2.1, bt458.2.2.1⟩ : S32), ([] : List (S35)), ([] : List (S35))⟩ : S35)]), bt458.2.2.2)) else (none))) else (if bt429.1 = 3 then (if bt425.1.length < 1256584717458 then (some ((bt425.1 ++ [(⟨6, 1, 0, (⟨0, 0, ([] : List (S32))⟩ : S32), ([] : List (S35)), ([] : List (S35))⟩ : S35)]), bt429.2)) else (none)) else (if bt429.1 = 4 then ((spec_l92If.f k s0_0 bt429.2 1 1 false).bind fun bt470 => (if bt425.1.length < 1256584717458 then (some ((bt425.1 ++ [(⟨bt470.1, bt470.2.1, bt470.2.2.1, (⟨bt470.2.2.2.1, bt470.2.2.2.2.1, bt470.2.2.2.2.2.1⟩ : S32), (([(⟨2, 0, 0, (⟨0, 0, ([] : List (S32))⟩ : S32), (([(⟨2, 0, 0, (⟨0, 0, ([] : List (S32))⟩ : S32), (([(⟨2, 0, 0, (⟨0, 0, ([] : List (S32))⟩ : S32), ([] : List (S35)), ([] : List (S35))⟩ : S35)] : List (S35))), ([] : List (S35))⟩ : S35)] : List (S35))), ([] : List (S35))⟩ : S35)] : List (S35))), bt470.2.2.2.2.2.2.2.1⟩ : S35)]), bt470.2.2.2.2.2.2.2.2)) else (none))) else (if bt429.1 = 5 then ((spec_l91Leaf.f k s0_0 bt429.2).bind fun bt498 => (if bt425.1.length < 1256584717458 then (some ((bt425.1 ++ [(⟨3, 0, 0, (⟨bt498.1, bt498.2.1, bt498.2.2.1⟩ : S32), ([] : List (S35)), (([(⟨6, 0, 0, (⟨0, 0, ([] : List (S32))⟩ : S32), ([] : List (S35)), ([] : List (S35))⟩ : S35)] : List (S35)))⟩ : S35)]), bt498.2.2.2)) else (none))) else (some (bt425.1, bt429.2)))))))))
def spec_DrawStmtsFold.f (k : Nat) (l0 : List Int) : Option (List S35) := (spec_l6Open.f l0).bind fun o => (spec_l92Some.f k o.1 o.2).bind fun s => (spec_l6Rd_pick.f k o.1 s.2 3).bind fun p => if p.1 = 0 then ((spec_l92If.f k o.1 p.2 1 1 false).bind fun i => (spec_l91Op.f k o.1 i.2.2.2.2.2.2.2.2).bind fun q => (spec_l6Rd_pick.f k o.1 q.2 3).bind fun a => (spec_l6Rd_pick.f k o.1 a.2 3).bind fun b => some [(⟨i.1, i.2.1, i.2.2.1, ⟨q.1, 0, [⟨0, a.1, []⟩, ⟨0, b.1, []⟩]⟩, i.2.2.2.2.2.2.1, i.2.2.2.2.2.2.2.1⟩ : S35)]) else some s.1
def impl_OpValid.f (a0 : Int) : Option (Bool) := if a0 ≥ 1 then (some (decide (a0 ≤ 12))) else (some false)
def impl_exprValid.f : Nat → Int → Int → List (S32) → Int → Option (Bool)
 | 0, _, _, _, _ => none
 | k + 1, a0_0, a0_1, l0_2, a1 => if a0_0 = 0 then (if a0_1 ≥ 0 then (if a0_1 ≤ 99999 then (if (l0_2.length : Int) = 0 then (some (decide (a1 > 0))) else (some false)) else (some false)) else (some false)) else (if a0_0 = 13 then (if a0_1 ≥ 0 then (if a0_1 < 4 then (if (l0_2.length : Int) = 0 then (some (decide (a1 > 0))) else (some false)) else (some false)) else (some false)) else ((impl_OpValid.f a0_0).bind fun t511 => (if t511 = true then (if a0_1 = 0 then (if (l0_2.length : Int) = 2 then (if a1 > 1 then (if 0 < (l0_2.length : Int) then ((impl_exprValid.f k ((rd_T32 l0_2 0).f0) ((rd_T32 l0_2 0).f1) ((rd_T32 l0_2 0).f2) (wrap64 (a1 - 1))).bind fun t513 => (if t513 = true then (if 1 < (l0_2.length : Int) then ((impl_exprValid.f k ((rd_T32 l0_2 1).f0) ((rd_T32 l0_2 1).f1) ((rd_T32 l0_2 1).f2) (wrap64 (a1 - 1))).bind fun t515 => (some t515)) else (none)) else (some false))) else (none)) else (some false)) else (some false)) else (some false)) else (some false))))
def impl_ExprValid.f (k : Nat) (a0_0 : Int) (a0_1 : Int) (l0_2 : List (S32)) : Option (Bool) := (impl_exprValid.f k a0_0 a0_1 l0_2 5).bind fun t517 => (some t517)
def inr (n limit : Int) (needed : Bool) : Bool := (n == 0) || (needed && (decide (n > 0) && decide (n < limit)))
def stv_rest (k : Nat) (nv nb ne nd no : Bool) (va bx op n : Int) (la : List S32) (lb le : Nat) (boxes : Int) : Option Bool :=
  if inr va 4 nv = true then (if inr bx boxes nb = true then (if nb = true ∧ boxes ≤ bx then some false else
    (if ne = true then ((impl_ExprValid.f k op n la).bind fun t => if t = true then some ((nd || lb == 0) && (no || le == 0)) else some false)
     else (if op = 0 then (if n = 0 then (if 0 < (la.length : Int) then some false else some ((nd || lb == 0) && (no || le == 0))) else some false) else some false))) else some false) else some false
def impl_stmtValid.f (k : Nat) (kd va bx op n : Int) (la : List S32) (lb le : Nat) (boxes : Int) : Option Bool :=
 if kd = 1 then stv_rest k true false true false false va bx op n la lb le boxes
 else if kd = 2 then stv_rest k false false true true true va bx op n la lb le boxes
 else if kd = 3 then stv_rest k false false true true false va bx op n la lb le boxes
 else if kd = 4 then stv_rest k false true true false false va bx op n la lb le boxes
 else if kd = 5 then stv_rest k true true false false false va bx op n la lb le boxes
 else if kd = 7 then stv_rest k false false true false false va bx op n la lb le boxes
 else if kd = 6 then stv_rest k false false false false false va bx op n la lb le boxes
 else some false
mutual
def impl_blockValid.f : Nat → List S35 → Int → Int → Int → Option (Bool × Int)
 | 0, _, _, _, _ => none
 | k + 1, l, boxes, blocks, cnt => if 16 < wrap64 (cnt + (l.length : Int)) then some (false, wrap64 (cnt + (l.length : Int))) else impl_blockValid.l0 k l boxes blocks 0 (wrap64 (cnt + (l.length : Int)))
def impl_blockValid.l0 : Nat → List S35 → Int → Int → Int → Int → Option (Bool × Int)
 | 0, _, _, _, _, _ => none
 | k + 1, l, boxes, blocks, i, cnt => if i < (l.length : Int) then (if 0 ≤ i then
   ((impl_stmtValid.f k (rd_T35 l i).f0 (rd_T35 l i).f1 (rd_T35 l i).f2 (rd_T35 l i).f3.f0 (rd_T35 l i).f3.f1 (rd_T35 l i).f3.f2 (rd_T35 l i).f4.length (rd_T35 l i).f5.length boxes).bind fun t =>
    if t = true then (if 3 < blocks then some (false, cnt) else
     (if (rd_T35 l i).f0 = 2 ∨ (rd_T35 l i).f0 = 3 then (if 3 ≤ blocks then some (false, cnt) else
      ((impl_blockValid.f k (rd_T35 l i).f4 boxes (wrap64 (blocks + 1)) cnt).bind fun p => if p.1 = true then
       ((impl_blockValid.f k (rd_T35 l i).f5 boxes (wrap64 (blocks + 1)) p.2).bind fun q => if q.1 = true then impl_blockValid.l0 k l boxes blocks (wrap64 (i + 1)) q.2 else some (false, q.2)) else some (false, p.2)))
     else impl_blockValid.l0 k l boxes blocks (wrap64 (i + 1)) cnt)) else some (false, cnt)) else none) else some (true, cnt)
end
def impl_stmtsValid.f (k : Nat) (l0 : List (S35)) (a1 : Int) : Option Bool := (impl_blockValid.f k l0 a1 0 0).bind fun p => some p.1
def impl_StmtsValid.f (k : Nat) (l0 : List (S35)) : Option (Bool) := (impl_stmtsValid.f k l0 3).bind fun t518 => (some t518)
def impl_truth.f (a0 : Bool) : Option (Int) := if a0 = true then (some 1) else (some 0)
def impl_Wrap.f (a0 : Int) : Option (Int) := some (wrap64 (wrap32 (a0)))
def impl_apply.f (a0 : Int) (a1 : Int) (a2 : Int) : Option (Int) := if a0 = 1 then (some (Go.bits .or .i64 a1 a2)) else (if a0 = 2 then (some (Go.bits .xor .i64 a1 a2)) else (if a0 = 3 then (some (Go.bits .and .i64 a1 a2)) else (if a0 = 4 then ((impl_truth.f (a1 == a2)).bind fun t519 => (some t519)) else (if a0 = 5 then ((impl_truth.f (decide (a1 < a2))).bind fun t520 => (some t520)) else (if a0 = 6 then (if 0 ≤ (Go.bits .and .i64 a2 31) then ((impl_Wrap.f (shl .i64 a1 (Go.bits .and .i64 a2 31))).bind fun t521 => (some t521)) else (none)) else (if a0 = 7 then (if 0 ≤ (Go.bits .and .i64 a2 31) then (some (shr .i64 a1 (Go.bits .and .i64 a2 31))) else (none)) else (if a0 = 8 then ((impl_Wrap.f (wrap64 (a1 + a2))).bind fun t522 => (some t522)) else (if a0 = 9 then ((impl_Wrap.f (wrap64 (a1 - a2))).bind fun t523 => (some t523)) else (if a0 = 10 then ((impl_Wrap.f (wrap64 (a1 * a2))).bind fun t524 => (some t524)) else (if a0 = 11 then (if a2 = 0 then (some (-1)) else ((impl_Wrap.f (wrap64 (Int.tdiv a1 a2))).bind fun t525 => (some t525))) else (if a2 = 0 then (some a1) else (some (Int.tmod a1 a2)))))))))))))
mutual
def impl_exprFold.j0 : Nat → Bool → Int → Int → List (S32) → Int → Int → List (S32) → Int → Int → List (S32) → Option (Int × Int × (List (S32)))
 | 0, _, _, _, _, _, _, _, _, _, _ => none
 | k + 1, x32, x527000, x527001, x527002, x541000, x541001, x541002, x542000, x542001, x542002 => if x32 = true then ((impl_apply.f x527000 x541001 x542001).bind fun t542 => (if t542 ≥ 0 then (if t542 ≤ 99999 then (some (0, t542, ([] : List (S32)))) else (some (x527000, 0, (([(⟨x541000, x541001, x541002⟩ : S32), (⟨x542000, x542001, x542002⟩ : S32)] : List (S32)))))) else (some (x527000, 0, (([(⟨x541000, x541001, x541002⟩ : S32), (⟨x542000, x542001, x542002⟩ : S32)] : List (S32))))))) else (some (x527000, 0, (([(⟨x541000, x541001, x541002⟩ : S32), (⟨x542000, x542001, x542002⟩ : S32)] : List (S32)))))
def impl_exprFold.f : Nat → Int → Int → List (S32) → Option (Int × Int × (List (S32)))
 | 0, _, _, _ => none
 | k + 1, a0_0, a0_1, l0_2 => if (l0_2.length : Int) = 0 then (some (a0_0, a0_1, ([] : List (S32)))) else (if 0 < (l0_2.length : Int) then ((impl_exprFold.f k ((rd_T32 l0_2 0).f0) ((rd_T32 l0_2 0).f1) ((rd_T32 l0_2 0).f2)).bind fun bt529 => (if 1 < (l0_2.length : Int) then ((impl_exprFold.f k ((rd_T32 l0_2 1).f0) ((rd_T32 l0_2 1).f1) ((rd_T32 l0_2 1).f2)).bind fun bt535 => (if bt529.1 = 0 then (impl_exprFold.j0 k (bt535.1 == 0) a0_0 a0_1 l0_2 bt529.1 bt529.2.1 bt529.2.2 bt535.1 bt535.2.1 bt535.2.2) else (impl_exprFold.j0 k false a0_0 a0_1 l0_2 bt529.1 bt529.2.1 bt529.2.2 bt535.1 bt535.2.1 bt535.2.2))) else (none))) else (none))
end
mutual
def impl_stmtsFold.l0 : Nat → List (S35) → List (S35) → Int → Int → Option ((List (S35)))
 | 0, _, _, _, _ => none
 | k + 1, x3, x7, x8, x9 => if x9 < x8 then (if 0 ≤ x9 then (if x9 < (x7.length : Int) then ((impl_stmtsFold.f k ((rd_T35 x7 x9).f4)).bind fun t554 => ((impl_stmtsFold.f k ((rd_T35 x7 x9).f5)).bind fun t557 => ((impl_exprFold.f k ((rd_T35 x7 x9).f3.f0) ((rd_T35 x7 x9).f3.f1) ((rd_T35 x7 x9).f3.f2)).bind fun bt560 => (if ((rd_T35 x7 x9).f0) = 2 then (if bt560.1 = 0 then (impl_stmtsFold.j1 k x3 (bt560.1 == 0) x7 x8 x9 (bt560.2.1 != 0) ((rd_T35 x7 x9).f0) ((rd_T35 x7 x9).f1) ((rd_T35 x7 x9).f2) bt560.1 bt560.2.1 bt560.2.2 t554 t557) else (impl_stmtsFold.j1 k x3 (bt560.1 == 0) x7 x8 x9 false ((rd_T35 x7 x9).f0) ((rd_T35 x7 x9).f1) ((rd_T35 x7 x9).f2) bt560.1 bt560.2.1 bt560.2.2 t554 t557)) else (impl_stmtsFold.j1 k x3 (bt560.1 == 0) x7 x8 x9 false ((rd_T35 x7 x9).f0) ((rd_T35 x7 x9).f1) ((rd_T35 x7 x9).f2) bt560.1 bt560.2.1 bt560.2.2 t554 t557))))) else (none)) else (none)) else (some x3)
def impl_stmtsFold.j1 : Nat → List (S35) → Bool → List (S35) → Int → Int → Bool → Int → Int → Int → Int → Int → List (S32) → List (S35) → List (S35) → Option ((List (S35)))
 | 0, _, _, _, _, _, _, _, _, _, _, _, _, _, _ => none
 | k + 1, x3, x6, x7, x8, x9, x33, x554000, x554001, x554002, x554003, x554004, x554005, x554006, x554007 => if x33 = true then (if x3.length + x554006.length < 1256584717458 then (impl_stmtsFold.l0 k (x3 ++ x554006) x7 x8 (wrap64 (x9 + 1))) else (none)) else (if x554000 = 2 then (impl_stmtsFold.j2 k x3 x6 x7 x8 x9 x6 x554000 x554001 x554002 x554003 x554004 x554005 x554006 x554007) else (impl_stmtsFold.j2 k x3 x6 x7 x8 x9 false x554000 x554001 x554002 x554003 x554004 x554005 x554006 x554007))
def impl_stmtsFold.j2 : Nat → List (S35) → Bool → List (S35) → Int → Int → Bool → Int → Int → Int → Int → Int → List (S32) → List (S35) → List (S35) → Option ((List (S35)))
 | 0, _, _, _, _, _, _, _, _, _, _, _, _, _, _ => none
 | k + 1, x3, x6, x7, x8, x9, x50, x554000, x554001, x554002, x554003, x554004, x554005, x554006, x554007 => if x50 = true then (if x3.length + x554007.length < 1256584717458 then (impl_stmtsFold.l0 k (x3 ++ x554007) x7 x8 (wrap64 (x9 + 1))) else (none)) else (if x554000 = 3 then (if x6 = true then (if x554004 = 0 then (impl_stmtsFold.l0 k x3 x7 x8 (wrap64 (x9 + 1))) else (if x3.length < 1256584717458 then (impl_stmtsFold.l0 k (x3 ++ [(⟨x554000, x554001, x554002, (⟨x554003, x554004, x554005⟩ : S32), x554006, x554007⟩ : S35)]) x7 x8 (wrap64 (x9 + 1))) else (none))) else (if x3.length < 1256584717458 then (impl_stmtsFold.l0 k (x3 ++ [(⟨x554000, x554001, x554002, (⟨x554003, x554004, x554005⟩ : S32), x554006, x554007⟩ : S35)]) x7 x8 (wrap64 (x9 + 1))) else (none))) else (if x3.length < 1256584717458 then (impl_stmtsFold.l0 k (x3 ++ [(⟨x554000, x554001, x554002, (⟨x554003, x554004, x554005⟩ : S32), x554006, x554007⟩ : S35)]) x7 x8 (wrap64 (x9 + 1))) else (none)))
def impl_stmtsFold.f : Nat → List (S35) → Option ((List (S35)))
 | 0, _ => none
 | k + 1, l0 => impl_stmtsFold.l0 k ([] : List (S35)) l0 (l0.length : Int) 0
end
def impl_StmtsFold.f (k : Nat) (l0 : List (S35)) : Option ((List (S35)) × Bool) := (impl_StmtsValid.f k l0).bind fun t580 => (if t580 = true then ((impl_stmtsFold.f k l0).bind fun t581 => (some (t581, true))) else (some (([] : List (S35)), false)))
def spec_l6In.f (a0 : Int) (a1 : Int) (a2 : Int) : Option (Bool) := if a0 ≥ a1 then (some (decide (a0 ≤ a2))) else (some false)
def spec_l11Var.f (a0_0 : Int) (a0_1 : Int) (a0_2 : Int) (a0_3 : Int) (a0_4 : Int) (l0_5 : List (S32)) (l0_6 : List (S35)) (l0_7 : List (S35)) (a1 : Bool) : Option (Bool) := if a1 = true then ((spec_l6In.f a0_1 0 3).bind fun t585 => (some t585)) else (some (a0_1 == 0))
def spec_l11Box.f (a0_0 : Int) (a0_1 : Int) (a0_2 : Int) (a0_3 : Int) (a0_4 : Int) (l0_5 : List (S32)) (l0_6 : List (S35)) (l0_7 : List (S35)) (a1 : Bool) : Option (Bool) := if a1 = true then ((spec_l6In.f a0_2 0 2).bind fun t587 => (some t587)) else (some (a0_2 == 0))
def spec_OpValid.f (a0 : Int) : Option (Bool) := (spec_l6In.f a0 1 12).bind fun t588 => (some t588)
def spec_l4Ok.f : Nat → Int → Int → List (S32) → Int → Option (Bool)
 | 0, _, _, _, _ => none
 | k + 1, a0_0, a0_1, l0_2, a1 => if a1 < 1 then (some false) else (if a0_0 = 0 then ((spec_l6In.f a0_1 0 99999).bind fun t590 => (if t590 = true then (some ((l0_2.length : Int) == 0)) else (some false))) else (if a0_0 = 13 then ((spec_l6In.f a0_1 0 3).bind fun t591 => (if t591 = true then (some ((l0_2.length : Int) == 0)) else (some false))) else ((spec_OpValid.f a0_0).bind fun t592 => (if t592 = true then (if a0_1 = 0 then (if (l0_2.length : Int) = 2 then (if 0 < (l0_2.length : Int) then ((spec_l4Ok.f k ((rd_T32 l0_2 0).f0) ((rd_T32 l0_2 0).f1) ((rd_T32 l0_2 0).f2) (wrap64 (a1 - 1))).bind fun t594 => (if t594 = true then (if 1 < (l0_2.length : Int) then ((spec_l4Ok.f k ((rd_T32 l0_2 1).f0) ((rd_T32 l0_2 1).f1) ((rd_T32 l0_2 1).f2) (wrap64 (a1 - 1))).bind fun t596 => (some t596)) else (none)) else (some false))) else (none)) else (some false)) else (some false)) else (some false)))))
def spec_ExprValid.f (k : Nat) (a0_0 : Int) (a0_1 : Int) (l0_2 : List (S32)) : Option (Bool) := (spec_l4Ok.f k a0_0 a0_1 l0_2 5).bind fun t598 => (some t598)
def spec_l11Plain.f (a0_0 : Int) (a0_1 : Int) (l0_2 : List (S32)) : Option (Bool) := if a0_0 = 0 then (if a0_1 = 0 then (some ((l0_2.length : Int) == 0)) else (some false)) else (some false)
def spec_l11Simple.j0 : Nat → Bool → Int → Int → Int → Int → Int → List (S32) → List (S35) → List (S35) → Option (Bool)
 | 0, _, _, _, _, _, _, _, _, _ => none
 | k + 1, x12, x601000, x601001, x601002, x601003, x601004, x601005, x601006, x601007 => if x12 = true then (some false) else (if x601000 = 1 then ((spec_l11Var.f x601000 x601001 x601002 x601003 x601004 x601005 x601006 x601007 true).bind fun t601 => (if t601 = true then ((spec_l11Box.f x601000 x601001 x601002 x601003 x601004 x601005 x601006 x601007 false).bind fun t602 => (if t602 = true then ((spec_ExprValid.f k x601003 x601004 x601005).bind fun t603 => (some t603)) else (some false))) else (some false))) else (if x601000 = 4 then ((spec_l11Var.f x601000 x601001 x601002 x601003 x601004 x601005 x601006 x601007 false).bind fun t604 => (if t604 = true then ((spec_l11Box.f x601000 x601001 x601002 x601003 x601004 x601005 x601006 x601007 true).bind fun t605 => (if t605 = true then ((spec_ExprValid.f k x601003 x601004 x601005).bind fun t606 => (some t606)) else (some false))) else (some false))) else (if x601000 = 5 then ((spec_l11Var.f x601000 x601001 x601002 x601003 x601004 x601005 x601006 x601007 true).bind fun t607 => (if t607 = true then ((spec_l11Box.f x601000 x601001 x601002 x601003 x601004 x601005 x601006 x601007 true).bind fun t608 => (if t608 = true then ((spec_l11Plain.f x601003 x601004 x601005).bind fun t609 => (some t609)) else (some false))) else (some false))) else (if x601000 = 6 then ((spec_l11Var.f x601000 x601001 x601002 x601003 x601004 x601005 x601006 x601007 false).bind fun t610 => (if t610 = true then ((spec_l11Box.f x601000 x601001 x601002 x601003 x601004 x601005 x601006 x601007 false).bind fun t611 => (if t611 = true then ((spec_l11Plain.f x601003 x601004 x601005).bind fun t612 => (some t612)) else (some false))) else (some false))) else (if x601000 = 7 then ((spec_l11Var.f x601000 x601001 x601002 x601003 x601004 x601005 x601006 x601007 false).bind fun t613 => (if t613 = true then ((spec_l11Box.f x601000 x601001 x601002 x601003 x601004 x601005 x601006 x601007 false).bind fun t614 => (if t614 = true then ((spec_ExprValid.f k x601003 x601004 x601005).bind fun t615 => (some t615)) else (some false))) else (some false))) else (some false))))))
def spec_l11Simple.f (k : Nat) (a0_0 : Int) (a0_1 : Int) (a0_2 : Int) (a0_3 : Int) (a0_4 : Int) (l0_5 : List (S32)) (l0_6 : List (S35)) (l0_7 : List (S35)) : Option (Bool) := if (l0_6.length : Int) > 0 then (spec_l11Simple.j0 k true a0_0 a0_1 a0_2 a0_3 a0_4 l0_5 l0_6 l0_7) else (spec_l11Simple.j0 k (decide ((l0_7.length : Int) > 0)) a0_0 a0_1 a0_2 a0_3 a0_4 l0_5 l0_6 l0_7)
mutual
def spec_l11Ok.j0 : Nat → Int → Bool → Int → Int → Int → Int → Int → List (S32) → List (S35) → List (S35) → Option (Bool)
 | 0, _, _, _, _, _, _, _, _, _, _ => none
 | k + 1, x1, x12, x617000, x617001, x617002, x617003, x617004, x617005, x617006, x617007 => if x12 = true then ((spec_l11Simple.f k x617000 x617001 x617002 x617003 x617004 x617005 x617006 x617007).bind fun t617 => (some t617)) else (if x1 < 1 then (spec_l11Ok.j1 k x1 true x617000 x617001 x617002 x617003 x617004 x617005 x617006 x617007) else (if x617000 = 3 then (spec_l11Ok.j1 k x1 (decide ((x617007.length : Int) > 0)) x617000 x617001 x617002 x617003 x617004 x617005 x617006 x617007) else (spec_l11Ok.j1 k x1 false x617000 x617001 x617002 x617003 x617004 x617005 x617006 x617007)))
def spec_l11Ok.j1 : Nat → Int → Bool → Int → Int → Int → Int → Int → List (S32) → List (S35) → List (S35) → Option (Bool)
 | 0, _, _, _, _, _, _, _, _, _, _ => none
 | k + 1, x1, x27, x617000, x617001, x617002, x617003, x617004, x617005, x617006, x617007 => if x27 = true then (some false) else ((spec_l11Var.f x617000 x617001 x617002 x617003 x617004 x617005 x617006 x617007 false).bind fun t618 => (if t618 = true then ((spec_l11Box.f x617000 x617001 x617002 x617003 x617004 x617005 x617006 x617007 false).bind fun t619 => (if t619 = true then ((spec_ExprValid.f k x617003 x617004 x617005).bind fun t620 => (if t620 = true then ((spec_l11Blocks.f k x617006 (wrap64 (x1 - 1))).bind fun t621 => (if t621 = true then ((spec_l11Blocks.f k x617007 (wrap64 (x1 - 1))).bind fun t622 => (some t622)) else (some false))) else (some false))) else (some false))) else (some false)))
def spec_l11Ok.f : Nat → Int → Int → Int → Int → Int → List (S32) → List (S35) → List (S35) → Int → Option (Bool)
 | 0, _, _, _, _, _, _, _, _, _ => none
 | k + 1, a0_0, a0_1, a0_2, a0_3, a0_4, l0_5, l0_6, l0_7, a1 => if a0_0 = 2 then (spec_l11Ok.j0 k a1 false a0_0 a0_1 a0_2 a0_3 a0_4 l0_5 l0_6 l0_7) else (spec_l11Ok.j0 k a1 (a0_0 != 3) a0_0 a0_1 a0_2 a0_3 a0_4 l0_5 l0_6 l0_7)
def spec_l11Blocks.l0 : Nat → List (S35) → Int → Int → Option (Bool)
 | 0, _, _, _ => none
 | k + 1, x0, x1, x5 => if x5 < (x0.length : Int) then (if 0 ≤ x5 then ((spec_l11Ok.f k ((rd_T35 x0 x5).f0) ((rd_T35 x0 x5).f1) ((rd_T35 x0 x5).f2) ((rd_T35 x0 x5).f3.f0) ((rd_T35 x0 x5).f3.f1) ((rd_T35 x0 x5).f3.f2) ((rd_T35 x0 x5).f4) ((rd_T35 x0 x5).f5) x1).bind fun t624 => (if t624 = true then (spec_l11Blocks.l0 k x0 x1 (wrap64 (x5 + 1))) else (some false))) else (none)) else (some true)
def spec_l11Blocks.f : Nat → List (S35) → Int → Option (Bool)
 | 0, _, _ => none
 | k + 1, l0, a1 => spec_l11Blocks.l0 k l0 a1 0
end
def spec_StmtsValid.f (k : Nat) (l0 : List (S35)) : Option (Bool) := (spec_l11Blocks.f k l0 3).bind fun t625 => (if t625 = true then ((spec_l11Count.f k l0).bind fun t626 => (some (decide (t626 ≤ 16)))) else (some false))
def spec_WordValid.f (a0 : Int) : Option (Bool) := (spec_l6In.f a0 (-2147483648) 2147483647).bind fun t627 => (some t627)
def spec_l2Flag.f (a0 : Bool) : Option (Int) := if a0 = true then (some 1) else (some 0)
def spec_Wrap.f (a0 : Int) : Option (Int) := if (Int.tmod a0 4294967296) > 2147483647 then (some (wrap64 ((Int.tmod a0 4294967296) - 4294967296))) else (if (Int.tmod a0 4294967296) < (-2147483648) then (some (wrap64 ((Int.tmod a0 4294967296) + 4294967296))) else (some (Int.tmod a0 4294967296)))
def spec_l2Shift.f (a0 : Int) (a1 : Int) (a2 : Bool) : Option (Int) := if a2 = true then (if 0 ≤ (Go.bits .and .i64 a1 31) then (some (shr .i64 a0 (Go.bits .and .i64 a1 31))) else (none)) else (if 0 ≤ (Go.bits .and .i64 a1 31) then ((spec_Wrap.f (shl .i64 a0 (Go.bits .and .i64 a1 31))).bind fun t628 => (some t628)) else (none))
def spec_l2Divide.f (a0 : Int) (a1 : Int) : Option (Int) := if a1 = 0 then (some (-1)) else ((spec_Wrap.f (wrap64 (Int.tdiv a0 a1))).bind fun t629 => (some t629))
def spec_l2Remain.f (a0 : Int) (a1 : Int) : Option (Int) := if a1 = 0 then (some a0) else (some (Int.tmod a0 a1))
def spec_Apply.j0 : Nat → Int → Int → Int → Bool → Option (Int × Bool)
 | 0, _, _, _, _ => none
 | k + 1, x0, x1, x2, x20 => if x20 = true then (some (0, false)) else (if x0 = 1 then (some (Go.bits .or .i64 x1 x2, true)) else (if x0 = 2 then (some (Go.bits .xor .i64 x1 x2, true)) else (if x0 = 3 then (some (Go.bits .and .i64 x1 x2, true)) else (if x0 = 4 then ((spec_l2Flag.f (x1 == x2)).bind fun t633 => (some (t633, true))) else (if x0 = 5 then ((spec_l2Flag.f (decide (x1 < x2))).bind fun t634 => (some (t634, true))) else (if x0 = 6 then ((spec_l2Shift.f x1 x2 false).bind fun t635 => (some (t635, true))) else (if x0 = 7 then ((spec_l2Shift.f x1 x2 true).bind fun t636 => (some (t636, true))) else (if x0 = 8 then ((spec_Wrap.f (wrap64 (x1 + x2))).bind fun t637 => (some (t637, true))) else (if x0 = 9 then ((spec_Wrap.f (wrap64 (x1 - x2))).bind fun t638 => (some (t638, true))) else (if x0 = 10 then ((spec_Wrap.f (wrap64 (x1 * x2))).bind fun t639 => (some (t639, true))) else (if x0 = 11 then ((spec_l2Divide.f x1 x2).bind fun t640 => (some (t640, true))) else ((spec_l2Remain.f x1 x2).bind fun t641 => (some (t641, true))))))))))))))
def spec_Apply.f (k : Nat) (a0 : Int) (a1 : Int) (a2 : Int) : Option (Int × Bool) := (spec_OpValid.f a0).bind fun t630 => (if t630 = true then ((spec_WordValid.f a1).bind fun t631 => (if t631 = true then ((spec_WordValid.f a2).bind fun t632 => (spec_Apply.j0 k a0 a1 a2 (!t632))) else (spec_Apply.j0 k a0 a1 a2 true))) else (spec_Apply.j0 k a0 a1 a2 true))
mutual
def spec_l4Fold.j0 : Nat → Bool → Int → Int → List (S32) → Int → Int → List (S32) → Int → Int → List (S32) → Option (Int × Int × (List (S32)))
 | 0, _, _, _, _, _, _, _, _, _, _ => none
 | k + 1, x33, x643000, x643001, x643002, x656000, x656001, x656002, x663000, x663001, x663002 => if x33 = true then ((spec_Apply.f k x643000 x656001 x663001).bind fun bt663 => ((spec_l6In.f bt663.1 0 99999).bind fun t665 => (if t665 = true then ((spec_l4Leaf.f 0 bt663.1).bind fun bt666 => (some (bt666.1, bt666.2.1, bt666.2.2))) else ((spec_l4Both.f x643000 x656000 x656001 x656002 x663000 x663001 x663002).bind fun bt671 => (some (bt671.1, bt671.2.1, bt671.2.2)))))) else ((spec_l4Both.f x643000 x656000 x656001 x656002 x663000 x663001 x663002).bind fun bt676 => (some (bt676.1, bt676.2.1, bt676.2.2)))
def spec_l4Fold.f : Nat → Int → Int → List (S32) → Option (Int × Int × (List (S32)))
 | 0, _, _, _ => none
 | k + 1, a0_0, a0_1, l0_2 => if (l0_2.length : Int) = 0 then ((spec_l4Leaf.f a0_0 a0_1).bind fun bt644 => (some (bt644.1, bt644.2.1, bt644.2.2))) else (if 0 < (l0_2.length : Int) then ((spec_l4Fold.f k ((rd_T32 l0_2 0).f0) ((rd_T32 l0_2 0).f1) ((rd_T32 l0_2 0).f2)).bind fun bt650 => (if 1 < (l0_2.length : Int) then ((spec_l4Fold.f k ((rd_T32 l0_2 1).f0) ((rd_T32 l0_2 1).f1) ((rd_T32 l0_2 1).f2)).bind fun bt657 => (if bt650.1 = 0 then (spec_l4Fold.j0 k (bt657.1 == 0) a0_0 a0_1 l0_2 bt650.1 bt650.2.1 bt650.2.2 bt657.1 bt657.2.1 bt657.2.2) else (spec_l4Fold.j0 k false a0_0 a0_1 l0_2 bt650.1 bt650.2.1 bt650.2.2 bt657.1 bt657.2.1 bt657.2.2))) else (none))) else (none))
end
def pickF (x : S35) (op n : Int) (a : List S32) (b l : List S35) : List S35 := if (x.f0 == 2 && (op == 0 && n != 0)) = true then b else if (x.f0 == 2 && op == 0) = true then l else if (x.f0 == 3 && (op == 0 && n == 0)) = true then [] else [⟨x.f0, x.f1, x.f2, ⟨op, n, a⟩, b, l⟩]
mutual
def spec_l11FoldAll.l0 : Nat → List S35 → List S35 → Int → Option (List S35)
 | 0, _, _, _ => none
 | k + 1, l0, x3, x4 => if x4 < (l0.length : Int) then (if 0 ≤ x4 then ((spec_l11FoldOne.f k (rd_T35 l0 x4)).bind fun y => if x3.length + y.length < 1256584717458 then spec_l11FoldAll.l0 k l0 (x3 ++ y) (wrap64 (x4 + 1)) else none) else none) else some x3
def spec_l11FoldAll.f : Nat → List S35 → Option (List S35)
 | 0, _ => none
 | k + 1, l0 => spec_l11FoldAll.l0 k l0 [] 0
def spec_l11FoldOne.f : Nat → S35 → Option (List S35)
 | 0, _ => none
 | k + 1, x => (spec_l4Fold.f k x.f3.f0 x.f3.f1 x.f3.f2).bind fun e => (spec_l11FoldAll.f k x.f4).bind fun b => (spec_l11FoldAll.f k x.f5).bind fun l => some (pickF x e.1 e.2.1 e.2.2 b l)
end
def spec_StmtsFold.f (k : Nat) (l0 : List (S35)) : Option ((List (S35)) × Bool) := (spec_StmtsValid.f k l0).bind fun t681 => (if t681 = true then ((spec_l11FoldAll.f k l0).bind fun t682 => (some (t682, true))) else (some ((([] : List (S35))), false)))
mutual
def laws_sameExpr.j0 : Nat → Bool → Int → Int → List (S32) → Int → Int → List (S32) → Option (Bool)
 | 0, _, _, _, _, _, _, _ => none
 | k + 1, x26, x689000, x689001, x689002, x690000, x690001, x690002 => if x26 = true then (some false) else (laws_sameExpr.l0 k 0 x689000 x689001 x689002 x690000 x690001 x690002)
def laws_sameExpr.l0 : Nat → Int → Int → Int → List (S32) → Int → Int → List (S32) → Option (Bool)
 | 0, _, _, _, _, _, _, _ => none
 | k + 1, x5, x689000, x689001, x689002, x690000, x690001, x690002 => if x5 < (x689002.length : Int) then (if 0 ≤ x5 then (if x5 < (x690002.length : Int) then ((laws_sameExpr.f k ((rd_T32 x689002 x5).f0) ((rd_T32 x689002 x5).f1) ((rd_T32 x689002 x5).f2) ((rd_T32 x690002 x5).f0) ((rd_T32 x690002 x5).f1) ((rd_T32 x690002 x5).f2)).bind fun t692 => (if t692 = true then (laws_sameExpr.l0 k (wrap64 (x5 + 1)) x689000 x689001 x689002 x690000 x690001 x690002) else (some false))) else (none)) else (none)) else (some true)
def laws_sameExpr.f : Nat → Int → Int → List (S32) → Int → Int → List (S32) → Option (Bool)
 | 0, _, _, _, _, _, _ => none
 | k + 1, a0_0, a0_1, l0_2, a1_0, a1_1, l1_2 => if a0_0 = a1_0 then (if a0_1 = a1_1 then (laws_sameExpr.j0 k ((l0_2.length : Int) != (l1_2.length : Int)) a0_0 a0_1 l0_2 a1_0 a1_1 l1_2) else (laws_sameExpr.j0 k true a0_0 a0_1 l0_2 a1_0 a1_1 l1_2)) else (laws_sameExpr.j0 k true a0_0 a0_1 l0_2 a1_0 a1_1 l1_2)
end
mutual
def laws_sameStmts.l0 : Nat → List (S35) → List (S35) → Int → Option (Bool)
 | 0, _, _, _ => none
 | k + 1, x0, x1, x5 => if x5 < (x0.length : Int) then (if 0 ≤ x5 then (if x5 < (x1.length : Int) then (if ((rd_T35 x0 x5).f0) = ((rd_T35 x1 x5).f0) then (if ((rd_T35 x0 x5).f1) = ((rd_T35 x1 x5).f1) then (if ((rd_T35 x0 x5).f2) = ((rd_T35 x1 x5).f2) then ((laws_sameExpr.f k ((rd_T35 x0 x5).f3.f0) ((rd_T35 x0 x5).f3.f1) ((rd_T35 x0 x5).f3.f2) ((rd_T35 x1 x5).f3.f0) ((rd_T35 x1 x5).f3.f1) ((rd_T35 x1 x5).f3.f2)).bind fun t697 => (laws_sameStmts.j1 k x0 x1 x5 (!t697) ((rd_T35 x0 x5).f0) ((rd_T35 x0 x5).f1) ((rd_T35 x0 x5).f2) ((rd_T35 x0 x5).f3.f0) ((rd_T35 x0 x5).f3.f1) ((rd_T35 x0 x5).f3.f2) ((rd_T35 x0 x5).f4) ((rd_T35 x0 x5).f5) ((rd_T35 x1 x5).f0) ((rd_T35 x1 x5).f1) ((rd_T35 x1 x5).f2) ((rd_T35 x1 x5).f3.f0) ((rd_T35 x1 x5).f3.f1) ((rd_T35 x1 x5).f3.f2) ((rd_T35 x1 x5).f4) ((rd_T35 x1 x5).f5))) else (laws_sameStmts.j1 k x0 x1 x5 true ((rd_T35 x0 x5).f0) ((rd_T35 x0 x5).f1) ((rd_T35 x0 x5).f2) ((rd_T35 x0 x5).f3.f0) ((rd_T35 x0 x5).f3.f1) ((rd_T35 x0 x5).f3.f2) ((rd_T35 x0 x5).f4) ((rd_T35 x0 x5).f5) ((rd_T35 x1 x5).f0) ((rd_T35 x1 x5).f1) ((rd_T35 x1 x5).f2) ((rd_T35 x1 x5).f3.f0) ((rd_T35 x1 x5).f3.f1) ((rd_T35 x1 x5).f3.f2) ((rd_T35 x1 x5).f4) ((rd_T35 x1 x5).f5))) else (laws_sameStmts.j1 k x0 x1 x5 true ((rd_T35 x0 x5).f0) ((rd_T35 x0 x5).f1) ((rd_T35 x0 x5).f2) ((rd_T35 x0 x5).f3.f0) ((rd_T35 x0 x5).f3.f1) ((rd_T35 x0 x5).f3.f2) ((rd_T35 x0 x5).f4) ((rd_T35 x0 x5).f5) ((rd_T35 x1 x5).f0) ((rd_T35 x1 x5).f1) ((rd_T35 x1 x5).f2) ((rd_T35 x1 x5).f3.f0) ((rd_T35 x1 x5).f3.f1) ((rd_T35 x1 x5).f3.f2) ((rd_T35 x1 x5).f4) ((rd_T35 x1 x5).f5))) else (laws_sameStmts.j1 k x0 x1 x5 true ((rd_T35 x0 x5).f0) ((rd_T35 x0 x5).f1) ((rd_T35 x0 x5).f2) ((rd_T35 x0 x5).f3.f0) ((rd_T35 x0 x5).f3.f1) ((rd_T35 x0 x5).f3.f2) ((rd_T35 x0 x5).f4) ((rd_T35 x0 x5).f5) ((rd_T35 x1 x5).f0) ((rd_T35 x1 x5).f1) ((rd_T35 x1 x5).f2) ((rd_T35 x1 x5).f3.f0) ((rd_T35 x1 x5).f3.f1) ((rd_T35 x1 x5).f3.f2) ((rd_T35 x1 x5).f4) ((rd_T35 x1 x5).f5))) else (none)) else (none)) else (some true)
def laws_sameStmts.j1 : Nat → List (S35) → List (S35) → Int → Bool → Int → Int → Int → Int → Int → List (S32) → List (S35) → List (S35) → Int → Int → Int → Int → Int → List (S32) → List (S35) → List (S35) → Option (Bool)
 | 0, _, _, _, _, _, _, _, _, _, _, _, _, _, _, _, _, _, _, _, _ => none
 | k + 1, x0, x1, x5, x53, x695000, x695001, x695002, x695003, x695004, x695005, x695006, x695007, x697000, x697001, x697002, x697003, x697004, x697005, x697006, x697007 => if x53 = true then (some false) else ((laws_sameStmts.f k x695006 x697006).bind fun t698 => (if t698 = true then ((laws_sameStmts.f k x695007 x697007).bind fun t699 => (if t699 = true then (laws_sameStmts.l0 k x0 x1 (wrap64 (x5 + 1))) else (some false))) else (some false)))
def laws_sameStmts.f : Nat → List (S35) → List (S35) → Option (Bool)
 | 0, _, _ => none
 | k + 1, l0, l1 => if (l0.length : Int) = (l1.length : Int) then (laws_sameStmts.l0 k l0 l1 0) else (some false)
end
mutual
def laws_FnStmtsFoldParts.j0 : Nat → List Int → List Int → Bool → Option (Bool)
 | 0, _, _, _ => none
 | k + 1, x0, x1, x22 => if x22 = true then (some true) else ((spec_DrawStmtsFold.f k x0).bind fun t700 => ((impl_StmtsFold.f k t700).bind fun bt703 => ((spec_StmtsFold.f k t700).bind fun bt707 => (if (bt703.2 != bt707.2) = true then (laws_FnStmtsFoldParts.j1 k x1 t700 bt703.1 bt703.2 bt707.1 bt707.2 true) else ((laws_sameStmts.f k bt703.1 bt707.1).bind fun t711 => (if t711 = true then (laws_FnStmtsFoldParts.j1 k x1 t700 bt703.1 bt703.2 bt707.1 bt707.2 (!bt703.2)) else (laws_FnStmtsFoldParts.j1 k x1 t700 bt703.1 bt703.2 bt707.1 bt707.2 true)))))))
def laws_FnStmtsFoldParts.j1 : Nat → List Int → List (S35) → List (S35) → Bool → List (S35) → Bool → Bool → Option (Bool)
 | 0, _, _, _, _, _, _, _ => none
 | k + 1, x1, x5, x6, x7, x8, x9, x47 => if x47 = true then (if (x7 == x9) = true then ((laws_sameStmts.f k x6 x8).bind fun t712 => (some t712)) else (some false)) else (if (wrap64 ((x5.length : Int) + 1)) = 0 then (none) else (if 0 ≤ ((x1.length : Int) % (wrap64 ((x5.length : Int) + 1))) then (if ((x1.length : Int) % (wrap64 ((x5.length : Int) + 1))) ≤ (x5.length : Int) then ((impl_StmtsFold.f k (x5.take (((x1.length : Int) % (wrap64 ((x5.length : Int) + 1))) : Int).toNat)).bind fun bt718 => ((impl_StmtsFold.f k (x5.drop (((x1.length : Int) % (wrap64 ((x5.length : Int) + 1))) : Int).toNat)).bind fun bt727 => (if bt718.2 = true then (if bt727.2 = true then ((some (([] : List (S35)) : List (S35))).bind fun y731 => (if y731.length + bt718.1.length < 1256584717458 then ((some (y731 ++ bt718.1 : List (S35))).bind fun y734 => (if y734.length + bt727.1.length < 1256584717458 then ((laws_sameStmts.f k x6 (y734 ++ bt727.1)).bind fun t740 => (some t740)) else (none))) else (none))) else (some false)) else (some false)))) else (none)) else (none)))
end
def laws_FnStmtsFoldParts.f (k : Nat) (l0 : List Int) (l1 : List Int) : Option (Bool) := if (l0.length : Int) > 1048576 then (laws_FnStmtsFoldParts.j0 k l0 l1 true) else (laws_FnStmtsFoldParts.j0 k l0 l1 (decide ((l1.length : Int) > 1048576)))
def laws_FnStmtsFoldTwice.j0 : Nat → List (S35) → Bool → List (S35) → Bool → Bool → Option (Bool)
 | 0, _, _, _, _, _ => none
 | k + 1, x4, x5, x6, x7, x37 => if x37 = true then (if (x5 == x7) = true then ((laws_sameStmts.f k x4 x6).bind fun t753 => (some t753)) else (some false)) else ((impl_StmtsFold.f k x4).bind fun bt754 => (if bt754.2 = true then ((laws_sameStmts.f k bt754.1 x4).bind fun t758 => (some t758)) else (some false)))
def laws_FnStmtsFoldTwice.f (k : Nat) (l0 : List Int) : Option (Bool) := if (l0.length : Int) > 1048576 then (some true) else ((spec_DrawStmtsFold.f k l0).bind fun t741 => ((impl_StmtsFold.f k t741).bind fun bt744 => ((spec_StmtsFold.f k t741).bind fun bt748 => (if (bt744.2 != bt748.2) = true then (laws_FnStmtsFoldTwice.j0 k bt744.1 bt744.2 bt748.1 bt748.2 true) else ((laws_sameStmts.f k bt744.1 bt748.1).bind fun t752 => (if t752 = true then (laws_FnStmtsFoldTwice.j0 k bt744.1 bt744.2 bt748.1 bt748.2 (!bt744.2)) else (laws_FnStmtsFoldTwice.j0 k bt744.1 bt744.2 bt748.1 bt748.2 true)))))))
def laws_number.f (a0 : Int) : Option (Int × Int × (List (S32))) := some (0, a0, ([] : List (S32)))
mutual
def impl_stmtsCount.l0 : Nat → Int → List (S35) → Int → Int → Option (Int)
 | 0, _, _, _, _ => none
 | k + 1, x3, x8, x9, x10 => if x10 < x9 then (if 0 ≤ x10 then (if x10 < (x8.length : Int) then ((impl_stmtsCount.f k ((rd_T35 x8 x10).f4)).bind fun t801 => ((impl_stmtsCount.f k ((rd_T35 x8 x10).f5)).bind fun t802 => (impl_stmtsCount.l0 k (wrap64 (x3 + (wrap64 (t801 + t802)))) x8 x9 (wrap64 (x10 + 1))))) else (none)) else (none)) else (some x3)
def impl_stmtsCount.f : Nat → List (S35) → Option (Int)
 | 0, _ => none
 | k + 1, l0 => impl_stmtsCount.l0 k (l0.length : Int) l0 (l0.length : Int) 0
end
def impl_StmtsCount.f (k : Nat) (l0 : List (S35)) : Option (Int) := (impl_StmtsValid.f k l0).bind fun t803 => (if t803 = true then ((impl_stmtsCount.f k l0).bind fun t804 => (some t804)) else (some (-1)))
def laws_FnStmtsFold.j0 : Nat → List (S35) → List (S35) → Bool → List (S35) → Bool → Bool → Option (Bool)
 | 0, _, _, _, _, _, _ => none
 | k + 1, x3, x4, x5, x6, x7, x35 => if x35 = true then (if (x5 == x7) = true then ((laws_sameStmts.f k x4 x6).bind fun t817 => (some t817)) else (some false)) else ((impl_StmtsValid.f k x4).bind fun t818 => (if t818 = true then ((impl_StmtsCount.f k x4).bind fun t819 => ((impl_StmtsCount.f k x3).bind fun t820 => (some (decide (t819 ≤ t820))))) else (some false)))
def laws_FnStmtsFold.f (k : Nat) (l0 : List Int) : Option (Bool) := if (l0.length : Int) > 1048576 then (some true) else ((spec_DrawStmtsFold.f k l0).bind fun t805 => ((impl_StmtsFold.f k t805).bind fun bt808 => ((spec_StmtsFold.f k t805).bind fun bt812 => (if (bt808.2 != bt812.2) = true then (laws_FnStmtsFold.j0 k t805 bt808.1 bt808.2 bt812.1 bt812.2 true) else ((laws_sameStmts.f k bt808.1 bt812.1).bind fun t816 => (if t816 = true then (laws_FnStmtsFold.j0 k t805 bt808.1 bt808.2 bt812.1 bt812.2 (!bt808.2)) else (laws_FnStmtsFold.j0 k t805 bt808.1 bt808.2 bt812.1 bt812.2 true)))))))
mutual
def laws_openIf.l0 : Nat → List (S35) → Int → Option (Bool)
 | 0, _, _ => none
 | k + 1, x0, x3 => if x3 < (x0.length : Int) then (if 0 ≤ x3 then (if ((rd_T35 x0 x3).f0) = 2 then (if ((rd_T35 x0 x3).f3.f0) = 0 then (laws_openIf.j1 k x0 x3 true ((rd_T35 x0 x3).f0) ((rd_T35 x0 x3).f1) ((rd_T35 x0 x3).f2) ((rd_T35 x0 x3).f3.f0) ((rd_T35 x0 x3).f3.f1) ((rd_T35 x0 x3).f3.f2) ((rd_T35 x0 x3).f4) ((rd_T35 x0 x3).f5)) else (if ((rd_T35 x0 x3).f0) = 3 then (laws_openIf.j1 k x0 x3 false ((rd_T35 x0 x3).f0) ((rd_T35 x0 x3).f1) ((rd_T35 x0 x3).f2) ((rd_T35 x0 x3).f3.f0) ((rd_T35 x0 x3).f3.f1) ((rd_T35 x0 x3).f3.f2) ((rd_T35 x0 x3).f4) ((rd_T35 x0 x3).f5)) else (laws_openIf.j1 k x0 x3 false ((rd_T35 x0 x3).f0) ((rd_T35 x0 x3).f1) ((rd_T35 x0 x3).f2) ((rd_T35 x0 x3).f3.f0) ((rd_T35 x0 x3).f3.f1) ((rd_T35 x0 x3).f3.f2) ((rd_T35 x0 x3).f4) ((rd_T35 x0 x3).f5)))) else (if ((rd_T35 x0 x3).f0) = 3 then (if ((rd_T35 x0 x3).f3.f0) = 0 then (laws_openIf.j1 k x0 x3 (((rd_T35 x0 x3).f3.f1) == 0) ((rd_T35 x0 x3).f0) ((rd_T35 x0 x3).f1) ((rd_T35 x0 x3).f2) ((rd_T35 x0 x3).f3.f0) ((rd_T35 x0 x3).f3.f1) ((rd_T35 x0 x3).f3.f2) ((rd_T35 x0 x3).f4) ((rd_T35 x0 x3).f5)) else (laws_openIf.j1 k x0 x3 false ((rd_T35 x0 x3).f0) ((rd_T35 x0 x3).f1) ((rd_T35 x0 x3).f2) ((rd_T35 x0 x3).f3.f0) ((rd_T35 x0 x3).f3.f1) ((rd_T35 x0 x3).f3.f2) ((rd_T35 x0 x3).f4) ((rd_T35 x0 x3).f5))) else (laws_openIf.j1 k x0 x3 false ((rd_T35 x0 x3).f0) ((rd_T35 x0 x3).f1) ((rd_T35 x0 x3).f2) ((rd_T35 x0 x3).f3.f0) ((rd_T35 x0 x3).f3.f1) ((rd_T35 x0 x3).f3.f2) ((rd_T35 x0 x3).f4) ((rd_T35 x0 x3).f5)))) else (none)) else (some false)
def laws_openIf.j1 : Nat → List (S35) → Int → Bool → Int → Int → Int → Int → Int → List (S32) → List (S35) → List (S35) → Option (Bool)
 | 0, _, _, _, _, _, _, _, _, _, _, _ => none
 | k + 1, x0, x3, x40, x823000, x823001, x823002, x823003, x823004, x823005, x823006, x823007 => if x40 = true then (some true) else ((laws_openIf.f k x823006).bind fun t823 => (if t823 = true then (some true) else ((laws_openIf.f k x823007).bind fun t824 => (if t824 = true then (some true) else (laws_openIf.l0 k x0 (wrap64 (x3 + 1)))))))
def laws_openIf.f : Nat → List (S35) → Option (Bool)
 | 0, _ => none
 | k + 1, l0 => laws_openIf.l0 k l0 0
end
mutual
def laws_countKind.l0 : Nat → List (S35) → Int → Int → Int → Option (Int)
 | 0, _, _, _, _ => none
 | k + 1, x0, x1, x5, x6 => if x6 < (x0.length : Int) then (if 0 ≤ x6 then (if ((rd_T35 x0 x6).f0) = x1 then ((laws_countKind.f k ((rd_T35 x0 x6).f4) x1).bind fun t827 => ((laws_countKind.f k ((rd_T35 x0 x6).f5) x1).bind fun t829 => (laws_countKind.l0 k x0 x1 (wrap64 ((wrap64 ((wrap64 (x5 + 1)) + t827)) + t829)) (wrap64 (x6 + 1))))) else ((laws_countKind.f k ((rd_T35 x0 x6).f4) x1).bind fun t831 => ((laws_countKind.f k ((rd_T35 x0 x6).f5) x1).bind fun t833 => (laws_countKind.l0 k x0 x1 (wrap64 ((wrap64 (x5 + t831)) + t833)) (wrap64 (x6 + 1)))))) else (none)) else (some x5)
def laws_countKind.f : Nat → List (S35) → Int → Option (Int)
 | 0, _, _ => none
 | k + 1, l0, a1 => laws_countKind.l0 k l0 a1 0 0
end
def laws_FnStmtsFoldIf.j0 : Nat → List (S35) → List (S35) → Bool → List (S35) → Bool → Bool → Option (Bool)
 | 0, _, _, _, _, _, _ => none
 | k + 1, x3, x4, x5, x6, x7, x35 => if x35 = true then (if (x5 == x7) = true then ((laws_sameStmts.f k x4 x6).bind fun t846 => (some t846)) else (some false)) else ((laws_openIf.f k x4).bind fun t847 => (if t847 = true then (some false) else ((laws_countKind.f k x4 3).bind fun t848 => ((laws_countKind.f k x3 3).bind fun t849 => (some (decide (t848 ≤ t849)))))))
def laws_FnStmtsFoldIf.f (k : Nat) (l0 : List Int) : Option (Bool) := if (l0.length : Int) > 1048576 then (some true) else ((spec_DrawStmtsFold.f k l0).bind fun t834 => ((impl_StmtsFold.f k t834).bind fun bt837 => ((spec_StmtsFold.f k t834).bind fun bt841 => (if (bt837.2 != bt841.2) = true then (laws_FnStmtsFoldIf.j0 k t834 bt837.1 bt837.2 bt841.1 bt841.2 true) else ((laws_sameStmts.f k bt837.1 bt841.1).bind fun t845 => (if t845 = true then (laws_FnStmtsFoldIf.j0 k t834 bt837.1 bt837.2 bt841.1 bt841.2 (!bt837.2)) else (laws_FnStmtsFoldIf.j0 k t834 bt837.1 bt837.2 bt841.1 bt841.2 true)))))))
def spec_l92Rooms.l0 : Nat → List Int → Int → Int → List Int → Int → Option (List Int × Int)
 | 0, _, _, _, _, _ => none
 | k + 1, x3, x4, x5, x1000, x1001 => if x5 < x4 then ((some (([1, 1, 2, 3, 4] : List Int) : List Int)).bind fun y859 => ((spec_l6Rd_pick.f k x1000 x1001 5).bind fun bt862 => (if 0 ≤ bt862.1 then (if bt862.1 < (y859.length : Int) then (if x3.length < 17592186044416 then (spec_l92Rooms.l0 k (x3 ++ [rd y859 bt862.1]) x4 (wrap64 (x5 + 1)) x1000 bt862.2) else (none)) else (none)) else (none)))) else (some (x3, x1001))
def spec_l92Rooms.f (k : Nat) (s0_0 : List Int) (s0_1 : Int) : Option (List Int × Int) := (some (([0, 1, 1, 2, 2, 3] : List Int) : List Int)).bind fun y853 => ((spec_l6Rd_pick.f k s0_0 s0_1 6).bind fun bt856 => (if 0 ≤ bt856.1 then (if bt856.1 < (y853.length : Int) then (spec_l92Rooms.l0 k (([] : List Int)) (rd y853 bt856.1) 0 s0_0 bt856.2) else (none)) else (none)))
def spec_l92Program.l0 : Nat → Int → Int → List Int → Int → List Int → List (List (S35)) → Option (List Int × (List (List (S35))) × Int)
 | 0, _, _, _, _, _, _ => none
 | k + 1, x4, x5, x1000, x1001, x877000, x877001 => if x5 < x4 then ((spec_l92Stmts.f k x1000 x1001 (x877000.length : Int)).bind fun bt879 => (if x877001.length < 5864062014805 then (spec_l92Program.l0 k x4 (wrap64 (x5 + 1)) x1000 bt879.2 x877000 (x877001 ++ [bt879.1])) else (none))) else ((spec_l6Rd_pick.f k x1000 x1001 16).bind fun bt886 => (if bt886.1 = 0 then ((spec_l92Endless.f k x1000 bt886.2).bind fun bt888 => (if 0 < (x877001.length : Int) then (some (x877000, (x877001.set (0 : Int).toNat (([(⟨bt888.1, bt888.2.1, bt888.2.2.1, (⟨bt888.2.2.2.1, bt888.2.2.2.2.1, bt888.2.2.2.2.2.1⟩ : S32), bt888.2.2.2.2.2.2.1, bt888.2.2.2.2.2.2.2.1⟩ : S35)] : List (S35)))), bt888.2.2.2.2.2.2.2.2)) else (none))) else (some (x877000, x877001, bt886.2))))
def spec_l92Program.f (k : Nat) (s0_0 : List Int) (s0_1 : Int) : Option (List Int × (List (List (S35))) × Int) := (spec_l92Rooms.f k s0_0 s0_1).bind fun bt869 => ((spec_l6Rd_pick.f k s0_0 bt869.2 3).bind fun bt877 => (spec_l92Program.l0 k (wrap64 (1 + bt877.1)) 0 s0_0 bt877.2 bt869.1 (([] : List (List (S35))))))
def spec_l92Wrong.f (k : Nat) (s0_0 : List Int) (s0_1 : Int) : Option (List Int × (List (List (S35))) × Int) := (spec_l92Program.f k s0_0 s0_1).bind fun bt908 => ((spec_l6Rd_pick.f k s0_0 bt908.2.2 30).bind fun bt916 => (if bt916.1 = 0 then ((some (([0, 5] : List Int) : List Int)).bind fun y918 => ((spec_l6Rd_pick.f k s0_0 bt916.2 2).bind fun bt921 => (if 0 ≤ bt921.1 then (if bt921.1 < (y918.length : Int) then (if bt908.1.length < 17592186044416 then (some ((bt908.1 ++ [rd y918 bt921.1]), bt908.2.1, bt921.2)) else (none)) else (none)) else (none)))) else (if bt916.1 = 1 then ((spec_l91Leaf.f k s0_0 bt916.2).bind fun bt927 => (if bt908.2.1.length < 5864062014805 then (some (bt908.1, (bt908.2.1 ++ [(([(⟨4, 0, (bt908.1.length : Int), (⟨bt927.1, bt927.2.1, bt927.2.2.1⟩ : S32), ([] : List (S35)), ([] : List (S35))⟩ : S35)] : List (S35)))]), bt927.2.2.2)) else (none))) else (if bt916.1 = 2 then (some (bt908.1, (([] : List (List (S35)))), bt916.2)) else (if bt916.1 = 3 then (if 0 < (bt908.2.1.length : Int) then ((some (([rd_L4 bt908.2.1 0, rd_L4 bt908.2.1 0, rd_L4 bt908.2.1 0] : List (List (S35))) : List (List (S35)))).bind fun y945 => (if bt908.2.1.length + y945.length < 5864062014805 then (some (bt908.1, (bt908.2.1 ++ y945), bt916.2)) else (none))) else (none)) else (if bt916.1 = 4 then (if 0 < (bt908.2.1.length : Int) then (if (rd_L4 bt908.2.1 0).length + 1 < 1256584717458 then (some (bt908.1, bt908.2.1.set 0 (rd_L4 bt908.2.1 0 ++ [⟨9, 0, 0, ⟨0, 0, []⟩, [], []⟩]), bt916.2)) else (none)) else (none)) else (some (bt908.1, bt908.2.1, bt916.2))))))))
def impl_roomsValid.l0 : Nat → List Int → List Int → Int → Int → Option (Bool)
 | 0, _, _, _, _ => none
 | k + 1, x0, x5, x6, x7 => if x7 < x6 then (if 0 ≤ x7 then (if x7 < (x5.length : Int) then (if (rd x5 x7) < 1 then (some false) else (if (rd x5 x7) > 4 then (some false) else (impl_roomsValid.l0 k x0 x5 x6 (wrap64 (x7 + 1))))) else (none)) else (none)) else (some (decide ((x0.length : Int) ≤ 3)))
def impl_roomsValid.f (k : Nat) (l0 : List Int) : Option (Bool) := impl_roomsValid.l0 k l0 l0 (l0.length : Int) 0
mutual
def impl_ProgramValid.j0 : Nat → Bool → List Int → List (List (S35)) → Option (Bool)
 | 0, _, _, _ => none
 | k + 1, x20, x1008000, x1008001 => if x20 = true then (some false) else (impl_ProgramValid.l0 k x1008001 (x1008001.length : Int) 0 x1008000 x1008001)
def impl_ProgramValid.l0 : Nat → List (List (S35)) → Int → Int → List Int → List (List (S35)) → Option (Bool)
 | 0, _, _, _, _, _ => none
 | k + 1, x22, x23, x24, x1008000, x1008001 => if x24 < x23 then (if 0 ≤ x24 then (if x24 < (x22.length : Int) then ((impl_stmtsValid.f k (rd_L4 x22 x24) (x1008000.length : Int)).bind fun t1010 => (if t1010 = true then (impl_ProgramValid.l0 k x22 x23 (wrap64 (x24 + 1)) x1008000 x1008001) else (some false))) else (none)) else (none)) else (some true)
end
def impl_ProgramValid.f (k : Nat) (l0_0 : List Int) (l0_1 : List (List (S35))) : Option (Bool) := (impl_roomsValid.f k l0_0).bind fun t1008 => (if t1008 = true then (if (l0_1.length : Int) < 1 then (impl_ProgramValid.j0 k true l0_0 l0_1) else (impl_ProgramValid.j0 k (decide ((l0_1.length : Int) > 3)) l0_0 l0_1)) else (impl_ProgramValid.j0 k true l0_0 l0_1))
def slices_Clone_int_int.f (l0 : List Int) : Option (List Int) := (some (([] : List Int) : List Int)).bind fun y1011 => (if y1011.length + l0.length < 17592186044416 then (some (y1011 ++ l0)) else (none))
def impl_ProgramFold.l0 : Nat → List (List (S35)) → Int → Int → List Int → List (List (S35)) → Option (List Int × (List (List (S35))) × Bool)
 | 0, _, _, _, _, _ => none
 | k + 1, x16, x17, x18, x1024000, x1024001 => if x18 < x17 then (if 0 ≤ x18 then (if x18 < (x16.length : Int) then ((impl_stmtsFold.f k (rd_L4 x16 x18)).bind fun t1025 => (if x1024001.length < 5864062014805 then (impl_ProgramFold.l0 k x16 x17 (wrap64 (x18 + 1)) x1024000 (x1024001 ++ [t1025])) else (none))) else (none)) else (none)) else (some (x1024000, x1024001, true))
def impl_ProgramFold.f (k : Nat) (l0_0 : List Int) (l0_1 : List (List (S35))) : Option (List Int × (List (List (S35))) × Bool) := (impl_ProgramValid.f k l0_0 l0_1).bind fun t1019 => (if t1019 = true then ((slices_Clone_int_int.f l0_0).bind fun t1020 => (impl_ProgramFold.l0 k l0_1 (l0_1.length : Int) 0 t1020 ([] : List (List (S35))))) else (some (([] : List Int), ([] : List (List (S35))), false)))
def spec_l12Rooms.l0 : Nat → List Int → Int → Option (Bool)
 | 0, _, _ => none
 | k + 1, x0, x3 => if x3 < (x0.length : Int) then (if 0 ≤ x3 then ((spec_l6In.f (rd x0 x3) 1 4).bind fun t1032 => (if t1032 = true then (spec_l12Rooms.l0 k x0 (wrap64 (x3 + 1))) else (some false))) else (none)) else (some (decide ((x0.length : Int) ≤ 3)))
def spec_l12Rooms.f (k : Nat) (l0 : List Int) : Option (Bool) := spec_l12Rooms.l0 k l0 0
mutual
def spec_l12Boxes.l0 : Nat → List (S35) → Int → Int → Option (Bool)
 | 0, _, _, _ => none
 | k + 1, x0, x1, x5 => if x5 < (x0.length : Int) then (if 0 ≤ x5 then (if ((rd_T35 x0 x5).f0) = 4 then (spec_l12Boxes.j1 k x0 x1 x5 (decide (((rd_T35 x0 x5).f2) ≥ x1)) ((rd_T35 x0 x5).f0) ((rd_T35 x0 x5).f1) ((rd_T35 x0 x5).f2) ((rd_T35 x0 x5).f3.f0) ((rd_T35 x0 x5).f3.f1) ((rd_T35 x0 x5).f3.f2) ((rd_T35 x0 x5).f4) ((rd_T35 x0 x5).f5)) else (if ((rd_T35 x0 x5).f0) = 5 then (spec_l12Boxes.j1 k x0 x1 x5 (decide (((rd_T35 x0 x5).f2) ≥ x1)) ((rd_T35 x0 x5).f0) ((rd_T35 x0 x5).f1) ((rd_T35 x0 x5).f2) ((rd_T35 x0 x5).f3.f0) ((rd_T35 x0 x5).f3.f1) ((rd_T35 x0 x5).f3.f2) ((rd_T35 x0 x5).f4) ((rd_T35 x0 x5).f5)) else (spec_l12Boxes.j1 k x0 x1 x5 false ((rd_T35 x0 x5).f0) ((rd_T35 x0 x5).f1) ((rd_T35 x0 x5).f2) ((rd_T35 x0 x5).f3.f0) ((rd_T35 x0 x5).f3.f1) ((rd_T35 x0 x5).f3.f2) ((rd_T35 x0 x5).f4) ((rd_T35 x0 x5).f5)))) else (none)) else (some true)
def spec_l12Boxes.j1 : Nat → List (S35) → Int → Int → Bool → Int → Int → Int → Int → Int → List (S32) → List (S35) → List (S35) → Option (Bool)
 | 0, _, _, _, _, _, _, _, _, _, _, _, _ => none
 | k + 1, x0, x1, x5, x30, x1035000, x1035001, x1035002, x1035003, x1035004, x1035005, x1035006, x1035007 => if x30 = true then (some false) else ((spec_l12Boxes.f k x1035006 x1).bind fun t1035 => (if t1035 = true then ((spec_l12Boxes.f k x1035007 x1).bind fun t1036 => (if t1036 = true then (spec_l12Boxes.l0 k x0 x1 (wrap64 (x5 + 1))) else (some false))) else (some false)))
def spec_l12Boxes.f : Nat → List (S35) → Int → Option (Bool)
 | 0, _, _ => none
 | k + 1, l0, a1 => spec_l12Boxes.l0 k l0 a1 0
end
mutual
def spec_ProgramValid.j0 : Nat → Bool → List Int → List (List (S35)) → Option (Bool)
 | 0, _, _, _ => none
 | k + 1, x14, x1038000, x1038001 => if x14 = true then (some false) else (spec_ProgramValid.l0 k 0 x1038000 x1038001)
def spec_ProgramValid.l0 : Nat → Int → List Int → List (List (S35)) → Option (Bool)
 | 0, _, _, _ => none
 | k + 1, x3, x1038000, x1038001 => if x3 < (x1038001.length : Int) then (if 0 ≤ x3 then ((spec_StmtsValid.f k (rd_L4 x1038001 x3)).bind fun t1041 => (if t1041 = true then ((spec_l12Boxes.f k (rd_L4 x1038001 x3) (x1038000.length : Int)).bind fun t1043 => (if t1043 = true then (spec_ProgramValid.l0 k (wrap64 (x3 + 1)) x1038000 x1038001) else (some false))) else (some false))) else (none)) else (some true)
end
def spec_ProgramValid.f (k : Nat) (l0_0 : List Int) (l0_1 : List (List (S35))) : Option (Bool) := (spec_l12Rooms.f k l0_0).bind fun t1038 => (if t1038 = true then ((spec_l6In.f (l0_1.length : Int) 1 3).bind fun t1039 => (spec_ProgramValid.j0 k (!t1039) l0_0 l0_1)) else (spec_ProgramValid.j0 k true l0_0 l0_1))
def spec_ProgramFold.l0 : Nat → Int → List Int → List (List (S35)) → List Int → List (List (S35)) → Option (List Int × (List (List (S35))) × Bool)
 | 0, _, _, _, _, _ => none
 | k + 1, x5, x1045000, x1045001, x1057000, x1057001 => if x5 < (x1045001.length : Int) then (if 0 ≤ x5 then ((spec_l11FoldAll.f k (rd_L4 x1045001 x5)).bind fun t1058 => (if x1057001.length < 5864062014805 then (spec_ProgramFold.l0 k (wrap64 (x5 + 1)) x1045000 x1045001 x1057000 (x1057001 ++ [t1058])) else (none))) else (none)) else (some (x1057000, x1057001, true))
def spec_ProgramFold.f (k : Nat) (l0_0 : List Int) (l0_1 : List (List (S35))) : Option (List Int × (List (List (S35))) × Bool) := (spec_ProgramValid.f k l0_0 l0_1).bind fun t1046 => (if t1046 = true then ((some (([] : List Int) : List Int)).bind fun y1047 => (if y1047.length + l0_0.length < 17592186044416 then (spec_ProgramFold.l0 k 0 l0_0 l0_1 (y1047 ++ l0_0) (([] : List (List (S35))))) else (none))) else (some (([] : List Int), ([] : List (List (S35))), false)))
def laws_sameInts.l0 : Nat → List Int → List Int → Int → Option (Bool)
 | 0, _, _, _ => none
 | k + 1, x0, x1, x5 => if x5 < (x0.length : Int) then (if 0 ≤ x5 then (if x5 < (x1.length : Int) then (if (rd x0 x5) = (rd x1 x5) then (laws_sameInts.l0 k x0 x1 (wrap64 (x5 + 1))) else (some false)) else (none)) else (none)) else (some true)
def laws_sameInts.f (k : Nat) (l0 : List Int) (l1 : List Int) : Option (Bool) := if (l0.length : Int) = (l1.length : Int) then (laws_sameInts.l0 k l0 l1 0) else (some false)
mutual
def laws_sameProgram.j0 : Nat → Bool → List Int → List (List (S35)) → List Int → List (List (S35)) → Option (Bool)
 | 0, _, _, _, _, _ => none
 | k + 1, x20, x1067000, x1067001, x1068000, x1068001 => if x20 = true then (some false) else (laws_sameProgram.l0 k 0 x1067000 x1067001 x1068000 x1068001)
def laws_sameProgram.l0 : Nat → Int → List Int → List (List (S35)) → List Int → List (List (S35)) → Option (Bool)
 | 0, _, _, _, _, _ => none
 | k + 1, x5, x1067000, x1067001, x1068000, x1068001 => if x5 < (x1067001.length : Int) then (if 0 ≤ x5 then (if x5 < (x1068001.length : Int) then ((laws_sameStmts.f k (rd_L4 x1067001 x5) (rd_L4 x1068001 x5)).bind fun t1071 => (if t1071 = true then (laws_sameProgram.l0 k (wrap64 (x5 + 1)) x1067000 x1067001 x1068000 x1068001) else (some false))) else (none)) else (none)) else (some true)
end
def laws_sameProgram.f (k : Nat) (l0_0 : List Int) (l0_1 : List (List (S35))) (l1_0 : List Int) (l1_1 : List (List (S35))) : Option (Bool) := (laws_sameInts.f k l0_0 l1_0).bind fun t1068 => (if t1068 = true then (laws_sameProgram.j0 k ((l0_1.length : Int) != (l1_1.length : Int)) l0_0 l0_1 l1_0 l1_1) else (laws_sameProgram.j0 k true l0_0 l0_1 l1_0 l1_1))
mutual
def impl_hasLoop.l0 : Nat → List S35 → Int → Option Bool
 | 0, _, _ => none
 | k + 1, x, i => if i < (x.length : Int) then (if 0 ≤ i then ((impl_hasLoop.one k (rd_T35 x i)).bind fun b => if b = true then some true else impl_hasLoop.l0 k x (wrap64 (i + 1))) else none) else some false
def impl_hasLoop.one : Nat → S35 → Option Bool
 | 0, _ => none
 | k + 1, s => if s.f0 = 3 then some true else ((impl_hasLoop.f k s.f4).bind fun b => if b = true then some true else impl_hasLoop.f k s.f5)
def impl_hasLoop.f : Nat → List S35 → Option Bool
 | 0, _ => none
 | k + 1, l => impl_hasLoop.l0 k l 0
end
def impl_anyLoop.l0 : Nat → List (List S35) → Int → Option Bool
 | 0, _, _ => none
 | k + 1, x, i => if i < (x.length : Int) then (if 0 ≤ i then ((impl_hasLoop.f k (rd_L4 x i)).bind fun b => if b = true then some true else impl_anyLoop.l0 k x (wrap64 (i + 1))) else none) else some false
def impl_ProgramPlain.f (k : Nat) (l0_0 : List Int) (l0_1 : List (List S35)) : Option Bool := (impl_ProgramValid.f k l0_0 l0_1).bind fun v => if v = true then ((impl_anyLoop.l0 k l0_1 0).bind fun b => some (!b)) else some false
def impl_ProgramSize.l0 : Nat → Int → List (List (S35)) → Int → Int → Option (Int)
 | 0, _, _, _, _ => none
 | k + 1, x3, x10, x11, x12 => if x12 < x11 then (if 0 ≤ x12 then (if x12 < (x10.length : Int) then ((impl_stmtsCount.f k (rd_L4 x10 x12)).bind fun t1075 => (impl_ProgramSize.l0 k (wrap64 (x3 + t1075)) x10 x11 (wrap64 (x12 + 1)))) else (none)) else (none)) else (some x3)
def impl_ProgramSize.f (k : Nat) (l0_0 : List Int) (l0_1 : List (List (S35))) : Option (Int) := (impl_ProgramValid.f k l0_0 l0_1).bind fun t1073 => (if t1073 = true then (impl_ProgramSize.l0 k 0 l0_1 (l0_1.length : Int) 0) else (some (-1)))
def IsS91 (w0 W : World) (g : Nat) (f0 : List Int) (f1 : Int) : Prop := ∃ A0 c0, W.heap[g]? = some (.cells #[.slice A0 f0.length c0, .int .i64 f1] 91 (0, 0)) ∧ w0.heap.size ≤ g ∧ Kd.C (Kd.int .u8) w0 A0 f0.length f0
theorem IsS91.grown {w0 W : World} {g : Nat} {f0 : List Int} {f1 : Int} {W1 : World} {row : Option Nat} (h : IsS91 w0 W g f0 f1) (hw : W.grownBy W1 row) (hne : some g ≠ row) : IsS91 w0 W1 g f0 f1 := by
 obtain ⟨A0, c0, hb, hg, hr0⟩ := h
 exact ⟨A0, c0, blk_grown hb hw hne, hg, hr0⟩
theorem IsS91.own_neN {w0 W : World} {g : Nat} {f0 : List Int} {f1 : Int} {α : Type} {d : Kd α} {e : Nat} {base : Nat} {ok : Nat → Prop} {v : Value} {xs : List α} (h : IsS91 w0 W g f0 f1) (ho : Kd.N d e W base ok v xs) (ht : e ≠ 91) : some g ≠ v.ownBlock := by
 obtain ⟨A0, c0, hb, hg, hr0⟩ := h
 exact Kd.N_ne ho hb ht
theorem IsS91.fresh {w0 W : World} {g : Nat} {f0 : List Int} {f1 : Int} (h : IsS91 w0 W g f0 f1) : ∀ k, W.heap.size ≤ k → k ≠ g := by
 obtain ⟨A0, c0, hb, hg, hr0⟩ := h
 exact Kd.freshB hb
theorem IsS91.kept {w0 W : World} {g : Nat} {f0 : List Int} {f1 : Int} {W1 : World} {S : Nat → Prop} (h : IsS91 w0 W g f0 f1) (hk : Kept W W1 S) (hne : ¬ S g) : IsS91 w0 W1 g f0 f1 := by
 obtain ⟨A0, c0, hb, hg, hr0⟩ := h
 exact ⟨A0, c0, blk_kept hb hk hne, hg, hr0⟩
theorem IsS91.below {w0 W : World} {g : Nat} {f0 : List Int} {f1 : Int} {W1 : World} (h : IsS91 w0 W g f0 f1) (hw : Below W.heap.size W W1) : IsS91 w0 W1 g f0 f1 := h.grown (grown_of_below hw none) (by simp)
theorem IsS91.alloc {w0 W : World} {g : Nat} {f0 : List Int} {f1 : Int} (h : IsS91 w0 W g f0 f1) (o : Obj) : IsS91 w0 (W.alloc o) g f0 f1 := h.below (below_alloc (Below.refl _ _) o)
theorem IsS91.drewN {w0 W : World} {g : Nat} {f0 : List Int} {f1 : Int} (h : IsS91 w0 W g f0 f1) (m : Nat) : IsS91 w0 (W.drewN m) g f0 f1 := h
theorem IsS91.drew {w0 W : World} {g : Nat} {f0 : List Int} {f1 : Int} (h : IsS91 w0 W g f0 f1) : IsS91 w0 W.drew g f0 f1 := h
theorem IsS91.at_ {w0 W : World} {g : Nat} {f0 : List Int} {f1 : Int} {w' : World} {m : Nat} (hq : W.drewN m = w') (h : IsS91 w0 W g f0 f1) : IsS91 w0 w' g f0 f1 := by subst hq; exact IsS91.drewN h m
theorem IsS91.apart {w0 W : World} {g : Nat} {f0 : List Int} {f1 : Int} {α : Type} {d : Kd α} {e : Nat} {base : Nat} {ok : Nat → Prop} {v : Value} {xs : List α} (h : IsS91 w0 W g f0 f1) (ho : d.R e W base ok v xs) (ht : ∀ q, q ∈ e :: d.E → q ≠ 91) : d.R e W base (fun k => ok k ∧ k ≠ g) v xs := by
 obtain ⟨A0, c0, hb, hg, hr0⟩ := h
 exact Kd.R_types ho hb ht
theorem IsS91.own_ne {w0 W : World} {g : Nat} {f0 : List Int} {f1 : Int} {α : Type} {d : Kd α} {e : Nat} {base : Nat} {ok : Nat → Prop} {v : Value} {xs : List α} (h : IsS91 w0 W g f0 f1) (ho : d.R e W base ok v xs) (ht : e ≠ 91) : some g ≠ v.ownBlock := by
 obtain ⟨A0, c0, hb, hg, hr0⟩ := h
 exact Kd.R_ne ho hb ht
theorem IsS91.lt {w0 W : World} {g : Nat} {f0 : List Int} {f1 : Int} (h : IsS91 w0 W g f0 f1) : g < W.heap.size := by
 obtain ⟨A0, c0, hb, hg, hr0⟩ := h
 exact blk_lt hb
theorem IsS91.ge {w0 W : World} {g : Nat} {f0 : List Int} {f1 : Int} (h : IsS91 w0 W g f0 f1) : w0.heap.size ≤ g := by
 obtain ⟨A0, c0, hb, hg, hr0⟩ := h
 exact hg
theorem IsS91.far {w0 W : World} {g : Nat} {f0 : List Int} {f1 : Int} {p : Addr} (h : IsS91 w0 W g f0 f1) (hne : g ≠ p.block) (u : Value) : IsS91 w0 (W.setCell p u) g f0 f1 := by
 obtain ⟨A0, c0, hb, hg, hr0⟩ := h
 exact ⟨A0, c0, blk_far hb hne u, hg, hr0⟩
theorem cellS91_0 {W : World} {g : Nat} {A0 : Option Addr} {c0 : Nat} {f0 : List Int} {f1 : Int} (h : W.heap[g]? = some (.cells #[.slice A0 f0.length c0, .int .i64 f1] 91 (0, 0))) : W.cell? ⟨g, 0, none⟩ = some (.slice A0 f0.length c0) := (blk_cell h 0).trans rfl
theorem cellS91_1 {W : World} {g : Nat} {A0 : Option Addr} {c0 : Nat} {f0 : List Int} {f1 : Int} (h : W.heap[g]? = some (.cells #[.slice A0 f0.length c0, .int .i64 f1] 91 (0, 0))) : W.cell? ⟨g, 1, none⟩ = some (.int .i64 f1) := (blk_cell h 1).trans rfl
theorem IsS91.set_1 {w0 W : World} {g : Nat} {f0 : List Int} {f1 : Int} (h : IsS91 w0 W g f0 f1) (x : Int) : IsS91 w0 (W.setCell ⟨g, 1, none⟩ (.int .i64 x)) g f0 x := by
 obtain ⟨A0, c0, hb, hg, hr0⟩ := h
 exact ⟨A0, c0, by simpa using blk_set hb 1 (.int .i64 x), hg, hr0⟩
theorem spec_l6Open.calls (A0 : Option Addr) (c0 : Nat) (l0 : List Int) (r1 : List Int) (r2 : Int) (w0 w : World) (hB : Below w0.heap.size w0 w) (hr0 : Kd.C (Kd.int .u8) w0 A0 l0.length l0) (hc0 : l0.length ≤ c0) (h : spec_l6Open.f l0 = some (r1, r2)) :
  Calls Try.prog 39 #[.slice A0 l0.length c0] w fun e w' => ∃ g_ : Nat, e = .returned (.pointer (some ⟨g_, 0, none⟩)) ∧ IsS91 w0 w' g_ r1 r2 ∧ Below w0.heap.size w0 w' ∧ Below w.heap.size w w' := by
 have hu91 := Try.underlying91
 have HR0 := am hr0
 have HC0 := am hc0
 clear hr0 hc0
 have HBW := am (Below.refl w.heap.size w)
 have HW0 := am hB.size
 have HB := am hB
 clear hB
 have H : (if (l0.length : Int) > 2000 then (if 2000 ≤ (l0.length : Int) then (some (l0.take 2000, 0)) else (none)) else (some (l0, 0))) = some (r1, r2) := h
 clear h
 by_cases c2 : (l0.length : Int) > 2000
 ·rw [if_pos c2] at H
  have c2b0 : decide (2000 < (l0.length : Int)) = true := decide_eq_true c2
  have c2b1 : decide (2000 < l0.length) = true := decide_eq_true (by omega)
  clear c2
  by_cases c3 : 2000 ≤ (l0.length : Int)
  ·rw [if_pos c3] at H
   have c3b0 := eq_true c3
   have c3b1 : decide (2000 ≤ (l0.length : Int)) = true := decide_eq_true c3
   clear c3
   simp only [Option.some.injEq, Prod.mk.injEq] at H
   obtain ⟨rfl, rfl⟩ := H
   obtain ⟨i04, hi04, _, hsz4, _⟩ := info_parts info5
   obtain ⟨hcut4, hA4, hC4⟩ := print_take_of (P := Try.prog) (Value.int .u8) 0 22 5 .i64 Try.underlying22 hi04 hsz4 A0 c0 l0 2000 (by omega) (of_decide_eq_true asm_) HC0.out
   have HR101 := am (Kd.C_of_reads (h1 := fun _ => rfl) (hA4 _ (Kd.reads_of_C HR0.out)))
   have HC101 := am hC4
   clear hA4 hC4 hi04 hsz4
   go_enter Try.func39, Try.ntmps39
   go_wp2_with (first | ((with_reducible refine gate_dst (N := 10) rfl ?_); refine box_event rfl (N := 10) rfl (cs := #[.slice A0 (l0.take 2000).length c0, .int .i64 0]) (t := 91) rn_ ?_; intro gb102 hg w5 hbox hb; replace HB := am (below_step ab2_ hb); have BK102 := am (hbox); have GW102 := am ((by rw [hg]; exact (below_size ab67_) : w.heap.size ≤ gb102)); have GE102 := am ((Nat.le_trans HW0.out (by rw [hg]; exact (below_size ab67_) : w.heap.size ≤ gb102) : w0.heap.size ≤ gb102)); replace HBW := am (below_step HBW.out hb); clear hb hbox hg))
   go_ret
   exact ⟨_, rfl, (show IsS91 w0 _ gb102 (l0.take 2000) 0 from ⟨_, _, by (with_reducible repeat (first | refine blk_drewN ?_ _ | refine blk_drew ?_ | refine blk_alloc ?_ _)); exact BK102.out, GE102.out, HR101.out⟩), by repeat (first | (with_reducible first | exact HB.out | apply below_alloc | apply pw_below_drewN | apply below_drew1 | refine below_set ?_ GE102.out) | exact HB.out), by repeat (first | (with_reducible first | exact HBW.out | apply below_alloc | apply pw_below_drewN | apply below_drew1 | refine below_set ?_ GW102.out) | exact HBW.out)⟩
  rw [if_neg c3] at H
  exact absurd H (by simp)
 rw [if_neg c2] at H
 have c2b0 : decide (2000 < (l0.length : Int)) = false := decide_eq_false c2
 have c2b1 : decide (2000 < l0.length) = false := decide_eq_false (by omega)
 clear c2
 simp only [Option.some.injEq, Prod.mk.injEq] at H
 obtain ⟨rfl, rfl⟩ := H
 go_enter Try.func39, Try.ntmps39
 go_wp2_with (first | ((with_reducible refine gate_dst (N := 10) rfl ?_); refine box_event rfl (N := 10) rfl (cs := #[.slice A0 l0.length c0, .int .i64 0]) (t := 91) rn_ ?_; intro gb103 hg w6 hbox hb; replace HB := am (below_step ab2_ hb); have BK103 := am (hbox); have GW103 := am ((by rw [hg]; exact (below_size ab67_) : w.heap.size ≤ gb103)); have GE103 := am ((Nat.le_trans HW0.out (by rw [hg]; exact (below_size ab67_) : w.heap.size ≤ gb103) : w0.heap.size ≤ gb103)); replace HBW := am (below_step HBW.out hb); clear hb hbox hg))
 go_ret
 exact ⟨_, rfl, (show IsS91 w0 _ gb103 l0 0 from ⟨_, _, by (with_reducible repeat (first | refine blk_drewN ?_ _ | refine blk_drew ?_ | refine blk_alloc ?_ _)); exact BK103.out, GE103.out, HR0.out⟩), by repeat (first | (with_reducible first | exact HB.out | apply below_alloc | apply pw_below_drewN | apply below_drew1 | refine below_set ?_ GE103.out) | exact HB.out), by repeat (first | (with_reducible first | exact HBW.out | apply below_alloc | apply pw_below_drewN | apply below_drew1 | refine below_set ?_ GW103.out) | exact HBW.out)⟩
theorem spec_l6Rd_pick.mono_l : ∀ k, (∀ y0 y1 y2 y3, LeO (spec_l6Rd_pick.j0 k y0 y1 y2 y3) (spec_l6Rd_pick.j0 (k + 1) y0 y1 y2 y3))
 | 0 => fun _ _ _ _ r h => by simp [spec_l6Rd_pick.j0] at h
 | k + 1 => by
  have ih0 := spec_l6Rd_pick.mono_l k
  ·intro y0 y1 y2 y3
   unfold spec_l6Rd_pick.j0
   repeat' first
   | (with_reducible exact ih0 _ _ _ _)
   | (with_reducible exact LeO.refl _)
   | (with_reducible exact LeO.none _)
   | (with_reducible refine LeO.ite ?_ ?_)
   | (with_reducible refine LeO.bind ?_ (fun _ => ?_))
theorem spec_l6Rd_pick.mono : ∀ a0 a1 a2 k, LeO (spec_l6Rd_pick.f k a0 a1 a2) (spec_l6Rd_pick.f (k + 1) a0 a1 a2) := by
 intro a0 a1 a2 k
 have ih0 := spec_l6Rd_pick.mono_l k
 unfold spec_l6Rd_pick.f
 repeat' first
   | (with_reducible exact ih0 _ _ _ _)
   | (with_reducible exact LeO.refl _)
   | (with_reducible exact LeO.none _)
   | (with_reducible refine LeO.ite ?_ ?_)
   | (with_reducible refine LeO.bind ?_ (fun _ => ?_))
theorem spec_l6Rd_pick.calls (k : Nat) (g : Nat) (s0_0 : List Int) (s0_1 : Int) (a1 : Int) (r1 : Int) (r2 : Int) (w0 w : World) (hI : IsS91 w0 w g s0_0 s0_1) (hB : Below w0.heap.size w0 w) (h : spec_l6Rd_pick.f k s0_0 s0_1 a1 = some (r1, r2)) :
  Calls Try.prog 41 #[.pointer (some ⟨g, 0, none⟩), .int .i64 a1] w fun e w' => e = .returned (.int .i64 r1) ∧ IsS91 w0 w' g s0_0 r2 ∧ Below w0.heap.size w0 w' ∧ KeepBut w w' g none := by
 have HI0 := am hI
 have HK := am (KeepBut.refl w g none)
 have HL := am hB.size
 clear hI
 have HW0 := am hB.size
 have HB := am hB
 clear hB
 have H : (if a1 < 1 then (spec_l6Rd_pick.j0 k a1 true s0_0 (wrap64 (s0_1 + 1))) else (spec_l6Rd_pick.j0 k a1 ((s0_0.length : Int) == 0) s0_0 (wrap64 (s0_1 + 1)))) = some (r1, r2) := h
 clear h
 have HC3 := am H
 clear H
 obtain ⟨ASz4_0, cSz4_0, HGz4, hgz4, HSz4_0⟩ := HI0.out
 have hcz4_0 := cellS91_0 HGz4
 have hcz4_1 := cellS91_1 HGz4
 have hfz4_1 := blk_frozen HGz4 1
 clear HGz4 hgz4
 go_enter Try.func41, Try.ntmps41
 go_upto_region 2 with (fail)
 repeat (go_quiet (fail); go_upto_region 2 with (fail))
 go_cut [24] (fun v24 wc => ∃ (kq : Nat) (x24_2 : Bool), v24 = .bool x24_2 ∧ Aside0 (spec_l6Rd_pick.j0 kq a1 x24_2 s0_0 (wrap64 (s0_1 + 1)) = some (r1, r2)) ∧ Aside0 (kq ≤ k) ∧ Aside0 (IsS91 w0 wc g s0_0 (wrap64 (s0_1 + 1))) ∧ Aside0 (KeepBut w wc g none) ∧ Aside0 (Below w0.heap.size w0 wc))
 case first =>
  have H := HC3.out
  clear HC3
  by_cases c5 : a1 < 1
  ·rw [if_pos c5] at H
   have c5b0 : decide (a1 < 1) = true := decide_eq_true c5
   clear c5
   (first | rw [c5b0] | (simp only [i64_w, i32_w]; rw [c5b0]) | skip)
   have H' := am H
   clear H
   go_wp2
   repeat (go_quiet (fail); try go_wp2)
   go_meet
   case rel => exact ⟨_, (true), sd_, H', ⟨by first | omega | exact Nat.le_refl _⟩, ⟨ab4_⟩, ⟨ab3_⟩, ⟨ab5_⟩⟩
  rw [if_neg c5] at H
  have c5b0 : decide (a1 < 1) = false := decide_eq_false c5
  clear c5
  (first | rw [c5b0] | (simp only [i64_w, i32_w]; rw [c5b0]) | skip)
  have H' := am H
  clear H
  obtain ⟨ASz6_0, cSz6_0, HGz6, hgz6, HSz6_0⟩ := HI0.out
  have hcz6_0 := cellS91_0 HGz6
  have hcz6_1 := cellS91_1 HGz6
  have hfz6_1 := blk_frozen HGz6 1
  clear HGz6 hgz6
  go_wp2
  repeat (go_quiet (fail); try go_wp2)
  go_meet
  case rel => exact ⟨_, (((s0_0.length : Int) == 0)), sd_, H', ⟨by first | omega | exact Nat.le_refl _⟩, ⟨ab4_⟩, ⟨ab3_⟩, ⟨ab5_⟩⟩
 case rest =>
  clear HC3
  try clear hcz4_0
  try clear hcz4_1
  try clear hfz4_1
  obtain ⟨kq, x24_2, rfl, HA, HJ2, HI0, HK, HB⟩ := hcut
  cases kq with
  | zero => exact absurd HA.out (by simp [spec_l6Rd_pick.j0])
  | succ kj2 =>
   have H := HA.out
   clear HA
   simp only [spec_l6Rd_pick.j0] at H
   by_cases c7 : x24_2 = true
   ·subst c7
    rw [if_pos rfl] at H
    simp only [Option.some.injEq, Prod.mk.injEq] at H
    obtain ⟨rfl, rfl⟩ := H
    go_wp2
    repeat (go_quiet (fail); try go_wp2)
    go_ret
    exact ⟨rr_, ab4_, ab5_, ab3_⟩
   replace c7 := Bool.eq_false_iff.mpr c7
   subst c7
   rw [if_neg (show ¬ (false = true) by decide)] at H
   by_cases c8 : (wrap64 ((wrap64 (s0_1 + 1)) - 1)) < (s0_0.length : Int)
   ·rw [if_pos c8] at H
    have c8b0 : decide ((wrap64 ((wrap64 (s0_1 + 1)) - 1)) < (s0_0.length : Int)) = true := decide_eq_true c8
    clear c8
    obtain ⟨ji9, hji9⟩ : ∃ j_ : Int, (wrap64 ((wrap64 (s0_1 + 1)) - 1)) = j_ := ⟨_, rfl⟩
    replace H : (if 0 ≤ (ji9) then (if a1 = 0 then (none) else (some (Int.tmod (wrap64 (rd s0_0 (ji9))) a1, (wrap64 (s0_1 + 1))))) else (none)) = some (r1, r2) := by first | (rw [hji9] at H; exact H) | (simp only [hji9] at H ⊢; exact H)
    (try rw [hji9] at c8b0)
    have hji9w : (IntKind.i64.wrap ((wrap64 (s0_1 + 1)) - 1)) = ji9 := (i64_w _).trans hji9
    by_cases c10 : 0 ≤ (ji9)
    ·rw [if_pos c10] at H
     have c10b0 : decide (0 ≤ (ji9)) = true := decide_eq_true c10
     clear c10
     by_cases c11 : a1 = 0
     ·rw [if_pos c11] at H
      exact absurd H (by simp)
     rw [if_neg c11] at H
     have c11b0 : (a1 == 0) = false := beq_eq_false_iff_ne.mpr c11
     have c11b1 : (a1 != 0) = true := bne_iff_ne.mpr c11
     simp only [Option.some.injEq, Prod.mk.injEq] at H
     obtain ⟨rfl, rfl⟩ := H
     obtain ⟨ASz12_0, cSz12_0, HGz12, hgz12, HSz12_0⟩ := HI0.out
     have hcz12_0 := cellS91_0 HGz12
     have hcz12_1 := cellS91_1 HGz12
     have hfz12_1 := blk_frozen HGz12 1
     clear HGz12 hgz12
     have p104 : 0 ≤ ((ji9) : Int) := of_decide_eq_true asm_
     have q104 : (ji9) < (s0_0.length : Int) := of_decide_eq_true asm_
     obtain ⟨ad104, e104, hx104_0⟩ := Kd.at_int HSz12_0 (ji9) p104 q104
     cases e104
     replace hx104_0 := pw_cell_below HB.out hx104_0
     replace p104 := eq_true p104
     replace q104 := eq_true q104
     go_wp2
     repeat (go_quiet (fail); try go_wp2)
     go_ret
     exact ⟨by first | rfl | (simp [errW_none, errW_some] <;> rfl) | (simp only [← hji9]; first | rfl | (simp [errW_none, errW_some] <;> rfl)) | (simp [*, errW_none, errW_some] <;> rfl), ab4_, ab5_, ab3_⟩
    rw [if_neg c10] at H
    exact absurd H (by simp)
   rw [if_neg c8] at H
   have c8b0 : decide ((wrap64 ((wrap64 (s0_1 + 1)) - 1)) < (s0_0.length : Int)) = false := decide_eq_false c8
   clear c8
   by_cases c13 : (s0_0.length : Int) = 0
   ·rw [if_pos c13] at H
    exact absurd H (by simp)
   rw [if_neg c13] at H
   have c13b0 : ((s0_0.length : Int) == 0) = false := beq_eq_false_iff_ne.mpr c13
   have c13b1 : ((s0_0.length : Int) != 0) = true := bne_iff_ne.mpr c13
   have c13b2 : ¬ (s0_0 = []) := fun h_ => c13 (by rw [h_]; rfl)
   obtain ⟨ji14, hji14⟩ : ∃ j_ : Int, (Int.tmod (wrap64 ((wrap64 (s0_1 + 1)) - 1)) (s0_0.length : Int)) = j_ := ⟨_, rfl⟩
   replace H : (if 0 ≤ (ji14) then (if (ji14) < (s0_0.length : Int) then (if 0 ≤ (Int.tmod (wrap64 ((wrap64 ((wrap64 ((wrap64 (s0_1 + 1)) - 1)) * 7)) + 3)) (s0_0.length : Int)) then (if (Int.tmod (wrap64 ((wrap64 ((wrap64 ((wrap64 (s0_1 + 1)) - 1)) * 7)) + 3)) (s0_0.length : Int)) < (s0_0.length : Int) then (if a1 = 0 then (none) else (some (Int.tmod (Go.bits .xor .i64 (wrap64 ((wrap64 ((wrap64 ((wrap64 ((wrap64 (rd s0_0 (ji14))) * 131)) + (wrap64 ((wrap64 (rd s0_0 (Int.tmod (wrap64 ((wrap64 ((wrap64 ((wrap64 (s0_1 + 1)) - 1)) * 7)) + 3)) (s0_0.length : Int)))) * 1117)))) + (wrap64 ((wrap64 ((wrap64 (s0_1 + 1)) - 1)) * 29)))) + (wrap64 ((wrap64 (Int.tdiv (wrap64 ((wrap64 (s0_1 + 1)) - 1)) (s0_0.length : Int))) * 53)))) (wrap64 (Int.tdiv (wrap64 ((wrap64 ((wrap64 ((wrap64 ((wrap64 (rd s0_0 (ji14))) * 131)) + (wrap64 ((wrap64 (rd s0_0 (Int.tmod (wrap64 ((wrap64 ((wrap64 ((wrap64 (s0_1 + 1)) - 1)) * 7)) + 3)) (s0_0.length : Int)))) * 1117)))) + (wrap64 ((wrap64 ((wrap64 (s0_1 + 1)) - 1)) * 29)))) + (wrap64 ((wrap64 (Int.tdiv (wrap64 ((wrap64 (s0_1 + 1)) - 1)) (s0_0.length : Int))) * 53)))) 64))) a1, (wrap64 (s0_1 + 1))))) else (none)) else (none)) else (none)) else (none)) = some (r1, r2) := by first | (rw [hji14] at H; exact H) | (simp only [hji14] at H ⊢; exact H)
   by_cases c15 : 0 ≤ (ji14)
   ·rw [if_pos c15] at H
    have c15b0 : decide (0 ≤ (ji14)) = true := decide_eq_true c15
    clear c15
    by_cases c16 : (ji14) < (s0_0.length : Int)
    ·rw [if_pos c16] at H
     have c16b0 : decide ((ji14) < (s0_0.length : Int)) = true := decide_eq_true c16
     clear c16
     obtain ⟨ji17, hji17⟩ : ∃ j_ : Int, (Int.tmod (wrap64 ((wrap64 ((wrap64 ((wrap64 (s0_1 + 1)) - 1)) * 7)) + 3)) (s0_0.length : Int)) = j_ := ⟨_, rfl⟩
     replace H : (if 0 ≤ (ji17) then (if (ji17) < (s0_0.length : Int) then (if a1 = 0 then (none) else (some (Int.tmod (Go.bits .xor .i64 (wrap64 ((wrap64 ((wrap64 ((wrap64 ((wrap64 (rd s0_0 (ji14))) * 131)) + (wrap64 ((wrap64 (rd s0_0 (ji17))) * 1117)))) + (wrap64 ((wrap64 ((wrap64 (s0_1 + 1)) - 1)) * 29)))) + (wrap64 ((wrap64 (Int.tdiv (wrap64 ((wrap64 (s0_1 + 1)) - 1)) (s0_0.length : Int))) * 53)))) (wrap64 (Int.tdiv (wrap64 ((wrap64 ((wrap64 ((wrap64 ((wrap64 (rd s0_0 (ji14))) * 131)) + (wrap64 ((wrap64 (rd s0_0 (ji17))) * 1117)))) + (wrap64 ((wrap64 ((wrap64 (s0_1 + 1)) - 1)) * 29)))) + (wrap64 ((wrap64 (Int.tdiv (wrap64 ((wrap64 (s0_1 + 1)) - 1)) (s0_0.length : Int))) * 53)))) 64))) a1, (wrap64 (s0_1 + 1))))) else (none)) else (none)) = some (r1, r2) := by first | (rw [hji17] at H; exact H) | (simp only [hji17] at H ⊢; exact H)
     by_cases c18 : 0 ≤ (ji17)
     ·rw [if_pos c18] at H
      have c18b0 : decide (0 ≤ (ji17)) = true := decide_eq_true c18
      clear c18
      by_cases c19 : (ji17) < (s0_0.length : Int)
      ·rw [if_pos c19] at H
       have c19b0 : decide ((ji17) < (s0_0.length : Int)) = true := decide_eq_true c19
       clear c19
       by_cases c20 : a1 = 0
       ·rw [if_pos c20] at H
        exact absurd H (by simp)
       rw [if_neg c20] at H
       have c20b0 : (a1 == 0) = false := beq_eq_false_iff_ne.mpr c20
       have c20b1 : (a1 != 0) = true := bne_iff_ne.mpr c20
       simp only [Option.some.injEq, Prod.mk.injEq] at H
       obtain ⟨rfl, rfl⟩ := H
       obtain ⟨ASz21_0, cSz21_0, HGz21, hgz21, HSz21_0⟩ := HI0.out
       have hcz21_0 := cellS91_0 HGz21
       have hcz21_1 := cellS91_1 HGz21
       have hfz21_1 := blk_frozen HGz21 1
       clear HGz21 hgz21
       have p105 : 0 ≤ ((ji14) : Int) := of_decide_eq_true asm_
       have q105 : (ji14) < (s0_0.length : Int) := of_decide_eq_true asm_
       obtain ⟨ad105, e105, hx105_0⟩ := Kd.at_int HSz21_0 (ji14) p105 q105
       cases e105
       replace hx105_0 := pw_cell_below HB.out hx105_0
       replace p105 := eq_true p105
       replace q105 := eq_true q105
       have p106 : 0 ≤ ((ji17) : Int) := of_decide_eq_true asm_
       have q106 : (ji17) < (s0_0.length : Int) := of_decide_eq_true asm_
       obtain ⟨ad106, e106, hx106_0⟩ := Kd.at_int HSz21_0 (ji17) p106 q106
       obtain rfl : ad105 = ad106 := (by injection e106)
       replace hx106_0 := pw_cell_below HB.out hx106_0
       replace p106 := eq_true p106
       replace q106 := eq_true q106
       go_wp2
       repeat (go_quiet (fail); try go_wp2)
       go_ret
       exact ⟨by first | rfl | (simp [errW_none, errW_some] <;> rfl) | (simp only [← hji14, ← hji17]; first | rfl | (simp [errW_none, errW_some] <;> rfl)) | (simp [*, errW_none, errW_some] <;> rfl), ab4_, ab5_, ab3_⟩
      rw [if_neg c19] at H
      exact absurd H (by simp)
     rw [if_neg c18] at H
     exact absurd H (by simp)
    rw [if_neg c16] at H
    exact absurd H (by simp)
   rw [if_neg c15] at H
   exact absurd H (by simp)
theorem spec_l91Op.mono : ∀ a0 a1 k, LeO (spec_l91Op.f k a0 a1) (spec_l91Op.f (k + 1) a0 a1) := by
 intro a0 a1 k
 unfold spec_l91Op.f
 repeat' first
   | (with_reducible exact spec_l6Rd_pick.mono _ _ _ _)
   | (with_reducible exact LeO.refl _)
   | (with_reducible exact LeO.none _)
   | (with_reducible refine LeO.ite ?_ ?_)
   | (with_reducible refine LeO.bind ?_ (fun _ => ?_))
theorem spec_l91Op.calls (k : Nat) (g : Nat) (s0_0 : List Int) (s0_1 : Int) (r1 : Int) (r2 : Int) (w0 w : World) (hI : IsS91 w0 w g s0_0 s0_1) (hB : Below w0.heap.size w0 w) (h : spec_l91Op.f k s0_0 s0_1 = some (r1, r2)) :
  Calls Try.prog 44 #[.pointer (some ⟨g, 0, none⟩)] w fun e w' => e = .returned (.int .i64 r1) ∧ IsS91 w0 w' g s0_0 r2 ∧ Below w0.heap.size w0 w' ∧ KeepBut w w' g none := by
 have HI0 := am hI
 have HK := am (KeepBut.refl w g none)
 have HL := am hB.size
 clear hI
 have HW0 := am hB.size
 have HB := am hB
 clear hB
 have H : ((spec_l6Rd_pick.f k s0_0 s0_1 12).bind fun bt113 => (some (wrap64 (1 + bt113.1), bt113.2))) = some (r1, r2) := h
 clear h
 obtain ⟨⟨t113, t114⟩, A20, H⟩ := bsm H
 (try dsimp only at H)
 have A2 := am A20
 clear A20
 simp only [Option.some.injEq, Prod.mk.injEq] at H
 obtain ⟨rfl, rfl⟩ := H
 go_enter Try.func44, Try.ntmps44
 go_wp2_with (first | ((with_reducible refine gate_callee (f := 41) rfl ?_); refine goesL_ (some 4) rfl rfl Try.func41 (by kernel_rfl) rfl #[.pointer (some ⟨g, 0, none⟩), .int .i64 12] rfl ab1_ ?_; (with_reducible refine (spec_l6Rd_pick.calls k g s0_0 s0_1 12 t113 t114 w0 _ ?side1 ?side2 A2.out).mono ?_); (case side1 => exact ab4_); (case side2 => exact ab5_); rintro e w3 ⟨rfl, hi, hb, hk⟩; refine ⟨_, rfl, ?_⟩; replace HK := am (KeepBut.trans ab3_ hk (.inl rfl)); replace HB := am (hb); replace HI0 := am (hi); (try clear hb); (try clear hb2); (try clear hk); (try clear hi)))
 go_ret
 exact ⟨rr_, ab4_, ab5_, ab3_⟩
theorem spec_l4Both.calls (a0 : Int) (a1_0 : Int) (a1_1 : Int) (P1_2_ : Nat → Prop) (A1_2 : Option Addr) (c1_2 : Nat) (l1_2 : List (S32)) (a2_0 : Int) (a2_1 : Int) (P2_2_ : Nat → Prop) (A2_2 : Option Addr) (c2_2 : Nat) (l2_2 : List (S32)) (r1 : Int) (r2 : Int) (r3 : List (S32)) (w : World) (hs1_2 : Kd.V k32 32 w w.heap.size (fun k_ => P1_2_ k_) (.slice A1_2 l1_2.length c1_2) l1_2) (hs2_2 : Kd.V k32 32 w w.heap.size (fun k_ => P2_2_ k_) (.slice A2_2 l2_2.length c2_2) l2_2) (h : spec_l4Both.f a0 a1_0 a1_1 l1_2 a2_0 a2_1 l2_2 = some (r1, r2, r3)) :
  Calls Try.prog 43 #[.int .i64 a0, .agg #[.int .i64 a1_0, .int .i64 a1_1, .slice A1_2 l1_2.length c1_2], .agg #[.int .i64 a2_0, .int .i64 a2_1, .slice A2_2 l2_2.length c2_2]] w fun e w' => ∃ v2_ : Value, e = .returned (.agg #[.int .i64 r1, .int .i64 r2, v2_]) ∧ Kd.N k32 32 w' w.heap.size (fun k_ => ((P1_2_ k_ ∨ P2_2_ k_) ∨ w.heap.size ≤ k_)) v2_ r3 ∧ Below w.heap.size w w' := by
 have hu32 := Try.underlying32
 have HO1_2 := am (show Kd.V k32 32 w w.heap.size (fun k_ => ((P1_2_ k_ ∨ P2_2_ k_) ∨ w.heap.size ≤ k_)) (.slice A1_2 l1_2.length c1_2) l1_2 from Kd.V_mono hs1_2 (fun k_ hk => .inl (.inl hk)))
 have HO2_2 := am (show Kd.V k32 32 w w.heap.size (fun k_ => ((P1_2_ k_ ∨ P2_2_ k_) ∨ w.heap.size ≤ k_)) (.slice A2_2 l2_2.length c2_2) l2_2 from Kd.V_mono hs2_2 (fun k_ hk => .inl (.inr hk)))
 have HB := am (Below.refl w.heap.size w)
 have H : (some (a0, 0, (([(⟨a1_0, a1_1, l1_2⟩ : S32), (⟨a2_0, a2_1, l2_2⟩ : S32)] : List (S32))))) = some (r1, r2, r3) := h
 clear h
 obtain ⟨y110, hy110⟩ : ∃ y_ : List (S32), y_ = (([(⟨a1_0, a1_1, l1_2⟩ : S32), (⟨a2_0, a2_1, l2_2⟩ : S32)] : List (S32))) := ⟨_, rfl⟩
 replace H : (some (a0, 0, y110)) = some (r1, r2, r3) := by first | (rw [hy110]; with_reducible exact H) | (have H2_ := (Option.bind_some _ _).symm.trans H; rw [hy110]; with_reducible exact H2_) | (have H2_ := (Option.bind_some _ _).symm.trans H; with_reducible exact H2_) | with_reducible exact H | (rw [hy110]; exact H) | exact H
 have Ny110 := am hy110
 clear hy110
 simp only [Option.some.injEq, Prod.mk.injEq] at H
 obtain ⟨rfl, rfl, rfl⟩ := H
 go_enter Try.func43, Try.ntmps43
 go_wp2_with (first | ((with_reducible refine gate_dst (N := 4) rfl ?_); refine box_event rfl (N := 4) rfl (cs := #[.int .i64 a1_0, .int .i64 a1_1, .slice A1_2 l1_2.length c1_2]) (t := 32) rn_ ?_; intro gb107 hg w4 hbox hb; replace HO1_2 := am (Kd.V_below (Kd.V_elderB (by (with_reducible repeat (first | apply Kd.V_alloc | apply Kd.V_drewN | apply Kd.V_drew)); exact HO1_2.out) gb107 (Nat.le_of_eq hg.symm)) hb); replace HO2_2 := am (Kd.V_below (Kd.V_elderB (by (with_reducible repeat (first | apply Kd.V_alloc | apply Kd.V_drewN | apply Kd.V_drew)); exact HO2_2.out) gb107 (Nat.le_of_eq hg.symm)) hb); have BK107 := am (hbox); have GW107 := am ((by rw [hg]; exact (below_size ab2_) : w.heap.size ≤ gb107)); have GE107 := am ((by rw [hg]; exact (below_size ab2_) : w.heap.size ≤ gb107)); replace HB := am (below_step ab2_ hb); clear hb hbox hg) | ((with_reducible refine gate_dst (N := 5) rfl ?_); refine box_event rfl (N := 5) rfl (cs := #[.int .i64 a2_0, .int .i64 a2_1, .slice A2_2 l2_2.length c2_2]) (t := 32) rn_ ?_; intro gb108 hg w5 hbox hb; replace HO1_2 := am (Kd.V_below (Kd.V_elderB (by (with_reducible repeat (first | apply Kd.V_alloc | apply Kd.V_drewN | apply Kd.V_drew)); exact HO1_2.out) gb108 (Nat.le_of_eq hg.symm)) hb); replace HO2_2 := am (Kd.V_below (Kd.V_elderB (by (with_reducible repeat (first | apply Kd.V_alloc | apply Kd.V_drewN | apply Kd.V_drew)); exact HO2_2.out) gb108 (Nat.le_of_eq hg.symm)) hb); have BK108 := am (hbox); have GW108 := am ((by rw [hg]; exact (below_size ab72_) : w.heap.size ≤ gb108)); have GE108 := am ((by rw [hg]; exact (below_size ab72_) : w.heap.size ≤ gb108)); replace HB := am (below_step ab72_ hb); have NB107_108 := am ((by rw [hg]; exact Nat.ne_of_lt (blt_ BK107.out) : gb107 ≠ gb108)); have NB108_107 := am ((by rw [hg]; exact Nat.ne_of_gt (blt_ BK107.out) : gb108 ≠ gb107)); replace BK107 := am (bbl_ BK107.out hb); clear hb hbox hg) | ((with_reducible refine gate_dst (N := 6) rfl ?_); refine box_event rfl (N := 6) rfl (cs := #[.int .i64 0, .int .i64 0, .slice none 0 0]) (t := 32) rn_ ?_; intro gb109 hg w6 hbox hb; replace HO1_2 := am (Kd.V_below (Kd.V_elderB (by (with_reducible repeat (first | apply Kd.V_alloc | apply Kd.V_drewN | apply Kd.V_drew)); exact HO1_2.out) gb109 (Nat.le_of_eq hg.symm)) hb); replace HO2_2 := am (Kd.V_below (Kd.V_elderB (by (with_reducible repeat (first | apply Kd.V_alloc | apply Kd.V_drewN | apply Kd.V_drew)); exact HO2_2.out) gb109 (Nat.le_of_eq hg.symm)) hb); have BK109 := am (hbox); have GW109 := am ((by rw [hg]; exact (below_size ab65_) : w.heap.size ≤ gb109)); have GE109 := am ((by rw [hg]; exact (below_size ab65_) : w.heap.size ≤ gb109)); replace HB := am (below_step ab65_ hb); have NB107_109 := am ((by rw [hg]; exact Nat.ne_of_lt (blt_ BK107.out) : gb107 ≠ gb109)); have NB109_107 := am ((by rw [hg]; exact Nat.ne_of_gt (blt_ BK107.out) : gb109 ≠ gb107)); replace BK107 := am (bbl_ BK107.out hb); have NB108_109 := am ((by rw [hg]; exact Nat.ne_of_lt (blt_ BK108.out) : gb108 ≠ gb109)); have NB109_108 := am ((by rw [hg]; exact Nat.ne_of_gt (blt_ BK108.out) : gb109 ≠ gb108)); replace BK108 := am (bbl_ BK108.out hb); clear hb hbox hg; have hnb7 := NB107_108.out; have hnc7 := NB108_107.out; have hnb8 := NB107_109.out; have hnc8 := NB109_107.out; obtain ⟨hcz9_0, hcz9_1, hcz9_2, hfz9_0, hfz9_1, hfz9_2⟩ := bcf3_ BK107.out; have hnb10 := NB108_109.out; have hnc10 := NB109_108.out; obtain ⟨hcz11_0, hcz11_1, hcz11_2, hfz11_0, hfz11_1, hfz11_2⟩ := bcf3_ BK108.out) | ((with_reducible refine gate_dst (N := 10) rfl ?_); refine Kd.N_lit k32 _ 32 rfl (N' := 10) rfl (xs := ([(⟨a1_0, a1_1, l1_2⟩ : S32), (⟨a2_0, a2_1, l2_2⟩ : S32)] : List (S32))) (inner := [.int .i64 a1_0, .int .i64 a1_1, .slice A1_2 l1_2.length c1_2, .int .i64 a2_0, .int .i64 a2_1, .slice A2_2 l2_2.length c2_2]) (ok := (fun k_ => ((P1_2_ k_ ∨ P2_2_ k_) ∨ w.heap.size ≤ k_) ∧ k_ ≠ gb107 ∧ k_ ≠ gb108 ∧ k_ ≠ gb109)) (okp := (fun k_ => ((P1_2_ k_ ∨ P2_2_ k_) ∨ w.heap.size ≤ k_) ∧ k_ ≠ gb107 ∧ k_ ≠ gb108 ∧ k_ ≠ gb109)) rn_ ?hp (fun _ hk => hk) ((show ∀ k_, w6.heap.size ≤ k_ → (fun k_ => ((P1_2_ k_ ∨ P2_2_ k_) ∨ w.heap.size ≤ k_) ∧ k_ ≠ gb107 ∧ k_ ≠ gb108 ∧ k_ ≠ gb109) k_ from fun k_ hk => ⟨(.inr (Nat.le_trans (below_size ab57_) hk)), frb_ BK107.out k_ hk, frb_ BK108.out k_ hk, frb_ BK109.out k_ hk⟩) _ (Nat.le_refl _)) (Below.refl _ _) (Nat.le_refl _) (by simp) ?_; (case hp => exact (Reps.c3 (show Kd.FK k32 _ _ (⟨a1_0, a1_1, l1_2⟩ : S32) [.int .i64 a1_0, .int .i64 a1_1, .slice A1_2 l1_2.length c1_2] from (k32_mkF _ _ (⟨a1_0, a1_1, l1_2⟩ : S32) (Kd.V_reads' (Kd.V_mono (ok' := (fun k_ => ((P1_2_ k_ ∨ P2_2_ k_) ∨ w.heap.size ≤ k_) ∧ k_ ≠ gb107 ∧ k_ ≠ gb108 ∧ k_ ≠ gb109)) (HO1_2.out) (fun k_ hk => ⟨hk.1.1.1, ⟨hk.1.1.2, ⟨hk.1.2, hk.2⟩⟩⟩))).2.1 (Kd.V_F (Kd.V_mono (ok' := (fun k_ => ((P1_2_ k_ ∨ P2_2_ k_) ∨ w.heap.size ≤ k_) ∧ k_ ≠ gb107 ∧ k_ ≠ gb108 ∧ k_ ≠ gb109)) (HO1_2.out) (fun k_ hk => ⟨hk.1.1.1, ⟨hk.1.1.2, ⟨hk.1.2, hk.2⟩⟩⟩))))) (Reps.c3 (show Kd.FK k32 _ _ (⟨a2_0, a2_1, l2_2⟩ : S32) [.int .i64 a2_0, .int .i64 a2_1, .slice A2_2 l2_2.length c2_2] from (k32_mkF _ _ (⟨a2_0, a2_1, l2_2⟩ : S32) (Kd.V_reads' (Kd.V_mono (ok' := (fun k_ => ((P1_2_ k_ ∨ P2_2_ k_) ∨ w.heap.size ≤ k_) ∧ k_ ≠ gb107 ∧ k_ ≠ gb108 ∧ k_ ≠ gb109)) (HO2_2.out) (fun k_ hk => ⟨hk.1.1.1, ⟨hk.1.1.2, ⟨hk.1.2, hk.2⟩⟩⟩))).2.1 (Kd.V_F (Kd.V_mono (ok' := (fun k_ => ((P1_2_ k_ ∨ P2_2_ k_) ∨ w.heap.size ≤ k_) ∧ k_ ≠ gb107 ∧ k_ ≠ gb108 ∧ k_ ≠ gb109)) (HO2_2.out) (fun k_ hk => ⟨hk.1.1.1, ⟨hk.1.1.2, ⟨hk.1.2, hk.2⟩⟩⟩))))) (Reps.none _ _)))); intro v111 w12 ho13 hb hg_ hnew_; clear hg_ hnew_; (first | rw [← Ny110.out] at ho13 | (simp only [Int.reduceToNat] at ho13; rw [← Ny110.out] at ho13)); replace HO1_2 := am (Kd.V_elder' (by (with_reducible repeat (first | apply Kd.V_alloc | apply Kd.V_drewN | apply Kd.V_drew)); exact HO1_2.out) (Kd.N_base ho13) hb); replace HO2_2 := am (Kd.V_elder' (by (with_reducible repeat (first | apply Kd.V_alloc | apply Kd.V_drewN | apply Kd.V_drew)); exact HO2_2.out) (Kd.N_base ho13) hb); have HO112 := am (Kd.N_lower ho13 (below_size ab57_)); replace BK107 := am (bbl_ BK107.out hb); replace BK108 := am (bbl_ BK108.out hb); replace BK109 := am (bbl_ BK109.out hb); replace HB := am (below_step ab57_ hb); clear hb ho13; obtain ⟨Ao14, co14, eo14⟩ := Kd.N_slice HO112.out; subst eo14; obtain ⟨hcz15_0, hcz15_1, hcz15_2, hfz15_0, hfz15_1, hfz15_2⟩ := bcf3_ BK109.out))
 refine bodyPost_ret (results_cell_row rfl _ _ gb109 32 #[.int .i64 a0, .int .i64 0, .slice Ao14 y110.length co14] (0, 0) _ rfl (blk_put (blk_put (blk_put BK109.out 0 _ rfl) 1 _ rfl) 2 _ rfl) Try.underlying32 rfl (by kernel_rfl)) rfl ?_
 exact ⟨_, ab11_, by (with_reducible repeat (first | apply Kd.N_alloc | apply Kd.N_drewN | apply Kd.N_drew)); exact Kd.N_mono (Kd.N_far (p := ⟨gb109, 2, none⟩) (Kd.N_far (p := ⟨gb109, 1, none⟩) (Kd.N_far (p := ⟨gb109, 0, none⟩) (Kd.N_mono HO112.out (fun k_ hk => (⟨hk, hk.2.2.2⟩ : _ ∧ k_ ≠ gb109))) (fun _ hk => hk.2) (.int .i64 a0)) (fun _ hk => hk.2) (.int .i64 0)) (fun _ hk => hk.2) (.slice Ao14 y110.length co14)) (fun _ hk => hk.1.1), ab57_⟩
theorem spec_l4Leaf.calls (a0 : Int) (a1 : Int) (r1 : Int) (r2 : Int) (r3 : List (S32)) (w : World) (h : spec_l4Leaf.f a0 a1 = some (r1, r2, r3)) :
  Calls Try.prog 45 #[.int .i64 a0, .int .i64 a1] w fun e w' => ∃ v2_ : Value, e = .returned (.agg #[.int .i64 r1, .int .i64 r2, v2_]) ∧ Kd.R k32 32 w' w.heap.size (fun _ => True) v2_ r3 ∧ Below w.heap.size w w' := by
 have hu32 := Try.underlying32
 have HB := am (Below.refl w.heap.size w)
 have H : (some (a0, a1, (([] : List (S32))))) = some (r1, r2, r3) := h
 clear h
 obtain ⟨y116, hy116⟩ : ∃ y_ : List (S32), y_ = (([] : List (S32))) := ⟨_, rfl⟩
 replace H : (some (a0, a1, y116)) = some (r1, r2, r3) := by first | (rw [hy116]; with_reducible exact H) | (have H2_ := (Option.bind_some _ _).symm.trans H; rw [hy116]; with_reducible exact H2_) | (have H2_ := (Option.bind_some _ _).symm.trans H; with_reducible exact H2_) | with_reducible exact H | (rw [hy116]; exact H) | exact H
 have Ny116 := am hy116
 clear hy116
 simp only [Option.some.injEq, Prod.mk.injEq] at H
 obtain ⟨rfl, rfl, rfl⟩ := H
 go_enter Try.func45, Try.ntmps45
 go_wp2_with (first | ((with_reducible refine gate_dst (N := 4) rfl ?_); refine box_event rfl (N := 4) rfl (cs := #[.int .i64 0, .int .i64 0, .slice none 0 0]) (t := 32) rn_ ?_; intro gb115 hg w3 hbox hb; have BK115 := am (hbox); have GW115 := am ((by rw [hg]; exact (below_size ab2_) : w.heap.size ≤ gb115)); have GE115 := am ((by rw [hg]; exact (below_size ab2_) : w.heap.size ≤ gb115)); replace HB := am (below_step ab2_ hb); clear hb hbox hg) | ((with_reducible refine gate_dst (N := 7) rfl ?_); refine Kd.R_lit k32 _ 32 rfl (N := 7) rfl (xs := ([] : List (S32))) (inner := []) (ok := fun _ => True) (okp := fun _ => True) rn_ ?hp (fun _ hk => hk) trivial (Below.refl _ _) (Nat.le_refl _) (by simp) ?_; (case hp => exact (Reps.none _ _)); intro v117 w4 ho5 hb hg_ hnew_; clear hg_ hnew_; (first | rw [← Ny116.out] at ho5 | (simp only [Int.reduceToNat] at ho5; rw [← Ny116.out] at ho5)); have HO118 := am (Kd.R_lower (Kd.R_newB ho5 (g := gb115) (o := .cells #[.int .i64 0, .int .i64 0, .slice none 0 0] 32 (0, 0)) (aG_ BK115.out)) (below_size ab75_)); replace BK115 := am (bbl_ BK115.out hb); replace HB := am (below_step ab75_ hb); clear hb ho5; obtain ⟨Ao6, co6, eo6⟩ := Kd.R_slice HO118.out; subst eo6; obtain ⟨hcz7_0, hcz7_1, hcz7_2, hfz7_0, hfz7_1, hfz7_2⟩ := bcf3_ BK115.out))
 refine bodyPost_ret (results_cell_row rfl _ _ gb115 32 #[.int .i64 a0, .int .i64 a1, .slice Ao6 y116.length co6] (0, 0) _ rfl (blk_put (blk_put (blk_put BK115.out 0 _ rfl) 1 _ rfl) 2 _ rfl) Try.underlying32 rfl (by kernel_rfl)) rfl ?_
 exact ⟨_, ab11_, by (with_reducible repeat (first | apply Kd.R_alloc | apply Kd.R_drewN | apply Kd.R_drew)); exact Kd.R_mono (Kd.R_far (p := ⟨gb115, 2, none⟩) (Kd.R_far (p := ⟨gb115, 1, none⟩) (Kd.R_far (p := ⟨gb115, 0, none⟩) (Kd.R_mono HO118.out (fun k_ hk => (⟨hk, hk.2⟩ : _ ∧ k_ ≠ gb115))) (fun _ hk => hk.2) (.int .i64 a0)) (fun _ hk => hk.2) (.int .i64 a1)) (fun _ hk => hk.2) (.slice Ao6 y116.length co6)) (fun _ hk => trivial), ab75_⟩
theorem spec_l91Leaf.mono : ∀ a0 a1 k, LeO (spec_l91Leaf.f k a0 a1) (spec_l91Leaf.f (k + 1) a0 a1) := by
 intro a0 a1 k
 unfold spec_l91Leaf.f
 repeat' first
   | (with_reducible exact spec_l6Rd_pick.mono _ _ _ _)
   | (with_reducible exact LeO.refl _)
   | (with_reducible exact LeO.none _)
   | (with_reducible refine LeO.ite ?_ ?_)
   | (with_reducible refine LeO.bind ?_ (fun _ => ?_))
theorem spec_l91Leaf.calls (k : Nat) (g : Nat) (s0_0 : List Int) (s0_1 : Int) (r1 : Int) (r2 : Int) (r3 : List (S32)) (r4 : Int) (w0 w : World) (hI : IsS91 w0 w g s0_0 s0_1) (hB : Below w0.heap.size w0 w) (h : spec_l91Leaf.f k s0_0 s0_1 = some (r1, r2, r3, r4)) :
  Calls Try.prog 75 #[.pointer (some ⟨g, 0, none⟩)] w fun e w' => ∃ v2_ : Value, e = .returned (.agg #[.int .i64 r1, .int .i64 r2, v2_]) ∧ Kd.R k32 32 w' w.heap.size (fun _ => True) v2_ r3 ∧ IsS91 w0 w' g s0_0 r4 ∧ Below w0.heap.size w0 w' ∧ KeepBut w w' g none := by
 have hu32 := Try.underlying32
 have HI0 := am hI
 have HK := am (KeepBut.refl w g none)
 have HL := am hB.size
 clear hI
 have HW0 := am hB.size
 have HB := am hB
 clear hB
 have H : ((spec_l6Rd_pick.f k s0_0 s0_1 4).bind fun bt120 => (if bt120.1 = 0 then ((spec_l6Rd_pick.f k s0_0 bt120.2 4).bind fun bt122 => ((spec_l4Leaf.f 0 bt122.1).bind fun bt124 => (some (bt124.1, bt124.2.1, bt124.2.2, bt122.2)))) else (if bt120.1 = 1 then ((some (([5, 31, 32, 100, 2047, 2048, 65536, 99999] : List Int) : List Int)).bind fun y129 => ((spec_l6Rd_pick.f k s0_0 bt120.2 8).bind fun bt132 => (if 0 ≤ bt132.1 then (if bt132.1 < (y129.length : Int) then ((spec_l4Leaf.f 0 (rd y129 bt132.1)).bind fun bt135 => (some (bt135.1, bt135.2.1, bt135.2.2, bt132.2))) else (none)) else (none)))) else ((spec_l6Rd_pick.f k s0_0 bt120.2 4).bind fun bt140 => ((spec_l4Leaf.f 13 bt140.1).bind fun bt142 => (some (bt142.1, bt142.2.1, bt142.2.2, bt140.2))))))) = some (r1, r2, r3, r4) := h
 clear h
 obtain ⟨⟨t120, t121⟩, A20, H⟩ := bsm H
 (try dsimp only at H)
 have A2 := am A20
 clear A20
 have HH_ := am H
 clear H
 go_enter Try.func75, Try.ntmps75
 go_upto_region 2 with (first | ((with_reducible refine gate_dst (N := 2) rfl ?_); refine box_event rfl (N := 2) rfl (cs := #[.int .i64 0, .int .i64 0, .slice none 0 0]) (t := 32) rn_ ?_; intro gb119 hg w6 hbox hb; replace HB := am (below_step ab5_ hb); have BK119 := am (hbox); have GW119 := am ((by rw [hg]; exact (keep_size (w := w) (g := g) (row := none) ab3_) : w.heap.size ≤ gb119)); have GE119 := am ((Nat.le_trans HW0.out (by rw [hg]; exact (keep_size (w := w) (g := g) (row := none) ab3_) : w.heap.size ≤ gb119) : w0.heap.size ≤ gb119)); replace HK := am (KeepBut.trans ab3_ (KeepBut.of_below hb g none) (.inl rfl)); have NB0_119 := am ((by rw [hg]; exact Nat.ne_of_lt (IsS91.lt (show IsS91 w0 _ g s0_0 s0_1 from by repeat (first | (with_reducible first | exact HI0.out | apply IsS91.alloc | apply IsS91.drewN | apply IsS91.drew | apply IsS91.set_1) | exact HI0.out))) : g ≠ gb119)); have NB119_0 := am ((by rw [hg]; exact Nat.ne_of_gt (IsS91.lt (show IsS91 w0 _ g s0_0 s0_1 from by repeat (first | (with_reducible first | exact HI0.out | apply IsS91.alloc | apply IsS91.drewN | apply IsS91.drew | apply IsS91.set_1) | exact HI0.out))) : gb119 ≠ g)); replace HI0 := am (IsS91.below ab4_ hb); clear hb hbox hg) | ((with_reducible refine gate_callee (f := 41) rfl ?_); refine goesL_ (some 4) rfl rfl Try.func41 (by kernel_rfl) rfl #[.pointer (some ⟨g, 0, none⟩), .int .i64 4] rfl ab1_ ?_; (with_reducible refine (spec_l6Rd_pick.calls k g s0_0 s0_1 4 t120 t121 w0 _ ?side1 ?side2 A2.out).mono ?_); (case side1 => exact ab49_); (case side2 => exact ab45_); rintro e w7 ⟨rfl, hi, hb, hk⟩; refine ⟨_, rfl, ?_⟩; replace BK119 := am (KeepBut.blk hk (g' := gb119) (o := .cells #[.int .i64 0, .int .i64 0, .slice none 0 0] 32 (0, 0)) (aG_ BK119.out) NB119_0.out (by simp)); replace HK := am (KeepBut.trans ab25_ hk (.inl rfl)); replace HB := am (hb); replace HI0 := am (hi); (try clear hb); (try clear hb2); (try clear hk); (try clear hi)))
 have H := HH_.out
 clear HH_
 by_cases c3 : t120 = 0
 ·rw [if_pos c3] at H
  have c3b0 : (t120 == 0) = true := beq_iff_eq.mpr c3
  have c3b1 : (t120 != 0) = false := bne_eq_false_iff_eq.mpr c3
  clear c3
  obtain ⟨⟨t122, t123⟩, A40, H⟩ := bsm H
  (try dsimp only at H)
  have A4 := am A40
  clear A40
  obtain ⟨⟨t124, t125, t126⟩, A50, H⟩ := bsm H
  (try dsimp only at H)
  have A5 := am A50
  clear A50
  simp only [Option.some.injEq, Prod.mk.injEq] at H
  obtain ⟨rfl, rfl, rfl, rfl⟩ := H
  go_wp2_with (first | ((with_reducible refine gate_callee (f := 41) rfl ?_); refine goesL_ (some 8) rfl rfl Try.func41 (by kernel_rfl) rfl #[.pointer (some ⟨g, 0, none⟩), .int .i64 4] rfl ab1_ ?_; (with_reducible refine (spec_l6Rd_pick.calls k g s0_0 t121 4 t122 t123 w0 _ ?side1 ?side2 A4.out).mono ?_); (case side1 => exact ab49_); (case side2 => exact ab45_); rintro e w8 ⟨rfl, hi, hb, hk⟩; refine ⟨_, rfl, ?_⟩; replace BK119 := am (KeepBut.blk hk (g' := gb119) (o := .cells #[.int .i64 0, .int .i64 0, .slice none 0 0] 32 (0, 0)) (aG_ BK119.out) NB119_0.out (by simp)); replace HK := am (KeepBut.trans ab25_ hk (.inl rfl)); replace HB := am (hb); replace HI0 := am (hi); (try clear hb); (try clear hb2); (try clear hk); (try clear hi)) | ((with_reducible refine gate_callee (f := 45) rfl ?_); refine goesL_ (some 9) rfl rfl Try.func45 (by kernel_rfl) rfl #[.int .i64 0, .int .i64 t122] rfl ab1_ ?_; (with_reducible refine (spec_l4Leaf.calls 0 t122 t124 t125 t126 _ A5.out).mono ?_); rintro e w9 ⟨v127, rfl, ho0, hb⟩; refine ⟨_, rfl, ?_⟩; have HO128 := am (Kd.R_lower (Kd.R_newB ho0 (g := gb119) (o := .cells #[.int .i64 0, .int .i64 0, .slice none 0 0] 32 (0, 0)) (aG_ BK119.out)) (keep_size (w := w) (g := g) (row := none) ab25_)); replace BK119 := am (bbl_ BK119.out hb); replace HK := am (KeepBut.trans ab25_ (KeepBut.of_below hb g none) (.inl rfl)); replace HB := am (below_step ab45_ hb); replace HI0 := am (IsS91.below ab49_ hb); (try clear hb); (try clear hb2); (try clear hk); (try clear hi); (try clear ho0); have hnb10 := NB119_0.out; have hnc10 := NB0_119.out; obtain ⟨hcz11_0, hcz11_1, hcz11_2, hfz11_0, hfz11_1, hfz11_2⟩ := bcf3_ BK119.out; obtain ⟨Ao12, co12, eo12⟩ := Kd.R_slice HO128.out; subst eo12))
  refine bodyPost_ret (results_cell_row rfl _ _ gb119 32 #[.int .i64 t124, .int .i64 t125, .slice Ao12 t126.length co12] (0, 0) _ rfl (blk_put (blk_put (blk_put BK119.out 0 _ rfl) 1 _ rfl) 2 _ rfl) Try.underlying32 rfl (by kernel_rfl)) rfl ?_
  exact ⟨_, ab11_, by (with_reducible repeat (first | apply Kd.R_alloc | apply Kd.R_drewN | apply Kd.R_drew)); exact Kd.R_mono (Kd.R_far (p := ⟨gb119, 2, none⟩) (Kd.R_far (p := ⟨gb119, 1, none⟩) (Kd.R_far (p := ⟨gb119, 0, none⟩) (Kd.R_mono HO128.out (fun k_ hk => (⟨hk, hk.2⟩ : _ ∧ k_ ≠ gb119))) (fun _ hk => hk.2) (.int .i64 t124)) (fun _ hk => hk.2) (.int .i64 t125)) (fun _ hk => hk.2) (.slice Ao12 t126.length co12)) (fun _ hk => trivial), ab49_, ab45_, ab25_⟩
 rw [if_neg c3] at H
 have c3b0 : (t120 == 0) = false := beq_eq_false_iff_ne.mpr c3
 have c3b1 : (t120 != 0) = true := bne_iff_ne.mpr c3
 by_cases c13 : t120 = 1
 ·rw [if_pos c13] at H
  have c13b0 : (t120 == 1) = true := beq_iff_eq.mpr c13
  have c13b1 : (t120 != 1) = false := bne_eq_false_iff_eq.mpr c13
  clear c13
  obtain ⟨y129, hy129⟩ : ∃ y_ : List Int, y_ = (([5, 31, 32, 100, 2047, 2048, 65536, 99999] : List Int)) := ⟨_, rfl⟩
  replace H : ((spec_l6Rd_pick.f k s0_0 t121 8).bind fun bt132 => (if 0 ≤ bt132.1 then (if bt132.1 < (y129.length : Int) then ((spec_l4Leaf.f 0 (rd y129 bt132.1)).bind fun bt135 => (some (bt135.1, bt135.2.1, bt135.2.2, bt132.2))) else (none)) else (none))) = some (r1, r2, r3, r4) := by first | (rw [hy129]; with_reducible exact H) | (have H2_ := (Option.bind_some _ _).symm.trans H; rw [hy129]; with_reducible exact H2_) | (have H2_ := (Option.bind_some _ _).symm.trans H; with_reducible exact H2_) | with_reducible exact H | (rw [hy129]; exact H) | exact H
  have Ny129 := am hy129
  clear hy129
  obtain ⟨⟨t132, t133⟩, A140, H⟩ := bsm H
  (try dsimp only at H)
  have A14 := am A140
  clear A140
  by_cases c15 : 0 ≤ t132
  ·rw [if_pos c15] at H
   have c15b0 : decide (0 ≤ t132) = true := decide_eq_true c15
   clear c15
   by_cases c16 : t132 < (y129.length : Int)
   ·rw [if_pos c16] at H
    have c16b0 : decide (t132 < (y129.length : Int)) = true := decide_eq_true c16
    clear c16
    obtain ⟨⟨t135, t136, t137⟩, A170, H⟩ := bsm H
    (try dsimp only at H)
    have A17 := am A170
    clear A170
    simp only [Option.some.injEq, Prod.mk.injEq] at H
    obtain ⟨rfl, rfl, rfl, rfl⟩ := H
    go_wp2_with (first | ((with_reducible refine gate_dst (N := 12) rfl ?_); refine Kd.R_lit (Kd.int .i64) _ 3 rfl (N := 12) rfl (xs := ([5, 31, 32, 100, 2047, 2048, 65536, 99999] : List Int)) (inner := [.int .i64 5, .int .i64 31, .int .i64 32, .int .i64 100, .int .i64 2047, .int .i64 2048, .int .i64 65536, .int .i64 99999]) (ok := fun _ => True) (okp := fun _ => True) rn_ ?hp (fun _ hk => hk) trivial (Below.refl _ _) (Nat.le_refl _) (by simp) ?_; (case hp => exact (Reps.one (show Kd.M (Kd.int .i64) _ _ _ 5 [.int .i64 5] from rfl) (Reps.one (show Kd.M (Kd.int .i64) _ _ _ 31 [.int .i64 31] from rfl) (Reps.one (show Kd.M (Kd.int .i64) _ _ _ 32 [.int .i64 32] from rfl) (Reps.one (show Kd.M (Kd.int .i64) _ _ _ 100 [.int .i64 100] from rfl) (Reps.one (show Kd.M (Kd.int .i64) _ _ _ 2047 [.int .i64 2047] from rfl) (Reps.one (show Kd.M (Kd.int .i64) _ _ _ 2048 [.int .i64 2048] from rfl) (Reps.one (show Kd.M (Kd.int .i64) _ _ _ 65536 [.int .i64 65536] from rfl) (Reps.one (show Kd.M (Kd.int .i64) _ _ _ 99999 [.int .i64 99999] from rfl) (Reps.none _ _)))))))))); intro v130 w20 ho21 hb hg_ hnew_; clear hg_ hnew_; (first | rw [← Ny129.out] at ho21 | (simp only [Int.reduceToNat] at ho21; rw [← Ny129.out] at ho21)); have HO131 := am (Kd.R_lower ho21 (keep_size (w := w) (g := g) (row := none) ab25_)); replace BK119 := am (bbl_ BK119.out hb); replace HK := am (KeepBut.trans ab25_ (KeepBut.of_below hb g none) (.inl rfl)); replace HB := am (below_step ab45_ hb); replace HI0 := am (IsS91.below ab49_ hb); clear hb ho21) | ((with_reducible refine gate_callee (f := 41) rfl ?_); refine goesL_ (some 14) rfl rfl Try.func41 (by kernel_rfl) rfl #[.pointer (some ⟨g, 0, none⟩), .int .i64 8] rfl ab1_ ?_; (with_reducible refine (spec_l6Rd_pick.calls k g s0_0 t121 8 t132 t133 w0 _ ?side1 ?side2 A14.out).mono ?_); (case side1 => exact ab49_); (case side2 => exact ab45_); rintro e w22 ⟨rfl, hi, hb, hk⟩; refine ⟨_, rfl, ?_⟩; replace BK119 := am (KeepBut.blk hk (g' := gb119) (o := .cells #[.int .i64 0, .int .i64 0, .slice none 0 0] 32 (0, 0)) (aG_ BK119.out) NB119_0.out (by simp)); replace HO131 := am (Kd.R_mono (Kd.R_keep (IsS91.apart (show IsS91 w0 _ g s0_0 t121 from by repeat (first | (with_reducible first | exact HI0.out | apply IsS91.alloc | apply IsS91.drewN | apply IsS91.drew | apply IsS91.set_1 | refine IsS91.far ?_ NB0_119.out _) | exact HI0.out)) (aR_ HO131.out) (by decide)) hk (fun _ h => h.2)) (fun _ h => h.1)); replace HK := am (KeepBut.trans ab25_ hk (.inl rfl)); replace HB := am (hb); replace HI0 := am (hi); (try clear hb); (try clear hb2); (try clear hk); (try clear hi); obtain ⟨Ao23, co23, eo23⟩ := Kd.R_slice HO131.out; subst eo23; have p134 : 0 ≤ (t132 : Int) := of_decide_eq_true asm_; have q134 : t132 < (y129.length : Int) := of_decide_eq_true asm_; obtain ⟨ad134, e134, hx134_0⟩ := Kd.at_int (Kd.R_reads' HO131.out).2.2 t132 p134 q134; cases e134; replace p134 := eq_true p134; replace q134 := eq_true q134) | ((with_reducible refine gate_callee (f := 45) rfl ?_); refine goesL_ (some 17) rfl rfl Try.func45 (by kernel_rfl) rfl #[.int .i64 0, .int .i64 (rd y129 t132)] rfl ab1_ ?_; (with_reducible refine (spec_l4Leaf.calls 0 (rd y129 t132) t135 t136 t137 _ A17.out).mono ?_); rintro e w24 ⟨v138, rfl, ho0, hb⟩; refine ⟨_, rfl, ?_⟩; replace HO131 := am (Kd.R_below (aR_ HO131.out) hb); have HO139 := am (Kd.R_lower (Kd.R_newB ho0 (g := gb119) (o := .cells #[.int .i64 0, .int .i64 0, .slice none 0 0] 32 (0, 0)) (aG_ BK119.out)) (keep_size (w := w) (g := g) (row := none) ab25_)); replace BK119 := am (bbl_ BK119.out hb); replace HK := am (KeepBut.trans ab25_ (KeepBut.of_below hb g none) (.inl rfl)); replace HB := am (below_step ab45_ hb); replace HI0 := am (IsS91.below ab49_ hb); (try clear hb); (try clear hb2); (try clear hk); (try clear hi); (try clear ho0); have hnb25 := NB119_0.out; have hnc25 := NB0_119.out; obtain ⟨hcz26_0, hcz26_1, hcz26_2, hfz26_0, hfz26_1, hfz26_2⟩ := bcf3_ BK119.out; obtain ⟨Ao27, co27, eo27⟩ := Kd.R_slice HO139.out; subst eo27))
    refine bodyPost_ret (results_cell_row rfl _ _ gb119 32 #[.int .i64 t135, .int .i64 t136, .slice Ao27 t137.length co27] (0, 0) _ rfl (blk_put (blk_put (blk_put BK119.out 0 _ rfl) 1 _ rfl) 2 _ rfl) Try.underlying32 rfl (by kernel_rfl)) rfl ?_
    exact ⟨_, ab11_, by (with_reducible repeat (first | apply Kd.R_alloc | apply Kd.R_drewN | apply Kd.R_drew)); exact Kd.R_mono (Kd.R_far (p := ⟨gb119, 2, none⟩) (Kd.R_far (p := ⟨gb119, 1, none⟩) (Kd.R_far (p := ⟨gb119, 0, none⟩) (Kd.R_mono HO139.out (fun k_ hk => (⟨hk, hk.2⟩ : _ ∧ k_ ≠ gb119))) (fun _ hk => hk.2) (.int .i64 t135)) (fun _ hk => hk.2) (.int .i64 t136)) (fun _ hk => hk.2) (.slice Ao27 t137.length co27)) (fun _ hk => trivial), ab49_, ab45_, ab25_⟩
   rw [if_neg c16] at H
   exact absurd H (by simp)
  rw [if_neg c15] at H
  exact absurd H (by simp)
 rw [if_neg c13] at H
 have c13b0 : (t120 == 1) = false := beq_eq_false_iff_ne.mpr c13
 have c13b1 : (t120 != 1) = true := bne_iff_ne.mpr c13
 obtain ⟨⟨t140, t141⟩, A280, H⟩ := bsm H
 (try dsimp only at H)
 have A28 := am A280
 clear A280
 obtain ⟨⟨t142, t143, t144⟩, A290, H⟩ := bsm H
 (try dsimp only at H)
 have A29 := am A290
 clear A290
 simp only [Option.some.injEq, Prod.mk.injEq] at H
 obtain ⟨rfl, rfl, rfl, rfl⟩ := H
 go_wp2_with (first | ((with_reducible refine gate_callee (f := 41) rfl ?_); refine goesL_ (some 19) rfl rfl Try.func41 (by kernel_rfl) rfl #[.pointer (some ⟨g, 0, none⟩), .int .i64 4] rfl ab1_ ?_; (with_reducible refine (spec_l6Rd_pick.calls k g s0_0 t121 4 t140 t141 w0 _ ?side1 ?side2 A28.out).mono ?_); (case side1 => exact ab49_); (case side2 => exact ab45_); rintro e w32 ⟨rfl, hi, hb, hk⟩; refine ⟨_, rfl, ?_⟩; replace BK119 := am (KeepBut.blk hk (g' := gb119) (o := .cells #[.int .i64 0, .int .i64 0, .slice none 0 0] 32 (0, 0)) (aG_ BK119.out) NB119_0.out (by simp)); replace HK := am (KeepBut.trans ab25_ hk (.inl rfl)); replace HB := am (hb); replace HI0 := am (hi); (try clear hb); (try clear hb2); (try clear hk); (try clear hi)) | ((with_reducible refine gate_callee (f := 45) rfl ?_); refine goesL_ (some 20) rfl rfl Try.func45 (by kernel_rfl) rfl #[.int .i64 13, .int .i64 t140] rfl ab1_ ?_; (with_reducible refine (spec_l4Leaf.calls 13 t140 t142 t143 t144 _ A29.out).mono ?_); rintro e w33 ⟨v145, rfl, ho0, hb⟩; refine ⟨_, rfl, ?_⟩; have HO146 := am (Kd.R_lower (Kd.R_newB ho0 (g := gb119) (o := .cells #[.int .i64 0, .int .i64 0, .slice none 0 0] 32 (0, 0)) (aG_ BK119.out)) (keep_size (w := w) (g := g) (row := none) ab25_)); replace BK119 := am (bbl_ BK119.out hb); replace HK := am (KeepBut.trans ab25_ (KeepBut.of_below hb g none) (.inl rfl)); replace HB := am (below_step ab45_ hb); replace HI0 := am (IsS91.below ab49_ hb); (try clear hb); (try clear hb2); (try clear hk); (try clear hi); (try clear ho0); have hnb34 := NB119_0.out; have hnc34 := NB0_119.out; obtain ⟨hcz35_0, hcz35_1, hcz35_2, hfz35_0, hfz35_1, hfz35_2⟩ := bcf3_ BK119.out; obtain ⟨Ao36, co36, eo36⟩ := Kd.R_slice HO146.out; subst eo36))
 refine bodyPost_ret (results_cell_row rfl _ _ gb119 32 #[.int .i64 t142, .int .i64 t143, .slice Ao36 t144.length co36] (0, 0) _ rfl (blk_put (blk_put (blk_put BK119.out 0 _ rfl) 1 _ rfl) 2 _ rfl) Try.underlying32 rfl (by kernel_rfl)) rfl ?_
 exact ⟨_, ab11_, by (with_reducible repeat (first | apply Kd.R_alloc | apply Kd.R_drewN | apply Kd.R_drew)); exact Kd.R_mono (Kd.R_far (p := ⟨gb119, 2, none⟩) (Kd.R_far (p := ⟨gb119, 1, none⟩) (Kd.R_far (p := ⟨gb119, 0, none⟩) (Kd.R_mono HO146.out (fun k_ hk => (⟨hk, hk.2⟩ : _ ∧ k_ ≠ gb119))) (fun _ hk => hk.2) (.int .i64 t142)) (fun _ hk => hk.2) (.int .i64 t143)) (fun _ hk => hk.2) (.slice Ao36 t144.length co36)) (fun _ hk => trivial), ab49_, ab45_, ab25_⟩
theorem spec_l91Expr.mono_l : ∀ k, (∀ y0 y1 y2, LeO (spec_l91Expr.f k y0 y1 y2) (spec_l91Expr.f (k + 1) y0 y1 y2)) ∧ (∀ y0 y1 y2 y3, LeO (spec_l91Expr.j0 k y0 y1 y2 y3) (spec_l91Expr.j0 (k + 1) y0 y1 y2 y3))
 | 0 => ⟨fun _ _ _ r h => by simp [spec_l91Expr.f] at h, fun _ _ _ _ r h => by simp [spec_l91Expr.j0] at h⟩
 | k + 1 => by
  obtain ⟨ih0, ih1⟩ := spec_l91Expr.mono_l k
  refine ⟨?_, ?_⟩
  ·intro y0 y1 y2
   unfold spec_l91Expr.f
   repeat' first
   | (with_reducible exact ih0 _ _ _)
   | (with_reducible exact ih1 _ _ _ _)
   | (with_reducible exact spec_l6Rd_pick.mono _ _ _ _)
   | (with_reducible exact spec_l91Leaf.mono _ _ _)
   | (with_reducible exact spec_l91Op.mono _ _ _)
   | (with_reducible exact LeO.refl _)
   | (with_reducible exact LeO.none _)
   | (with_reducible refine LeO.ite ?_ ?_)
   | (with_reducible refine LeO.bind ?_ (fun _ => ?_))
  ·intro y0 y1 y2 y3
   unfold spec_l91Expr.j0
   repeat' first
   | (with_reducible exact ih0 _ _ _)
   | (with_reducible exact ih1 _ _ _ _)
   | (with_reducible exact spec_l6Rd_pick.mono _ _ _ _)
   | (with_reducible exact spec_l91Leaf.mono _ _ _)
   | (with_reducible exact spec_l91Op.mono _ _ _)
   | (with_reducible exact LeO.refl _)
   | (with_reducible exact LeO.none _)
   | (with_reducible refine LeO.ite ?_ ?_)
   | (with_reducible refine LeO.bind ?_ (fun _ => ?_))
theorem spec_l91Expr.mono : ∀ a0 a1 a2 k, LeO (spec_l91Expr.f k a0 a1 a2) (spec_l91Expr.f (k + 1) a0 a1 a2) := by
 intro a0 a1 a2 k
 obtain ⟨ih0, ih1⟩ := spec_l91Expr.mono_l k
 exact ih0 a0 a1 a2
def spec_l91Expr.T5 : Bool × List (List Nat × List Nat) := (true, [([], []), ([], []), ([], []), ([], []), ([3], [3]), ([2, 4], [2, 4]), ([0, 1, 5, 5], [0, 1, 5]), ([6, 6, 0, 1, 2, 3, 4, 5, 6], [6])])
def spec_l91Expr.B5 : List Nat := [0, 0, 0, 0, 8, 28, 63, 127]
theorem spec_l91Expr.tab5 : rtab .any (opsOf Try.f76 5) = spec_l91Expr.T5 := by kernel_rfl
theorem spec_l91Expr.bits5 : waitsOk spec_l91Expr.T5.2 spec_l91Expr.B5 = true := by kernel_rfl
theorem spec_l91Expr.calls (k : Nat) : ∀ (g : Nat) (s0_0 : List Int) (s0_1 : Int) (a1 : Int) (r1 : Int) (r2 : Int) (r3 : List (S32)) (r4 : Int) (w0 w : World) (hI : IsS91 w0 w g s0_0 s0_1) (hB : Below w0.heap.size w0 w) (h : spec_l91Expr.f k s0_0 s0_1 a1 = some (r1, r2, r3, r4)),
  Calls Try.prog 76 #[.pointer (some ⟨g, 0, none⟩), .int .i64 a1] w fun e w' => ∃ v2_ : Value, e = .returned (.agg #[.int .i64 r1, .int .i64 r2, v2_]) ∧ Kd.N k32 32 w' w.heap.size (fun k_ => (w.heap.size ≤ k_)) v2_ r3 ∧ IsS91 w0 w' g s0_0 r4 ∧ Below w0.heap.size w0 w' ∧ KeepBut w w' g none := by
 induction k using Nat.strongRecOn with
 | _ k ih =>
 intro g s0_0 s0_1 a1 r1 r2 r3 r4 w0 w hI hB h
 cases k with
 | zero => exact absurd h (by simp [spec_l91Expr.f])
 | succ k =>
 simp only [spec_l91Expr.f] at h
 have hu32 := Try.underlying32
 have HI0 := am hI
 have HK := am (KeepBut.refl w g none)
 have HL := am hB.size
 clear hI
 have HW0 := am hB.size
 have HB := am hB
 clear hB
 have H : (if a1 < 2 then (spec_l91Expr.j0 k a1 true s0_0 s0_1) else ((spec_l6Rd_pick.f k s0_0 s0_1 3).bind fun bt148 => (spec_l91Expr.j0 k a1 (bt148.1 == 0) s0_0 bt148.2))) = some (r1, r2, r3, r4) := h
 clear h
 have HC3 := am H
 clear H
 go_enter Try.func76, Try.ntmps76
 go_upto_region 1 with (first | ((with_reducible refine gate_dst (N := 4) rfl ?_); refine box_event rfl (N := 4) rfl (cs := #[.int .i64 0, .int .i64 0, .slice none 0 0]) (t := 32) rn_ ?_; intro gb147 hg w4 hbox hb; replace HB := am (below_step ab5_ hb); have BK147 := am (hbox); have GW147 := am ((by rw [hg]; exact (keep_size (w := w) (g := g) (row := none) ab3_) : w.heap.size ≤ gb147)); have GE147 := am ((Nat.le_trans HW0.out (by rw [hg]; exact (keep_size (w := w) (g := g) (row := none) ab3_) : w.heap.size ≤ gb147) : w0.heap.size ≤ gb147)); replace HK := am (KeepBut.trans ab3_ (KeepBut.of_below hb g none) (.inl rfl)); have NB0_147 := am ((by rw [hg]; exact Nat.ne_of_lt (IsS91.lt (show IsS91 w0 _ g s0_0 s0_1 from by repeat (first | (with_reducible first | exact HI0.out | apply IsS91.alloc | apply IsS91.drewN | apply IsS91.drew | apply IsS91.set_1) | exact HI0.out))) : g ≠ gb147)); have NB147_0 := am ((by rw [hg]; exact Nat.ne_of_gt (IsS91.lt (show IsS91 w0 _ g s0_0 s0_1 from by repeat (first | (with_reducible first | exact HI0.out | apply IsS91.alloc | apply IsS91.drewN | apply IsS91.drew | apply IsS91.set_1) | exact HI0.out))) : gb147 ≠ g)); replace HI0 := am (IsS91.below ab4_ hb); clear hb hbox hg))
 (try simp only [Act.put, List.setIfInBounds_toArray, List.set_cons_zero, List.set_cons_succ])
 go_cut [13] (fun v13 wc => ∃ (kq : Nat) (x13_2 : Bool) (x1001_2 : Int), v13 = .bool x13_2 ∧ Aside0 (spec_l91Expr.j0 kq a1 x13_2 s0_0 x1001_2 = some (r1, r2, r3, r4)) ∧ Aside0 (kq ≤ k) ∧ Aside0 (wc.heap[gb147]? = some (.cells #[.int .i64 0, .int .i64 0, (.slice none 0 0)] 32 (0, 0))) ∧ Aside0 (IsS91 w0 wc g s0_0 x1001_2) ∧ Aside0 (KeepBut w wc g none) ∧ Aside0 (Below w0.heap.size w0 wc))
 case first =>
  have H := HC3.out
  clear HC3
  by_cases c5 : a1 < 2
  ·rw [if_pos c5] at H
   have c5b0 : decide (a1 < 2) = true := decide_eq_true c5
   clear c5
   (first | rw [c5b0] | (simp only [i64_w, i32_w]; rw [c5b0]) | skip)
   have H' := am H
   clear H
   go_wp2
   go_meet
   case rel => exact ⟨_, (true), (s0_1), sd_, H', ⟨by first | omega | exact Nat.le_refl _⟩, ⟨by (with_reducible repeat (first | refine blk_drewN ?_ _ | refine blk_drew ?_ | refine blk_alloc ?_ _)); exact BK147.out⟩, ⟨ab53_⟩, ⟨ab27_⟩, ⟨ab58_⟩⟩
  rw [if_neg c5] at H
  have c5b0 : decide (a1 < 2) = false := decide_eq_false c5
  clear c5
  (first | rw [c5b0] | (simp only [i64_w, i32_w]; rw [c5b0]) | skip)
  obtain ⟨⟨t148, t149⟩, A60, H⟩ := bsm H
  (try dsimp only at H)
  have A6 := am A60
  clear A60
  have H' := am H
  clear H
  go_wp2_with (first | (go_at_call 41; (with_reducible refine (spec_l6Rd_pick.calls k g s0_0 s0_1 3 t148 t149 w0 _ ?side1 ?side2 A6.out).mono ?_); (case side1 => exact ab53_); (case side2 => exact ab58_); rintro e w7 ⟨rfl, hi, hb, hk⟩; replace BK147 := am (KeepBut.blk hk (g' := gb147) (o := .cells #[.int .i64 0, .int .i64 0, .slice none 0 0] 32 (0, 0)) (aG_ BK147.out) NB147_0.out (by simp)); replace HK := am (KeepBut.trans ab27_ hk (.inl rfl)); replace HB := am (hb); replace HI0 := am (hi); (try clear hb); (try clear hb2); (try clear hk); (try clear hi)))
  go_meet
  case rel => exact ⟨_, ((t148 == 0)), (t149), sd_, H', ⟨by first | omega | exact Nat.le_refl _⟩, ⟨by (with_reducible repeat (first | refine blk_drewN ?_ _ | refine blk_drew ?_ | refine blk_alloc ?_ _)); exact BK147.out⟩, ⟨ab53_⟩, ⟨ab27_⟩, ⟨ab58_⟩⟩
 case rest =>
  clear HC3
  obtain ⟨kq, x13_2, x1001_2, rfl, HA, HJ2, BK147, HI0, HK, HB⟩ := hcut
  cases kq with
  | zero => exact absurd HA.out (by simp [spec_l91Expr.j0])
  | succ kj2 =>
   have H := HA.out
   clear HA
   simp only [spec_l91Expr.j0] at H
   by_cases c8 : x13_2 = true
   ·subst c8
    rw [if_pos rfl] at H
    obtain ⟨⟨t150, t151, t152, t155⟩, A90, H⟩ := bsm H
    (try dsimp only at H)
    have A9 := am A90
    clear A90
    simp only [Option.some.injEq, Prod.mk.injEq] at H
    obtain ⟨rfl, rfl, rfl, rfl⟩ := H
    go_wp2_with (first | ((with_reducible refine gate_callee (f := 75) rfl ?_); refine goesL_ (some 15) rfl rfl Try.func75 (by kernel_rfl) rfl #[.pointer (some ⟨g, 0, none⟩)] rfl ab1_ ?_; (with_reducible refine (spec_l91Leaf.calls kj2 g s0_0 x1001_2 t150 t151 t152 t155 w0 _ ?side1 ?side2 A9.out).mono ?_); (case side1 => exact ab53_); (case side2 => exact ab58_); rintro e w10 ⟨v153, rfl, ho0, hi, hb, hk⟩; refine ⟨_, rfl, ?_⟩; have HO154 := am (Kd.N_lower (Kd.N_mono (ok' := fun k_ => (w.heap.size ≤ k_) ∧ k_ ≠ gb147 ∧ k_ ≠ g) (Kd.R_N (Kd.R_bound ho0)) (fun k_ hk_ => ⟨(Nat.le_trans (keep_size (w := w) (g := g) (row := none) ab27_) hk_.2.1), (frb_ BK147.out k_ hk_.2.1), (IsS91.fresh ab53_ k_ hk_.2.1)⟩)) (keep_size (w := w) (g := g) (row := none) ab27_)); replace BK147 := am (KeepBut.blk hk (g' := gb147) (o := .cells #[.int .i64 0, .int .i64 0, .slice none 0 0] 32 (0, 0)) (aG_ BK147.out) NB147_0.out (by simp)); replace HK := am (KeepBut.trans ab27_ hk (.inl rfl)); replace HB := am (hb); replace HI0 := am (hi); (try clear hb); (try clear hb2); (try clear hk); (try clear hi); (try clear ho0); have hnb11 := NB147_0.out; have hnc11 := NB0_147.out; obtain ⟨hcz12_0, hcz12_1, hcz12_2, hfz12_0, hfz12_1, hfz12_2⟩ := bcf3_ BK147.out; obtain ⟨Ao13, co13, eo13⟩ := Kd.N_slice HO154.out; subst eo13))
    refine bodyPost_ret (results_cell_row rfl _ _ gb147 32 #[.int .i64 t150, .int .i64 t151, .slice Ao13 t152.length co13] (0, 0) _ rfl (blk_put (blk_put (blk_put BK147.out 0 _ rfl) 1 _ rfl) 2 _ rfl) Try.underlying32 rfl (by kernel_rfl)) rfl ?_
    exact ⟨_, ab11_, by (with_reducible repeat (first | apply Kd.N_alloc | apply Kd.N_drewN | apply Kd.N_drew)); exact Kd.N_mono (Kd.N_far (p := ⟨gb147, 2, none⟩) (Kd.N_far (p := ⟨gb147, 1, none⟩) (Kd.N_far (p := ⟨gb147, 0, none⟩) (Kd.N_mono HO154.out (fun k_ hk => (⟨hk, hk.2.1⟩ : _ ∧ k_ ≠ gb147))) (fun _ hk => hk.2) (.int .i64 t150)) (fun _ hk => hk.2) (.int .i64 t151)) (fun _ hk => hk.2) (.slice Ao13 t152.length co13)) (fun _ hk => hk.1.1), ab53_, ab58_, ab27_⟩
   replace c8 := Bool.eq_false_iff.mpr c8
   subst c8
   rw [if_neg (show ¬ (false = true) by decide)] at H
   obtain ⟨⟨t156, t157⟩, A140, H⟩ := bsm H
   (try dsimp only at H)
   have A14 := am A140
   clear A140
   obtain ⟨⟨t158, t159, t160, t163⟩, A150, H⟩ := bsm H
   (try dsimp only at H)
   have A15 := am A150
   clear A150
   obtain ⟨⟨t165, t166, t167, t170⟩, A160, H⟩ := bsm H
   (try dsimp only at H)
   have A16 := am A160
   clear A160
   obtain ⟨⟨t171, t172, t173⟩, A170, H⟩ := bsm H
   (try dsimp only at H)
   have A17 := am A170
   clear A170
   simp only [Option.some.injEq, Prod.mk.injEq] at H
   obtain ⟨rfl, rfl, rfl, rfl⟩ := H
   try go_wp2_with (first | ((with_reducible refine gate_callee (f := 44) rfl ?_); refine goesL_ (some 17) rfl rfl Try.func44 (by kernel_rfl) rfl #[.pointer (some ⟨g, 0, none⟩)] rfl ab1_ ?_; (with_reducible refine (spec_l91Op.calls kj2 g s0_0 x1001_2 t156 t157 w0 _ ?side1 ?side2 A14.out).mono ?_); (case side1 => exact ab53_); (case side2 => exact ab58_); rintro e w18 ⟨rfl, hi, hb, hk⟩; refine ⟨_, rfl, ?_⟩; replace BK147 := am (KeepBut.blk hk (g' := gb147) (o := .cells #[.int .i64 0, .int .i64 0, .slice none 0 0] 32 (0, 0)) (aG_ BK147.out) NB147_0.out (by simp)); replace HK := am (KeepBut.trans ab27_ hk (.inl rfl)); replace HB := am (hb); replace HI0 := am (hi); (try clear hb); (try clear hb2); (try clear hk); (try clear hi)) | ((with_reducible refine gate_callee (f := 76) rfl ?_); refine goesL_ (some 21) rfl rfl Try.func76 (by kernel_rfl) rfl #[.pointer (some ⟨g, 0, none⟩), .int .i64 (wrap64 (a1 - 1))] rfl ab1_ ?_; (with_reducible refine (ih kj2 (by have := HJ2.out; omega) g s0_0 t157 (wrap64 (a1 - 1)) t158 t159 t160 t163 w0 _ ?side1 ?side2 A15.out).mono ?_); (case side1 => exact ab53_); (case side2 => exact ab58_); rintro e w19 ⟨v161, rfl, ho0, hi, hb, hk⟩; refine ⟨_, rfl, ?_⟩; have HO162 := am (Kd.N_lower (Kd.N_mono (ok' := fun k_ => (w.heap.size ≤ k_) ∧ k_ ≠ gb147 ∧ k_ ≠ g) ho0 (fun k_ hk_ => ⟨(Nat.le_trans (keep_size (w := w) (g := g) (row := none) ab27_) hk_), (frb_ BK147.out k_ hk_), (IsS91.fresh ab53_ k_ hk_)⟩)) (keep_size (w := w) (g := g) (row := none) ab27_)); replace BK147 := am (KeepBut.blk hk (g' := gb147) (o := .cells #[.int .i64 0, .int .i64 0, .slice none 0 0] 32 (0, 0)) (aG_ BK147.out) NB147_0.out (by simp)); replace HK := am (KeepBut.trans ab27_ hk (.inl rfl)); replace HB := am (hb); replace HI0 := am (hi); (try clear hb); (try clear hb2); (try clear hk); (try clear hi); (try clear ho0)) | ((with_reducible refine gate_dst (N := 6) rfl ?_); refine box_event rfl (N := 6) rfl (cs := #[.int .i64 0, .int .i64 0, .slice none 0 0]) (t := 32) rn_ ?_; intro gb164 hg w20 hbox hb; replace HO162 := am (Kd.N_below (Kd.N_elderB (aN_ HO162.out) gb164 (Nat.le_of_eq hg.symm)) hb); replace HB := am (below_step ab58_ hb); have BK164 := am (hbox); have GW164 := am ((by rw [hg]; exact (keep_size (w := w) (g := g) (row := none) ab27_) : w.heap.size ≤ gb164)); have GE164 := am ((Nat.le_trans HW0.out (by rw [hg]; exact (keep_size (w := w) (g := g) (row := none) ab27_) : w.heap.size ≤ gb164) : w0.heap.size ≤ gb164)); replace HK := am (KeepBut.trans ab27_ (KeepBut.of_below hb g none) (.inl rfl)); have NB147_164 := am ((by rw [hg]; exact Nat.ne_of_lt (blt_ BK147.out) : gb147 ≠ gb164)); have NB164_147 := am ((by rw [hg]; exact Nat.ne_of_gt (blt_ BK147.out) : gb164 ≠ gb147)); replace BK147 := am (bbl_ BK147.out hb); have NB0_164 := am ((by rw [hg]; exact Nat.ne_of_lt (IsS91.lt (show IsS91 w0 _ g s0_0 t163 from by repeat (first | (with_reducible first | exact HI0.out | apply IsS91.alloc | apply IsS91.drewN | apply IsS91.drew | apply IsS91.set_1 | refine IsS91.far ?_ NB0_147.out _) | exact HI0.out))) : g ≠ gb164)); have NB164_0 := am ((by rw [hg]; exact Nat.ne_of_gt (IsS91.lt (show IsS91 w0 _ g s0_0 t163 from by repeat (first | (with_reducible first | exact HI0.out | apply IsS91.alloc | apply IsS91.drewN | apply IsS91.drew | apply IsS91.set_1 | refine IsS91.far ?_ NB0_147.out _) | exact HI0.out))) : gb164 ≠ g)); replace HI0 := am (IsS91.below ab53_ hb); clear hb hbox hg; have hnb21 := NB164_147.out; have hnc21 := NB147_164.out; have hnb22 := NB164_0.out; have hnc22 := NB0_164.out; obtain ⟨hcz23_0, hcz23_1, hcz23_2, hfz23_0, hfz23_1, hfz23_2⟩ := bcf3_ BK164.out; obtain ⟨Ao24, co24, eo24⟩ := Kd.N_slice HO162.out; subst eo24))
   have n0_ : Aside0 (Kd.N k32 32 (((w20.setCell ⟨gb164, 0, none⟩ (.int .i64 t158)).setCell ⟨gb164, 1, none⟩ (.int .i64 t159)).setCell ⟨gb164, 2, none⟩ (.slice Ao24 t160.length co24)) w.heap.size (fun k_ => (w.heap.size ≤ k_) ∧ k_ ≠ gb147 ∧ k_ ≠ g ∧ k_ ≠ gb164) (.slice Ao24 t160.length co24) t160) := ⟨by (with_reducible repeat (first | apply Kd.N_alloc | apply Kd.N_drewN | apply Kd.N_drew)); exact Kd.N_mono (Kd.N_far (p := ⟨gb164, 2, none⟩) (Kd.N_far (p := ⟨gb164, 1, none⟩) (Kd.N_far (p := ⟨gb164, 0, none⟩) (Kd.N_mono HO162.out (fun k_ hk => (⟨hk, hk.2⟩ : _ ∧ k_ ≠ gb164))) (fun _ hk => hk.2) (.int .i64 t158)) (fun _ hk => hk.2) (.int .i64 t159)) (fun _ hk => hk.2) (.slice Ao24 t160.length co24)) (fun _ hk => ⟨hk.1.1.1, ⟨hk.1.1.2.1, ⟨hk.1.1.2.2, hk.1.2⟩⟩⟩)⟩
   have n1_ : Aside0 ((((w20.setCell ⟨gb164, 0, none⟩ (.int .i64 t158)).setCell ⟨gb164, 1, none⟩ (.int .i64 t159)).setCell ⟨gb164, 2, none⟩ (.slice Ao24 t160.length co24)).heap[gb147]? = some (.cells #[.int .i64 0, .int .i64 0, .slice none 0 0] 32 (0, 0))) := ⟨(blk_far (blk_far (blk_far BK147.out NB147_164.out _) NB147_164.out _) NB147_164.out _)⟩
   have n2_ : Aside0 ((((w20.setCell ⟨gb164, 0, none⟩ (.int .i64 t158)).setCell ⟨gb164, 1, none⟩ (.int .i64 t159)).setCell ⟨gb164, 2, none⟩ (.slice Ao24 t160.length co24)).heap[gb164]? = some (.cells #[.int .i64 t158, .int .i64 t159, .slice Ao24 t160.length co24] 32 (0, 0))) := ⟨(blk_put (blk_put (blk_put BK164.out 0 _ rfl) 1 _ rfl) 2 _ rfl)⟩
   have n3_ : Aside0 (IsS91 w0 (((w20.setCell ⟨gb164, 0, none⟩ (.int .i64 t158)).setCell ⟨gb164, 1, none⟩ (.int .i64 t159)).setCell ⟨gb164, 2, none⟩ (.slice Ao24 t160.length co24)) g s0_0 t163) := ⟨ab54_⟩
   have n4_ : Aside0 (KeepBut w (((w20.setCell ⟨gb164, 0, none⟩ (.int .i64 t158)).setCell ⟨gb164, 1, none⟩ (.int .i64 t159)).setCell ⟨gb164, 2, none⟩ (.slice Ao24 t160.length co24)) g none) := ⟨ab39_⟩
   have n5_ : Aside0 (Below w0.heap.size w0 (((w20.setCell ⟨gb164, 0, none⟩ (.int .i64 t158)).setCell ⟨gb164, 1, none⟩ (.int .i64 t159)).setCell ⟨gb164, 2, none⟩ (.slice Ao24 t160.length co24))) := ⟨ab61_⟩
   (try clear HO162)
   (try clear BK147)
   (try clear BK164)
   (try clear HI0)
   (try clear HK)
   (try clear HB)
   generalize (((w20.setCell ⟨gb164, 0, none⟩ (.int .i64 t158)).setCell ⟨gb164, 1, none⟩ (.int .i64 t159)).setCell ⟨gb164, 2, none⟩ (.slice Ao24 t160.length co24)) = w25 at n0_ n1_ n2_ n3_ n4_ n5_ ⊢
   have HO162 := n0_
   have BK147 := n1_
   have BK164 := n2_
   have HI0 := n3_
   have HK := n4_
   have HB := n5_
   clear n0_ n1_ n2_ n3_ n4_ n5_
   replace HO162 := am (Kd.N_drew HO162.out)
   replace BK147 := am (blk_drew BK147.out)
   replace BK164 := am (blk_drew BK164.out)
   replace HI0 := am (IsS91.drew HI0.out)
   replace HK := am (keep_drew HK.out)
   replace HB := am (below_drew1 HB.out)
   refine start_ (n := 8) (S := fun w' => w'.cell? ⟨gb164, 0, none⟩ = some (.int .i64 t158) ∧ w'.cell? ⟨gb164, 1, none⟩ = some (.int .i64 t159) ∧ w'.cell? ⟨gb164, 2, none⟩ = some (.slice Ao24 t160.length co24)) (ds := []) #[false, false, false, false, false, false, false, false] (by kernel_rfl) rfl rfl ⟨(blk_cell BK164.out 0).trans rfl, (blk_cell BK164.out 1).trans rfl, (blk_cell BK164.out 2).trans rfl⟩ (fun hHeld => ?_); refine with_tabW spec_l91Expr.tab5 spec_l91Expr.bits5 (fun HT_ HW_ => ?_)
   generalize w25.drew = w26 at HO162 BK147 BK164 HI0 HK HB hHeld ⊢
   refine pure_ (i := 0) (N := some 22) (v := ?_) (a' := ?_) #[true, false, false, false, false, false, false, false] rfl rfl (any_of HT_.out (by kernel_rfl)) (fun _ _ _ h => h) (Or.inl ⟨by rfl, ?_⟩) ?_ ?_
   rotate_left
   ·intro w'
    go_simp
    with_reducible rfl
   rotate_left
   ·simp only [Act.put, List.setIfInBounds_toArray, List.set_cons_zero, List.set_cons_succ, i64_w, i32_w]
    rfl
   refine pure_ (i := 2) (N := some 24) (v := ?_) (a' := ?_) #[true, false, true, false, false, false, false, false] rfl rfl (any_of HT_.out (by kernel_rfl)) (fun _ _ _ h => h) (Or.inl ⟨by rfl, ?_⟩) ?_ ?_
   rotate_left
   ·intro w'
    go_simp
    with_reducible rfl
   rotate_left
   ·simp only [Act.put, List.setIfInBounds_toArray, List.set_cons_zero, List.set_cons_succ, i64_w, i32_w]
    rfl
   refine pure_ (i := 3) (N := some 25) (v := ?_) (a' := ?_) #[true, false, true, true, false, false, false, false] rfl rfl (any_of HT_.out (by kernel_rfl)) (fun _ _ _ h => h) (Or.inl ⟨by rfl, ?_⟩) ?_ ?_
   rotate_left
   ·intro w'
    go_simp
    with_reducible rfl
   rotate_left
   ·simp only [Act.put, List.setIfInBounds_toArray, List.set_cons_zero, List.set_cons_succ, i64_w, i32_w]
    rfl
   refine pure_ (i := 4) (N := some 26) (v := ?_) (a' := ?_) #[true, false, true, true, true, false, false, false] rfl rfl (any_of HT_.out (by kernel_rfl)) (fun _ _ _ h => h) (Or.inl ⟨by rfl, ?_⟩) ?_ ?_
   rotate_left
   ·intro w'
    go_simp
    with_reducible rfl
   rotate_left
   ·simp only [Act.put, List.setIfInBounds_toArray, List.set_cons_zero, List.set_cons_succ, i64_w, i32_w]
    rfl
   refine take_ (i := 1) (N := some 23) (v := ?_) (a' := ?_) #[true, true, true, true, true, false, false, false] rfl rfl (take_ofW HT_.out HW_.out (by kernel_rfl)) (fun _ _ _ h => h) (Or.inl ⟨by rfl, ?_⟩) hHeld ?_ ?_
   rotate_left
   ·rintro w' ⟨s0, s1, s2⟩
    go_simp
    with_reducible rfl
   rotate_left
   ·simp only [Act.put, List.setIfInBounds_toArray, List.set_cons_zero, List.set_cons_succ, i64_w, i32_w]
    rfl
   refine one_ (i := 5) (N := some 27) #[true, true, true, true, true, true, false, false] rfl rfl (one_of HT_.out (by kernel_rfl)) (by decide) (fun K hK => ?_)
   refine goes_ Try.func76 (by kernel_rfl) rfl #[.pointer (some ⟨g, 0, none⟩), .int .i64 (wrap64 (a1 - 1))] (by rfl) rfl rfl ab1_ ?_
   with_reducible refine (ih kj2 (by have := HJ2.out; omega) g s0_0 t163 (wrap64 (a1 - 1)) t165 t166 t167 t170 w0 _ ?side1 ?side2 A16.out).mono ?_
   (case side1 => exact ab54_)
   (case side2 => exact ab61_)
   rintro e w27 ⟨v168, rfl, ho0, hi, hb, hk⟩
   refine ⟨_, rfl, ?_⟩
   have HO169 := am (Kd.N_lower (Kd.N_mono (ok' := fun k_ => (w.heap.size ≤ k_) ∧ some k_ ≠ (.slice Ao24 t160.length co24 : Value).ownBlock ∧ k_ ≠ gb147 ∧ k_ ≠ gb164 ∧ k_ ≠ g) ho0 (fun k_ hk_ => ⟨(Nat.le_trans (keep_size (w := w) (g := g) (row := none) ab39_) hk_), (Kd.fresh' (Kd.N_lt (aN_ HO162.out)) k_ hk_), (frb_ BK147.out k_ hk_), (frb_ BK164.out k_ hk_), (IsS91.fresh ab54_ k_ hk_)⟩)) (keep_size (w := w) (g := g) (row := none) ab39_))
   replace BK147 := am (KeepBut.blk hk (g' := gb147) (o := .cells #[.int .i64 0, .int .i64 0, .slice none 0 0] 32 (0, 0)) (aG_ BK147.out) NB147_0.out (by simp))
   replace HO162 := am (Kd.N_mono (Kd.N_told (Kd.N_oldK (Kd.N_mono (ok := fun k_ => (((w.heap.size ≤ k_)) ∧ (k_ ≠ gb147 ∧ (k_ ≠ g ∧ k_ ≠ gb164)))) (aN_ HO162.out) (fun k_ hk_ => (⟨hk_, hk_.2.2.1⟩ : _ ∧ k_ ≠ g))) hk) (by first | exact Kd.N_base ho0 | exact Kd.N_base (Kd.R_N ho0))) (fun _ h_ => h_.1))
   replace BK164 := am (KeepBut.blk hk (g' := gb164) (o := .cells #[.int .i64 t158, .int .i64 t159, .slice Ao24 t160.length co24] 32 (0, 0)) (aG_ BK164.out) NB164_0.out (by simp))
   replace HK := am (KeepBut.trans ab39_ hk (.inl rfl))
   replace HB := am (hb)
   replace HI0 := am (hi)
   (try clear hb)
   (try clear hb2)
   (try clear hk)
   (try clear hi)
   (try clear ho0)
   obtain ⟨Ao28, co28, eo28⟩ := Kd.N_slice HO169.out
   (first | subst eo28 | (injection eo28 with f1_ f2_ f3_; have f4_ := f1_.symm; have f5_ := f3_.symm; clear f1_ f2_ f3_; subst f4_; subst f5_))
   refine hK.out _ _ ⟨(blk_cell BK164.out 0).trans rfl, (blk_cell BK164.out 1).trans rfl, (blk_cell BK164.out 2).trans rfl⟩ (fun hHeld => ?_)
   clear hK K
   refine norm_ (a' := ?_) ?_ ?_
   rotate_left
   ·show Act.put _ (some 27) _ = _
    simp only [Act.put, List.setIfInBounds_toArray, List.set_cons_zero, List.set_cons_succ, i64_w, i32_w]
    rfl
   refine one_ (i := 6) (N := some 28) #[true, true, true, true, true, true, true, false] rfl rfl (one_of HT_.out (by kernel_rfl)) (by decide) (fun K hK => ?_)
   refine goes_ Try.func43 (by kernel_rfl) rfl #[.int .i64 t156, .agg #[.int .i64 t158, .int .i64 t159, .slice Ao24 t160.length co24], .agg #[.int .i64 t165, .int .i64 t166, .slice Ao28 t167.length co28]] (by rfl) rfl rfl ab1_ ?_
   with_reducible refine (spec_l4Both.calls t156 t158 t159 (fun k_ => (((w.heap.size ≤ k_) ∧ (k_ ≠ gb147 ∧ (k_ ≠ g ∧ k_ ≠ gb164))) ∧ some k_ ≠ (.slice Ao28 t167.length co28 : Value).ownBlock)) _ _ t160 t165 t166 (fun k_ => ((w.heap.size ≤ k_) ∧ (some k_ ≠ (.slice Ao24 t160.length co24 : Value).ownBlock ∧ (k_ ≠ gb147 ∧ (k_ ≠ gb164 ∧ k_ ≠ g))))) _ _ t167 t171 t172 t173 _ ?side1 ?side2 A17.out).mono ?_
   (case side1 => exact Kd.N_V (HO162.out))
   (case side2 => exact Kd.N_V (HO169.out))
   rintro e w29 ⟨v174, rfl, ho0, hb⟩
   refine ⟨_, rfl, ?_⟩
   replace HO162 := am (Kd.N_elder' (aN_ HO162.out) (by first | exact Kd.N_base ho0 | exact Kd.N_base (Kd.R_N ho0)) hb)
   replace HO169 := am (Kd.N_elder' (aN_ HO169.out) (by first | exact Kd.N_base ho0 | exact Kd.N_base (Kd.R_N ho0)) hb)
   have HO175 := am (Kd.N_lower (Kd.N_mono (ok' := fun k_ => (w.heap.size ≤ k_) ∧ k_ ≠ gb147 ∧ k_ ≠ gb164 ∧ k_ ≠ g) ho0 (fun k_ hk_ => ⟨Or.elim hk_ (fun hs_ => Or.elim hs_ (fun hs_ => hs_.1.1) (fun hs_ => hs_.1)) (fun hn_ => (Nat.le_trans (keep_size (w := w) (g := g) (row := none) ab39_) hn_)), Or.elim hk_ (fun hs_ => Or.elim hs_ (fun hs_ => hs_.1.2.1) (fun hs_ => hs_.2.2.1)) (fun hn_ => (frb_ BK147.out k_ hn_)), Or.elim hk_ (fun hs_ => Or.elim hs_ (fun hs_ => hs_.1.2.2.2) (fun hs_ => hs_.2.2.2.1)) (fun hn_ => (frb_ BK164.out k_ hn_)), Or.elim hk_ (fun hs_ => Or.elim hs_ (fun hs_ => hs_.1.2.2.1) (fun hs_ => hs_.2.2.2.2)) (fun hn_ => (IsS91.fresh ab54_ k_ hn_))⟩)) (keep_size (w := w) (g := g) (row := none) ab39_))
   replace BK147 := am (bbl_ BK147.out hb)
   replace BK164 := am (bbl_ BK164.out hb)
   replace HK := am (KeepBut.trans ab39_ (KeepBut.of_below hb g none) (.inl rfl))
   replace HB := am (below_step ab61_ hb)
   replace HI0 := am (IsS91.below ab54_ hb)
   (try clear hb)
   (try clear hb2)
   (try clear hk)
   (try clear hi)
   (try clear ho0)
   obtain ⟨Ao32, co32, eo32⟩ := Kd.N_slice HO175.out
   (first | subst eo32 | (injection eo32 with f1_ f2_ f3_; have f4_ := f1_.symm; have f5_ := f3_.symm; clear f1_ f2_ f3_; subst f4_; subst f5_))
   refine hK.out _ _ ⟨(blk_cell BK164.out 0).trans rfl, (blk_cell BK164.out 1).trans rfl, (blk_cell BK164.out 2).trans rfl⟩ (fun hHeld => ?_)
   clear hK K
   refine norm_ (a' := ?_) ?_ ?_
   rotate_left
   ·show Act.put _ (some 28) _ = _
    simp only [Act.put, List.setIfInBounds_toArray, List.set_cons_zero, List.set_cons_succ, i64_w, i32_w]
    rfl
   refine one_ (i := 7) (N := none) #[true, true, true, true, true, true, true, true] rfl rfl (one_of HT_.out (by kernel_rfl)) (by decide) (fun K hK => ?_)
   have hs30 : w29.cell? ⟨gb147, 0, none⟩ = some (.int .i64 0) := (blk_cell BK147.out 0).trans rfl
   have hfs30 := blk_frozen BK147.out 0
   have hns30_1 := NB164_147.out
   have hms30_1 := NB147_164.out
   have hs31 : w29.cell? ⟨gb147, 1, none⟩ = some (.int .i64 0) := (blk_cell BK147.out 1).trans rfl
   have hfs31 := blk_frozen BK147.out 1
   have hns31_1 := NB164_147.out
   have hms31_1 := NB147_164.out
   have hs33 : w29.cell? ⟨gb147, 2, none⟩ = some (.slice none 0 0) := (blk_cell BK147.out 2).trans rfl
   have hfs33 := blk_frozen BK147.out 2
   have hns33_1 := NB164_147.out
   have hms33_1 := NB147_164.out
   refine skip_ (w1 := ?_) (by rfl) rfl ?_ ?_
   rotate_left
   ·go_simp
    rfl
   refine hK.out _ _ ⟨((cell_far (p := ⟨gb147, _, none⟩) NB164_147.out _).trans (((cell_far (p := ⟨gb147, _, none⟩) NB164_147.out _).trans (((cell_far (p := ⟨gb147, _, none⟩) NB164_147.out _).trans (hHeld.1)))))), ((cell_far (p := ⟨gb147, _, none⟩) NB164_147.out _).trans (((cell_far (p := ⟨gb147, _, none⟩) NB164_147.out _).trans (((cell_far (p := ⟨gb147, _, none⟩) NB164_147.out _).trans (hHeld.2.1)))))), ((cell_far (p := ⟨gb147, _, none⟩) NB164_147.out _).trans (((cell_far (p := ⟨gb147, _, none⟩) NB164_147.out _).trans (((cell_far (p := ⟨gb147, _, none⟩) NB164_147.out _).trans (hHeld.2.2))))))⟩ (fun hHeld => ?_)
   clear hK K
   refine done_ (done_of HT_.out (by kernel_rfl)) ?_
   try go_wp2
   refine bodyPost_ret (results_cell_row rfl _ _ gb147 32 #[.int .i64 t171, .int .i64 t172, .slice Ao32 t173.length co32] (0, 0) _ rfl (blk_put (blk_put (blk_put BK147.out 0 _ rfl) 1 _ rfl) 2 _ rfl) Try.underlying32 rfl (by kernel_rfl)) rfl ?_
   exact ⟨_, ab11_, by (with_reducible repeat (first | apply Kd.N_alloc | apply Kd.N_drewN | apply Kd.N_drew)); exact Kd.N_mono (Kd.N_far (p := ⟨gb147, 2, none⟩) (Kd.N_far (p := ⟨gb147, 1, none⟩) (Kd.N_far (p := ⟨gb147, 0, none⟩) (Kd.N_mono HO175.out (fun k_ hk => (⟨hk, hk.2.1⟩ : _ ∧ k_ ≠ gb147))) (fun _ hk => hk.2) (.int .i64 t171)) (fun _ hk => hk.2) (.int .i64 t172)) (fun _ hk => hk.2) (.slice Ao32 t173.length co32)) (fun _ hk => hk.1.1), ab54_, ab61_, ab39_⟩
theorem spec_l92Set.mono : ∀ a0 a1 k, LeO (spec_l92Set.f k a0 a1) (spec_l92Set.f (k + 1) a0 a1) := by
 intro a0 a1 k
 unfold spec_l92Set.f
 repeat' first
   | (with_reducible exact spec_l6Rd_pick.mono _ _ _ _)
   | (with_reducible exact spec_l91Expr.mono _ _ _ _)
   | (with_reducible exact LeO.refl _)
   | (with_reducible exact LeO.none _)
   | (with_reducible refine LeO.ite ?_ ?_)
   | (with_reducible refine LeO.bind ?_ (fun _ => ?_))
theorem spec_l92Set.calls (k : Nat) (g : Nat) (s0_0 : List Int) (s0_1 : Int) (r1 : Int) (r2 : Int) (r3 : Int) (r4 : Int) (r5 : Int) (r6 : List (S32)) (r7 : List (S35)) (r8 : List (S35)) (r9 : Int) (w0 w : World) (hI : IsS91 w0 w g s0_0 s0_1) (hB : Below w0.heap.size w0 w) (h : spec_l92Set.f k s0_0 s0_1 = some (r1, r2, r3, r4, r5, r6, r7, r8, r9)) :
  Calls Try.prog 103 #[.pointer (some ⟨g, 0, none⟩)] w fun e w' => ∃ v5_ v6_ v7_ : Value, e = .returned (.agg #[.int .i64 r1, .int .i64 r2, .int .i64 r3, .int .i64 r4, .int .i64 r5, v5_, v6_, v7_]) ∧ Kd.N k32 32 w' w.heap.size (fun k_ => (w.heap.size ≤ k_) ∧ some k_ ≠ (v6_ : Value).ownBlock ∧ some k_ ≠ (v7_ : Value).ownBlock) v5_ r6 ∧ Kd.N k35 35 w' w.heap.size (fun k_ => (w.heap.size ≤ k_) ∧ some k_ ≠ (v5_ : Value).ownBlock ∧ some k_ ≠ (v7_ : Value).ownBlock) v6_ r7 ∧ Kd.N k35 35 w' w.heap.size (fun k_ => (w.heap.size ≤ k_) ∧ some k_ ≠ (v5_ : Value).ownBlock ∧ some k_ ≠ (v6_ : Value).ownBlock) v7_ r8 ∧ IsS91 w0 w' g s0_0 r9 ∧ Below w0.heap.size w0 w' ∧ KeepBut w w' g none := by
 have hu35 := Try.underlying35
 have HI0 := am hI
 have HK := am (KeepBut.refl w g none)
 have HL := am hB.size
 clear hI
 have HW0 := am hB.size
 have HB := am hB
 clear hB
 have H : ((spec_l6Rd_pick.f k s0_0 s0_1 3).bind fun bt177 => ((spec_l6Rd_pick.f k s0_0 bt177.2 3).bind fun bt179 => ((spec_l91Expr.f k s0_0 bt179.2 (wrap64 (1 + bt179.1))).bind fun bt181 => (some (1, bt177.1, 0, bt181.1, bt181.2.1, bt181.2.2.1, ([] : List (S35)), ([] : List (S35)), bt181.2.2.2))))) = some (r1, r2, r3, r4, r5, r6, r7, r8, r9) := h
 clear h
 obtain ⟨⟨t177, t178⟩, A20, H⟩ := bsm H
 (try dsimp only at H)
 have A2 := am A20
 clear A20
 obtain ⟨⟨t179, t180⟩, A30, H⟩ := bsm H
 (try dsimp only at H)
 have A3 := am A30
 clear A30
 obtain ⟨⟨t181, t182, t183, t186⟩, A40, H⟩ := bsm H
 (try dsimp only at H)
 have A4 := am A40
 clear A40
 simp only [Option.some.injEq, Prod.mk.injEq] at H
 obtain ⟨rfl, rfl, rfl, rfl, rfl, rfl, rfl, rfl, rfl⟩ := H
 go_enter Try.func103, Try.ntmps103
 go_wp2_with (first | ((with_reducible refine gate_dst (N := 2) rfl ?_); refine box_event rfl (N := 2) rfl (cs := #[.int .i64 0, .int .i64 0, .int .i64 0, .int .i64 0, .int .i64 0, .slice none 0 0, .slice none 0 0, .slice none 0 0]) (t := 35) rn_ ?_; intro gb176 hg w5 hbox hb; replace HB := am (below_step ab5_ hb); have BK176 := am (hbox); have GW176 := am ((by rw [hg]; exact (keep_size (w := w) (g := g) (row := none) ab3_) : w.heap.size ≤ gb176)); have GE176 := am ((Nat.le_trans HW0.out (by rw [hg]; exact (keep_size (w := w) (g := g) (row := none) ab3_) : w.heap.size ≤ gb176) : w0.heap.size ≤ gb176)); replace HK := am (KeepBut.trans ab3_ (KeepBut.of_below hb g none) (.inl rfl)); have NB0_176 := am ((by rw [hg]; exact Nat.ne_of_lt (IsS91.lt (show IsS91 w0 _ g s0_0 s0_1 from by repeat (first | (with_reducible first | exact HI0.out | apply IsS91.alloc | apply IsS91.drewN | apply IsS91.drew | apply IsS91.set_1) | exact HI0.out))) : g ≠ gb176)); have NB176_0 := am ((by rw [hg]; exact Nat.ne_of_gt (IsS91.lt (show IsS91 w0 _ g s0_0 s0_1 from by repeat (first | (with_reducible first | exact HI0.out | apply IsS91.alloc | apply IsS91.drewN | apply IsS91.drew | apply IsS91.set_1) | exact HI0.out))) : gb176 ≠ g)); replace HI0 := am (IsS91.below ab4_ hb); clear hb hbox hg) | ((with_reducible refine gate_callee (f := 41) rfl ?_); refine goesL_ (some 5) rfl rfl Try.func41 (by kernel_rfl) rfl #[.pointer (some ⟨g, 0, none⟩), .int .i64 3] rfl ab1_ ?_; (with_reducible refine (spec_l6Rd_pick.calls k g s0_0 s0_1 3 t177 t178 w0 _ ?side1 ?side2 A2.out).mono ?_); (case side1 => exact ab81_); (case side2 => repeat (first | (with_reducible first | exact HB.out | apply below_alloc | apply pw_below_drewN | apply below_drew1 | refine below_set ?_ (IsS91.ge HI0.out) | refine below_set ?_ GE176.out) | exact HB.out)); rintro e w6 ⟨rfl, hi, hb, hk⟩; refine ⟨_, rfl, ?_⟩; replace BK176 := am (KeepBut.blk hk (g' := gb176) (o := .cells #[.int .i64 0, .int .i64 0, .int .i64 0, .int .i64 0, .int .i64 0, .slice none 0 0, .slice none 0 0, .slice none 0 0] 35 (0, 0)) (aG_ BK176.out) NB176_0.out (by simp)); replace HK := am (KeepBut.trans ab55_ hk (.inl rfl)); replace HB := am (hb); replace HI0 := am (hi); (try clear hb); (try clear hb2); (try clear hk); (try clear hi)) | ((with_reducible refine gate_callee (f := 41) rfl ?_); refine goesL_ (some 9) rfl rfl Try.func41 (by kernel_rfl) rfl #[.pointer (some ⟨g, 0, none⟩), .int .i64 3] rfl ab1_ ?_; (with_reducible refine (spec_l6Rd_pick.calls k g s0_0 t178 3 t179 t180 w0 _ ?side1 ?side2 A3.out).mono ?_); (case side1 => exact ab81_); (case side2 => repeat (first | (with_reducible first | exact HB.out | apply below_alloc | apply pw_below_drewN | apply below_drew1 | refine below_set ?_ (IsS91.ge HI0.out) | refine below_set ?_ GE176.out) | exact HB.out)); rintro e w7 ⟨rfl, hi, hb, hk⟩; refine ⟨_, rfl, ?_⟩; replace BK176 := am (KeepBut.blk hk (g' := gb176) (o := .cells #[.int .i64 0, .int .i64 0, .int .i64 0, .int .i64 0, .int .i64 0, .slice none 0 0, .slice none 0 0, .slice none 0 0] 35 (0, 0)) (aG_ BK176.out) NB176_0.out (by simp)); replace HK := am (KeepBut.trans ab55_ hk (.inl rfl)); replace HB := am (hb); replace HI0 := am (hi); (try clear hb); (try clear hb2); (try clear hk); (try clear hi)) | ((with_reducible refine gate_callee (f := 76) rfl ?_); refine goesL_ (some 11) rfl rfl Try.func76 (by kernel_rfl) rfl #[.pointer (some ⟨g, 0, none⟩), .int .i64 (wrap64 (1 + t179))] rfl ab1_ ?_; (with_reducible refine (spec_l91Expr.calls k g s0_0 t180 (wrap64 (1 + t179)) t181 t182 t183 t186 w0 _ ?side1 ?side2 A4.out).mono ?_); (case side1 => exact ab81_); (case side2 => repeat (first | (with_reducible first | exact HB.out | apply below_alloc | apply pw_below_drewN | apply below_drew1 | refine below_set ?_ (IsS91.ge HI0.out) | refine below_set ?_ GE176.out) | exact HB.out)); rintro e w8 ⟨v184, rfl, ho0, hi, hb, hk⟩; refine ⟨_, rfl, ?_⟩; have HO185 := am (Kd.N_lower (Kd.N_mono (ok' := fun k_ => (w.heap.size ≤ k_) ∧ k_ ≠ gb176 ∧ k_ ≠ g) ho0 (fun k_ hk_ => ⟨(Nat.le_trans (keep_size (w := w) (g := g) (row := none) ab55_) hk_), (frb_ BK176.out k_ hk_), (IsS91.fresh ab81_ k_ hk_)⟩)) (keep_size (w := w) (g := g) (row := none) ab55_)); replace BK176 := am (KeepBut.blk hk (g' := gb176) (o := .cells #[.int .i64 0, .int .i64 0, .int .i64 0, .int .i64 0, .int .i64 0, .slice none 0 0, .slice none 0 0, .slice none 0 0] 35 (0, 0)) (aG_ BK176.out) NB176_0.out (by simp)); replace HK := am (KeepBut.trans ab55_ hk (.inl rfl)); replace HB := am (hb); replace HI0 := am (hi); (try clear hb); (try clear hb2); (try clear hk); (try clear hi); (try clear ho0); obtain ⟨Ao9, co9, eo9⟩ := Kd.N_slice HO185.out; subst eo9; have hnb10 := NB176_0.out; have hnc10 := NB0_176.out; obtain ⟨hcz11_0, hcz11_1, hcz11_2, hcz11_3, hcz11_4, hcz11_5, hcz11_6, hcz11_7, hfz11_0, hfz11_1, hfz11_2, hfz11_3, hfz11_4, hfz11_5, hfz11_6, hfz11_7⟩ := bcf8_ BK176.out))
 refine bodyPost_ret (results_cell_row rfl _ _ gb176 35 #[.int .i64 1, .int .i64 t177, .int .i64 0, .int .i64 t181, .int .i64 t182, .slice Ao9 t183.length co9, .slice none 0 0, .slice none 0 0] (0, 0) _ rfl (blk_put (blk_put (blk_put (blk_put (blk_put (blk_put (blk_put (blk_put BK176.out 0 _ rfl) 1 _ rfl) 2 _ rfl) 3 _ rfl) 4 _ rfl) 5 _ rfl) 6 _ rfl) 7 _ rfl) Try.underlying35 rfl (by kernel_rfl)) rfl ?_
 exact ⟨_, _, _, ab11_, by (with_reducible repeat (first | apply Kd.N_alloc | apply Kd.N_drewN | apply Kd.N_drew)); exact Kd.N_mono (Kd.N_far (p := ⟨gb176, 7, none⟩) (Kd.N_far (p := ⟨gb176, 6, none⟩) (Kd.N_far (p := ⟨gb176, 5, none⟩) (Kd.N_far (p := ⟨gb176, 4, none⟩) (Kd.N_far (p := ⟨gb176, 3, none⟩) (Kd.N_far (p := ⟨gb176, 2, none⟩) (Kd.N_far (p := ⟨gb176, 1, none⟩) (Kd.N_far (p := ⟨gb176, 0, none⟩) (Kd.N_mono HO185.out (fun k_ hk => (⟨hk, hk.2.1⟩ : _ ∧ k_ ≠ gb176))) (fun _ hk => hk.2) (.int .i64 1)) (fun _ hk => hk.2) (.int .i64 t177)) (fun _ hk => hk.2) (.int .i64 0)) (fun _ hk => hk.2) (.int .i64 t181)) (fun _ hk => hk.2) (.int .i64 t182)) (fun _ hk => hk.2) (.slice Ao9 t183.length co9)) (fun _ hk => hk.2) (.slice none 0 0)) (fun _ hk => hk.2) (.slice none 0 0)) (fun _ hk => ⟨hk.1.1, ⟨(by simp [Value.ownBlock]), (by simp [Value.ownBlock])⟩⟩), by first | exact Kd.R_nil _ _ _ _ _ | exact Kd.N_nil _ _ _ _ _ | exact Kd.V_nil _ _ _ _ _ | exact Kd.Q_nil _ _ _ _ _ | exact Kd.S_nil _ _ _ _ _, by first | exact Kd.R_nil _ _ _ _ _ | exact Kd.N_nil _ _ _ _ _ | exact Kd.V_nil _ _ _ _ _ | exact Kd.Q_nil _ _ _ _ _ | exact Kd.S_nil _ _ _ _ _, ab81_, by repeat (first | (with_reducible first | exact HB.out | apply below_alloc | apply pw_below_drewN | apply below_drew1 | refine below_set ?_ (IsS91.ge HI0.out) | refine below_set ?_ GE176.out) | exact HB.out), ab55_⟩
theorem spec_l92Talk.mono : ∀ a0 a1 a2 k, LeO (spec_l92Talk.f k a0 a1 a2) (spec_l92Talk.f (k + 1) a0 a1 a2) := by
 intro a0 a1 a2 k
 unfold spec_l92Talk.f
 repeat' first
   | (with_reducible exact spec_l6Rd_pick.mono _ _ _ _)
   | (with_reducible exact spec_l91Expr.mono _ _ _ _)
   | (with_reducible exact spec_l92Set.mono _ _ _)
   | (with_reducible exact LeO.refl _)
   | (with_reducible exact LeO.none _)
   | (with_reducible refine LeO.ite ?_ ?_)
   | (with_reducible refine LeO.bind ?_ (fun _ => ?_))
theorem spec_l92Talk.calls (k : Nat) (g : Nat) (s0_0 : List Int) (s0_1 : Int) (a1 : Int) (r1 : Int) (r2 : Int) (r3 : Int) (r4 : Int) (r5 : Int) (r6 : List (S32)) (r7 : List (S35)) (r8 : List (S35)) (r9 : Int) (w0 w : World) (hI : IsS91 w0 w g s0_0 s0_1) (hB : Below w0.heap.size w0 w) (h : spec_l92Talk.f k s0_0 s0_1 a1 = some (r1, r2, r3, r4, r5, r6, r7, r8, r9)) :
  Calls Try.prog 105 #[.pointer (some ⟨g, 0, none⟩), .int .i64 a1] w fun e w' => ∃ v5_ v6_ v7_ : Value, e = .returned (.agg #[.int .i64 r1, .int .i64 r2, .int .i64 r3, .int .i64 r4, .int .i64 r5, v5_, v6_, v7_]) ∧ Kd.N k32 32 w' w.heap.size (fun k_ => (w.heap.size ≤ k_) ∧ some k_ ≠ (v6_ : Value).ownBlock ∧ some k_ ≠ (v7_ : Value).ownBlock) v5_ r6 ∧ Kd.N k35 35 w' w.heap.size (fun k_ => (w.heap.size ≤ k_) ∧ some k_ ≠ (v5_ : Value).ownBlock ∧ some k_ ≠ (v7_ : Value).ownBlock) v6_ r7 ∧ Kd.N k35 35 w' w.heap.size (fun k_ => (w.heap.size ≤ k_) ∧ some k_ ≠ (v5_ : Value).ownBlock ∧ some k_ ≠ (v6_ : Value).ownBlock) v7_ r8 ∧ IsS91 w0 w' g s0_0 r9 ∧ Below w0.heap.size w0 w' ∧ KeepBut w w' g none := by
 have hu35 := Try.underlying35
 have HI0 := am hI
 have HK := am (KeepBut.refl w g none)
 have HL := am hB.size
 clear hI
 have HW0 := am hB.size
 have HB := am hB
 clear hB
 have H : (if a1 < 1 then ((spec_l92Set.f k s0_0 s0_1).bind fun bt188 => (some (bt188.1, bt188.2.1, bt188.2.2.1, bt188.2.2.2.1, bt188.2.2.2.2.1, bt188.2.2.2.2.2.1, bt188.2.2.2.2.2.2.1, bt188.2.2.2.2.2.2.2.1, bt188.2.2.2.2.2.2.2.2))) else ((spec_l6Rd_pick.f k s0_0 s0_1 a1).bind fun bt203 => ((spec_l6Rd_pick.f k s0_0 bt203.2 2).bind fun bt205 => (if bt205.1 = 0 then ((spec_l6Rd_pick.f k s0_0 bt205.2 3).bind fun bt207 => ((spec_l91Expr.f k s0_0 bt207.2 (wrap64 (1 + bt207.1))).bind fun bt209 => (some (4, 0, bt203.1, bt209.1, bt209.2.1, bt209.2.2.1, ([] : List (S35)), ([] : List (S35)), bt209.2.2.2)))) else ((spec_l6Rd_pick.f k s0_0 bt205.2 3).bind fun bt215 => (some (5, bt215.1, bt203.1, 0, 0, ([] : List (S32)), ([] : List (S35)), ([] : List (S35)), bt215.2))))))) = some (r1, r2, r3, r4, r5, r6, r7, r8, r9) := h
 clear h
 have HH_ := am H
 clear H
 go_enter Try.func105, Try.ntmps105
 go_upto_region 1 with (first | ((with_reducible refine gate_dst (N := 4) rfl ?_); refine box_event rfl (N := 4) rfl (cs := #[.int .i64 0, .int .i64 0, .int .i64 0, .int .i64 0, .int .i64 0, .slice none 0 0, .slice none 0 0, .slice none 0 0]) (t := 35) rn_ ?_; intro gb187 hg w5 hbox hb; replace HB := am (below_step ab5_ hb); have BK187 := am (hbox); have GW187 := am ((by rw [hg]; exact (keep_size (w := w) (g := g) (row := none) ab3_) : w.heap.size ≤ gb187)); have GE187 := am ((Nat.le_trans HW0.out (by rw [hg]; exact (keep_size (w := w) (g := g) (row := none) ab3_) : w.heap.size ≤ gb187) : w0.heap.size ≤ gb187)); replace HK := am (KeepBut.trans ab3_ (KeepBut.of_below hb g none) (.inl rfl)); have NB0_187 := am ((by rw [hg]; exact Nat.ne_of_lt (IsS91.lt (show IsS91 w0 _ g s0_0 s0_1 from by repeat (first | (with_reducible first | exact HI0.out | apply IsS91.alloc | apply IsS91.drewN | apply IsS91.drew | apply IsS91.set_1) | exact HI0.out))) : g ≠ gb187)); have NB187_0 := am ((by rw [hg]; exact Nat.ne_of_gt (IsS91.lt (show IsS91 w0 _ g s0_0 s0_1 from by repeat (first | (with_reducible first | exact HI0.out | apply IsS91.alloc | apply IsS91.drewN | apply IsS91.drew | apply IsS91.set_1) | exact HI0.out))) : gb187 ≠ g)); replace HI0 := am (IsS91.below ab4_ hb); clear hb hbox hg))
 have H := HH_.out
 clear HH_
 by_cases c3 : a1 < 1
 ·rw [if_pos c3] at H
  have c3b0 : decide (a1 < 1) = true := decide_eq_true c3
  clear c3
  obtain ⟨⟨t188, t189, t190, t191, t192, t193, t196, t199, t202⟩, A40, H⟩ := bsm H
  (try dsimp only at H)
  have A4 := am A40
  clear A40
  simp only [Option.some.injEq, Prod.mk.injEq] at H
  obtain ⟨rfl, rfl, rfl, rfl, rfl, rfl, rfl, rfl, rfl⟩ := H
  go_wp2_with (first | ((with_reducible refine gate_callee (f := 103) rfl ?_); refine goesL_ (some 9) rfl rfl Try.func103 (by kernel_rfl) rfl #[.pointer (some ⟨g, 0, none⟩)] rfl ab1_ ?_; (with_reducible refine (spec_l92Set.calls k g s0_0 s0_1 t188 t189 t190 t191 t192 t193 t196 t199 t202 w0 _ ?side1 ?side2 A4.out).mono ?_); (case side1 => exact ab48_); (case side2 => exact ab64_); rintro e w6 ⟨v194, v197, v200, rfl, ho0, ho1, ho2, hi, hb, hk⟩; refine ⟨_, rfl, ?_⟩; have HO195 := am (Kd.N_lower (Kd.N_mono (ok' := fun k_ => (w.heap.size ≤ k_) ∧ some k_ ≠ (v197 : Value).ownBlock ∧ some k_ ≠ (v200 : Value).ownBlock ∧ k_ ≠ gb187 ∧ k_ ≠ g) ho0 (fun k_ hk_ => ⟨(Nat.le_trans (keep_size (w := w) (g := g) (row := none) ab21_) hk_.1), hk_.2.1, hk_.2.2, (frb_ BK187.out k_ hk_.1), (IsS91.fresh ab48_ k_ hk_.1)⟩)) (keep_size (w := w) (g := g) (row := none) ab21_)); have HO198 := am (Kd.N_lower (Kd.N_mono (ok' := fun k_ => (w.heap.size ≤ k_) ∧ some k_ ≠ (v194 : Value).ownBlock ∧ some k_ ≠ (v200 : Value).ownBlock ∧ k_ ≠ gb187 ∧ k_ ≠ g) ho1 (fun k_ hk_ => ⟨(Nat.le_trans (keep_size (w := w) (g := g) (row := none) ab21_) hk_.1), hk_.2.1, hk_.2.2, (frb_ BK187.out k_ hk_.1), (IsS91.fresh ab48_ k_ hk_.1)⟩)) (keep_size (w := w) (g := g) (row := none) ab21_)); have HO201 := am (Kd.N_lower (Kd.N_mono (ok' := fun k_ => (w.heap.size ≤ k_) ∧ some k_ ≠ (v194 : Value).ownBlock ∧ some k_ ≠ (v197 : Value).ownBlock ∧ k_ ≠ gb187 ∧ k_ ≠ g) ho2 (fun k_ hk_ => ⟨(Nat.le_trans (keep_size (w := w) (g := g) (row := none) ab21_) hk_.1), hk_.2.1, hk_.2.2, (frb_ BK187.out k_ hk_.1), (IsS91.fresh ab48_ k_ hk_.1)⟩)) (keep_size (w := w) (g := g) (row := none) ab21_)); replace BK187 := am (KeepBut.blk hk (g' := gb187) (o := .cells #[.int .i64 0, .int .i64 0, .int .i64 0, .int .i64 0, .int .i64 0, .slice none 0 0, .slice none 0 0, .slice none 0 0] 35 (0, 0)) (aG_ BK187.out) NB187_0.out (by simp)); replace HK := am (KeepBut.trans ab21_ hk (.inl rfl)); replace HB := am (hb); replace HI0 := am (hi); (try clear hb); (try clear hb2); (try clear hk); (try clear hi); (try clear ho0); (try clear ho1); (try clear ho2); have hnb7 := NB187_0.out; have hnc7 := NB0_187.out; obtain ⟨hcz8_0, hcz8_1, hcz8_2, hcz8_3, hcz8_4, hcz8_5, hcz8_6, hcz8_7, hfz8_0, hfz8_1, hfz8_2, hfz8_3, hfz8_4, hfz8_5, hfz8_6, hfz8_7⟩ := bcf8_ BK187.out; obtain ⟨Ao9, co9, eo9⟩ := Kd.N_slice HO195.out; subst eo9; obtain ⟨Ao10, co10, eo10⟩ := Kd.N_slice HO198.out; subst eo10; obtain ⟨Ao11, co11, eo11⟩ := Kd.N_slice HO201.out; subst eo11))
  refine bodyPost_ret (results_cell_row rfl _ _ gb187 35 #[.int .i64 t188, .int .i64 t189, .int .i64 t190, .int .i64 t191, .int .i64 t192, .slice Ao9 t193.length co9, .slice Ao10 t196.length co10, .slice Ao11 t199.length co11] (0, 0) _ rfl (blk_put (blk_put (blk_put (blk_put (blk_put (blk_put (blk_put (blk_put BK187.out 0 _ rfl) 1 _ rfl) 2 _ rfl) 3 _ rfl) 4 _ rfl) 5 _ rfl) 6 _ rfl) 7 _ rfl) Try.underlying35 rfl (by kernel_rfl)) rfl ?_
  exact ⟨_, _, _, ab11_, by (with_reducible repeat (first | apply Kd.N_alloc | apply Kd.N_drewN | apply Kd.N_drew)); exact Kd.N_mono (Kd.N_far (p := ⟨gb187, 7, none⟩) (Kd.N_far (p := ⟨gb187, 6, none⟩) (Kd.N_far (p := ⟨gb187, 5, none⟩) (Kd.N_far (p := ⟨gb187, 4, none⟩) (Kd.N_far (p := ⟨gb187, 3, none⟩) (Kd.N_far (p := ⟨gb187, 2, none⟩) (Kd.N_far (p := ⟨gb187, 1, none⟩) (Kd.N_far (p := ⟨gb187, 0, none⟩) (Kd.N_mono HO195.out (fun k_ hk => (⟨hk, hk.2.2.2.1⟩ : _ ∧ k_ ≠ gb187))) (fun _ hk => hk.2) (.int .i64 t188)) (fun _ hk => hk.2) (.int .i64 t189)) (fun _ hk => hk.2) (.int .i64 t190)) (fun _ hk => hk.2) (.int .i64 t191)) (fun _ hk => hk.2) (.int .i64 t192)) (fun _ hk => hk.2) (.slice Ao9 t193.length co9)) (fun _ hk => hk.2) (.slice Ao10 t196.length co10)) (fun _ hk => hk.2) (.slice Ao11 t199.length co11)) (fun _ hk => ⟨hk.1.1, ⟨hk.1.2.1, hk.1.2.2.1⟩⟩), by (with_reducible repeat (first | apply Kd.N_alloc | apply Kd.N_drewN | apply Kd.N_drew)); exact Kd.N_mono (Kd.N_far (p := ⟨gb187, 7, none⟩) (Kd.N_far (p := ⟨gb187, 6, none⟩) (Kd.N_far (p := ⟨gb187, 5, none⟩) (Kd.N_far (p := ⟨gb187, 4, none⟩) (Kd.N_far (p := ⟨gb187, 3, none⟩) (Kd.N_far (p := ⟨gb187, 2, none⟩) (Kd.N_far (p := ⟨gb187, 1, none⟩) (Kd.N_far (p := ⟨gb187, 0, none⟩) (Kd.N_mono HO198.out (fun k_ hk => (⟨hk, hk.2.2.2.1⟩ : _ ∧ k_ ≠ gb187))) (fun _ hk => hk.2) (.int .i64 t188)) (fun _ hk => hk.2) (.int .i64 t189)) (fun _ hk => hk.2) (.int .i64 t190)) (fun _ hk => hk.2) (.int .i64 t191)) (fun _ hk => hk.2) (.int .i64 t192)) (fun _ hk => hk.2) (.slice Ao9 t193.length co9)) (fun _ hk => hk.2) (.slice Ao10 t196.length co10)) (fun _ hk => hk.2) (.slice Ao11 t199.length co11)) (fun _ hk => ⟨hk.1.1, ⟨hk.1.2.1, hk.1.2.2.1⟩⟩), by (with_reducible repeat (first | apply Kd.N_alloc | apply Kd.N_drewN | apply Kd.N_drew)); exact Kd.N_mono (Kd.N_far (p := ⟨gb187, 7, none⟩) (Kd.N_far (p := ⟨gb187, 6, none⟩) (Kd.N_far (p := ⟨gb187, 5, none⟩) (Kd.N_far (p := ⟨gb187, 4, none⟩) (Kd.N_far (p := ⟨gb187, 3, none⟩) (Kd.N_far (p := ⟨gb187, 2, none⟩) (Kd.N_far (p := ⟨gb187, 1, none⟩) (Kd.N_far (p := ⟨gb187, 0, none⟩) (Kd.N_mono HO201.out (fun k_ hk => (⟨hk, hk.2.2.2.1⟩ : _ ∧ k_ ≠ gb187))) (fun _ hk => hk.2) (.int .i64 t188)) (fun _ hk => hk.2) (.int .i64 t189)) (fun _ hk => hk.2) (.int .i64 t190)) (fun _ hk => hk.2) (.int .i64 t191)) (fun _ hk => hk.2) (.int .i64 t192)) (fun _ hk => hk.2) (.slice Ao9 t193.length co9)) (fun _ hk => hk.2) (.slice Ao10 t196.length co10)) (fun _ hk => hk.2) (.slice Ao11 t199.length co11)) (fun _ hk => ⟨hk.1.1, ⟨hk.1.2.1, hk.1.2.2.1⟩⟩), ab48_, ab64_, ab21_⟩
 rw [if_neg c3] at H
 have c3b0 : decide (a1 < 1) = false := decide_eq_false c3
 clear c3
 obtain ⟨⟨t203, t204⟩, A120, H⟩ := bsm H
 (try dsimp only at H)
 have A12 := am A120
 clear A120
 obtain ⟨⟨t205, t206⟩, A130, H⟩ := bsm H
 (try dsimp only at H)
 have A13 := am A130
 clear A130
 by_cases c14 : t205 = 0
 ·rw [if_pos c14] at H
  have c14b0 : (t205 == 0) = true := beq_iff_eq.mpr c14
  have c14b1 : (t205 != 0) = false := bne_eq_false_iff_eq.mpr c14
  clear c14
  obtain ⟨⟨t207, t208⟩, A150, H⟩ := bsm H
  (try dsimp only at H)
  have A15 := am A150
  clear A150
  obtain ⟨⟨t209, t210, t211, t214⟩, A160, H⟩ := bsm H
  (try dsimp only at H)
  have A16 := am A160
  clear A160
  simp only [Option.some.injEq, Prod.mk.injEq] at H
  obtain ⟨rfl, rfl, rfl, rfl, rfl, rfl, rfl, rfl, rfl⟩ := H
  go_wp2_with (first | ((with_reducible refine gate_callee (f := 41) rfl ?_); refine goesL_ (some 12) rfl rfl Try.func41 (by kernel_rfl) rfl #[.pointer (some ⟨g, 0, none⟩), .int .i64 a1] rfl ab1_ ?_; (with_reducible refine (spec_l6Rd_pick.calls k g s0_0 s0_1 a1 t203 t204 w0 _ ?side1 ?side2 A12.out).mono ?_); (case side1 => exact ab48_); (case side2 => exact ab64_); rintro e w18 ⟨rfl, hi, hb, hk⟩; refine ⟨_, rfl, ?_⟩; replace BK187 := am (KeepBut.blk hk (g' := gb187) (o := .cells #[.int .i64 0, .int .i64 0, .int .i64 0, .int .i64 0, .int .i64 0, .slice none 0 0, .slice none 0 0, .slice none 0 0] 35 (0, 0)) (aG_ BK187.out) NB187_0.out (by simp)); replace HK := am (KeepBut.trans ab21_ hk (.inl rfl)); replace HB := am (hb); replace HI0 := am (hi); (try clear hb); (try clear hb2); (try clear hk); (try clear hi)) | ((with_reducible refine gate_callee (f := 41) rfl ?_); refine goesL_ (some 14) rfl rfl Try.func41 (by kernel_rfl) rfl #[.pointer (some ⟨g, 0, none⟩), .int .i64 2] rfl ab1_ ?_; (with_reducible refine (spec_l6Rd_pick.calls k g s0_0 t204 2 t205 t206 w0 _ ?side1 ?side2 A13.out).mono ?_); (case side1 => exact ab48_); (case side2 => exact ab64_); rintro e w19 ⟨rfl, hi, hb, hk⟩; refine ⟨_, rfl, ?_⟩; replace BK187 := am (KeepBut.blk hk (g' := gb187) (o := .cells #[.int .i64 0, .int .i64 0, .int .i64 0, .int .i64 0, .int .i64 0, .slice none 0 0, .slice none 0 0, .slice none 0 0] 35 (0, 0)) (aG_ BK187.out) NB187_0.out (by simp)); replace HK := am (KeepBut.trans ab21_ hk (.inl rfl)); replace HB := am (hb); replace HI0 := am (hi); (try clear hb); (try clear hb2); (try clear hk); (try clear hi)) | ((with_reducible refine gate_callee (f := 41) rfl ?_); refine goesL_ (some 19) rfl rfl Try.func41 (by kernel_rfl) rfl #[.pointer (some ⟨g, 0, none⟩), .int .i64 3] rfl ab1_ ?_; (with_reducible refine (spec_l6Rd_pick.calls k g s0_0 t206 3 t207 t208 w0 _ ?side1 ?side2 A15.out).mono ?_); (case side1 => exact ab48_); (case side2 => exact ab64_); rintro e w20 ⟨rfl, hi, hb, hk⟩; refine ⟨_, rfl, ?_⟩; replace BK187 := am (KeepBut.blk hk (g' := gb187) (o := .cells #[.int .i64 0, .int .i64 0, .int .i64 0, .int .i64 0, .int .i64 0, .slice none 0 0, .slice none 0 0, .slice none 0 0] 35 (0, 0)) (aG_ BK187.out) NB187_0.out (by simp)); replace HK := am (KeepBut.trans ab21_ hk (.inl rfl)); replace HB := am (hb); replace HI0 := am (hi); (try clear hb); (try clear hb2); (try clear hk); (try clear hi)) | ((with_reducible refine gate_callee (f := 76) rfl ?_); refine goesL_ (some 21) rfl rfl Try.func76 (by kernel_rfl) rfl #[.pointer (some ⟨g, 0, none⟩), .int .i64 (wrap64 (1 + t207))] rfl ab1_ ?_; (with_reducible refine (spec_l91Expr.calls k g s0_0 t208 (wrap64 (1 + t207)) t209 t210 t211 t214 w0 _ ?side1 ?side2 A16.out).mono ?_); (case side1 => exact ab48_); (case side2 => exact ab64_); rintro e w21 ⟨v212, rfl, ho0, hi, hb, hk⟩; refine ⟨_, rfl, ?_⟩; have HO213 := am (Kd.N_lower (Kd.N_mono (ok' := fun k_ => (w.heap.size ≤ k_) ∧ k_ ≠ gb187 ∧ k_ ≠ g) ho0 (fun k_ hk_ => ⟨(Nat.le_trans (keep_size (w := w) (g := g) (row := none) ab21_) hk_), (frb_ BK187.out k_ hk_), (IsS91.fresh ab48_ k_ hk_)⟩)) (keep_size (w := w) (g := g) (row := none) ab21_)); replace BK187 := am (KeepBut.blk hk (g' := gb187) (o := .cells #[.int .i64 0, .int .i64 0, .int .i64 0, .int .i64 0, .int .i64 0, .slice none 0 0, .slice none 0 0, .slice none 0 0] 35 (0, 0)) (aG_ BK187.out) NB187_0.out (by simp)); replace HK := am (KeepBut.trans ab21_ hk (.inl rfl)); replace HB := am (hb); replace HI0 := am (hi); (try clear hb); (try clear hb2); (try clear hk); (try clear hi); (try clear ho0); obtain ⟨Ao22, co22, eo22⟩ := Kd.N_slice HO213.out; subst eo22; have hnb23 := NB187_0.out; have hnc23 := NB0_187.out; obtain ⟨hcz24_0, hcz24_1, hcz24_2, hcz24_3, hcz24_4, hcz24_5, hcz24_6, hcz24_7, hfz24_0, hfz24_1, hfz24_2, hfz24_3, hfz24_4, hfz24_5, hfz24_6, hfz24_7⟩ := bcf8_ BK187.out))
  refine bodyPost_ret (results_cell_row rfl _ _ gb187 35 #[.int .i64 4, .int .i64 0, .int .i64 t203, .int .i64 t209, .int .i64 t210, .slice Ao22 t211.length co22, .slice none 0 0, .slice none 0 0] (0, 0) _ rfl (blk_put (blk_put (blk_put (blk_put (blk_put (blk_put (blk_put (blk_put BK187.out 0 _ rfl) 1 _ rfl) 2 _ rfl) 3 _ rfl) 4 _ rfl) 5 _ rfl) 6 _ rfl) 7 _ rfl) Try.underlying35 rfl (by kernel_rfl)) rfl ?_
  exact ⟨_, _, _, ab11_, by (with_reducible repeat (first | apply Kd.N_alloc | apply Kd.N_drewN | apply Kd.N_drew)); exact Kd.N_mono (Kd.N_far (p := ⟨gb187, 7, none⟩) (Kd.N_far (p := ⟨gb187, 6, none⟩) (Kd.N_far (p := ⟨gb187, 5, none⟩) (Kd.N_far (p := ⟨gb187, 4, none⟩) (Kd.N_far (p := ⟨gb187, 3, none⟩) (Kd.N_far (p := ⟨gb187, 2, none⟩) (Kd.N_far (p := ⟨gb187, 1, none⟩) (Kd.N_far (p := ⟨gb187, 0, none⟩) (Kd.N_mono HO213.out (fun k_ hk => (⟨hk, hk.2.1⟩ : _ ∧ k_ ≠ gb187))) (fun _ hk => hk.2) (.int .i64 4)) (fun _ hk => hk.2) (.int .i64 0)) (fun _ hk => hk.2) (.int .i64 t203)) (fun _ hk => hk.2) (.int .i64 t209)) (fun _ hk => hk.2) (.int .i64 t210)) (fun _ hk => hk.2) (.slice Ao22 t211.length co22)) (fun _ hk => hk.2) (.slice none 0 0)) (fun _ hk => hk.2) (.slice none 0 0)) (fun _ hk => ⟨hk.1.1, ⟨(by simp [Value.ownBlock]), (by simp [Value.ownBlock])⟩⟩), by first | exact Kd.R_nil _ _ _ _ _ | exact Kd.N_nil _ _ _ _ _ | exact Kd.V_nil _ _ _ _ _ | exact Kd.Q_nil _ _ _ _ _ | exact Kd.S_nil _ _ _ _ _, by first | exact Kd.R_nil _ _ _ _ _ | exact Kd.N_nil _ _ _ _ _ | exact Kd.V_nil _ _ _ _ _ | exact Kd.Q_nil _ _ _ _ _ | exact Kd.S_nil _ _ _ _ _, ab48_, ab64_, ab21_⟩
 rw [if_neg c14] at H
 have c14b0 : (t205 == 0) = false := beq_eq_false_iff_ne.mpr c14
 have c14b1 : (t205 != 0) = true := bne_iff_ne.mpr c14
 obtain ⟨⟨t215, t216⟩, A250, H⟩ := bsm H
 (try dsimp only at H)
 have A25 := am A250
 clear A250
 simp only [Option.some.injEq, Prod.mk.injEq] at H
 obtain ⟨rfl, rfl, rfl, rfl, rfl, rfl, rfl, rfl, rfl⟩ := H
 go_wp2_with (first | ((with_reducible refine gate_callee (f := 41) rfl ?_); refine goesL_ (some 12) rfl rfl Try.func41 (by kernel_rfl) rfl #[.pointer (some ⟨g, 0, none⟩), .int .i64 a1] rfl ab1_ ?_; (with_reducible refine (spec_l6Rd_pick.calls k g s0_0 s0_1 a1 t203 t204 w0 _ ?side1 ?side2 A12.out).mono ?_); (case side1 => exact ab48_); (case side2 => exact ab64_); rintro e w27 ⟨rfl, hi, hb, hk⟩; refine ⟨_, rfl, ?_⟩; replace BK187 := am (KeepBut.blk hk (g' := gb187) (o := .cells #[.int .i64 0, .int .i64 0, .int .i64 0, .int .i64 0, .int .i64 0, .slice none 0 0, .slice none 0 0, .slice none 0 0] 35 (0, 0)) (aG_ BK187.out) NB187_0.out (by simp)); replace HK := am (KeepBut.trans ab21_ hk (.inl rfl)); replace HB := am (hb); replace HI0 := am (hi); (try clear hb); (try clear hb2); (try clear hk); (try clear hi)) | ((with_reducible refine gate_callee (f := 41) rfl ?_); refine goesL_ (some 14) rfl rfl Try.func41 (by kernel_rfl) rfl #[.pointer (some ⟨g, 0, none⟩), .int .i64 2] rfl ab1_ ?_; (with_reducible refine (spec_l6Rd_pick.calls k g s0_0 t204 2 t205 t206 w0 _ ?side1 ?side2 A13.out).mono ?_); (case side1 => exact ab48_); (case side2 => exact ab64_); rintro e w28 ⟨rfl, hi, hb, hk⟩; refine ⟨_, rfl, ?_⟩; replace BK187 := am (KeepBut.blk hk (g' := gb187) (o := .cells #[.int .i64 0, .int .i64 0, .int .i64 0, .int .i64 0, .int .i64 0, .slice none 0 0, .slice none 0 0, .slice none 0 0] 35 (0, 0)) (aG_ BK187.out) NB187_0.out (by simp)); replace HK := am (KeepBut.trans ab21_ hk (.inl rfl)); replace HB := am (hb); replace HI0 := am (hi); (try clear hb); (try clear hb2); (try clear hk); (try clear hi)) | ((with_reducible refine gate_callee (f := 41) rfl ?_); refine goesL_ (some 25) rfl rfl Try.func41 (by kernel_rfl) rfl #[.pointer (some ⟨g, 0, none⟩), .int .i64 3] rfl ab1_ ?_; (with_reducible refine (spec_l6Rd_pick.calls k g s0_0 t206 3 t215 t216 w0 _ ?side1 ?side2 A25.out).mono ?_); (case side1 => exact ab48_); (case side2 => exact ab64_); rintro e w29 ⟨rfl, hi, hb, hk⟩; refine ⟨_, rfl, ?_⟩; replace BK187 := am (KeepBut.blk hk (g' := gb187) (o := .cells #[.int .i64 0, .int .i64 0, .int .i64 0, .int .i64 0, .int .i64 0, .slice none 0 0, .slice none 0 0, .slice none 0 0] 35 (0, 0)) (aG_ BK187.out) NB187_0.out (by simp)); replace HK := am (KeepBut.trans ab21_ hk (.inl rfl)); replace HB := am (hb); replace HI0 := am (hi); (try clear hb); (try clear hb2); (try clear hk); (try clear hi); have hnb30 := NB187_0.out; have hnc30 := NB0_187.out; obtain ⟨hcz31_0, hcz31_1, hcz31_2, hcz31_3, hcz31_4, hcz31_5, hcz31_6, hcz31_7, hfz31_0, hfz31_1, hfz31_2, hfz31_3, hfz31_4, hfz31_5, hfz31_6, hfz31_7⟩ := bcf8_ BK187.out))
 refine bodyPost_ret (results_cell_row rfl _ _ gb187 35 #[.int .i64 5, .int .i64 t215, .int .i64 t203, .int .i64 0, .int .i64 0, .slice none 0 0, .slice none 0 0, .slice none 0 0] (0, 0) _ rfl (blk_put (blk_put (blk_put (blk_put (blk_put (blk_put (blk_put (blk_put BK187.out 0 _ rfl) 1 _ rfl) 2 _ rfl) 3 _ rfl) 4 _ rfl) 5 _ rfl) 6 _ rfl) 7 _ rfl) Try.underlying35 rfl (by kernel_rfl)) rfl ?_
 exact ⟨_, _, _, ab11_, by first | exact Kd.R_nil _ _ _ _ _ | exact Kd.N_nil _ _ _ _ _ | exact Kd.V_nil _ _ _ _ _ | exact Kd.Q_nil _ _ _ _ _ | exact Kd.S_nil _ _ _ _ _, by first | exact Kd.R_nil _ _ _ _ _ | exact Kd.N_nil _ _ _ _ _ | exact Kd.V_nil _ _ _ _ _ | exact Kd.Q_nil _ _ _ _ _ | exact Kd.S_nil _ _ _ _ _, by first | exact Kd.R_nil _ _ _ _ _ | exact Kd.N_nil _ _ _ _ _ | exact Kd.V_nil _ _ _ _ _ | exact Kd.Q_nil _ _ _ _ _ | exact Kd.S_nil _ _ _ _ _, ab48_, ab64_, ab21_⟩
theorem spec_l92Loop.mono_all : ∀ k, (∀ y0 y1 y2 y3, LeO (spec_l92Loop.f k y0 y1 y2 y3) (spec_l92Loop.f (k + 1) y0 y1 y2 y3)) ∧ (∀ y0 y1 y2 y3 y4, LeO (spec_l92Stmt.f k y0 y1 y2 y3 y4) (spec_l92Stmt.f (k + 1) y0 y1 y2 y3 y4)) ∧ (∀ y0 y1 y2 y3 y4 y5 y6, LeO (spec_l92Stmt.j0 k y0 y1 y2 y3 y4 y5 y6) (spec_l92Stmt.j0 (k + 1) y0 y1 y2 y3 y4 y5 y6)) ∧ (∀ y0 y1 y2 y3 y4, LeO (spec_l92Stmt.j1 k y0 y1 y2 y3 y4) (spec_l92Stmt.j1 (k + 1) y0 y1 y2 y3 y4)) ∧ (∀ y0 y1 y2 y3 y4, LeO (spec_l92Stmt.j2 k y0 y1 y2 y3 y4) (spec_l92Stmt.j2 (k + 1) y0 y1 y2 y3 y4)) ∧ (∀ y0 y1 y2 y3 y4 y5, LeO (spec_l92Block.f k y0 y1 y2 y3 y4 y5) (spec_l92Block.f (k + 1) y0 y1 y2 y3 y4 y5)) ∧ (∀ y0 y1 y2 y3 y4 y5 y6 y7, LeO (spec_l92Block.l0 k y0 y1 y2 y3 y4 y5 y6 y7) (spec_l92Block.l0 (k + 1) y0 y1 y2 y3 y4 y5 y6 y7)) ∧ (∀ y0 y1 y2 y3 y4, LeO (spec_l92If.f k y0 y1 y2 y3 y4) (spec_l92If.f (k + 1) y0 y1 y2 y3 y4))
 | 0 => ⟨fun _ _ _ _ r h => by simp [spec_l92Loop.f] at h, fun _ _ _ _ _ r h => by simp [spec_l92Stmt.f] at h, fun _ _ _ _ _ _ _ r h => by simp [spec_l92Stmt.j0] at h, fun _ _ _ _ _ r h => by simp [spec_l92Stmt.j1] at h, fun _ _ _ _ _ r h => by simp [spec_l92Stmt.j2] at h, fun _ _ _ _ _ _ r h => by simp [spec_l92Block.f] at h, fun _ _ _ _ _ _ _ _ r h => by simp [spec_l92Block.l0] at h, fun _ _ _ _ _ r h => by simp [spec_l92If.f] at h⟩
 | k + 1 => by
  obtain ⟨ih0, ih1, ih2, ih3, ih4, ih5, ih6, ih7⟩ := spec_l92Loop.mono_all k
  refine ⟨?_, ?_, ?_, ?_, ?_, ?_, ?_, ?_⟩
  ·intro y0 y1 y2 y3
   unfold spec_l92Loop.f
   repeat' first
   | (with_reducible exact ih0 _ _ _ _)
   | (with_reducible exact ih1 _ _ _ _ _)
   | (with_reducible exact ih2 _ _ _ _ _ _ _)
   | (with_reducible exact ih3 _ _ _ _ _)
   | (with_reducible exact ih4 _ _ _ _ _)
   | (with_reducible exact ih5 _ _ _ _ _ _)
   | (with_reducible exact ih6 _ _ _ _ _ _ _ _)
   | (with_reducible exact ih7 _ _ _ _ _)
   | (with_reducible exact spec_l6Rd_pick.mono _ _ _ _)
   | (with_reducible exact spec_l91Expr.mono _ _ _ _)
   | (with_reducible exact spec_l92Set.mono _ _ _)
   | (with_reducible exact spec_l92Talk.mono _ _ _ _)
   | (with_reducible exact LeO.refl _)
   | (with_reducible exact LeO.none _)
   | (with_reducible refine LeO.ite ?_ ?_)
   | (with_reducible refine LeO.bind ?_ (fun _ => ?_))
  ·intro y0 y1 y2 y3 y4
   unfold spec_l92Stmt.f
   repeat' first
   | (with_reducible exact ih0 _ _ _ _)
   | (with_reducible exact ih1 _ _ _ _ _)
   | (with_reducible exact ih2 _ _ _ _ _ _ _)
   | (with_reducible exact ih3 _ _ _ _ _)
   | (with_reducible exact ih4 _ _ _ _ _)
   | (with_reducible exact ih5 _ _ _ _ _ _)
   | (with_reducible exact ih6 _ _ _ _ _ _ _ _)
   | (with_reducible exact ih7 _ _ _ _ _)
   | (with_reducible exact spec_l6Rd_pick.mono _ _ _ _)
   | (with_reducible exact spec_l91Expr.mono _ _ _ _)
   | (with_reducible exact spec_l92Set.mono _ _ _)
   | (with_reducible exact spec_l92Talk.mono _ _ _ _)
   | (with_reducible exact LeO.refl _)
   | (with_reducible exact LeO.none _)
   | (with_reducible refine LeO.ite ?_ ?_)
   | (with_reducible refine LeO.bind ?_ (fun _ => ?_))
  ·intro y0 y1 y2 y3 y4 y5 y6
   unfold spec_l92Stmt.j0
   repeat' first
   | (with_reducible exact ih0 _ _ _ _)
   | (with_reducible exact ih1 _ _ _ _ _)
   | (with_reducible exact ih2 _ _ _ _ _ _ _)
   | (with_reducible exact ih3 _ _ _ _ _)
   | (with_reducible exact ih4 _ _ _ _ _)
   | (with_reducible exact ih5 _ _ _ _ _ _)
   | (with_reducible exact ih6 _ _ _ _ _ _ _ _)
   | (with_reducible exact ih7 _ _ _ _ _)
   | (with_reducible exact spec_l6Rd_pick.mono _ _ _ _)
   | (with_reducible exact spec_l91Expr.mono _ _ _ _)
   | (with_reducible exact spec_l92Set.mono _ _ _)
   | (with_reducible exact spec_l92Talk.mono _ _ _ _)
   | (with_reducible exact LeO.refl _)
   | (with_reducible exact LeO.none _)
   | (with_reducible refine LeO.ite ?_ ?_)
   | (with_reducible refine LeO.bind ?_ (fun _ => ?_))
  ·intro y0 y1 y2 y3 y4
   unfold spec_l92Stmt.j1
   repeat' first
   | (with_reducible exact ih0 _ _ _ _)
   | (with_reducible exact ih1 _ _ _ _ _)
   | (with_reducible exact ih2 _ _ _ _ _ _ _)
   | (with_reducible exact ih3 _ _ _ _ _)
   | (with_reducible exact ih4 _ _ _ _ _)
   | (with_reducible exact ih5 _ _ _ _ _ _)
   | (with_reducible exact ih6 _ _ _ _ _ _ _ _)
   | (with_reducible exact ih7 _ _ _ _ _)
   | (with_reducible exact spec_l6Rd_pick.mono _ _ _ _)
   | (with_reducible exact spec_l91Expr.mono _ _ _ _)
   | (with_reducible exact spec_l92Set.mono _ _ _)
   | (with_reducible exact spec_l92Talk.mono _ _ _ _)
   | (with_reducible exact LeO.refl _)
   | (with_reducible exact LeO.none _)
   | (with_reducible refine LeO.ite ?_ ?_)
   | (with_reducible refine LeO.bind ?_ (fun _ => ?_))
  ·intro y0 y1 y2 y3 y4
   unfold spec_l92Stmt.j2
   repeat' first
   | (with_reducible exact ih0 _ _ _ _)
   | (with_reducible exact ih1 _ _ _ _ _)
   | (with_reducible exact ih2 _ _ _ _ _ _ _)
   | (with_reducible exact ih3 _ _ _ _ _)
   | (with_reducible exact ih4 _ _ _ _ _)
   | (with_reducible exact ih5 _ _ _ _ _ _)
   | (with_reducible exact ih6 _ _ _ _ _ _ _ _)
   | (with_reducible exact ih7 _ _ _ _ _)
   | (with_reducible exact spec_l6Rd_pick.mono _ _ _ _)
   | (with_reducible exact spec_l91Expr.mono _ _ _ _)
   | (with_reducible exact spec_l92Set.mono _ _ _)
   | (with_reducible exact spec_l92Talk.mono _ _ _ _)
   | (with_reducible exact LeO.refl _)
   | (with_reducible exact LeO.none _)
   | (with_reducible refine LeO.ite ?_ ?_)
   | (with_reducible refine LeO.bind ?_ (fun _ => ?_))
  ·intro y0 y1 y2 y3 y4 y5
   unfold spec_l92Block.f
   repeat' first
   | (with_reducible exact ih0 _ _ _ _)
   | (with_reducible exact ih1 _ _ _ _ _)
   | (with_reducible exact ih2 _ _ _ _ _ _ _)
   | (with_reducible exact ih3 _ _ _ _ _)
   | (with_reducible exact ih4 _ _ _ _ _)
   | (with_reducible exact ih5 _ _ _ _ _ _)
   | (with_reducible exact ih6 _ _ _ _ _ _ _ _)
   | (with_reducible exact ih7 _ _ _ _ _)
   | (with_reducible exact spec_l6Rd_pick.mono _ _ _ _)
   | (with_reducible exact spec_l91Expr.mono _ _ _ _)
   | (with_reducible exact spec_l92Set.mono _ _ _)
   | (with_reducible exact spec_l92Talk.mono _ _ _ _)
   | (with_reducible exact LeO.refl _)
   | (with_reducible exact LeO.none _)
   | (with_reducible refine LeO.ite ?_ ?_)
   | (with_reducible refine LeO.bind ?_ (fun _ => ?_))
  ·intro y0 y1 y2 y3 y4 y5 y6 y7
   unfold spec_l92Block.l0
   repeat' first
   | (with_reducible exact ih0 _ _ _ _)
   | (with_reducible exact ih1 _ _ _ _ _)
   | (with_reducible exact ih2 _ _ _ _ _ _ _)
   | (with_reducible exact ih3 _ _ _ _ _)
   | (with_reducible exact ih4 _ _ _ _ _)
   | (with_reducible exact ih5 _ _ _ _ _ _)
   | (with_reducible exact ih6 _ _ _ _ _ _ _ _)
   | (with_reducible exact ih7 _ _ _ _ _)
   | (with_reducible exact spec_l6Rd_pick.mono _ _ _ _)
   | (with_reducible exact spec_l91Expr.mono _ _ _ _)
   | (with_reducible exact spec_l92Set.mono _ _ _)
   | (with_reducible exact spec_l92Talk.mono _ _ _ _)
   | (with_reducible exact LeO.refl _)
   | (with_reducible exact LeO.none _)
   | (with_reducible refine LeO.ite ?_ ?_)
   | (with_reducible refine LeO.bind ?_ (fun _ => ?_))
  ·intro y0 y1 y2 y3 y4
   unfold spec_l92If.f
   repeat' first
   | (with_reducible exact ih0 _ _ _ _)
   | (with_reducible exact ih1 _ _ _ _ _)
   | (with_reducible exact ih2 _ _ _ _ _ _ _)
   | (with_reducible exact ih3 _ _ _ _ _)
   | (with_reducible exact ih4 _ _ _ _ _)
   | (with_reducible exact ih5 _ _ _ _ _ _)
   | (with_reducible exact ih6 _ _ _ _ _ _ _ _)
   | (with_reducible exact ih7 _ _ _ _ _)
   | (with_reducible exact spec_l6Rd_pick.mono _ _ _ _)
   | (with_reducible exact spec_l91Expr.mono _ _ _ _)
   | (with_reducible exact spec_l92Set.mono _ _ _)
   | (with_reducible exact spec_l92Talk.mono _ _ _ _)
   | (with_reducible exact LeO.refl _)
   | (with_reducible exact LeO.none _)
   | (with_reducible refine LeO.ite ?_ ?_)
   | (with_reducible refine LeO.bind ?_ (fun _ => ?_))
theorem spec_l92Loop.mono : ∀ a0 a1 a2 a3 k, LeO (spec_l92Loop.f k a0 a1 a2 a3) (spec_l92Loop.f (k + 1) a0 a1 a2 a3) := by
 intro a0 a1 a2 a3 k
 obtain ⟨ih0, ih1, ih2, ih3, ih4, ih5, ih6, ih7⟩ := spec_l92Loop.mono_all k
 exact ih0 a0 a1 a2 a3
theorem spec_l92Stmt.mono : ∀ a0 a1 a2 a3 a4 k, LeO (spec_l92Stmt.f k a0 a1 a2 a3 a4) (spec_l92Stmt.f (k + 1) a0 a1 a2 a3 a4) := by
 intro a0 a1 a2 a3 a4 k
 obtain ⟨ih0, ih1, ih2, ih3, ih4, ih5, ih6, ih7⟩ := spec_l92Loop.mono_all k
 exact ih1 a0 a1 a2 a3 a4
theorem spec_l92Block.mono : ∀ a0 a1 a2 a3 a4 a5 k, LeO (spec_l92Block.f k a0 a1 a2 a3 a4 a5) (spec_l92Block.f (k + 1) a0 a1 a2 a3 a4 a5) := by
 intro a0 a1 a2 a3 a4 a5 k
 obtain ⟨ih0, ih1, ih2, ih3, ih4, ih5, ih6, ih7⟩ := spec_l92Loop.mono_all k
 exact ih5 a0 a1 a2 a3 a4 a5
theorem spec_l92If.mono : ∀ a0 a1 a2 a3 a4 k, LeO (spec_l92If.f k a0 a1 a2 a3 a4) (spec_l92If.f (k + 1) a0 a1 a2 a3 a4) := by
 intro a0 a1 a2 a3 a4 k
 obtain ⟨ih0, ih1, ih2, ih3, ih4, ih5, ih6, ih7⟩ := spec_l92Loop.mono_all k
 exact ih7 a0 a1 a2 a3 a4
abbrev spec_l92Loop.CallsAt (k : Nat) : Prop := ∀ (g : Nat) (s0_0 : List Int) (s0_1 : Int) (a1 : Int) (a2 : Int) (r1 : List (S35)) (r2 : Int) (w0 w : World) (hI : IsS91 w0 w g s0_0 s0_1) (hB : Below w0.heap.size w0 w) (h : spec_l92Loop.f k s0_0 s0_1 a1 a2 = some (r1, r2)),
  Calls Try.prog 104 #[.pointer (some ⟨g, 0, none⟩), .int .i64 a1, .int .i64 a2] w fun e w' => ∃ v0_ : Value, e = .returned (v0_) ∧ Kd.N k35 35 w' w.heap.size (fun k_ => (w.heap.size ≤ k_)) v0_ r1 ∧ IsS91 w0 w' g s0_0 r2 ∧ Below w0.heap.size w0 w' ∧ KeepBut w w' g none
abbrev spec_l92Stmt.CallsAt (k : Nat) : Prop := ∀ (g : Nat) (s0_0 : List Int) (s0_1 : Int) (a1 : Int) (a2 : Int) (a3 : Bool) (r1 : List (S35)) (r2 : Int) (w0 w : World) (hI : IsS91 w0 w g s0_0 s0_1) (hB : Below w0.heap.size w0 w) (h : spec_l92Stmt.f k s0_0 s0_1 a1 a2 a3 = some (r1, r2)),
  Calls Try.prog 93 #[.pointer (some ⟨g, 0, none⟩), .int .i64 a1, .int .i64 a2, .bool a3] w fun e w' => ∃ v0_ : Value, e = .returned (v0_) ∧ Kd.N k35 35 w' w.heap.size (fun k_ => (w.heap.size ≤ k_)) v0_ r1 ∧ IsS91 w0 w' g s0_0 r2 ∧ Below w0.heap.size w0 w' ∧ KeepBut w w' g none
abbrev spec_l92Block.CallsAt (k : Nat) : Prop := ∀ (g : Nat) (s0_0 : List Int) (s0_1 : Int) (a1 : Int) (a2 : Int) (a3 : Int) (a4 : Bool) (r1 : List (S35)) (r2 : Int) (w0 w : World) (hI : IsS91 w0 w g s0_0 s0_1) (hB : Below w0.heap.size w0 w) (h : spec_l92Block.f k s0_0 s0_1 a1 a2 a3 a4 = some (r1, r2)),
  Calls Try.prog 77 #[.pointer (some ⟨g, 0, none⟩), .int .i64 a1, .int .i64 a2, .int .i64 a3, .bool a4] w fun e w' => ∃ v0_ : Value, e = .returned (v0_) ∧ Kd.N k35 35 w' w.heap.size (fun k_ => (w.heap.size ≤ k_)) v0_ r1 ∧ IsS91 w0 w' g s0_0 r2 ∧ Below w0.heap.size w0 w' ∧ KeepBut w w' g none
abbrev spec_l92If.CallsAt (k : Nat) : Prop := ∀ (g : Nat) (s0_0 : List Int) (s0_1 : Int) (a1 : Int) (a2 : Int) (a3 : Bool) (r1 : Int) (r2 : Int) (r3 : Int) (r4 : Int) (r5 : Int) (r6 : List (S32)) (r7 : List (S35)) (r8 : List (S35)) (r9 : Int) (w0 w : World) (hI : IsS91 w0 w g s0_0 s0_1) (hB : Below w0.heap.size w0 w) (h : spec_l92If.f k s0_0 s0_1 a1 a2 a3 = some (r1, r2, r3, r4, r5, r6, r7, r8, r9)),
  Calls Try.prog 42 #[.pointer (some ⟨g, 0, none⟩), .int .i64 a1, .int .i64 a2, .bool a3] w fun e w' => ∃ v5_ v6_ v7_ : Value, e = .returned (.agg #[.int .i64 r1, .int .i64 r2, .int .i64 r3, .int .i64 r4, .int .i64 r5, v5_, v6_, v7_]) ∧ Kd.N k32 32 w' w.heap.size (fun k_ => (w.heap.size ≤ k_) ∧ some k_ ≠ (v6_ : Value).ownBlock ∧ some k_ ≠ (v7_ : Value).ownBlock) v5_ r6 ∧ Kd.N k35 35 w' w.heap.size (fun k_ => (w.heap.size ≤ k_) ∧ some k_ ≠ (v5_ : Value).ownBlock ∧ some k_ ≠ (v7_ : Value).ownBlock) v6_ r7 ∧ Kd.N k35 35 w' w.heap.size (fun k_ => (w.heap.size ≤ k_) ∧ some k_ ≠ (v5_ : Value).ownBlock ∧ some k_ ≠ (v6_ : Value).ownBlock) v7_ r8 ∧ IsS91 w0 w' g s0_0 r9 ∧ Below w0.heap.size w0 w' ∧ KeepBut w w' g none
theorem any_inv {P : Program} {ops : Array Oper} {Q : Exit → Act → World → Prop} {n : Nat} {T : Bool × List (List Nat × List Nat)} (hn : ops.size = n) (hT : rtab .any ops = T)
  (hac : (List.range n).all (fun i => match T.2[i]? with | some r => r.1.all (fun j => decide (j < i)) | none => false) = true)
  (I : (Nat → Bool) → Act → World → Prop)
  (hstep : ∀ (i : Nat) (b : Nat → Bool) (a : Act) (w : World), i < n → b i = false → (∀ r, T.2[i]? = some r → ∀ j ∈ r.1, b j = true) → (∀ j r, b j = true → T.2[j]? = some r → ∀ q ∈ r.1, b q = true) → I b a w → wpOp P ops Q i (fun a' w' => I (fun j => if j = i then true else b j) a' w') a w)
  (hdone : ∀ (b : Nat → Bool) (a : Act) (w : World), (∀ j, j < n → b j = true) → I b a w → Q .normal a w)
  (a : Act) (w : World) (h0 : I (fun _ => false) a w) : wpAny P .any ops Q n (Array.replicate n false) a w := by
 have key : ∀ (fuel : Nat) (l : Array Bool) (a : Act) (w : World), l.size = n → ((List.range n).countP (fun j => !l.getD j false)) ≤ fuel →
   (∀ j r, l.getD j false = true → T.2[j]? = some r → ∀ q ∈ r.1, l.getD q false = true) → I (fun j => l.getD j false) a w → wpAny P .any ops Q fuel l a w := by
  have all_of : ∀ l : Array Bool, l.size = n → Region.ready .any ops l = [] → ∀ j, j < n → l.getD j false = true := by
   intro l hl hr j
   induction j using Nat.strongRecOn with
   | _ j ih =>
   intro hj
   cases hb : l.getD j false with
   | true => rfl
   | false =>
    have hm : j ∈ Region.ready .any ops l := by
     rw [ready_eq, hT]
     unfold readyT
     have hlen : T.2.length = n := by rw [← hT, rtab_length, hn]
     rw [List.mem_filter, List.mem_range, hlen]
     refine ⟨hj, ?_⟩
     unfold readyAt
     have e1 : l.toList.getD j true = false := by
      rw [← gd]
      have hlt : j < l.size := by omega
      simp only [Array.getD_eq_getD_getElem?, Array.getElem?_eq_getElem hlt, Option.getD_some] at hb ⊢
      exact hb
     rw [e1]
     have h1 := List.all_eq_true.1 hac j (List.mem_range.2 hj)
     cases hq : T.2[j]? with
     | none => rw [hq] at h1; cases h1
     | some r =>
      rw [hq] at h1
      simp only [List.all_eq_true, decide_eq_true_eq] at h1
      simp only [Bool.not_false, Bool.true_and, List.all_eq_true]
      intro q hqm
      rw [← gd]
      exact ih q (h1 q hqm) (by have := h1 q hqm; omega)
    rw [hr] at hm
    cases hm
  intro fuel
  induction fuel with
  | zero =>
   intro l a w hl hc hcl hI
   have hall : ∀ j, j < n → l.getD j false = true := by
    intro j hj
    have := List.countP_eq_zero.1 (Nat.le_zero.1 hc) j (List.mem_range.2 hj)
    simpa using this
   refine ⟨?_, hdone _ a w hall hI⟩
   cases hr : Region.ready .any ops l with
   | nil => rfl
   | cons i rs =>
    have hm : i ∈ Region.ready .any ops l := by rw [hr]; exact List.mem_cons_self
    obtain ⟨h1, o, h2, _⟩ := mem_ready.1 hm
    have hi : i < l.size := by rw [hl, ← hn]; exact (Array.getElem?_eq_some_iff.1 h2).1
    have := hall i (by omega)
    simp only [Array.getD_eq_getD_getElem?, Array.getElem?_eq_getElem hi, Option.getD_some] at h1 this
    rw [h1] at this
    cases this
  | succ fuel ih =>
   intro l a w hl hc hcl hI
   refine ⟨fun hr => hdone _ a w (all_of l hl hr) hI, fun i hm => ?_⟩
   obtain ⟨h1, o, h2, h3⟩ := mem_ready.1 hm
   have hi : i < n := by rw [← hn]; exact (Array.getElem?_eq_some_iff.1 h2).1
   have hil : i < l.size := by omega
   have hbi : l.getD i false = false := by
    simp only [Array.getD_eq_getD_getElem?, Array.getElem?_eq_getElem hil, Option.getD_some] at h1 ⊢
    exact h1
   have hneed : ∀ r, T.2[i]? = some r → ∀ j ∈ r.1, l.getD j false = true := by
    intro r hr j hj
    rw [ready_eq, hT] at hm
    unfold readyT at hm
    have := (List.mem_filter.1 hm).2
    unfold readyAt at this
    rw [hr, Bool.and_eq_true] at this
    have h5 := List.all_eq_true.1 this.2 j hj
    rw [← gd] at h5
    exact h5
   have hf : ∀ j, (l.setIfInBounds i true).getD j false = if j = i then true else l.getD j false := by
    intro j
    by_cases hji : j = i
    ·subst hji
     rw [if_pos rfl]
     simp [Array.getD_eq_getD_getElem?, hil]
    rw [if_neg hji]
    simp [Array.getD_eq_getD_getElem?, Array.getElem?_setIfInBounds, Ne.symm hji]
   refine wpOp_mono (fun a' w' h' => ih _ a' w' (by rw [Array.size_setIfInBounds]; exact hl) ?_ ?_ ?_) (hstep i (fun j => l.getD j false) a w hi hbi hneed hcl hI)
   ·have hlt : (List.range n).countP (fun j => !(l.setIfInBounds i true).getD j false) < (List.range n).countP (fun j => !l.getD j false) := by
     rw [List.countP_eq_length_filter, List.countP_eq_length_filter]
     have hsub : ((List.range n).filter (fun j => !(l.setIfInBounds i true).getD j false)) = (((List.range n).filter (fun j => !l.getD j false)).filter (fun j => !(j == i))) := by
      rw [List.filter_filter]
      refine List.filter_congr (fun j _ => ?_)
      rw [hf j]
      by_cases hji : j = i
      ·subst hji
       simp
      rw [if_neg hji]
      simp [hji]
     rw [hsub]
     have hmem : i ∈ (List.range n).filter (fun j => !l.getD j false) := List.mem_filter.2 ⟨List.mem_range.2 hi, by rw [hbi]; rfl⟩
     exact List.length_filter_lt_length_iff_exists.2 ⟨i, hmem, by simp⟩
    omega
   ·intro j r hj hr q hq
    rw [hf] at hj ⊢
    by_cases hji : j = i
    ·subst hji
     split
     ·rfl
     ·exact hneed r hr q hq
    rw [if_neg hji] at hj
    split
    ·rfl
    ·exact hcl j r hj hr q hq
   ·have : (fun j => (l.setIfInBounds i true).getD j false) = fun j => if j = i then true else l.getD j false := funext hf
    rw [this]
    exact h'
 have hz : ∀ j, (Array.replicate n false).getD j false = false := by
  intro j
  simp only [Array.getD_eq_getD_getElem?, Array.getElem?_replicate]
  split <;> rfl
 refine key n _ a w (by simp) ?_ ?_ ?_
 ·exact Nat.le_trans List.countP_le_length (by rw [List.length_range]; exact Nat.le_refl _)
 ·intro j r hj
  rw [hz] at hj
  cases hj
 ·have : (fun j => (Array.replicate n false).getD j false) = fun _ => false := funext hz
  rw [this]
  exact h0
theorem zz_ {b : Nat → Bool} {j q : Nat} (h : b j = true → b q = true) (hq : b q = false) : b j = false := by
 cases e : b j with
 | false => rfl
 | true => rw [h e] at hq; cases hq
theorem empty_V {α : Type} (d : Kd α) (e : Nat) (w : World) (base : Nat) (A : Option Addr) (c : Nat) : Kd.V d e w base (fun _ => False) (.slice A ([] : List α).length c) [] :=
 ⟨A, c, rfl, Nat.zero_le _, fun W' _ => ⟨rfl, by simp, fun h => absurd h (Nat.lt_irrefl 0)⟩⟩
theorem empty_F {α : Type} (d : Kd α) (w : World) (ok : Nat → Prop) (A : Option Addr) : Kd.F d w ok A ([] : List α).length [] := fun W' _ => ⟨rfl, by simp, fun h => absurd h (Nat.lt_irrefl 0)⟩
theorem leaf_lit (a b : Int) (w : World) : Calls Try.prog 45 #[.int .i64 a, .int .i64 b] w fun e w' => ∃ A c, e = .returned (.agg #[.int .i64 a, .int .i64 b, .slice A 0 c]) ∧ Below w.heap.size w w' := by
 refine (spec_l4Leaf.calls a b a b [] w rfl).mono ?_
 rintro e w' ⟨v, rfl, hr, hb⟩
 obtain ⟨A, c, rfl⟩ := Kd.N_slice (Kd.R_N hr)
 exact ⟨A, c, rfl, hb⟩
theorem both_lit (o a1 b1 : Int) (A1 : Option Addr) (c1 : Nat) (a2 b2 : Int) (A2 : Option Addr) (c2 : Nat) (w : World) : Calls Try.prog 43 #[.int .i64 o, .agg #[.int .i64 a1, .int .i64 b1, .slice A1 0 c1], .agg #[.int .i64 a2, .int .i64 b2, .slice A2 0 c2]] w fun e w' => ∃ A c, e = .returned (.agg #[.int .i64 o, .int .i64 0, .slice A 2 c]) ∧ Kd.N k32 32 w' w.heap.size (fun k => w.heap.size ≤ k) (.slice A 2 c) [⟨a1, b1, []⟩, ⟨a2, b2, []⟩] ∧ Below w.heap.size w w' := by
 refine (spec_l4Both.calls o a1 b1 (fun _ => False) A1 c1 [] a2 b2 (fun _ => False) A2 c2 [] o 0 [⟨a1, b1, []⟩, ⟨a2, b2, []⟩] w (empty_V k32 32 w _ A1 c1) (empty_V k32 32 w _ A2 c2) rfl).mono ?_
 rintro e w' ⟨v, rfl, hr, hb⟩
 obtain ⟨A, c, rfl⟩ := Kd.N_slice hr
 exact ⟨A, c, rfl, Kd.N_mono hr (fun k hk => hk.elim (fun h => h.elim False.elim False.elim) id), hb⟩
structure F92 (w0 w W0 : World) (g h2 : Nat) (s0_0 : List Int) (t355 t377 t378 : Int) (v8 : Value) (t352 : List S35) (A30 : Option Addr) (c30 : Nat) (A33 : Option Addr) (c33 : Nat) (A34 : Option Addr) (c34 : Nat) (g10 : Nat) (b3 b6 b9 b10 b12 b13 : Bool) (W : World) : Prop where
 hK : KeepBut W0 W g (cond b10 v8.ownBlock none)
 hI : IsS91 w0 W g s0_0 (cond b3 t378 t355)
 hB : Below w0.heap.size w0 W
 h30 : b6 = true → Kd.N k32 32 W W0.heap.size (fun k => W0.heap.size ≤ k ∧ (b12 = true → k ≠ g10)) (.slice A30 2 c30) [⟨13, 3, []⟩, ⟨0, wrap64 (1 + t377), []⟩]
 h33 : b9 = true → Kd.N k35 35 W h2 (fun k => h2 ≤ k ∧ (b12 = true → k ≠ g10)) (.slice A33 1 c33) [(⟨1, 3, 0, ⟨8, 0, [⟨13, 3, []⟩, ⟨0, 1, []⟩]⟩, [], []⟩ : S35)]
 h34 : b10 = true → Kd.N k35 35 W w.heap.size (fun k => w.heap.size ≤ k ∧ (b12 = true → k ≠ g10)) (.slice A34 (t352 ++ [(⟨1, 3, 0, ⟨8, 0, [⟨13, 3, []⟩, ⟨0, 1, []⟩]⟩, [], []⟩ : S35)]).length c34) (t352 ++ [(⟨1, 3, 0, ⟨8, 0, [⟨13, 3, []⟩, ⟨0, 1, []⟩]⟩, [], []⟩ : S35)])
 h10 : b12 = true → W0.heap.size ≤ g10 ∧ W.heap[g10]? = some (.cells (cond b13 #[.int .i64 3, .int .i64 0, .int .i64 0, .int .i64 5, .int .i64 0, .slice A30 2 c30, .slice A34 (t352 ++ [(⟨1, 3, 0, ⟨8, 0, [⟨13, 3, []⟩, ⟨0, 1, []⟩]⟩, [], []⟩ : S35)]).length c34, .slice none 0 0] #[.int .i64 0, .int .i64 0, .int .i64 0, .int .i64 0, .int .i64 0, .slice none 0 0, .slice none 0 0, .slice none 0 0]) 35 (0, 0))
theorem F92.ext {w0 w W0 : World} {g h2 : Nat} {s0_0 : List Int} {t355 t377 t378 : Int} {v8 : Value} {t352 : List S35} {A30 : Option Addr} {c30 : Nat} {A33 : Option Addr} {c33 : Nat} {A34 : Option Addr} {c34 : Nat} {g10 : Nat} {b3 b6 b9 b10 b12 b13 : Bool} {W W' : World}
  (h : F92 w0 w W0 g h2 s0_0 t355 t377 t378 v8 t352 A30 c30 A33 c33 A34 c34 g10 b3 b6 b9 b10 b12 b13 W) (hb : Below W.heap.size W W') : F92 w0 w W0 g h2 s0_0 t355 t377 t378 v8 t352 A30 c30 A33 c33 A34 c34 g10 b3 b6 b9 b10 b12 b13 W' :=
 ⟨h.hK.trans (KeepBut.of_below hb g _) (.inl rfl), h.hI.below hb, below_step h.hB hb, fun e => Kd.N_below (h.h30 e) hb, fun e => Kd.N_below (h.h33 e) hb, fun e => Kd.N_below (h.h34 e) hb, fun e => ⟨(h.h10 e).1, blk_below (h.h10 e).2 hb⟩⟩
def a92 (g g9 : Nat) (a1 a2 t350 t377 : Int) (v8 : Value) (t352 : List S35) (A20 : Option Addr) (c20 : Nat) (A21 : Option Addr) (c21 : Nat) (A22 : Option Addr) (c22 : Nat) (A1 : Option Addr) (c1 : Nat) (A2 : Option Addr) (c2 : Nat) (A30 : Option Addr) (c30 : Nat) (A33 : Option Addr) (c33 : Nat) (A34 : Option Addr) (c34 : Nat) (g10 : Nat) (b0 b1 b2 b3 b4 b5 b6 b7 b8 b9 b10 b11 b12 b13 : Bool) : Act :=
 { tmps := #[(.pointer (some ⟨g, 0, none⟩)), (.int .i64 a1), (.int .i64 a2), undef, undef, undef, (.slice none 0 0), (.int .i64 3), v8, (.pointer (some ⟨g9, 0, none⟩)), cond b12 (.pointer (some ⟨g10, 0, none⟩)) undef, (.pointer (some ⟨g, 0, none⟩)), (.int .i64 a1), (.int .i64 a2), (.int .i64 (wrap64 (a2 - 1))), (.pointer (some ⟨g, 0, none⟩)), (.int .i64 t350), v8, (.int .i64 3), (.int .i64 3), (.agg #[.int .i64 13, .int .i64 3, .slice A20 0 c20]), (.agg #[.int .i64 0, .int .i64 1, .slice A21 0 c21]), (.agg #[.int .i64 8, .int .i64 0, .slice A22 2 c22]), (.agg #[.int .i64 1, .int .i64 3, .int .i64 0, .int .i64 8, .int .i64 0, .slice A22 2 c22, .slice none 0 0, .slice none 0 0]), cond b0 (.int .i64 3) undef, cond b1 (.agg #[.int .i64 13, .int .i64 3, .slice A1 0 c1]) undef, cond b2 (.pointer (some ⟨g, 0, none⟩)) undef, cond b3 (.int .i64 t377) undef, cond b4 (.int .i64 (wrap64 (1 + t377))) undef, cond b5 (.agg #[.int .i64 0, .int .i64 (wrap64 (1 + t377)), .slice A2 0 c2]) undef, cond b6 (.agg #[.int .i64 5, .int .i64 0, .slice A30 2 c30]) undef, cond b7 v8 undef, cond b8 (.agg #[.int .i64 1, .int .i64 3, .int .i64 0, .int .i64 8, .int .i64 0, .slice A22 2 c22, .slice none 0 0, .slice none 0 0]) undef, cond b9 (.slice A33 1 c33) undef, cond b10 (.slice A34 (t352 ++ [(⟨1, 3, 0, ⟨8, 0, [⟨13, 3, []⟩, ⟨0, 1, []⟩]⟩, [], []⟩ : S35)]).length c34) undef, cond b11 (.agg #[.int .i64 3, .int .i64 0, .int .i64 0, .int .i64 5, .int .i64 0, .slice A30 2 c30, .slice A34 (t352 ++ [(⟨1, 3, 0, ⟨8, 0, [⟨13, 3, []⟩, ⟨0, 1, []⟩]⟩, [], []⟩ : S35)]).length c34, .slice none 0 0]) undef, undef, undef, undef, undef, undef], defers := [] }
def L92 (w0 w W0 : World) (g g9 h2 : Nat) (s0_0 : List Int) (a1 a2 t350 t355 t377 t378 : Int) (v8 : Value) (t352 : List S35) (A20 : Option Addr) (c20 : Nat) (A21 : Option Addr) (c21 : Nat) (A22 : Option Addr) (c22 : Nat) (b0 b1 b2 b3 b4 b5 b6 b7 b8 b9 b10 b11 b12 b13 : Bool) (a : Act) (W : World) : Prop :=
 ∃ (A1 : Option Addr) (c1 : Nat) (A2 : Option Addr) (c2 : Nat) (A30 : Option Addr) (c30 : Nat) (A33 : Option Addr) (c33 : Nat) (A34 : Option Addr) (c34 : Nat) (g10 : Nat), a = a92 g g9 a1 a2 t350 t377 v8 t352 A20 c20 A21 c21 A22 c22 A1 c1 A2 c2 A30 c30 A33 c33 A34 c34 g10 b0 b1 b2 b3 b4 b5 b6 b7 b8 b9 b10 b11 b12 b13 ∧ F92 w0 w W0 g h2 s0_0 t355 t377 t378 v8 t352 A30 c30 A33 c33 A34 c34 g10 b3 b6 b9 b10 b12 b13 W
def spec_l92Loop.T4 : Bool × List (List Nat × List Nat) := (true, [([], []), ([0], [0]), ([], []), ([2, 1], [2]), ([3], [3]), ([4, 3], [4]), ([1, 5, 5], [1, 5]), ([], []), ([], []), ([8], [8]), ([7, 9, 6], [7, 9]), ([6, 10], [6, 10]), ([], []), ([12, 11, 10, 0, 1, 2, 3, 4, 5, 6, 7, 8, 9, 10, 11, 12], [11, 12])])
theorem spec_l92Loop.step (k : Nat) (ih_spec_l92If : ∀ m, m < k → spec_l92If.CallsAt m) (ih_spec_l92Loop : ∀ m, m < k → spec_l92Loop.CallsAt m) (ih_spec_l92Stmt : ∀ m, m < k → spec_l92Stmt.CallsAt m) (ih_spec_l92Block : ∀ m, m < k → spec_l92Block.CallsAt m) : spec_l92Loop.CallsAt k := by
 intro g s0_0 s0_1 a1 a2 r1 r2 w0 w hI hB h
 cases k with
 | zero => exact absurd h (by simp [spec_l92Loop.f])
 | succ k =>
 simp only [spec_l92Loop.f] at h
 replace h := Option.bind_eq_some_iff.mp h
 obtain ⟨⟨t350, t351⟩, hp, h⟩ := h
 replace h := Option.bind_eq_some_iff.mp h
 obtain ⟨⟨t352, t355⟩, hbk, h⟩ := h
 simp only [spec_l4Leaf.f, spec_l4Both.f, Option.bind_some] at h
 replace h := Option.bind_eq_some_iff.mp h
 obtain ⟨⟨t377, t378⟩, hp2, h⟩ := h
 dsimp only at h hp2 hbk
 by_cases c13 : t352.length + 1 < 1256584717458
 case neg =>
  rw [if_neg (by simpa using c13)] at h
  exact absurd h (by simp)
 rw [if_pos (by simpa using c13)] at h
 have h1 := Option.some.inj h
 injection h1 with h1 h2
 subst h2
 have A4 := am hp
 have A5 := am hbk
 have A10 := am hp2
 have LM := am c13
 have HR := am h1
 have HI := am hI
 have HB := am hB
 have HK := am (KeepBut.refl w g none)
 have HGW := am (IsS91.lt hI)
 clear h1 h hp hbk hp2 c13 hI hB
 go_enter Try.func104, Try.ntmps104
 go_wp2_with (first | ((with_reducible refine gate_callee (f := 41) rfl ?_); refine goesL_ (some 16) rfl rfl Try.func41 (by kernel_rfl) rfl #[.pointer (some ⟨g, 0, none⟩), .int .i64 3] rfl (by (try simp only [List.map_toArray, List.map_cons, List.map_nil]); first | done | rfl) ?_; (with_reducible refine (spec_l6Rd_pick.calls k g s0_0 s0_1 3 t350 t351 w0 _ ?side1 ?side2 A4.out).mono ?_); (case side1 => repeat (first | (with_reducible first | exact HI.out | apply IsS91.drewN | apply IsS91.drew) | exact HI.out)); (case side2 => repeat (first | (with_reducible first | exact HB.out | apply pw_below_drewN | apply below_drew1) | exact HB.out)); rintro e w15 ⟨rfl, hi, hb, hk⟩; refine ⟨_, rfl, ?_⟩; have n0_ := am (KeepBut.trans ab86_ hk (.inl rfl)); clear HK HB HI; have HK := n0_; have HB := am hb; have HI := am hi; have HS15 := am HK.out.1; clear n0_ hb hk hi) | ((with_reducible refine gate_callee (f := 77) rfl ?_); refine goesL_ (some 17) rfl rfl Try.func77 (by kernel_rfl) rfl #[.pointer (some ⟨g, 0, none⟩), .int .i64 a1, .int .i64 (wrap64 (a2 - 1)), .int .i64 t350, .bool false] rfl (by (try simp only [List.map_toArray, List.map_cons, List.map_nil]); first | done | rfl) ?_; (with_reducible refine (ih_spec_l92Block k (by omega) g s0_0 t351 a1 (wrap64 (a2 - 1)) t350 false t352 t355 w0 _ ?side1 ?side2 A5.out).mono ?_); (case side1 => repeat (first | (with_reducible first | exact HI.out | apply IsS91.drewN | apply IsS91.drew) | exact HI.out)); (case side2 => repeat (first | (with_reducible first | exact HB.out | apply pw_below_drewN | apply below_drew1) | exact HB.out)); rintro e w16 ⟨v8, rfl, ho0, hi, hb, hk⟩; refine ⟨_, rfl, ?_⟩; have n0_ := am (KeepBut.trans ab86_ hk (.inl rfl)); have n1_ := am (Kd.N_lower ho0 (by repeat (first | exact HK.out.1 | apply keep_drewN | apply keep_drew))); clear HK HB HI; have HK := n0_; have HB := am hb; have HI := am hi; have H8 := n1_; clear n0_ n1_ hb hk hi ho0) | ((with_reducible refine gate_callee (f := 45) rfl ?_); refine goesL_ (some 20) rfl rfl Try.func45 (by kernel_rfl) rfl #[.int .i64 13, .int .i64 3] rfl (by (try simp only [List.map_toArray, List.map_cons, List.map_nil]); first | done | rfl) ?_; (with_reducible refine (leaf_lit 13 3 _).mono ?_); rintro e w17 ⟨A20, c20, rfl, hb⟩; refine ⟨_, rfl, ?_⟩; have B17 := am hb; clear hb) | ((with_reducible refine gate_callee (f := 45) rfl ?_); refine goesL_ (some 21) rfl rfl Try.func45 (by kernel_rfl) rfl #[.int .i64 0, .int .i64 1] rfl (by (try simp only [List.map_toArray, List.map_cons, List.map_nil]); first | done | rfl) ?_; (with_reducible refine (leaf_lit 0 1 _).mono ?_); rintro e w18 ⟨A21, c21, rfl, hb⟩; refine ⟨_, rfl, ?_⟩; have B18 := am hb; clear hb) | ((with_reducible refine gate_callee (f := 43) rfl ?_); refine goesL_ (some 22) rfl rfl Try.func43 (by kernel_rfl) rfl #[.int .i64 8, .agg #[.int .i64 13, .int .i64 3, .slice A20 0 c20], .agg #[.int .i64 0, .int .i64 1, .slice A21 0 c21]] rfl (by (try simp only [List.map_toArray, List.map_cons, List.map_nil]); first | done | rfl) ?_; (with_reducible refine (both_lit 8 13 3 A20 c20 0 1 A21 c21 _).mono ?_); rintro e w19 ⟨A22, c22, rfl, hn22, hb⟩; refine ⟨_, rfl, ?_⟩; have N22 := am hn22; have B19 := am hb; clear hb hn22) | ((with_reducible refine gate_dst (N := 9) rfl ?_); refine box_event (N := 9) rfl rfl (cs := #[.int .i64 0, .int .i64 0, .int .i64 0, .int .i64 0, .int .i64 0, .slice none 0 0, .slice none 0 0, .slice none 0 0]) (t := 35) rn_ ?_; intro g9 hg w20 hbox hb; have HG9 := am (Nat.le_of_eq hg.symm); have B20 := am hb; have X9 := am hbox; have z9 := blk_frozen hbox 0; have z91 := blk_frozen hbox 1; have z92 := blk_frozen hbox 2; have z93 := blk_frozen hbox 3; have z94 := blk_frozen hbox 4; have z95 := blk_frozen hbox 5; have z96 := blk_frozen hbox 6; have z97 := blk_frozen hbox 7; have y90 := blk_cell hbox 0;  have y91 := blk_cell hbox 1; have y92 := blk_cell hbox 2; have y93 := blk_cell hbox 3; have y94 := blk_cell hbox 4; have y95 := blk_cell hbox 5; have y96 := blk_cell hbox 6; have y97 := blk_cell hbox 7; clear hb hg hbox) | fail)
 have HB9 : Aside0 (Below w16.heap.size w16 w19) := ⟨below_step (below_step B17.out B18.out) B19.out⟩
 have h1619 := HB9.out.size
 have h1920 := B20.out.size
 have h1819 := B19.out.size
 have h1618 := (below_step B17.out B18.out).size
 have h9lt := blk_lt X9.out
 have hg9 := HG9.out
 have hw16 := HK.out.1
 have hgw0 := HGW.out
 have b20 : Below w16.heap.size w16 w20 := below_step HB9.out B20.out
 have HWQ : Aside0 (Below w16.heap.size w16 ((((((((w20.setCell ⟨g9, 0, none⟩ (.int .i64 1)).setCell ⟨g9, 1, none⟩ (.int .i64 3)).setCell ⟨g9, 2, none⟩ (.int .i64 0)).setCell ⟨g9, 3, none⟩ (.int .i64 8)).setCell ⟨g9, 4, none⟩ (.int .i64 0)).setCell ⟨g9, 5, none⟩ (.slice A22 2 c22)).setCell ⟨g9, 6, none⟩ (.slice none 0 0)).setCell ⟨g9, 7, none⟩ (.slice none 0 0))) := ⟨(below_set (j := 7) (v := (.slice none 0 0)) (below_set (j := 6) (v := (.slice none 0 0)) (below_set (j := 5) (v := (.slice A22 2 c22)) (below_set (j := 4) (v := (.int .i64 0)) (below_set (j := 3) (v := (.int .i64 8)) (below_set (j := 2) (v := (.int .i64 0)) (below_set (j := 1) (v := (.int .i64 3)) (below_set (j := 0) (v := (.int .i64 1)) b20 (by omega)) (by omega)) (by omega)) (by omega)) (by omega)) (by omega)) (by omega)) (by omega))⟩
 have X9' : Aside0 (((((((((w20.setCell ⟨g9, 0, none⟩ (.int .i64 1)).setCell ⟨g9, 1, none⟩ (.int .i64 3)).setCell ⟨g9, 2, none⟩ (.int .i64 0)).setCell ⟨g9, 3, none⟩ (.int .i64 8)).setCell ⟨g9, 4, none⟩ (.int .i64 0)).setCell ⟨g9, 5, none⟩ (.slice A22 2 c22)).setCell ⟨g9, 6, none⟩ (.slice none 0 0)).setCell ⟨g9, 7, none⟩ (.slice none 0 0)).heap[g9]? = some (.cells #[(.int .i64 1), (.int .i64 3), (.int .i64 0), (.int .i64 8), (.int .i64 0), (.slice A22 2 c22), (.slice none 0 0), (.slice none 0 0)] 35 (0, 0))) := ⟨(blk_put (cs' := #[(.int .i64 1), (.int .i64 3), (.int .i64 0), (.int .i64 8), (.int .i64 0), (.slice A22 2 c22), (.slice none 0 0), (.slice none 0 0)]) (blk_put (cs' := #[(.int .i64 1), (.int .i64 3), (.int .i64 0), (.int .i64 8), (.int .i64 0), (.slice A22 2 c22), (.slice none 0 0), (.slice none 0 0)]) (blk_put (cs' := #[(.int .i64 1), (.int .i64 3), (.int .i64 0), (.int .i64 8), (.int .i64 0), (.slice A22 2 c22), (.slice none 0 0), (.slice none 0 0)]) (blk_put (cs' := #[(.int .i64 1), (.int .i64 3), (.int .i64 0), (.int .i64 8), (.int .i64 0), (.slice none 0 0), (.slice none 0 0), (.slice none 0 0)]) (blk_put (cs' := #[(.int .i64 1), (.int .i64 3), (.int .i64 0), (.int .i64 8), (.int .i64 0), (.slice none 0 0), (.slice none 0 0), (.slice none 0 0)]) (blk_put (cs' := #[(.int .i64 1), (.int .i64 3), (.int .i64 0), (.int .i64 0), (.int .i64 0), (.slice none 0 0), (.slice none 0 0), (.slice none 0 0)]) (blk_put (cs' := #[(.int .i64 1), (.int .i64 3), (.int .i64 0), (.int .i64 0), (.int .i64 0), (.slice none 0 0), (.slice none 0 0), (.slice none 0 0)]) (blk_put (cs' := #[(.int .i64 1), (.int .i64 0), (.int .i64 0), (.int .i64 0), (.int .i64 0), (.slice none 0 0), (.slice none 0 0), (.slice none 0 0)]) X9.out 0 (.int .i64 1) rfl) 1 (.int .i64 3) rfl) 2 (.int .i64 0) rfl) 3 (.int .i64 8) rfl) 4 (.int .i64 0) rfl) 5 (.slice A22 2 c22) rfl) 6 (.slice none 0 0) rfl) 7 (.slice none 0 0) rfl)⟩
 have N22' : Aside0 (Kd.N k32 32 ((((((((w20.setCell ⟨g9, 0, none⟩ (.int .i64 1)).setCell ⟨g9, 1, none⟩ (.int .i64 3)).setCell ⟨g9, 2, none⟩ (.int .i64 0)).setCell ⟨g9, 3, none⟩ (.int .i64 8)).setCell ⟨g9, 4, none⟩ (.int .i64 0)).setCell ⟨g9, 5, none⟩ (.slice A22 2 c22)).setCell ⟨g9, 6, none⟩ (.slice none 0 0)).setCell ⟨g9, 7, none⟩ (.slice none 0 0)) w18.heap.size (fun k => (w18.heap.size ≤ k ∧ k < w19.heap.size) ∧ k ≠ g9) (.slice A22 2 c22) [⟨13, 3, []⟩, ⟨0, 1, []⟩]) := ⟨(Kd.N_far (p := ⟨g9, 7, none⟩) (Kd.N_far (p := ⟨g9, 6, none⟩) (Kd.N_far (p := ⟨g9, 5, none⟩) (Kd.N_far (p := ⟨g9, 4, none⟩) (Kd.N_far (p := ⟨g9, 3, none⟩) (Kd.N_far (p := ⟨g9, 2, none⟩) (Kd.N_far (p := ⟨g9, 1, none⟩) (Kd.N_far (p := ⟨g9, 0, none⟩) (Kd.N_mono (Kd.N_below (Kd.N_bound N22.out) B20.out) (fun q (hq : w18.heap.size ≤ q ∧ q < w19.heap.size) => (⟨hq, by have := hq.2; omega⟩ : (w18.heap.size ≤ q ∧ q < w19.heap.size) ∧ q ≠ g9))) (fun q hq => hq.2) (.int .i64 1)) (fun q hq => hq.2) (.int .i64 3)) (fun q hq => hq.2) (.int .i64 0)) (fun q hq => hq.2) (.int .i64 8)) (fun q hq => hq.2) (.int .i64 0)) (fun q hq => hq.2) (.slice A22 2 c22)) (fun q hq => hq.2) (.slice none 0 0)) (fun q hq => hq.2) (.slice none 0 0))⟩
 clear y90 y91 y92 y93 y94 y95 y96 y97 z9 z91 z92 z93 z94 z95 z96 z97 X9
 generalize ((((((((w20.setCell ⟨g9, 0, none⟩ (.int .i64 1)).setCell ⟨g9, 1, none⟩ (.int .i64 3)).setCell ⟨g9, 2, none⟩ (.int .i64 0)).setCell ⟨g9, 3, none⟩ (.int .i64 8)).setCell ⟨g9, 4, none⟩ (.int .i64 0)).setCell ⟨g9, 5, none⟩ (.slice A22 2 c22)).setCell ⟨g9, 6, none⟩ (.slice none 0 0)).setCell ⟨g9, 7, none⟩ (.slice none 0 0)) = w27 at HWQ X9' N22' ⊢
 have h27 := HWQ.out.size
 have h27' := blk_lt X9'.out
 refine wp_region_any (by kernel_rfl) ?_
 have B9 := am (blk_drew X9'.out)
 have N22_ := Kd.N_drew N22'.out
 have H8_ := Kd.N_drew (Kd.N_below (Kd.N_mono (Kd.N_bound H8.out) (fun q (hq : w15.heap.size ≤ q ∧ q < w16.heap.size) => (⟨by have := hq.1; have := HS15.out; omega, hq.2⟩ : w.heap.size ≤ q ∧ q < w16.heap.size))) HWQ.out)
 have HI_ := IsS91.drew (HI.out.below HWQ.out)
 have HB_ := below_drew1 (below_step HB.out HWQ.out)
 have HK_ := keep_drew (KeepBut.trans HK.out (KeepBut.of_below HWQ.out g none) (.inl rfl))
 have hsz : w27.drew.heap.size = w27.heap.size := rfl
 show wpAny _ _ _ _ _ _ _ w27.drew
 generalize w27.drew = W0 at B9 N22_ H8_ HI_ HB_ HK_ hsz ⊢
 have N22 : Aside0 (Kd.N k32 32 W0 w18.heap.size (fun k => w16.heap.size ≤ k ∧ k < W0.heap.size) (.slice A22 2 c22) [⟨13, 3, []⟩, ⟨0, 1, []⟩]) := ⟨Kd.N_mono N22_ (fun q hq => ⟨by have := hq.1.1; omega, by have := hq.1.2; omega⟩)⟩
 have H8' := am H8_
 have HI' := am HI_
 have HB' := am HB_
 have HK' := am HK_
 have H24 : Aside0 (w16.heap.size ≤ W0.heap.size) := ⟨by omega⟩
 have HH2 : Aside0 (w.heap.size ≤ w16.heap.size) := ⟨hw16⟩
 have NE9 : Aside0 (g9 ≠ g) := ⟨by omega⟩
 clear N22_ H8_ HI_ HB_ HK_ HI HB HK H8 N22' X9' HWQ b20 HB9 hsz h27 h27' h1619 h1920 h1819 h1618 h9lt hg9 B17 B18 B19 B20 HG9 HS15 hw16 hgw0
 generalize w16.heap.size = h2 at *
 have H8 := H8'
 clear H8'
 refine any_inv (n := 14) (T := spec_l92Loop.T4) rfl (by kernel_rfl) (by decide) (fun b a W => L92 w0 w W0 g g9 h2 s0_0 a1 a2 t350 t355 t377 t378 v8 t352 A20 c20 A21 c21 A22 c22 (b 0) (b 1) (b 2) (b 3) (b 4) (b 5) (b 6) (b 7) (b 8) (b 9) (b 10) (b 11) (b 12) (b 13) a W) ?hstep ?hdone _ _ ?hstart
 case hstart => exact ⟨none, 0, none, 0, none, 0, none, 0, none, 0, 0, rfl, ⟨KeepBut.refl _ _ _, HI'.out, HB'.out, (fun e => Bool.noConfusion e), (fun e => Bool.noConfusion e), (fun e => Bool.noConfusion e), (fun e => Bool.noConfusion e)⟩⟩
 case hstep =>
  intro i b a W hi hbi hneed hcl hI
  have hcase : i = 0 ∨ i = 1 ∨ i = 2 ∨ i = 3 ∨ i = 4 ∨ i = 5 ∨ i = 6 ∨ i = 7 ∨ i = 8 ∨ i = 9 ∨ i = 10 ∨ i = 11 ∨ i = 12 ∨ i = 13 := by omega
  rcases hcase with rfl | rfl | rfl | rfl | rfl | rfl | rfl | rfl | rfl | rfl | rfl | rfl | rfl | rfl
  ·
   have z1 := zz_ (fun h => hcl 1 _ h rfl 0 (by decide)) hbi
   have z3 := zz_ (fun h => hcl 3 _ h rfl 1 (by decide)) z1
   have z4 := zz_ (fun h => hcl 4 _ h rfl 3 (by decide)) z3
   have z5 := zz_ (fun h => hcl 5 _ h rfl 3 (by decide)) z3
   have z6 := zz_ (fun h => hcl 6 _ h rfl 1 (by decide)) z1
   have z10 := zz_ (fun h => hcl 10 _ h rfl 6 (by decide)) z6
   have z11 := zz_ (fun h => hcl 11 _ h rfl 6 (by decide)) z6
   have z13 := zz_ (fun h => hcl 13 _ h rfl 0 (by decide)) hbi
   simp only [hbi, z1, z3, z4, z5, z6, z10, z11, z13] at hI
   obtain ⟨A1, c1, A2, c2, A30, c30, A33, c33, A34, c34, g10, rfl, h⟩ := hI
   have hgw := HGW.out
   have hh2 := HH2.out
   have h24 := H24.out
   refine wpOp_step rfl (fun K' hK' => ?_)
   simp (decide := true) only [if_true, if_false, reduceIte, z1, z3, z4, z5, z6, z10, z11, z13] at hK'
   refine event_step (W := W) (w1 := W) (v := ?_) (by rfl) ?_ ?_
   rotate_left
   ·(try simp only [a92, cond_true, cond_false])
    go_simp
    first | with_reducible rfl | rfl
   refine hK' _ _ (⟨A1, c1, A2, c2, A30, c30, A33, c33, A34, c34, g10, ?_, h⟩)
   show Act.put _ (some 24) _ = _
   simp only [a92, Act.put, List.setIfInBounds_toArray, List.set_cons_zero, List.set_cons_succ, i64_w, i32_w]
   rfl
  ·
   have hn_ := hneed _ rfl
   have n0 := hn_ 0 (by decide)
   have z3 := zz_ (fun h => hcl 3 _ h rfl 1 (by decide)) hbi
   have z4 := zz_ (fun h => hcl 4 _ h rfl 3 (by decide)) z3
   have z5 := zz_ (fun h => hcl 5 _ h rfl 3 (by decide)) z3
   have z6 := zz_ (fun h => hcl 6 _ h rfl 1 (by decide)) hbi
   have z10 := zz_ (fun h => hcl 10 _ h rfl 6 (by decide)) z6
   have z11 := zz_ (fun h => hcl 11 _ h rfl 6 (by decide)) z6
   have z13 := zz_ (fun h => hcl 13 _ h rfl 1 (by decide)) hbi
   simp only [hbi, n0, z3, z4, z5, z6, z10, z11, z13] at hI
   obtain ⟨A1, c1, A2, c2, A30, c30, A33, c33, A34, c34, g10, rfl, h⟩ := hI
   have hgw := HGW.out
   have hh2 := HH2.out
   have h24 := H24.out
   refine wpOp_step rfl (fun K' hK' => ?_)
   simp (decide := true) only [if_true, if_false, reduceIte, n0, z3, z4, z5, z6, z10, z11, z13] at hK'
   refine goes_ Try.func45 (by kernel_rfl) rfl #[.int .i64 13, .int .i64 3] (by rfl) rfl rfl (by (try simp only [List.map_toArray, List.map_cons, List.map_nil]); first | done | rfl) ?_
   refine (leaf_lit 13 3 _).mono ?_
   rintro e W' ⟨A, c, rfl, hb⟩
   refine ⟨_, rfl, hK' _ _ (⟨A, c, A2, c2, A30, c30, A33, c33, A34, c34, g10, ?_, h.ext hb⟩)⟩
   show Act.put _ (some 25) _ = _
   simp only [a92, Act.put, List.setIfInBounds_toArray, List.set_cons_zero, List.set_cons_succ]
   rfl
  ·
   have z3 := zz_ (fun h => hcl 3 _ h rfl 2 (by decide)) hbi
   have z4 := zz_ (fun h => hcl 4 _ h rfl 3 (by decide)) z3
   have z5 := zz_ (fun h => hcl 5 _ h rfl 3 (by decide)) z3
   have z6 := zz_ (fun h => hcl 6 _ h rfl 5 (by decide)) z5
   have z10 := zz_ (fun h => hcl 10 _ h rfl 6 (by decide)) z6
   have z11 := zz_ (fun h => hcl 11 _ h rfl 6 (by decide)) z6
   have z13 := zz_ (fun h => hcl 13 _ h rfl 2 (by decide)) hbi
   simp only [hbi, z3, z4, z5, z6, z10, z11, z13] at hI
   obtain ⟨A1, c1, A2, c2, A30, c30, A33, c33, A34, c34, g10, rfl, h⟩ := hI
   have hgw := HGW.out
   have hh2 := HH2.out
   have h24 := H24.out
   refine wpOp_step rfl (fun K' hK' => ?_)
   simp (decide := true) only [if_true, if_false, reduceIte, z3, z4, z5, z6, z10, z11, z13] at hK'
   refine event_step (W := W) (w1 := W) (v := ?_) (by rfl) ?_ ?_
   rotate_left
   ·(try simp only [a92, cond_true, cond_false])
    go_simp
    first | with_reducible rfl | rfl
   refine hK' _ _ (⟨A1, c1, A2, c2, A30, c30, A33, c33, A34, c34, g10, ?_, h⟩)
   show Act.put _ (some 26) _ = _
   simp only [a92, Act.put, List.setIfInBounds_toArray, List.set_cons_zero, List.set_cons_succ, i64_w, i32_w]
   rfl
  ·
   have hn_ := hneed _ rfl
   have n1 := hn_ 1 (by decide)
   have n2 := hn_ 2 (by decide)
   have z4 := zz_ (fun h => hcl 4 _ h rfl 3 (by decide)) hbi
   have z5 := zz_ (fun h => hcl 5 _ h rfl 3 (by decide)) hbi
   have z6 := zz_ (fun h => hcl 6 _ h rfl 5 (by decide)) z5
   have z10 := zz_ (fun h => hcl 10 _ h rfl 6 (by decide)) z6
   have z11 := zz_ (fun h => hcl 11 _ h rfl 6 (by decide)) z6
   have z13 := zz_ (fun h => hcl 13 _ h rfl 3 (by decide)) hbi
   simp only [hbi, n1, n2, z4, z5, z6, z10, z11, z13] at hI
   obtain ⟨A1, c1, A2, c2, A30, c30, A33, c33, A34, c34, g10, rfl, h⟩ := hI
   have hgw := HGW.out
   have hh2 := HH2.out
   have h24 := H24.out
   refine wpOp_step rfl (fun K' hK' => ?_)
   simp (decide := true) only [if_true, if_false, reduceIte, n1, n2, z4, z5, z6, z10, z11, z13] at hK'
   refine goes_ Try.func41 (by kernel_rfl) rfl #[.pointer (some ⟨g, 0, none⟩), .int .i64 3] (by rfl) rfl rfl (by (try simp only [List.map_toArray, List.map_cons, List.map_nil]); first | done | rfl) ?_
   refine (spec_l6Rd_pick.calls k g s0_0 t355 3 t377 t378 w0 _ h.hI h.hB A10.out).mono ?_
   rintro e W' ⟨rfl, hi, hb, hk⟩
   have hlt := h.hK.1
   refine ⟨_, rfl, hK' _ _ (⟨A1, c1, A2, c2, A30, c30, A33, c33, A34, c34, g10, ?_, ⟨h.hK.trans hk ?_, hi, hb, fun e => Kd.N_keep (h.h30 e) hk (fun q hq => ?_), fun e => Kd.N_keep (h.h33 e) hk (fun q hq => ?_), fun e => Kd.N_keep (h.h34 e) hk (fun q hq => ?_), fun e => ⟨(h.h10 e).1, hk.blk (h.h10 e).2 ?_ (by simp)⟩⟩⟩)⟩
   ·show Act.put _ (some 27) _ = _
    simp only [a92, Act.put, List.setIfInBounds_toArray, List.set_cons_zero, List.set_cons_succ]
    rfl
   ·exact .inl rfl
   ·have := hq.1; omega
   ·have := hq.1; omega
   ·have := hq.1; omega
   ·have := (h.h10 e).1; omega
  ·
   have hn_ := hneed _ rfl
   have n3 := hn_ 3 (by decide)
   have z5 := zz_ (fun h => hcl 5 _ h rfl 4 (by decide)) hbi
   have z6 := zz_ (fun h => hcl 6 _ h rfl 5 (by decide)) z5
   have z10 := zz_ (fun h => hcl 10 _ h rfl 6 (by decide)) z6
   have z11 := zz_ (fun h => hcl 11 _ h rfl 6 (by decide)) z6
   have z13 := zz_ (fun h => hcl 13 _ h rfl 4 (by decide)) hbi
   simp only [hbi, n3, z5, z6, z10, z11, z13] at hI
   obtain ⟨A1, c1, A2, c2, A30, c30, A33, c33, A34, c34, g10, rfl, h⟩ := hI
   have hgw := HGW.out
   have hh2 := HH2.out
   have h24 := H24.out
   refine wpOp_step rfl (fun K' hK' => ?_)
   simp (decide := true) only [if_true, if_false, reduceIte, n3, z5, z6, z10, z11, z13] at hK'
   refine event_step (W := W) (w1 := W) (v := ?_) (by rfl) ?_ ?_
   rotate_left
   ·(try simp only [a92, cond_true, cond_false])
    go_simp
    first | with_reducible rfl | rfl
   refine hK' _ _ (⟨A1, c1, A2, c2, A30, c30, A33, c33, A34, c34, g10, ?_, h⟩)
   show Act.put _ (some 28) _ = _
   simp only [a92, Act.put, List.setIfInBounds_toArray, List.set_cons_zero, List.set_cons_succ, i64_w, i32_w]
   rfl
  ·
   have hn_ := hneed _ rfl
   have n3 := hn_ 3 (by decide)
   have n4 := hn_ 4 (by decide)
   have z6 := zz_ (fun h => hcl 6 _ h rfl 5 (by decide)) hbi
   have z10 := zz_ (fun h => hcl 10 _ h rfl 6 (by decide)) z6
   have z11 := zz_ (fun h => hcl 11 _ h rfl 6 (by decide)) z6
   have z13 := zz_ (fun h => hcl 13 _ h rfl 5 (by decide)) hbi
   simp only [hbi, n3, n4, z6, z10, z11, z13] at hI
   obtain ⟨A1, c1, A2, c2, A30, c30, A33, c33, A34, c34, g10, rfl, h⟩ := hI
   have hgw := HGW.out
   have hh2 := HH2.out
   have h24 := H24.out
   refine wpOp_step rfl (fun K' hK' => ?_)
   simp (decide := true) only [if_true, if_false, reduceIte, n3, n4, z6, z10, z11, z13] at hK'
   refine goes_ Try.func45 (by kernel_rfl) rfl #[.int .i64 0, .int .i64 (wrap64 (1 + t377))] (by rfl) rfl rfl (by (try simp only [List.map_toArray, List.map_cons, List.map_nil]); first | done | rfl) ?_
   refine (leaf_lit 0 (wrap64 (1 + t377)) _).mono ?_
   rintro e W' ⟨A, c, rfl, hb⟩
   refine ⟨_, rfl, hK' _ _ (⟨A1, c1, A, c, A30, c30, A33, c33, A34, c34, g10, ?_, h.ext hb⟩)⟩
   show Act.put _ (some 29) _ = _
   simp only [a92, Act.put, List.setIfInBounds_toArray, List.set_cons_zero, List.set_cons_succ]
   rfl
  ·
   have hn_ := hneed _ rfl
   have n1 := hn_ 1 (by decide)
   have n5 := hn_ 5 (by decide)
   have z10 := zz_ (fun h => hcl 10 _ h rfl 6 (by decide)) hbi
   have z11 := zz_ (fun h => hcl 11 _ h rfl 6 (by decide)) hbi
   have z13 := zz_ (fun h => hcl 13 _ h rfl 6 (by decide)) hbi
   simp only [hbi, n1, n5, z10, z11, z13] at hI
   obtain ⟨A1, c1, A2, c2, A30, c30, A33, c33, A34, c34, g10, rfl, h⟩ := hI
   have hgw := HGW.out
   have hh2 := HH2.out
   have h24 := H24.out
   refine wpOp_step rfl (fun K' hK' => ?_)
   simp (decide := true) only [if_true, if_false, reduceIte, n1, n5, z10, z11, z13] at hK'
   refine goes_ Try.func43 (by kernel_rfl) rfl #[.int .i64 5, (.agg #[.int .i64 13, .int .i64 3, .slice A1 0 c1]), (.agg #[.int .i64 0, .int .i64 (wrap64 (1 + t377)), .slice A2 0 c2])] (by rfl) rfl rfl (by (try simp only [List.map_toArray, List.map_cons, List.map_nil]); first | done | rfl) ?_
   refine (both_lit 5 13 3 A1 c1 0 (wrap64 (1 + t377)) A2 c2 _).mono ?_
   rintro e W' ⟨A, c, rfl, hn, hb⟩
   have hlt := h.hK.1
   have h' := h.ext hb
   refine ⟨_, rfl, hK' _ _ (⟨A1, c1, A2, c2, A, c, A33, c33, A34, c34, g10, ?_, ⟨h'.hK, h'.hI, h'.hB, fun _ => Kd.N_mono (Kd.N_lower hn hlt) (fun q hq => ⟨Nat.le_trans hlt hq, fun e => ?_⟩), h'.h33, (fun e => Bool.noConfusion e), fun e => ⟨(h'.h10 e).1, (h'.h10 e).2⟩⟩⟩)⟩
   ·show Act.put _ (some 30) _ = _
    simp only [a92, Act.put, List.setIfInBounds_toArray, List.set_cons_zero, List.set_cons_succ]
    rfl
   ·have := blk_lt (h.h10 e).2; omega
  ·
   have z10 := zz_ (fun h => hcl 10 _ h rfl 7 (by decide)) hbi
   have z11 := zz_ (fun h => hcl 11 _ h rfl 10 (by decide)) z10
   have z13 := zz_ (fun h => hcl 13 _ h rfl 7 (by decide)) hbi
   simp only [hbi, z10, z11, z13] at hI
   obtain ⟨A1, c1, A2, c2, A30, c30, A33, c33, A34, c34, g10, rfl, h⟩ := hI
   have hgw := HGW.out
   have hh2 := HH2.out
   have h24 := H24.out
   refine wpOp_step rfl (fun K' hK' => ?_)
   simp (decide := true) only [if_true, if_false, reduceIte, z10, z11, z13] at hK'
   refine event_step (W := W) (w1 := W) (v := ?_) (by rfl) ?_ ?_
   rotate_left
   ·(try simp only [a92, cond_true, cond_false])
    go_simp
    first | with_reducible rfl | rfl
   refine hK' _ _ (⟨A1, c1, A2, c2, A30, c30, A33, c33, A34, c34, g10, ?_, h⟩)
   show Act.put _ (some 31) _ = _
   simp only [a92, Act.put, List.setIfInBounds_toArray, List.set_cons_zero, List.set_cons_succ, i64_w, i32_w]
   rfl
  ·
   have z9 := zz_ (fun h => hcl 9 _ h rfl 8 (by decide)) hbi
   have z10 := zz_ (fun h => hcl 10 _ h rfl 9 (by decide)) z9
   have z11 := zz_ (fun h => hcl 11 _ h rfl 10 (by decide)) z10
   have z13 := zz_ (fun h => hcl 13 _ h rfl 8 (by decide)) hbi
   simp only [hbi, z9, z10, z11, z13] at hI
   obtain ⟨A1, c1, A2, c2, A30, c30, A33, c33, A34, c34, g10, rfl, h⟩ := hI
   have hgw := HGW.out
   have hh2 := HH2.out
   have h24 := H24.out
   refine wpOp_step rfl (fun K' hK' => ?_)
   simp (decide := true) only [if_true, if_false, reduceIte, z9, z10, z11, z13] at hK'
   have h9 := h.hK.blk B9.out NE9.out (by simp)
   have q0 : W.cell? ⟨g9, 0, none⟩ = some (.int .i64 1) := blk_cell h9 0
   have q1 : W.cell? ⟨g9, 1, none⟩ = some (.int .i64 3) := blk_cell h9 1
   have q2 : W.cell? ⟨g9, 2, none⟩ = some (.int .i64 0) := blk_cell h9 2
   have q3 : W.cell? ⟨g9, 3, none⟩ = some (.int .i64 8) := blk_cell h9 3
   have q4 : W.cell? ⟨g9, 4, none⟩ = some (.int .i64 0) := blk_cell h9 4
   have q5 : W.cell? ⟨g9, 5, none⟩ = some (.slice A22 2 c22) := blk_cell h9 5
   have q6 : W.cell? ⟨g9, 6, none⟩ = some (.slice none 0 0) := blk_cell h9 6
   have q7 : W.cell? ⟨g9, 7, none⟩ = some (.slice none 0 0) := blk_cell h9 7
   refine event_step (W := W) (w1 := W) (v := ?_) (by rfl) ?_ ?_
   rotate_left
   ·(try simp only [a92, cond_true, cond_false])
    go_simp
    first | with_reducible rfl | rfl
   refine hK' _ _ (⟨A1, c1, A2, c2, A30, c30, A33, c33, A34, c34, g10, ?_, h⟩)
   show Act.put _ (some 32) _ = _
   simp only [a92, Act.put, List.setIfInBounds_toArray, List.set_cons_zero, List.set_cons_succ, i64_w, i32_w]
   rfl
  ·
   have hn_ := hneed _ rfl
   have n8 := hn_ 8 (by decide)
   have z10 := zz_ (fun h => hcl 10 _ h rfl 9 (by decide)) hbi
   have z11 := zz_ (fun h => hcl 11 _ h rfl 10 (by decide)) z10
   have z13 := zz_ (fun h => hcl 13 _ h rfl 9 (by decide)) hbi
   simp only [hbi, n8, z10, z11, z13] at hI
   obtain ⟨A1, c1, A2, c2, A30, c30, A33, c33, A34, c34, g10, rfl, h⟩ := hI
   have hgw := HGW.out
   have hh2 := HH2.out
   have h24 := H24.out
   refine wpOp_step rfl (fun K' hK' => ?_)
   simp (decide := true) only [if_true, if_false, reduceIte, n8, z10, z11, z13] at hK'
   have hlt := h.hK.1
   have hn22 := Kd.N_keep N22.out (show KeepBut W0 W g none from h.hK) (fun q hq => by have := hq.1; omega)
   refine Kd.N_lit_step k35 W.heap.size 35 ?hg (N' := 33) ?hd (w0 := W) (xs := [(⟨1, 3, 0, ⟨8, 0, [⟨13, 3, []⟩, ⟨0, 1, []⟩]⟩, [], []⟩ : S35)]) (inner := [.int .i64 1, .int .i64 3, .int .i64 0, .int .i64 8, .int .i64 0, .slice A22 2 c22, .slice none 0 0, .slice none 0 0]) (ok := fun k => h2 ≤ k ∧ (b 12 = true → k ≠ g10)) (okp := fun k => h2 ≤ k ∧ k < W0.heap.size) ?hr ?hp ?ho ?hf (Below.refl _ _) (Nat.le_refl _) (by simp) ?_
   case hd => rfl
   case hg => rfl
   case hr => (try simp only [a92, cond_true, cond_false]); first | (go_simp; done) | (go_simp; rfl)
   case hp => exact Reps.c8 (show Kd.FK k35 _ _ ((⟨1, 3, 0, ⟨8, 0, [⟨13, 3, []⟩, ⟨0, 1, []⟩]⟩, [], []⟩ : S35) : S35) [.int .i64 1, .int .i64 3, .int .i64 0, .int .i64 8, .int .i64 0, .slice A22 2 c22, .slice none 0 0, .slice none 0 0] from k35_mkF _ _ ((⟨1, 3, 0, ⟨8, 0, [⟨13, 3, []⟩, ⟨0, 1, []⟩]⟩, [], []⟩ : S35) : S35) (Kd.N_reads' hn22).2.1 (Kd.N_F hn22) (Nat.le_refl _) (Kd.F_nil _ _ _) (Nat.le_refl _) (Kd.F_nil _ _ _)) (Reps.none _ _)
   case ho => exact fun q hq => ⟨hq.1, fun e => by have := (h.h10 e).1; omega⟩
   case hf => exact ⟨by have := H24.out; omega, fun e => by have := blk_lt (h.h10 e).2; omega⟩
   intro v1 W' hn hb _ _
   obtain ⟨A, c, rfl⟩ := Kd.N_slice hn
   have h' := h.ext hb
   refine hK' _ _ (⟨A1, c1, A2, c2, A30, c30, A, c, A34, c34, g10, ?_, ⟨h'.hK, h'.hI, h'.hB, h'.h30, fun _ => Kd.N_lower hn (by have := H24.out; omega), h'.h34, h'.h10⟩⟩)
   show Act.put _ (some 33) _ = _
   simp only [a92, Act.put, List.setIfInBounds_toArray, List.set_cons_zero, List.set_cons_succ]
   rfl
  ·
   have hn_ := hneed _ rfl
   have n6 := hn_ 6 (by decide)
   have n7 := hn_ 7 (by decide)
   have n9 := hn_ 9 (by decide)
   have z11 := zz_ (fun h => hcl 11 _ h rfl 10 (by decide)) hbi
   have z13 := zz_ (fun h => hcl 13 _ h rfl 10 (by decide)) hbi
   simp only [hbi, n6, n7, n9, z11, z13] at hI
   obtain ⟨A1, c1, A2, c2, A30, c30, A33, c33, A34, c34, g10, rfl, h⟩ := hI
   have hgw := HGW.out
   have hh2 := HH2.out
   have h24 := H24.out
   refine wpOp_step rfl (fun K' hK' => ?_)
   simp (decide := true) only [if_true, if_false, reduceIte, n6, n7, n9, z11, z13] at hK'
   have hlt := h.hK.1
   have hK0 : KeepBut W0 W g none := h.hK
   have h8 := Kd.N_keep H8.out hK0 (fun q hq => by have := hq.1; omega)
   have hn33 := h.h33 rfl
   have own8 : ∀ q, v8.ownBlock = some q → w.heap.size ≤ q ∧ q < h2 := fun q hq => H8.out.1 q hq
   refine Kd.N_append_rows_step k35 (w0 := W) w.heap.size (by rfl) (.tmp 31) (.tmp 33) 23 35 (.agg #[.int .i64 0, .int .i64 0, .int .i64 0, .int .i64 0, .int .i64 0, .slice none 0 0, .slice none 0 0, .slice none 0 0]) 112 rfl Try.underlying23 info35 rfl (by decide) (by omega) v8 t352 [(⟨1, 3, 0, ⟨8, 0, [⟨13, 3, []⟩, ⟨0, 1, []⟩]⟩, [], []⟩ : S35)] A33 1 c33 (fun k => w.heap.size ≤ k ∧ (b 12 = true → k ≠ g10)) (fun k => h2 ≤ k ∧ (b 12 = true → k ≠ g10)) rfl rfl (Kd.N_mono h8 ?aO) (Kd.N_F hn33) ?aK ?aF ?aB ?aS ?aL ?_
   case aO => exact fun q hq => ⟨hq.1, fun e => by have := (h.h10 e).1; have := hq.2; have := H24.out; omega⟩
   case aK => exact fun q hq => ⟨⟨by have := HH2.out; have := hq.1; omega, hq.2⟩, fun e => by have := (own8 q e.symm).2; have := hq.1; omega⟩
   case aF => exact fun q hq => ⟨by have := HH2.out; have := H24.out; omega, fun e => by have := blk_lt (h.h10 e).2; omega⟩
   case aB => exact Below.refl _ _
   case aS => have := HH2.out; have := H24.out; omega
   case aL => have := LM.out; omega
   intro v1 W' hn hb hg hat
   obtain ⟨A, c, rfl⟩ := Kd.N_slice hn
   have ne : ∀ q, h2 ≤ q → some q ≠ v8.ownBlock := fun q hq e => by have := (own8 q e.symm).2; omega
   have neg : some g ≠ v8.ownBlock := fun e => by have := (own8 g e.symm).1; omega
   refine hK' _ _ (⟨A1, c1, A2, c2, A30, c30, A33, c33, A, c, g10, ?_, ⟨KeepBut.trans (row := v8.ownBlock) ⟨hK0.1, fun q hq hq2 _ => hK0.2 q hq hq2 (by simp)⟩ (KeepBut.of_grown hg g) (.inl rfl), h.hI.grown hg neg, below_weaken h.hB (Nat.le_of_lt (Nat.lt_of_le_of_lt h.hI.ge hgw)) hb, fun e => Kd.N_step (h.h30 e) (fun q hq hl => hg.block q hl (ne q (by have := hq.1; omega))), fun _ => Kd.N_step hn33 (fun q hq hl => hg.block q hl (ne q hq.1)), fun _ => hn, fun e => ⟨(h.h10 e).1, blk_grown (h.h10 e).2 hg (ne _ (by have := (h.h10 e).1; have := H24.out; omega))⟩⟩⟩)
   show Act.put _ (some 34) _ = _
   simp only [a92, Act.put, List.setIfInBounds_toArray, List.set_cons_zero, List.set_cons_succ]
   rfl
  ·
   have hn_ := hneed _ rfl
   have n6 := hn_ 6 (by decide)
   have n10 := hn_ 10 (by decide)
   have z13 := zz_ (fun h => hcl 13 _ h rfl 11 (by decide)) hbi
   simp only [hbi, n6, n10, z13] at hI
   obtain ⟨A1, c1, A2, c2, A30, c30, A33, c33, A34, c34, g10, rfl, h⟩ := hI
   have hgw := HGW.out
   have hh2 := HH2.out
   have h24 := H24.out
   refine wpOp_step rfl (fun K' hK' => ?_)
   simp (decide := true) only [if_true, if_false, reduceIte, n6, n10, z13] at hK'
   refine event_step (W := W) (w1 := W) (v := .agg #[.int .i64 3, .int .i64 0, .int .i64 0, .int .i64 5, .int .i64 0, .slice A30 2 c30, .slice A34 (t352 ++ [(⟨1, 3, 0, ⟨8, 0, [⟨13, 3, []⟩, ⟨0, 1, []⟩]⟩, [], []⟩ : S35)]).length c34, .slice none 0 0]) (by rfl) ?_ ?_
   ·(try simp only [a92, cond_true, cond_false])
    go_simp
    (try rfl)
   refine hK' _ _ (⟨A1, c1, A2, c2, A30, c30, A33, c33, A34, c34, g10, ?_, h⟩)
   show Act.put _ (some 35) _ = _
   simp only [a92, Act.put, List.setIfInBounds_toArray, List.set_cons_zero, List.set_cons_succ, i64_w, i32_w]
   rfl
  ·
   have z13 := zz_ (fun h => hcl 13 _ h rfl 12 (by decide)) hbi
   simp only [hbi, z13] at hI
   obtain ⟨A1, c1, A2, c2, A30, c30, A33, c33, A34, c34, g10, rfl, h⟩ := hI
   have hgw := HGW.out
   have hh2 := HH2.out
   have h24 := H24.out
   refine wpOp_step rfl (fun K' hK' => ?_)
   simp (decide := true) only [if_true, if_false, reduceIte, z13] at hK'
   refine box_step ?hg (N := 10) ?hd (cs := #[.int .i64 0, .int .i64 0, .int .i64 0, .int .i64 0, .int .i64 0, .slice none 0 0, .slice none 0 0, .slice none 0 0]) (t := 35) ?hr ?_
   case hd => rfl
   case hg => rfl
   case hr => (try simp only [a92, cond_true, cond_false]); first | (go_simp; done) | (go_simp; rfl)
   intro gb hgb W' hbox hb
   have hlt := h.hK.1
   have h' := h.ext hb
   refine hK' _ _ (⟨A1, c1, A2, c2, A30, c30, A33, c33, A34, c34, gb, ?_, ⟨h'.hK, h'.hI, h'.hB, fun e => Kd.N_mono (Kd.N_below (Kd.N_bound (h.h30 e)) hb) (fun q hq => ⟨hq.1.1, fun _ => by have := hq.2; omega⟩), fun e => Kd.N_mono (Kd.N_below (Kd.N_bound (h.h33 e)) hb) (fun q hq => ⟨hq.1.1, fun _ => by have := hq.2; omega⟩), fun e => Kd.N_mono (Kd.N_below (Kd.N_bound (h.h34 e)) hb) (fun q hq => ⟨hq.1.1, fun _ => by have := hq.2; omega⟩), fun _ => ⟨by omega, hbox⟩⟩⟩)
   show Act.put _ (some 10) _ = _
   simp only [a92, Act.put, List.setIfInBounds_toArray, List.set_cons_zero, List.set_cons_succ]
   rfl
  ·
   have hn_ := hneed _ rfl
   have n0 := hn_ 0 (by decide)
   have n1 := hn_ 1 (by decide)
   have n2 := hn_ 2 (by decide)
   have n3 := hn_ 3 (by decide)
   have n4 := hn_ 4 (by decide)
   have n5 := hn_ 5 (by decide)
   have n6 := hn_ 6 (by decide)
   have n7 := hn_ 7 (by decide)
   have n8 := hn_ 8 (by decide)
   have n9 := hn_ 9 (by decide)
   have n10 := hn_ 10 (by decide)
   have n11 := hn_ 11 (by decide)
   have n12 := hn_ 12 (by decide)
   simp only [hbi, n0, n1, n2, n3, n4, n5, n6, n7, n8, n9, n10, n11, n12] at hI
   obtain ⟨A1, c1, A2, c2, A30, c30, A33, c33, A34, c34, g10, rfl, h⟩ := hI
   have hgw := HGW.out
   have hh2 := HH2.out
   have h24 := H24.out
   refine wpOp_step rfl (fun K' hK' => ?_)
   simp (decide := true) only [if_true, if_false, reduceIte, n0, n1, n2, n3, n4, n5, n6, n7, n8, n9, n10, n11, n12] at hK'
   obtain ⟨hg10, hbx⟩ := h.h10 rfl
   replace hbx : W.heap[g10]? = some (.cells #[.int .i64 0, .int .i64 0, .int .i64 0, .int .i64 0, .int .i64 0, .slice none 0 0, .slice none 0 0, .slice none 0 0] 35 (0, 0)) := hbx
   have hlt := h.hK.1
   have q0 : W.cell? ⟨g10, 0, none⟩ = some (.int .i64 0) := blk_cell hbx 0
   have f0 := blk_frozen hbx 0
   have q1 : W.cell? ⟨g10, 1, none⟩ = some (.int .i64 0) := blk_cell hbx 1
   have f1 := blk_frozen hbx 1
   have q2 : W.cell? ⟨g10, 2, none⟩ = some (.int .i64 0) := blk_cell hbx 2
   have f2 := blk_frozen hbx 2
   have q3 : W.cell? ⟨g10, 3, none⟩ = some (.int .i64 0) := blk_cell hbx 3
   have f3 := blk_frozen hbx 3
   have q4 : W.cell? ⟨g10, 4, none⟩ = some (.int .i64 0) := blk_cell hbx 4
   have f4 := blk_frozen hbx 4
   have q5 : W.cell? ⟨g10, 5, none⟩ = some (.slice none 0 0) := blk_cell hbx 5
   have f5 := blk_frozen hbx 5
   have q6 : W.cell? ⟨g10, 6, none⟩ = some (.slice none 0 0) := blk_cell hbx 6
   have f6 := blk_frozen hbx 6
   have q7 : W.cell? ⟨g10, 7, none⟩ = some (.slice none 0 0) := blk_cell hbx 7
   have f7 := blk_frozen hbx 7
   refine skip_ (w1 := ((((((((W.setCell ⟨g10, 0, none⟩ (.int .i64 3)).setCell ⟨g10, 1, none⟩ (.int .i64 0)).setCell ⟨g10, 2, none⟩ (.int .i64 0)).setCell ⟨g10, 3, none⟩ (.int .i64 5)).setCell ⟨g10, 4, none⟩ (.int .i64 0)).setCell ⟨g10, 5, none⟩ (.slice A30 2 c30)).setCell ⟨g10, 6, none⟩ (.slice A34 (t352 ++ [(⟨1, 3, 0, ⟨8, 0, [⟨13, 3, []⟩, ⟨0, 1, []⟩]⟩, [], []⟩ : S35)]).length c34)).setCell ⟨g10, 7, none⟩ (.slice none 0 0))) (by rfl) rfl ?_ ?_
   ·(try simp only [a92, cond_true, cond_false])
    go_simp
    (try rfl)
   have ng : g ≠ g10 := by omega
   have hb0 : w0.heap.size ≤ g10 := Nat.le_trans h.hI.ge (by omega)
   refine hK' _ _ (⟨A1, c1, A2, c2, A30, c30, A33, c33, A34, c34, g10, rfl, ⟨(keep_far (p := ⟨g10, 7, none⟩) (keep_far (p := ⟨g10, 6, none⟩) (keep_far (p := ⟨g10, 5, none⟩) (keep_far (p := ⟨g10, 4, none⟩) (keep_far (p := ⟨g10, 3, none⟩) (keep_far (p := ⟨g10, 2, none⟩) (keep_far (p := ⟨g10, 1, none⟩) (keep_far (p := ⟨g10, 0, none⟩) h.hK hg10 (.int .i64 3)) hg10 (.int .i64 0)) hg10 (.int .i64 0)) hg10 (.int .i64 5)) hg10 (.int .i64 0)) hg10 (.slice A30 2 c30)) hg10 (.slice A34 (t352 ++ [(⟨1, 3, 0, ⟨8, 0, [⟨13, 3, []⟩, ⟨0, 1, []⟩]⟩, [], []⟩ : S35)]).length c34)) hg10 (.slice none 0 0)), (IsS91.far (p := ⟨g10, 7, none⟩) (IsS91.far (p := ⟨g10, 6, none⟩) (IsS91.far (p := ⟨g10, 5, none⟩) (IsS91.far (p := ⟨g10, 4, none⟩) (IsS91.far (p := ⟨g10, 3, none⟩) (IsS91.far (p := ⟨g10, 2, none⟩) (IsS91.far (p := ⟨g10, 1, none⟩) (IsS91.far (p := ⟨g10, 0, none⟩) h.hI ng (.int .i64 3)) ng (.int .i64 0)) ng (.int .i64 0)) ng (.int .i64 5)) ng (.int .i64 0)) ng (.slice A30 2 c30)) ng (.slice A34 (t352 ++ [(⟨1, 3, 0, ⟨8, 0, [⟨13, 3, []⟩, ⟨0, 1, []⟩]⟩, [], []⟩ : S35)]).length c34)) ng (.slice none 0 0)), (below_set (j := 7) (v := (.slice none 0 0)) (below_set (j := 6) (v := (.slice A34 (t352 ++ [(⟨1, 3, 0, ⟨8, 0, [⟨13, 3, []⟩, ⟨0, 1, []⟩]⟩, [], []⟩ : S35)]).length c34)) (below_set (j := 5) (v := (.slice A30 2 c30)) (below_set (j := 4) (v := (.int .i64 0)) (below_set (j := 3) (v := (.int .i64 5)) (below_set (j := 2) (v := (.int .i64 0)) (below_set (j := 1) (v := (.int .i64 0)) (below_set (j := 0) (v := (.int .i64 3)) h.hB hb0) hb0) hb0) hb0) hb0) hb0) hb0) hb0), fun e => (Kd.N_far (p := ⟨g10, 7, none⟩) (Kd.N_far (p := ⟨g10, 6, none⟩) (Kd.N_far (p := ⟨g10, 5, none⟩) (Kd.N_far (p := ⟨g10, 4, none⟩) (Kd.N_far (p := ⟨g10, 3, none⟩) (Kd.N_far (p := ⟨g10, 2, none⟩) (Kd.N_far (p := ⟨g10, 1, none⟩) (Kd.N_far (p := ⟨g10, 0, none⟩) (h.h30 rfl) (fun q hq => hq.2 rfl) (.int .i64 3)) (fun q hq => hq.2 rfl) (.int .i64 0)) (fun q hq => hq.2 rfl) (.int .i64 0)) (fun q hq => hq.2 rfl) (.int .i64 5)) (fun q hq => hq.2 rfl) (.int .i64 0)) (fun q hq => hq.2 rfl) (.slice A30 2 c30)) (fun q hq => hq.2 rfl) (.slice A34 (t352 ++ [(⟨1, 3, 0, ⟨8, 0, [⟨13, 3, []⟩, ⟨0, 1, []⟩]⟩, [], []⟩ : S35)]).length c34)) (fun q hq => hq.2 rfl) (.slice none 0 0)), fun e => (Kd.N_far (p := ⟨g10, 7, none⟩) (Kd.N_far (p := ⟨g10, 6, none⟩) (Kd.N_far (p := ⟨g10, 5, none⟩) (Kd.N_far (p := ⟨g10, 4, none⟩) (Kd.N_far (p := ⟨g10, 3, none⟩) (Kd.N_far (p := ⟨g10, 2, none⟩) (Kd.N_far (p := ⟨g10, 1, none⟩) (Kd.N_far (p := ⟨g10, 0, none⟩) (h.h33 rfl) (fun q hq => hq.2 rfl) (.int .i64 3)) (fun q hq => hq.2 rfl) (.int .i64 0)) (fun q hq => hq.2 rfl) (.int .i64 0)) (fun q hq => hq.2 rfl) (.int .i64 5)) (fun q hq => hq.2 rfl) (.int .i64 0)) (fun q hq => hq.2 rfl) (.slice A30 2 c30)) (fun q hq => hq.2 rfl) (.slice A34 (t352 ++ [(⟨1, 3, 0, ⟨8, 0, [⟨13, 3, []⟩, ⟨0, 1, []⟩]⟩, [], []⟩ : S35)]).length c34)) (fun q hq => hq.2 rfl) (.slice none 0 0)), fun e => (Kd.N_far (p := ⟨g10, 7, none⟩) (Kd.N_far (p := ⟨g10, 6, none⟩) (Kd.N_far (p := ⟨g10, 5, none⟩) (Kd.N_far (p := ⟨g10, 4, none⟩) (Kd.N_far (p := ⟨g10, 3, none⟩) (Kd.N_far (p := ⟨g10, 2, none⟩) (Kd.N_far (p := ⟨g10, 1, none⟩) (Kd.N_far (p := ⟨g10, 0, none⟩) (h.h34 rfl) (fun q hq => hq.2 rfl) (.int .i64 3)) (fun q hq => hq.2 rfl) (.int .i64 0)) (fun q hq => hq.2 rfl) (.int .i64 0)) (fun q hq => hq.2 rfl) (.int .i64 5)) (fun q hq => hq.2 rfl) (.int .i64 0)) (fun q hq => hq.2 rfl) (.slice A30 2 c30)) (fun q hq => hq.2 rfl) (.slice A34 (t352 ++ [(⟨1, 3, 0, ⟨8, 0, [⟨13, 3, []⟩, ⟨0, 1, []⟩]⟩, [], []⟩ : S35)]).length c34)) (fun q hq => hq.2 rfl) (.slice none 0 0)), fun _ => ⟨hg10, (blk_put (cs' := #[(.int .i64 3), (.int .i64 0), (.int .i64 0), (.int .i64 5), (.int .i64 0), (.slice A30 2 c30), (.slice A34 (t352 ++ [(⟨1, 3, 0, ⟨8, 0, [⟨13, 3, []⟩, ⟨0, 1, []⟩]⟩, [], []⟩ : S35)]).length c34), (.slice none 0 0)]) (blk_put (cs' := #[(.int .i64 3), (.int .i64 0), (.int .i64 0), (.int .i64 5), (.int .i64 0), (.slice A30 2 c30), (.slice A34 (t352 ++ [(⟨1, 3, 0, ⟨8, 0, [⟨13, 3, []⟩, ⟨0, 1, []⟩]⟩, [], []⟩ : S35)]).length c34), (.slice none 0 0)]) (blk_put (cs' := #[(.int .i64 3), (.int .i64 0), (.int .i64 0), (.int .i64 5), (.int .i64 0), (.slice A30 2 c30), (.slice none 0 0), (.slice none 0 0)]) (blk_put (cs' := #[(.int .i64 3), (.int .i64 0), (.int .i64 0), (.int .i64 5), (.int .i64 0), (.slice none 0 0), (.slice none 0 0), (.slice none 0 0)]) (blk_put (cs' := #[(.int .i64 3), (.int .i64 0), (.int .i64 0), (.int .i64 5), (.int .i64 0), (.slice none 0 0), (.slice none 0 0), (.slice none 0 0)]) (blk_put (cs' := #[(.int .i64 3), (.int .i64 0), (.int .i64 0), (.int .i64 0), (.int .i64 0), (.slice none 0 0), (.slice none 0 0), (.slice none 0 0)]) (blk_put (cs' := #[(.int .i64 3), (.int .i64 0), (.int .i64 0), (.int .i64 0), (.int .i64 0), (.slice none 0 0), (.slice none 0 0), (.slice none 0 0)]) (blk_put (cs' := #[(.int .i64 3), (.int .i64 0), (.int .i64 0), (.int .i64 0), (.int .i64 0), (.slice none 0 0), (.slice none 0 0), (.slice none 0 0)]) hbx 0 (.int .i64 3) rfl) 1 (.int .i64 0) rfl) 2 (.int .i64 0) rfl) 3 (.int .i64 5) rfl) 4 (.int .i64 0) rfl) 5 (.slice A30 2 c30) rfl) 6 (.slice A34 (t352 ++ [(⟨1, 3, 0, ⟨8, 0, [⟨13, 3, []⟩, ⟨0, 1, []⟩]⟩, [], []⟩ : S35)]).length c34) rfl) 7 (.slice none 0 0) rfl)⟩⟩⟩)
 case hdone =>
  intro b a W hall hI
  replace hI : L92 w0 w W0 g g9 h2 s0_0 a1 a2 t350 t355 t377 t378 v8 t352 A20 c20 A21 c21 A22 c22 (b 0) (b 1) (b 2) (b 3) (b 4) (b 5) (b 6) (b 7) (b 8) (b 9) (b 10) (b 11) (b 12) (b 13) a W := hI
  rw [hall 0 (by decide), hall 1 (by decide), hall 2 (by decide), hall 3 (by decide), hall 4 (by decide), hall 5 (by decide), hall 6 (by decide), hall 7 (by decide), hall 8 (by decide), hall 9 (by decide), hall 10 (by decide), hall 11 (by decide), hall 12 (by decide), hall 13 (by decide)] at hI
  obtain ⟨A1, c1, A2, c2, A30, c30, A33, c33, A34, c34, g10, rfl, h⟩ := hI
  simp only [a92, cond_true]
  try go_wp2
  have own8 : ∀ q, v8.ownBlock = some q → w.heap.size ≤ q := fun q hq => (H8.out.1 q hq).1
  have hh2 := HH2.out
  have h24 := H24.out
  have HKW : Aside0 (KeepBut w W g none) := ⟨KeepBut.trans HK'.out h.hK (by cases hv : v8.ownBlock with | none => exact .inl rfl | some q => exact .inr ⟨q, rfl, own8 q hv⟩)⟩
  have HN30 := am (Kd.N_mono (h.h30 rfl) (ok' := fun q => w.heap.size ≤ q) (fun q hq => by have := hq.1; omega))
  have HN34 := am (Kd.N_mono (h.h34 rfl) (ok' := fun q => w.heap.size ≤ q) (fun q hq => hq.1))
  have h10' := am (show W.heap[g10]? = some (.cells #[.int .i64 3, .int .i64 0, .int .i64 0, .int .i64 5, .int .i64 0, .slice A30 2 c30, .slice A34 (t352 ++ [(⟨1, 3, 0, ⟨8, 0, [⟨13, 3, []⟩, ⟨0, 1, []⟩]⟩, [], []⟩ : S35)]).length c34, .slice none 0 0] 35 (0, 0)) from (h.h10 rfl).2)
  have HIW := am (show IsS91 w0 W g s0_0 t378 from h.hI)
  have HBW := am h.hB
  clear h hall own8 hh2 h24 HI' HB' HK' H24 HH2 H8
  refine start_ (n := 6) (S := fun w' => w'.cell? ⟨g10, 0, none⟩ = some (.int .i64 3) ∧ w'.cell? ⟨g10, 1, none⟩ = some (.int .i64 0) ∧ w'.cell? ⟨g10, 2, none⟩ = some (.int .i64 0) ∧ w'.cell? ⟨g10, 3, none⟩ = some (.int .i64 5) ∧ w'.cell? ⟨g10, 4, none⟩ = some (.int .i64 0) ∧ w'.cell? ⟨g10, 5, none⟩ = some (.slice A30 2 c30) ∧ w'.cell? ⟨g10, 6, none⟩ = some (.slice A34 (t352 ++ [(⟨1, 3, 0, ⟨8, 0, [⟨13, 3, []⟩, ⟨0, 1, []⟩]⟩, [], []⟩ : S35)]).length c34) ∧ w'.cell? ⟨g10, 7, none⟩ = some (.slice none 0 0)) (ds := []) #[false, false, false, false, false, false] (by kernel_rfl) rfl rfl ⟨(blk_cell h10'.out 0).trans rfl, (blk_cell h10'.out 1).trans rfl, (blk_cell h10'.out 2).trans rfl, (blk_cell h10'.out 3).trans rfl, (blk_cell h10'.out 4).trans rfl, (blk_cell h10'.out 5).trans rfl, (blk_cell h10'.out 6).trans rfl, (blk_cell h10'.out 7).trans rfl⟩ (fun hHeld => ?_)
  have n1_ := am (keep_drew HKW.out)
  have n2_ := am (Kd.N_drew HN30.out)
  have n3_ := am (Kd.N_drew HN34.out)
  have n4_ := am (blk_drew h10'.out)
  have n5_ := am (IsS91.drew HIW.out)
  have n6_ := am (below_drew1 HBW.out)
  clear HKW HN30 HN34 h10' HIW HBW
  have HKW := n1_
  have HN30 := n2_
  have HN34 := n3_
  have h10' := n4_
  have HIW := n5_
  have HBW := n6_
  clear n1_ n2_ n3_ n4_ n5_ n6_
  generalize W.drew = W1 at HKW HN30 HN34 h10' HIW HBW hHeld ⊢
  refine pure_ (i := 0) (N := some 36) (v := ?_) (a' := ?_) #[true, false, false, false, false, false] rfl rfl (by kernel_rfl) (fun _ _ _ h => h) (Or.inl ⟨by rfl, ?_⟩) ?_ ?_
  rotate_left
  ·intro w'
   go_simp
   with_reducible rfl
  rotate_left
  ·simp only [Act.put, List.setIfInBounds_toArray, List.set_cons_zero, List.set_cons_succ, i64_w, i32_w]
   rfl
  refine take_ (i := 3) (N := some 39) (v := ?_) (a' := ?_) #[true, false, false, true, false, false] rfl rfl (by kernel_rfl) (fun _ _ _ h => h) (Or.inl ⟨by rfl, ?_⟩) hHeld ?_ ?_
  rotate_left
  ·rintro w' ⟨s0, s1, s2, s3, s4, s5, s6, s7⟩
   go_simp
   with_reducible rfl
  rotate_left
  ·simp only [Act.put, List.setIfInBounds_toArray, List.set_cons_zero, List.set_cons_succ, i64_w, i32_w]
   rfl
  refine one_ (i := 1) (N := some 37) #[true, true, false, true, false, false] rfl rfl (by kernel_rfl) (by decide) (fun K hK => ?_)
  refine goes_ Try.func45 (by kernel_rfl) rfl #[.int .i64 0, .int .i64 0] (by rfl) rfl rfl (by (try simp only [List.map_toArray, List.map_cons, List.map_nil]); first | done | rfl) ?_
  refine (leaf_lit 0 0 _).mono ?_
  rintro e W2 ⟨AL, cL, rfl, hb⟩
  refine ⟨_, rfl, ?_⟩
  have n1_ := am (KeepBut.trans HKW.out (KeepBut.of_below hb g none) (.inl rfl))
  have n2_ := am (Kd.N_below HN30.out hb)
  have n3_ := am (Kd.N_below HN34.out hb)
  have n4_ := am (blk_below h10'.out hb)
  have n5_ := am (HIW.out.below hb)
  have n6_ := am (below_step HBW.out hb)
  clear HKW HN30 HN34 h10' HIW HBW
  have HKW := n1_
  have HN30 := n2_
  have HN34 := n3_
  have h10' := n4_
  have HIW := n5_
  have HBW := n6_
  clear n1_ n2_ n3_ n4_ n5_ n6_ hb
  refine hK.out _ _ ⟨(blk_cell h10'.out 0).trans rfl, (blk_cell h10'.out 1).trans rfl, (blk_cell h10'.out 2).trans rfl, (blk_cell h10'.out 3).trans rfl, (blk_cell h10'.out 4).trans rfl, (blk_cell h10'.out 5).trans rfl, (blk_cell h10'.out 6).trans rfl, (blk_cell h10'.out 7).trans rfl⟩ (fun hHeld => ?_)
  clear hK K
  refine norm_ (a' := ?_) ?_ ?_
  rotate_left
  ·show Act.put _ (some 37) _ = _
   simp only [Act.put, List.setIfInBounds_toArray, List.set_cons_zero, List.set_cons_succ, i64_w, i32_w]
   rfl
  refine pure_ (i := 2) (N := some 38) (v := ?_) (a' := ?_) #[true, true, true, true, false, false] rfl rfl (by kernel_rfl) (fun _ _ _ h => h) (Or.inl ⟨by rfl, ?_⟩) ?_ ?_
  rotate_left
  ·intro w'
   go_simp
   with_reducible rfl
  rotate_left
  ·simp only [Act.put, List.setIfInBounds_toArray, List.set_cons_zero, List.set_cons_succ, i64_w, i32_w]
   rfl
  refine one_ (i := 4) (N := some 40) #[true, true, true, true, true, false] rfl rfl (by kernel_rfl) (by decide) (fun K hK => ?_)
  have hkw := HKW.out.1
  refine Kd.N_lit_step k35 W2.heap.size 35 ?hg (N' := 40) ?hd (w0 := W2) (xs := [(⟨1, 3, 0, ⟨0, 0, []⟩, [], []⟩ : S35), (⟨3, 0, 0, ⟨5, 0, [⟨13, 3, []⟩, ⟨0, wrap64 (1 + t377), []⟩]⟩, t352 ++ [⟨1, 3, 0, ⟨8, 0, [⟨13, 3, []⟩, ⟨0, 1, []⟩]⟩, [], []⟩], []⟩ : S35)]) (inner := [.int .i64 1, .int .i64 3, .int .i64 0, .int .i64 0, .int .i64 0, .slice AL 0 cL, .slice none 0 0, .slice none 0 0, .int .i64 3, .int .i64 0, .int .i64 0, .int .i64 5, .int .i64 0, .slice A30 2 c30, .slice A34 (t352 ++ [(⟨1, 3, 0, ⟨8, 0, [⟨13, 3, []⟩, ⟨0, 1, []⟩]⟩, [], []⟩ : S35)]).length c34, .slice none 0 0]) (ok := fun q => w.heap.size ≤ q) (okp := fun q => w.heap.size ≤ q) ?hr ?hp (fun _ hq => hq) ?hf (Below.refl _ _) (Nat.le_refl _) (by simp) ?_
  case hd => rfl
  case hg => rfl
  case hr => first | (go_simp; done) | (go_simp; rfl)
  case hf => exact hkw
  case hp => exact Reps.c8 (show Kd.FK k35 _ _ (⟨1, 3, 0, ⟨0, 0, []⟩, [], []⟩ : S35) [.int .i64 1, .int .i64 3, .int .i64 0, .int .i64 0, .int .i64 0, .slice AL 0 cL, .slice none 0 0, .slice none 0 0] from k35_mkF _ _ (⟨1, 3, 0, ⟨0, 0, []⟩, [], []⟩ : S35) (Nat.zero_le _) (empty_F k32 _ _ AL) (Nat.le_refl _) (Kd.F_nil _ _ _) (Nat.le_refl _) (Kd.F_nil _ _ _)) (Reps.c8 (show Kd.FK k35 _ _ (⟨3, 0, 0, ⟨5, 0, [⟨13, 3, []⟩, ⟨0, wrap64 (1 + t377), []⟩]⟩, t352 ++ [⟨1, 3, 0, ⟨8, 0, [⟨13, 3, []⟩, ⟨0, 1, []⟩]⟩, [], []⟩], []⟩ : S35) [.int .i64 3, .int .i64 0, .int .i64 0, .int .i64 5, .int .i64 0, .slice A30 2 c30, .slice A34 (t352 ++ [(⟨1, 3, 0, ⟨8, 0, [⟨13, 3, []⟩, ⟨0, 1, []⟩]⟩, [], []⟩ : S35)]).length c34, .slice none 0 0] from k35_mkF _ _ (⟨3, 0, 0, ⟨5, 0, [⟨13, 3, []⟩, ⟨0, wrap64 (1 + t377), []⟩]⟩, t352 ++ [⟨1, 3, 0, ⟨8, 0, [⟨13, 3, []⟩, ⟨0, 1, []⟩]⟩, [], []⟩], []⟩ : S35) (Kd.N_reads' HN30.out).2.1 (Kd.N_F HN30.out) (Kd.N_reads' HN34.out).2.1 (Kd.N_F HN34.out) (Nat.le_refl _) (Kd.F_nil _ _ _)) (Reps.none _ _))
  intro v1 W3 hn hb _ _
  have n1_ := am (KeepBut.trans HKW.out (KeepBut.of_below hb g none) (.inl rfl))
  have n4_ := am (blk_below h10'.out hb)
  have n5_ := am (HIW.out.below hb)
  have n6_ := am (below_step HBW.out hb)
  have n7_ := am (Kd.N_lower hn hkw)
  clear HKW HN30 HN34 h10' HIW HBW hb hn
  have h10' := n4_
  refine hK.out _ _ ⟨(blk_cell h10'.out 0).trans rfl, (blk_cell h10'.out 1).trans rfl, (blk_cell h10'.out 2).trans rfl, (blk_cell h10'.out 3).trans rfl, (blk_cell h10'.out 4).trans rfl, (blk_cell h10'.out 5).trans rfl, (blk_cell h10'.out 6).trans rfl, (blk_cell h10'.out 7).trans rfl⟩ (fun hHeld => ?_)
  clear hK K
  refine norm_ (a' := ?_) ?_ ?_
  rotate_left
  ·show Act.put _ (some 40) _ = _
   simp only [Act.put, List.setIfInBounds_toArray, List.set_cons_zero, List.set_cons_succ, i64_w, i32_w]
   rfl
  refine pure_ (i := 5) (N := some 6) (v := ?_) (a' := ?_) #[true, true, true, true, true, true] rfl rfl (by kernel_rfl) (fun _ _ _ h => h) (Or.inl ⟨by rfl, ?_⟩) ?_ ?_
  rotate_left
  ·intro w'
   go_simp
   with_reducible rfl
  rotate_left
  ·simp only [Act.put, List.setIfInBounds_toArray, List.set_cons_zero, List.set_cons_succ, i64_w, i32_w]
   rfl
  refine done_ (by kernel_rfl) ?_
  try go_wp2
  go_ret
  exact ⟨_, rfl, HR.out ▸ n7_.out, n5_.out, n6_.out, n1_.out⟩
end Go.Proofs.Ytodhbeeibagiaaa.PA

