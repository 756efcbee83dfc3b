/- Part 2 of the proof of FnStmtsFoldOne. -/
import Derived.Test.YtodhbeeibagiaaaQFnStmtsFoldOne0
import Derived.Test.YtodhbeeibagiaaaProg
import Derived.Below
import Derived.Deep.Draws
import Derived.Deep.AppendLies
import Derived.Maps.AppendAt
import Derived.OwnWalk
import Derived.Laws.BytesArg
import Derived.Laws.MakeOwn
import Derived.Laws.OwnMore
import Derived.Deep.OwnRows
import Derived.Tactics
import Derived.Lib.ConvBytes
import Derived.Laws.Slices
import Derived.WalkKit
import Derived.KernelRfl
import Derived.RowKit3
import Derived.Deep.LoopGhost
import Derived.Deep.QuietTactic
import Derived.BigQuiet
import Derived.WideLaws
import Derived.Deep.DeepCutAuto
import Derived.Deep.CutBlock
import Derived.Deep.RegionHeld3
import Derived.Laws.Rows
import Derived.Lib.AppendStr
import Derived.ArgAppend
import Derived.Laws.IdiomCopy
import Derived.OrdersHeld
import Derived.Laws.BitsLemmas
import Derived.RowKit
import Derived.Lib.SliceRun
import Derived.Deep.Slices
import Derived.ChangeArms
import Derived.ChangeSame
import Derived.WideShapes
set_option maxHeartbeats 8000000
set_option maxRecDepth 100000
namespace Go.Proofs.Ytodhbeeibagiaaa.PA
open Go.RowKit Go.Proofs.YtodhbeeibagiaaaW.PrintWords Go.Proofs.YtodhbeeibagiaaaW.PrintLast Go.Proofs.YtodhbeeibagiaaaW.PrintMore
attribute [local go_sem] max2_int min2_int max_two min_two max_three min_three max_four min_four
set_option linter.unusedVariables false
set_option linter.unusedSimpArgs false
def errW : Option Int → Value
 | none => .nilIface
 | some c => .iface 0 (.int .i64 c)
theorem errW_none : errW none = .nilIface := rfl
theorem errW_some (c : Int) : errW (some c) = .iface 0 (.int .i64 c) := rfl
theorem info5 : (Try.prog.info? 5).map (fun i => (i.zero, i.size, i.bytes)) = some (some (.int .u8 0), 1, 1) := by kernel_rfl
theorem info35 : (Try.prog.info? 35).map (fun i => (i.zero, i.size, i.bytes)) = some (some (.agg #[(.int .i64 0), (.int .i64 0), (.int .i64 0), (.int .i64 0), (.int .i64 0), (.slice none 0 0), (.slice none 0 0), (.slice none 0 0)]), 8, 112) := by kernel_rfl
structure S32 where
 f0 : Int
 f1 : Int
 f2 : (List S32)
def z32 : S32 := ⟨(0 : Int), (0 : Int), ([] : List S32)⟩
def F32 (d : Kd S32) : Kd S32 := Kd.iso (Kd.pair (Kd.int .i64) (Kd.pair (Kd.int .i64) (Kd.slice 32 d))) (fun x : S32 => (x.f0, x.f1, x.f2))
theorem mono32 : Kd.Mono F32 := Kd.mono_iso _ (Kd.mono_pair (Kd.mono_const _) (Kd.mono_pair (Kd.mono_const _) (Kd.mono_slice 32 Kd.mono_id)))
theorem sub32 : Kd.Sub F32 [32] := Kd.sub_iso _ (Kd.sub_pair (Kd.sub_const _ (by decide)) (Kd.sub_pair (Kd.sub_const _ (by decide)) (Kd.sub_slice 32 (by decide) Kd.sub_id)))
theorem sz32 : ∀ n, (Kd.upto F32 3 [32] n).sz = 3 := Kd.upto_sz (fun _ => rfl)
def k32 : Kd S32 := Kd.fix F32 3 [32] sz32 (Kd.upto_E sub32)
theorem k32_heap : Kd.Heap k32 := Kd.heap_fix (fun _ h_ => Kd.heap_iso _ (Kd.heap_pair (Kd.heap_int .i64) (Kd.heap_pair (Kd.heap_int .i64) (Kd.heap_slice 32 h_))))
theorem k32_open {w : World} {x : S32} {cs : List Value} (h : k32.K w x cs) : ∃ A2 c2, cs = [.int .i64 x.f0, .int .i64 x.f1, .slice A2 x.f2.length c2] ∧ x.f2.length ≤ c2 ∧ k32.C w A2 x.f2.length x.f2 := by
 obtain ⟨n, h⟩ := h
 cases n with
 | zero => exact h.elim
 | succ n =>
  obtain ⟨_, _, rfl, rfl, ⟨_, _, rfl, rfl, ⟨A2, c2, rfl, l2, g2⟩⟩⟩ := h
  exact ⟨A2, c2, rfl, l2, Kd.fix_C g2⟩
theorem k32_mk (w : World) (x : S32) {A2 : Option Addr} {c2 : Nat} (l2 : x.f2.length ≤ c2) (g2 : k32.C w A2 x.f2.length x.f2) : k32.K w x [.int .i64 x.f0, .int .i64 x.f1, .slice A2 x.f2.length c2] := by
 obtain ⟨n2, q2⟩ := Kd.fix_C_back mono32 g2
 have r2 := Kd.upto_C_le mono32 sz32 (show n2 ≤ n2 by omega) q2
 exact ⟨n2 + 1, ⟨[.int .i64 x.f0], [.int .i64 x.f1, .slice A2 x.f2.length c2], rfl, rfl, ⟨[.int .i64 x.f1], [.slice A2 x.f2.length c2], rfl, rfl, ⟨A2, c2, rfl, l2, r2⟩⟩⟩⟩
theorem k32_mkF (W : World) (ok : Nat → Prop) (x : S32) {A2 : Option Addr} {c2 : Nat} (l2 : x.f2.length ≤ c2) (g2 : Kd.F k32 W ok A2 x.f2.length x.f2) : Kd.FK k32 W ok x [.int .i64 x.f0, .int .i64 x.f1, .slice A2 x.f2.length c2] := fun W2 hW => k32_mk W2 x l2 (g2 W2 hW)
def rd_T32 (xs : List S32) (i : Int) : S32 := xs.getD i.toNat z32
theorem at_T32 {w : World} {A : Option Addr} {n : Nat} {xs : List S32} (h : Kd.C k32 w A n xs) (i : Int) (h0 : 0 ≤ i) (h1 : i < n) : ∃ ad A2 c2, A = some ad ∧ w.cell? (ad.add (i.toNat * 3)) = some (.int .i64 (rd_T32 xs i).f0) ∧ w.cell? ⟨(ad.add (i.toNat * 3)).block, (ad.add (i.toNat * 3)).off + 1, none⟩ = some (.int .i64 (rd_T32 xs i).f1) ∧ w.cell? ⟨(ad.add (i.toNat * 3)).block, (ad.add (i.toNat * 3)).off + 2, none⟩ = some (.slice A2 (rd_T32 xs i).f2.length c2) ∧ (rd_T32 xs i).f2.length ≤ c2 ∧ k32.C w A2 (rd_T32 xs i).f2.length (rd_T32 xs i).f2 := by
 obtain ⟨ad, c, e, _, hK, hc0⟩ := Kd.C_get h z32 i h0 h1
 have hc : ∀ j u, c[j]? = some u → w.cell? (ad.add (i.toNat * 3 + j)) = some u := hc0
 obtain ⟨A2, c2, rfl, l2, g2⟩ := k32_open hK
 exact ⟨ad, A2, c2, e, hc 0 _ rfl, by rw [← add_field _ _ 1 (by omega)]; exact hc 1 _ rfl, by rw [← add_field _ _ 2 (by omega)]; exact hc 2 _ rfl, l2, g2⟩
structure S35 where
 f0 : Int
 f1 : Int
 f2 : Int
 f3 : S32
 f4 : (List S35)
 f5 : (List S35)
def z35 : S35 := ⟨(0 : Int), (0 : Int), (0 : Int), z32, ([] : List S35), ([] : List S35)⟩
def F35 (d : Kd S35) : Kd S35 := Kd.iso (Kd.pair (Kd.int .i64) (Kd.pair (Kd.int .i64) (Kd.pair (Kd.int .i64) (Kd.pair k32 (Kd.pair (Kd.slice 35 d) (Kd.slice 35 d)))))) (fun x : S35 => (x.f0, x.f1, x.f2, x.f3, x.f4, x.f5))
theorem mono35 : Kd.Mono F35 := Kd.mono_iso _ (Kd.mono_pair (Kd.mono_const _) (Kd.mono_pair (Kd.mono_const _) (Kd.mono_pair (Kd.mono_const _) (Kd.mono_pair (Kd.mono_const _) (Kd.mono_pair (Kd.mono_slice 35 Kd.mono_id) (Kd.mono_slice 35 Kd.mono_id))))))
theorem sub35 : Kd.Sub F35 [32, 35] := Kd.sub_iso _ (Kd.sub_pair (Kd.sub_const _ (by decide)) (Kd.sub_pair (Kd.sub_const _ (by decide)) (Kd.sub_pair (Kd.sub_const _ (by decide)) (Kd.sub_pair (Kd.sub_const _ (by decide)) (Kd.sub_pair (Kd.sub_slice 35 (by decide) Kd.sub_id) (Kd.sub_slice 35 (by decide) Kd.sub_id))))))
theorem sz35 : ∀ n, (Kd.upto F35 8 [32, 35] n).sz = 8 := Kd.upto_sz (fun _ => rfl)
def k35 : Kd S35 := Kd.fix F35 8 [32, 35] sz35 (Kd.upto_E sub35)
theorem k35_heap : Kd.Heap k35 := Kd.heap_fix (fun _ h_ => Kd.heap_iso _ (Kd.heap_pair (Kd.heap_int .i64) (Kd.heap_pair (Kd.heap_int .i64) (Kd.heap_pair (Kd.heap_int .i64) (Kd.heap_pair k32_heap (Kd.heap_pair (Kd.heap_slice 35 h_) (Kd.heap_slice 35 h_)))))))
theorem k35_open {w : World} {x : S35} {cs : List Value} (h : k35.K w x cs) : ∃ A5 c5 A6 c6 A7 c7, cs = [.int .i64 x.f0, .int .i64 x.f1, .int .i64 x.f2, .int .i64 x.f3.f0, .int .i64 x.f3.f1, .slice A5 x.f3.f2.length c5, .slice A6 x.f4.length c6, .slice A7 x.f5.length c7] ∧ x.f3.f2.length ≤ c5 ∧ k32.C w A5 x.f3.f2.length x.f3.f2 ∧ x.f4.length ≤ c6 ∧ k35.C w A6 x.f4.length x.f4 ∧ x.f5.length ≤ c7 ∧ k35.C w A7 x.f5.length x.f5 := by
 obtain ⟨n, h⟩ := h
 cases n with
 | zero => exact h.elim
 | succ n =>
  obtain ⟨_, _, rfl, rfl, ⟨_, _, rfl, rfl, ⟨_, _, rfl, rfl, ⟨_, _, rfl, s3, ⟨_, _, rfl, ⟨A6, c6, rfl, l6, g6⟩, ⟨A7, c7, rfl, l7, g7⟩⟩⟩⟩⟩⟩ := h
  obtain ⟨A5, c5, rfl, l5, g5⟩ := k32_open s3
  exact ⟨A5, c5, A6, c6, A7, c7, rfl, l5, g5, l6, Kd.fix_C g6, l7, Kd.fix_C g7⟩
theorem k35_mk (w : World) (x : S35) {A5 : Option Addr} {c5 : Nat} (l5 : x.f3.f2.length ≤ c5) (g5 : k32.C w A5 x.f3.f2.length x.f3.f2) {A6 : Option Addr} {c6 : Nat} (l6 : x.f4.length ≤ c6) (g6 : k35.C w A6 x.f4.length x.f4) {A7 : Option Addr} {c7 : Nat} (l7 : x.f5.length ≤ c7) (g7 : k35.C w A7 x.f5.length x.f5) : k35.K w x [.int .i64 x.f0, .int .i64 x.f1, .int .i64 x.f2, .int .i64 x.f3.f0, .int .i64 x.f3.f1, .slice A5 x.f3.f2.length c5, .slice A6 x.f4.length c6, .slice A7 x.f5.length c7] := by
 obtain ⟨n6, q6⟩ := Kd.fix_C_back mono35 g6
 obtain ⟨n7, q7⟩ := Kd.fix_C_back mono35 g7
 have r6 := Kd.upto_C_le mono35 sz35 (show n6 ≤ (max n6 n7) by omega) q6
 have r7 := Kd.upto_C_le mono35 sz35 (show n7 ≤ (max n6 n7) by omega) q7
 exact ⟨(max n6 n7) + 1, ⟨[.int .i64 x.f0], [.int .i64 x.f1, .int .i64 x.f2, .int .i64 x.f3.f0, .int .i64 x.f3.f1, .slice A5 x.f3.f2.length c5, .slice A6 x.f4.length c6, .slice A7 x.f5.length c7], rfl, rfl, ⟨[.int .i64 x.f1], [.int .i64 x.f2, .int .i64 x.f3.f0, .int .i64 x.f3.f1, .slice A5 x.f3.f2.length c5, .slice A6 x.f4.length c6, .slice A7 x.f5.length c7], rfl, rfl, ⟨[.int .i64 x.f2], [.int .i64 x.f3.f0, .int .i64 x.f3.f1, .slice A5 x.f3.f2.length c5, .slice A6 x.f4.length c6, .slice A7 x.f5.length c7], rfl, rfl, ⟨[.int .i64 x.f3.f0, .int .i64 x.f3.f1, .slice A5 x.f3.f2.length c5], [.slice A6 x.f4.length c6, .slice A7 x.f5.length c7], rfl, (k32_mk w x.f3 l5 g5), ⟨[.slice A6 x.f4.length c6], [.slice A7 x.f5.length c7], rfl, ⟨A6, c6, rfl, l6, r6⟩, ⟨A7, c7, rfl, l7, r7⟩⟩⟩⟩⟩⟩⟩
theorem k35_openF {W : World} {ok : Nat → Prop} {x : S35} {cs : List Value} (h : Kd.FK k35 W ok x cs) : ∃ A5 c5 A6 c6 A7 c7, cs = [.int .i64 x.f0, .int .i64 x.f1, .int .i64 x.f2, .int .i64 x.f3.f0, .int .i64 x.f3.f1, .slice A5 x.f3.f2.length c5, .slice A6 x.f4.length c6, .slice A7 x.f5.length c7] ∧ x.f3.f2.length ≤ c5 ∧ Kd.F k32 W ok A5 x.f3.f2.length x.f3.f2 ∧ x.f4.length ≤ c6 ∧ Kd.F k35 W ok A6 x.f4.length x.f4 ∧ x.f5.length ≤ c7 ∧ Kd.F k35 W ok A7 x.f5.length x.f5 := by
 obtain ⟨A5, c5, A6, c6, A7, c7, rfl, l5, _, l6, _, l7, _⟩ := k35_open (Kd.FK_now h)
 exact ⟨A5, c5, A6, c6, A7, c7, rfl, l5, (fun W' hW => by obtain ⟨A5_, c5_, A6_, c6_, A7_, c7_, he, l5_, g5_, l6_, g6_, l7_, g7_⟩ := k35_open (h W' hW); injection (Option.some.inj (show some (Value.slice A5 x.f3.f2.length c5) = some (Value.slice A5_ x.f3.f2.length c5_) from congrArg (fun l => l[5]?) he)) with ha_ _ _; rw [ha_]; exact g5_), l6, (fun W' hW => by obtain ⟨A5_, c5_, A6_, c6_, A7_, c7_, he, l5_, g5_, l6_, g6_, l7_, g7_⟩ := k35_open (h W' hW); injection (Option.some.inj (show some (Value.slice A6 x.f4.length c6) = some (Value.slice A6_ x.f4.length c6_) from congrArg (fun l => l[6]?) he)) with ha_ _ _; rw [ha_]; exact g6_), l7, (fun W' hW => by obtain ⟨A5_, c5_, A6_, c6_, A7_, c7_, he, l5_, g5_, l6_, g6_, l7_, g7_⟩ := k35_open (h W' hW); injection (Option.some.inj (show some (Value.slice A7 x.f5.length c7) = some (Value.slice A7_ x.f5.length c7_) from congrArg (fun l => l[7]?) he)) with ha_ _ _; rw [ha_]; exact g7_)⟩
theorem k35_mkF (W : World) (ok : Nat → Prop) (x : S35) {A5 : Option Addr} {c5 : Nat} (l5 : x.f3.f2.length ≤ c5) (g5 : Kd.F k32 W ok A5 x.f3.f2.length x.f3.f2) {A6 : Option Addr} {c6 : Nat} (l6 : x.f4.length ≤ c6) (g6 : Kd.F k35 W ok A6 x.f4.length x.f4) {A7 : Option Addr} {c7 : Nat} (l7 : x.f5.length ≤ c7) (g7 : Kd.F k35 W ok A7 x.f5.length x.f5) : Kd.FK k35 W ok x [.int .i64 x.f0, .int .i64 x.f1, .int .i64 x.f2, .int .i64 x.f3.f0, .int .i64 x.f3.f1, .slice A5 x.f3.f2.length c5, .slice A6 x.f4.length c6, .slice A7 x.f5.length c7] := fun W2 hW => k35_mk W2 x l5 (g5 W2 hW) l6 (g6 W2 hW) l7 (g7 W2 hW)
def rd_T35 (xs : List S35) (i : Int) : S35 := xs.getD i.toNat z35
theorem at_T35 {w : World} {A : Option Addr} {n : Nat} {xs : List S35} (h : Kd.C k35 w A n xs) (i : Int) (h0 : 0 ≤ i) (h1 : i < n) : ∃ ad A5 c5 A6 c6 A7 c7, A = some ad ∧ w.cell? (ad.add (i.toNat * 8)) = some (.int .i64 (rd_T35 xs i).f0) ∧ w.cell? ⟨(ad.add (i.toNat * 8)).block, (ad.add (i.toNat * 8)).off + 1, none⟩ = some (.int .i64 (rd_T35 xs i).f1) ∧ w.cell? ⟨(ad.add (i.toNat * 8)).block, (ad.add (i.toNat * 8)).off + 2, none⟩ = some (.int .i64 (rd_T35 xs i).f2) ∧ w.cell? ⟨(ad.add (i.toNat * 8)).block, (ad.add (i.toNat * 8)).off + 3, none⟩ = some (.int .i64 (rd_T35 xs i).f3.f0) ∧ w.cell? ⟨(ad.add (i.toNat * 8)).block, (ad.add (i.toNat * 8)).off + 4, none⟩ = some (.int .i64 (rd_T35 xs i).f3.f1) ∧ w.cell? ⟨(ad.add (i.toNat * 8)).block, (ad.add (i.toNat * 8)).off + 5, none⟩ = some (.slice A5 (rd_T35 xs i).f3.f2.length c5) ∧ w.cell? ⟨(ad.add (i.toNat * 8)).block, (ad.add (i.toNat * 8)).off + 6, none⟩ = some (.slice A6 (rd_T35 xs i).f4.length c6) ∧ w.cell? ⟨(ad.add (i.toNat * 8)).block, (ad.add (i.toNat * 8)).off + 7, none⟩ = some (.slice A7 (rd_T35 xs i).f5.length c7) ∧ (rd_T35 xs i).f3.f2.length ≤ c5 ∧ k32.C w A5 (rd_T35 xs i).f3.f2.length (rd_T35 xs i).f3.f2 ∧ (rd_T35 xs i).f4.length ≤ c6 ∧ k35.C w A6 (rd_T35 xs i).f4.length (rd_T35 xs i).f4 ∧ (rd_T35 xs i).f5.length ≤ c7 ∧ k35.C w A7 (rd_T35 xs i).f5.length (rd_T35 xs i).f5 := by
 obtain ⟨ad, c, e, _, hK, hc0⟩ := Kd.C_get h z35 i h0 h1
 have hc : ∀ j u, c[j]? = some u → w.cell? (ad.add (i.toNat * 8 + j)) = some u := hc0
 obtain ⟨A5, c5, A6, c6, A7, c7, rfl, l5, g5, l6, g6, l7, g7⟩ := k35_open hK
 exact ⟨ad, A5, c5, A6, c6, A7, c7, e, hc 0 _ rfl, by rw [← add_field _ _ 1 (by omega)]; exact hc 1 _ rfl, by rw [← add_field _ _ 2 (by omega)]; exact hc 2 _ rfl, by rw [← add_field _ _ 3 (by omega)]; exact hc 3 _ rfl, by rw [← add_field _ _ 4 (by omega)]; exact hc 4 _ rfl, by rw [← add_field _ _ 5 (by omega)]; exact hc 5 _ rfl, by rw [← add_field _ _ 6 (by omega)]; exact hc 6 _ rfl, by rw [← add_field _ _ 7 (by omega)]; exact hc 7 _ rfl, l5, g5, l6, g6, l7, g7⟩
def rd_L4 (xs : List (List S35)) (i : Int) : (List S35) := xs.getD i.toNat ([] : List S35)
theorem ab1_ {p : Prop} (h : p := by (try simp only [List.map_toArray, List.map_cons, List.map_nil]); first | done | rfl | (simp only [List.length_drop, List.length_take]; rfl)) : p := h
theorem ab2_ {p : Prop} (h : p := by repeat (first | (with_reducible first | exact HB.out | apply below_alloc | apply pw_below_drewN | apply below_drew1) | exact HB.out)) : p := h
theorem ab3_ {p : Prop} (h : p := by repeat (first | (with_reducible first | exact HK.out | apply KeepBut.set_ | apply keep_drewN | apply keep_drew | apply keep_alloc) | exact HK.out)) : p := h
theorem ab4_ {p : Prop} (h : p := by repeat (first | (with_reducible first | exact HI0.out | apply IsS91.alloc | apply IsS91.drewN | apply IsS91.drew | apply IsS91.set_1) | exact HI0.out)) : p := h
theorem ab5_ {p : Prop} (h : p := by repeat (first | (with_reducible first | exact HB.out | apply below_alloc | apply pw_below_drewN | apply below_drew1 | refine below_set ?_ (IsS91.ge HI0.out)) | exact HB.out)) : p := h
theorem ab6_ {p : Prop} (h : p := by repeat (first | (with_reducible first | exact HB.out | apply below_alloc | apply pw_below_drewN | apply below_drew1 | refine below_set ?_ GE600.out) | exact HB.out)) : p := h
theorem ab8_ {p : Prop} (h : p := by repeat (first | (with_reducible first | exact HB.out | apply below_alloc | apply pw_below_drewN | apply below_drew1 | refine below_set ?_ GE526.out | refine below_set ?_ GE527.out | refine below_set ?_ GE540.out | refine below_set ?_ GE541.out) | exact HB.out)) : p := h
theorem ab10_ {p : Prop} (h : p := by repeat (first | (with_reducible first | exact HB.out | apply below_alloc | apply pw_below_drewN | apply below_drew1 | refine below_set ?_ GE553.out) | exact HB.out)) : p := h
theorem ab11_ {p : Prop} (h : p := by first | rfl | (simp [errW_none, errW_some] <;> rfl) | (simp [*, errW_none, errW_some] <;> rfl)) : p := h
theorem ab12_ {p : Prop} (h : p := by repeat (first | (with_reducible first | exact HB.out | apply below_alloc | apply pw_below_drewN | apply below_drew1 | refine below_set ?_ GE526.out | refine below_set ?_ GE527.out) | exact HB.out)) : p := h
theorem ab13_ {p : Prop} (h : p := by repeat (first | (with_reducible first | exact HB.out | apply below_alloc | apply pw_below_drewN | apply below_drew1 | refine below_set ?_ GE642.out | refine below_set ?_ GE643.out | refine below_set ?_ GE655.out | refine below_set ?_ GE662.out) | exact HB.out)) : p := h
theorem ab15_ {p : Prop} (h : p := by repeat (first | (with_reducible first | exact HB.out | apply below_alloc | apply pw_below_drewN | apply below_drew1 | refine below_set ?_ GE616.out) | exact HB.out)) : p := h
theorem ab16_ {p : Prop} (h : p := by repeat (first | (with_reducible first | exact HB.out | apply below_alloc | apply pw_below_drewN | apply below_drew1 | refine below_set ?_ GE526.out | refine below_set ?_ GE527.out | refine below_set ?_ GE540.out) | exact HB.out)) : p := h
theorem ab17_ {p : Prop} (h : p := by repeat (first | (with_reducible first | exact HB.out | apply below_alloc | apply pw_below_drewN | apply below_drew1 | refine below_set ?_ GE526.out | refine below_set ?_ GE527.out | refine below_set ?_ GE541.out) | exact HB.out)) : p := h
theorem ab18_ {p : Prop} (h : p := by repeat (first | exact Drawn0.refl _ | apply Drawn0.step)) : p := h
theorem ab21_ {p : Prop} (h : p := by repeat (first | (with_reducible first | exact HK.out | apply KeepBut.set_ | apply keep_drewN | apply keep_drew | apply keep_alloc | refine keep_far ?_ GW187.out _) | exact HK.out)) : p := h
theorem ab22_ {p : Prop} (h : p := by repeat (first | (with_reducible first | exact HB.out | apply below_alloc | apply pw_below_drewN | apply below_drew1 | refine below_set ?_ GE694.out | refine below_set ?_ GE696.out) | exact HB.out)) : p := h
theorem ab23_ {p : Prop} (h : p := by repeat (first | (with_reducible first | exact HB.out | apply below_alloc | apply pw_below_drewN | apply below_drew1 | refine below_set ?_ GE510.out) | exact HB.out)) : p := h
theorem ab25_ {p : Prop} (h : p := by repeat (first | (with_reducible first | exact HK.out | apply KeepBut.set_ | apply keep_drewN | apply keep_drew | apply keep_alloc | refine keep_far ?_ GW119.out _) | exact HK.out)) : p := h
theorem ab26_ {p : Prop} (h : p := by repeat (first | (with_reducible first | exact HK.out | apply KeepBut.set_ | apply keep_drewN | apply keep_drew | apply keep_alloc | refine keep_far ?_ GW485.out _) | exact HK.out)) : p := h
theorem ab27_ {p : Prop} (h : p := by repeat (first | (with_reducible first | exact HK.out | apply KeepBut.set_ | apply keep_drewN | apply keep_drew | apply keep_alloc | refine keep_far ?_ GW147.out _) | exact HK.out)) : p := h
theorem ab28_ {p : Prop} (h : p := by repeat (first | (with_reducible first | exact HB.out | apply below_alloc | apply pw_below_drewN | apply below_drew1 | refine below_set ?_ GE589.out) | exact HB.out)) : p := h
theorem ab34_ {p : Prop} (h : p := by repeat (first | (with_reducible first | exact HB.out | apply below_alloc | apply pw_below_drewN | apply below_drew1 | refine below_set ?_ GE642.out | refine below_set ?_ GE643.out) | exact HB.out)) : p := h
theorem ab35_ {p : Prop} (h : p := by repeat (first | (with_reducible first | exact HB.out | apply below_alloc | apply pw_below_drewN | apply below_drew1 | refine below_set ?_ GE688.out | refine below_set ?_ GE689.out) | exact HB.out)) : p := h
theorem ab36_ {p : Prop} (h : p := by repeat (first | (with_reducible first | exact HK.out | apply KeepBut.set_ | apply keep_drewN | apply keep_drew | apply keep_alloc | refine keep_far ?_ GW377.out _ | refine keep_far ?_ GW386.out _) | exact HK.out)) : p := h
theorem ab39_ {p : Prop} (h : p := by repeat (first | (with_reducible first | exact HK.out | apply KeepBut.set_ | apply keep_drewN | apply keep_drew | apply keep_alloc | refine keep_far ?_ GW147.out _ | refine keep_far ?_ GW164.out _) | exact HK.out)) : p := h
theorem ab40_ {p : Prop} (h : p := by repeat (first | (with_reducible first | exact HI0.out | apply IsS91.alloc | apply IsS91.drewN | apply IsS91.drew | apply IsS91.set_1 | refine IsS91.far ?_ NB0_485.out _) | exact HI0.out)) : p := h
theorem ab43_ {p : Prop} (h : p := by repeat (first | (with_reducible first | exact HB.out | apply below_alloc | apply pw_below_drewN | apply below_drew1 | refine below_set ?_ GE642.out | refine below_set ?_ GE643.out | refine below_set ?_ GE655.out) | exact HB.out)) : p := h
theorem ab44_ {p : Prop} (h : p := by repeat (first | (with_reducible first | exact HK.out | apply KeepBut.set_ | apply keep_drewN | apply keep_drew | apply keep_alloc | refine keep_far ?_ GW413.out _) | exact HK.out)) : p := h
theorem ab45_ {p : Prop} (h : p := by repeat (first | (with_reducible first | exact HB.out | apply below_alloc | apply pw_below_drewN | apply below_drew1 | refine below_set ?_ (IsS91.ge HI0.out) | refine below_set ?_ GE119.out) | exact HB.out)) : p := h
theorem ab48_ {p : Prop} (h : p := by repeat (first | (with_reducible first | exact HI0.out | apply IsS91.alloc | apply IsS91.drewN | apply IsS91.drew | apply IsS91.set_1 | refine IsS91.far ?_ NB0_187.out _) | exact HI0.out)) : p := h
theorem ab49_ {p : Prop} (h : p := by repeat (first | (with_reducible first | exact HI0.out | apply IsS91.alloc | apply IsS91.drewN | apply IsS91.drew | apply IsS91.set_1 | refine IsS91.far ?_ NB0_119.out _) | exact HI0.out)) : p := h
theorem ab50_ {p : Prop} (h : p := by repeat (first | (with_reducible first | exact HK.out | apply KeepBut.set_ | apply keep_drewN | apply keep_drew | apply keep_alloc | refine keep_far ?_ GW377.out _) | exact HK.out)) : p := h
theorem ab51_ {p : Prop} (h : p := by repeat (first | (with_reducible first | exact HB.out | apply below_alloc | apply pw_below_drewN | apply below_drew1 | refine below_set ?_ (IsS91.ge HI0.out) | refine below_set ?_ GE485.out) | exact HB.out)) : p := h
theorem ab53_ {p : Prop} (h : p := by repeat (first | (with_reducible first | exact HI0.out | apply IsS91.alloc | apply IsS91.drewN | apply IsS91.drew | apply IsS91.set_1 | refine IsS91.far ?_ NB0_147.out _) | exact HI0.out)) : p := h
theorem ab54_ {p : Prop} (h : p := by repeat (first | (with_reducible first | exact HI0.out | apply IsS91.alloc | apply IsS91.drewN | apply IsS91.drew | apply IsS91.set_1 | refine IsS91.far ?_ NB0_147.out _ | refine IsS91.far ?_ NB0_164.out _) | exact HI0.out)) : p := h
theorem ab55_ {p : Prop} (h : p := by repeat (first | (with_reducible first | exact HK.out | apply KeepBut.set_ | apply keep_drewN | apply keep_drew | apply keep_alloc | refine keep_far ?_ GW176.out _) | exact HK.out)) : p := h
theorem ab56_ {p : Prop} (h : p := by repeat (first | (with_reducible first | exact HB.out | apply below_alloc | apply pw_below_drewN | apply below_drew1 | refine below_set ?_ GE642.out) | exact HB.out)) : p := h
theorem ab57_ {p : Prop} (h : p := by repeat (first | (with_reducible first | exact HB.out | apply below_alloc | apply pw_below_drewN | apply below_drew1 | refine below_set ?_ GE107.out | refine below_set ?_ GE108.out | refine below_set ?_ GE109.out) | exact HB.out)) : p := h
theorem ab58_ {p : Prop} (h : p := by repeat (first | (with_reducible first | exact HB.out | apply below_alloc | apply pw_below_drewN | apply below_drew1 | refine below_set ?_ (IsS91.ge HI0.out) | refine below_set ?_ GE147.out) | exact HB.out)) : p := h
theorem ab59_ {p : Prop} (h : p := by repeat (first | (with_reducible first | exact HB.out | apply below_alloc | apply pw_below_drewN | apply below_drew1 | refine below_set ?_ GE526.out | refine below_set ?_ GE527.out | refine below_set ?_ GE541.out | refine below_set ?_ GE540.out) | exact HB.out)) : p := h
theorem ab60_ {p : Prop} (h : p := by repeat (first | (with_reducible first | exact HI0.out | apply IsS91.alloc | apply IsS91.drewN | apply IsS91.drew | apply IsS91.set_1 | refine IsS91.far ?_ NB0_413.out _) | exact HI0.out)) : p := h
theorem ab61_ {p : Prop} (h : p := by repeat (first | (with_reducible first | exact HB.out | apply below_alloc | apply pw_below_drewN | apply below_drew1 | refine below_set ?_ (IsS91.ge HI0.out) | refine below_set ?_ GE147.out | refine below_set ?_ GE164.out) | exact HB.out)) : p := h
theorem ab62_ {p : Prop} (h : p := by repeat (first | (with_reducible first | exact HI0.out | apply IsS91.alloc | apply IsS91.drewN | apply IsS91.drew | apply IsS91.set_1 | refine IsS91.far ?_ NB0_377.out _ | refine IsS91.far ?_ NB0_386.out _) | exact HI0.out)) : p := h
theorem ab64_ {p : Prop} (h : p := by repeat (first | (with_reducible first | exact HB.out | apply below_alloc | apply pw_below_drewN | apply below_drew1 | refine below_set ?_ (IsS91.ge HI0.out) | refine below_set ?_ GE187.out) | exact HB.out)) : p := h
theorem ab65_ {p : Prop} (h : p := by repeat (first | (with_reducible first | exact HB.out | apply below_alloc | apply pw_below_drewN | apply below_drew1 | refine below_set ?_ GE107.out | refine below_set ?_ GE108.out) | exact HB.out)) : p := h
theorem ab67_ {p : Prop} (h : p := by repeat (first | (with_reducible first | exact HBW.out | apply below_alloc | apply pw_below_drewN | apply below_drew1) | exact HBW.out)) : p := h
theorem ab70_ {p : Prop} (h : p := by repeat (first | (with_reducible first | exact HB.out | apply below_alloc | apply pw_below_drewN | apply below_drew1 | refine below_set ?_ GE526.out) | exact HB.out)) : p := h
theorem ab71_ {p : Prop} (h : p := by repeat (first | (with_reducible first | exact HB.out | apply below_alloc | apply pw_below_drewN | apply below_drew1 | refine below_set ?_ GE107.out) | exact HB.out)) : p := h
theorem ab72_ {p : Prop} (h : p := by repeat (first | (with_reducible first | exact HB.out | apply below_alloc | apply pw_below_drewN | apply below_drew1 | refine below_set ?_ GE599.out) | exact HB.out)) : p := h
theorem ab73_ {p : Prop} (h : p := by repeat (first | (with_reducible first | exact HB.out | apply below_alloc | apply pw_below_drewN | apply below_drew1 | refine below_set ?_ GE688.out) | exact HB.out)) : p := h
theorem ab74_ {p : Prop} (h : p := by repeat (first | (with_reducible first | exact HB.out | apply below_alloc | apply pw_below_drewN | apply below_drew1 | refine below_set ?_ GE115.out) | exact HB.out)) : p := h
theorem ab75_ {p : Prop} (h : p := by repeat (first | (with_reducible first | exact HB.out | apply below_alloc | apply pw_below_drewN | apply below_drew1 | refine below_set ?_ GE694.out) | exact HB.out)) : p := h
theorem ab77_ {p : Prop} (h : p := by repeat (first | (with_reducible first | exact HB.out | apply below_alloc | apply pw_below_drewN | apply below_drew1 | refine below_set ?_ (IsS91.ge HI0.out) | refine below_set ?_ GE413.out) | exact HB.out)) : p := h
theorem ab79_ {p : Prop} (h : p := by repeat (first | (with_reducible first | exact HI0.out | apply IsS91.alloc | apply IsS91.drewN | apply IsS91.drew | apply IsS91.set_1 | refine IsS91.far ?_ NB0_377.out _) | exact HI0.out)) : p := h
theorem ab81_ {p : Prop} (h : p := by repeat (first | (with_reducible first | exact HI0.out | apply IsS91.alloc | apply IsS91.drewN | apply IsS91.drew | apply IsS91.set_1 | refine IsS91.far ?_ NB0_176.out _) | exact HI0.out)) : p := h
theorem ab82_ {p : Prop} (h : p := by repeat (first | (with_reducible first | exact HB.out | apply below_alloc | apply pw_below_drewN | apply below_drew1 | refine below_set ?_ GE516.out) | exact HB.out)) : p := h
theorem ab83_ {p : Prop} (h : p := by repeat (first | (with_reducible first | exact HB.out | apply below_alloc | apply pw_below_drewN | apply below_drew1 | refine below_set ?_ GE584.out) | exact HB.out)) : p := h
theorem ab84_ {p : Prop} (h : p := by repeat (first | (with_reducible first | exact HB.out | apply below_alloc | apply pw_below_drewN | apply below_drew1 | refine below_set ?_ GE586.out) | exact HB.out)) : p := h
theorem ab85_ {p : Prop} (h : p := by repeat (first | (with_reducible first | exact HB.out | apply below_alloc | apply pw_below_drewN | apply below_drew1 | refine below_set ?_ GE597.out) | exact HB.out)) : p := h
theorem ab86_ {p : Prop} (h : p := by repeat (first | (with_reducible first | exact HK.out | apply keep_drewN | apply keep_drew) | exact HK.out)) : p := h
theorem aN_ {p q : Prop} (x : q) (h : q → p := by intro hx_; (with_reducible repeat (first | apply Kd.N_alloc | apply Kd.N_drewN | apply Kd.N_drew)); exact hx_) : p := h x
theorem aR_ {p q : Prop} (x : q) (h : q → p := by intro hx_; (with_reducible repeat (first | apply Kd.R_alloc | apply Kd.R_drewN | apply Kd.R_drew)); exact hx_) : p := h x
theorem aG_ {p q : Prop} (x : q) (h : q → p := by intro hx_; (with_reducible repeat (first | refine blk_drewN ?_ _ | refine blk_drew ?_ | refine blk_alloc ?_ _)); exact hx_) : p := h x
theorem rr_ {p : Prop} (h : p := by first | rfl | (simp [errW_none, errW_some] <;> rfl) | (simp [*, errW_none, errW_some] <;> rfl)) : p := h
theorem bsm {α β : Type} {o : Option α} {f : α → Option β} {b : β} (h : o.bind f = some b) : ∃ a, o = some a ∧ f a = some b := Option.bind_eq_some_iff.mp h
theorem am {p : Prop} (h : p) : Aside0 p := ⟨h⟩
theorem bcf1_ {w : World} {g : Nat} {t : TypeId} {x0 : Value} (h : w.heap[g]? = some (.cells #[x0] t (0, 0))) : w.cell? ⟨g, 0, none⟩ = some x0 ∧ w.frozen? ⟨g, 0, none⟩ = false := ⟨(blk_cell h 0).trans rfl, blk_frozen h 0⟩
theorem bcf3_ {w : World} {g : Nat} {t : TypeId} {x0 x1 x2 : Value} (h : w.heap[g]? = some (.cells #[x0, x1, x2] t (0, 0))) : w.cell? ⟨g, 0, none⟩ = some x0 ∧ w.cell? ⟨g, 1, none⟩ = some x1 ∧ w.cell? ⟨g, 2, none⟩ = some x2 ∧ w.frozen? ⟨g, 0, none⟩ = false ∧ w.frozen? ⟨g, 1, none⟩ = false ∧ w.frozen? ⟨g, 2, none⟩ = false := ⟨(blk_cell h 0).trans rfl, (blk_cell h 1).trans rfl, (blk_cell h 2).trans rfl, blk_frozen h 0, blk_frozen h 1, blk_frozen h 2⟩
theorem bcf8_ {w : World} {g : Nat} {t : TypeId} {x0 x1 x2 x3 x4 x5 x6 x7 : Value} (h : w.heap[g]? = some (.cells #[x0, x1, x2, x3, x4, x5, x6, x7] t (0, 0))) : w.cell? ⟨g, 0, none⟩ = some x0 ∧ w.cell? ⟨g, 1, none⟩ = some x1 ∧ w.cell? ⟨g, 2, none⟩ = some x2 ∧ w.cell? ⟨g, 3, none⟩ = some x3 ∧ w.cell? ⟨g, 4, none⟩ = some x4 ∧ w.cell? ⟨g, 5, none⟩ = some x5 ∧ w.cell? ⟨g, 6, none⟩ = some x6 ∧ w.cell? ⟨g, 7, none⟩ = some x7 ∧ w.frozen? ⟨g, 0, none⟩ = false ∧ w.frozen? ⟨g, 1, none⟩ = false ∧ w.frozen? ⟨g, 2, none⟩ = false ∧ w.frozen? ⟨g, 3, none⟩ = false ∧ w.frozen? ⟨g, 4, none⟩ = false ∧ w.frozen? ⟨g, 5, none⟩ = false ∧ w.frozen? ⟨g, 6, none⟩ = false ∧ w.frozen? ⟨g, 7, none⟩ = false := ⟨(blk_cell h 0).trans rfl, (blk_cell h 1).trans rfl, (blk_cell h 2).trans rfl, (blk_cell h 3).trans rfl, (blk_cell h 4).trans rfl, (blk_cell h 5).trans rfl, (blk_cell h 6).trans rfl, (blk_cell h 7).trans rfl, blk_frozen h 0, blk_frozen h 1, blk_frozen h 2, blk_frozen h 3, blk_frozen h 4, blk_frozen h 5, blk_frozen h 6, blk_frozen h 7⟩
theorem bbl_ {W0 W W1 : World} {g : Nat} {o : Obj} (x : W0.heap[g]? = some o) (hb : Below W.heap.size W W1) (h : W0.heap[g]? = some o → W.heap[g]? = some o := by intro hx_; (with_reducible repeat (first | refine blk_drewN ?_ _ | refine blk_drew ?_ | refine blk_alloc ?_ _)); exact hx_) : W1.heap[g]? = some o := blk_below (h x) hb
theorem blt_ {W0 W : World} {g : Nat} {o : Obj} (x : W0.heap[g]? = some o) (h : W0.heap[g]? = some o → W.heap[g]? = some o := by intro hx_; (with_reducible repeat (first | refine blk_drewN ?_ _ | refine blk_drew ?_ | refine blk_alloc ?_ _)); exact hx_) : g < W.heap.size := blk_lt (h x)
theorem frb_ {W0 W : World} {g : Nat} {o : Obj} (x : W0.heap[g]? = some o) (k : Nat) (hk : W.heap.size ≤ k) (h : W0.heap[g]? = some o → W.heap[g]? = some o := by intro hx_; (with_reducible repeat (first | refine blk_drewN ?_ _ | refine blk_drew ?_ | refine blk_alloc ?_ _)); exact hx_) : k ≠ g := Kd.freshB (h x) k hk
theorem aC_ {p q : Prop} (x : q) (h : q → p := by intro hx_; repeat (first | exact hx_ | (with_reducible refine Kd.C_alloc ?_ _) | (with_reducible refine Kd.C_drewN ?_ _) | (with_reducible refine Kd.C_drew ?_))) : p := h x
theorem rn_ {p : Prop} (h : p := by first | (go_simp; done) | (go_simp; rfl)) : p := h
theorem nm_ {p : Prop} (h : p := by first | (simp only [putAll, Act.put, List.setIfInBounds_toArray, List.set_cons_zero, List.set_cons_succ]; done) | (simp only [putAll, Act.put, List.setIfInBounds_toArray, List.set_cons_zero, List.set_cons_succ]; rfl)) : p := h
theorem sd_ {p : Prop} (h : p := by first | rfl | (simp; done) | (simp [*]; done)) : p := h
theorem asm_ {p : Prop} (h : p := by first | (with_reducible assumption) | assumption) : p := h
theorem nb_ {p q : Prop} (x : q) (h : q → p := by intro hx_; first | (rw [add_block]; exact hx_) | (show (Addr.add _ _).block ≠ _; rw [add_block]; exact hx_) | exact hx_) : p := h x
def spec_l6Open.f (l0 : List Int) : Option (List Int × Int) := if (l0.length : Int) > 2000 then (if 2000 ≤ (l0.length : Int) then (some (l0.take 2000, 0)) else (none)) else (some (l0, 0))
def spec_l6Rd_pick.j0 : Nat → Int → Bool → List Int → Int → Option (Int × Int)
 | 0, _, _, _, _ => none
 | k + 1, x1, x24, x1000, x1001 => if x24 = true then (some (0, x1001)) else (if (wrap64 (x1001 - 1)) < (x1000.length : Int) then (if 0 ≤ (wrap64 (x1001 - 1)) then (if x1 = 0 then (none) else (some (Int.tmod (wrap64 (rd x1000 (wrap64 (x1001 - 1)))) x1, x1001))) else (none)) else (if (x1000.length : Int) = 0 then (none) else (if 0 ≤ (Int.tmod (wrap64 (x1001 - 1)) (x1000.length : Int)) then (if (Int.tmod (wrap64 (x1001 - 1)) (x1000.length : Int)) < (x1000.length : Int) then (if 0 ≤ (Int.tmod (wrap64 ((wrap64 ((wrap64 (x1001 - 1)) * 7)) + 3)) (x1000.length : Int)) then (if (Int.tmod (wrap64 ((wrap64 ((wrap64 (x1001 - 1)) * 7)) + 3)) (x1000.length : Int)) < (x1000.length : Int) then (if x1 = 0 then (none) else (some (Int.tmod (Go.bits .xor .i64 (wrap64 ((wrap64 ((wrap64 ((wrap64 ((wrap64 (rd x1000 (Int.tmod (wrap64 (x1001 - 1)) (x1000.length : Int)))) * 131)) + (wrap64 ((wrap64 (rd x1000 (Int.tmod (wrap64 ((wrap64 ((wrap64 (x1001 - 1)) * 7)) + 3)) (x1000.length : Int)))) * 1117)))) + (wrap64 ((wrap64 (x1001 - 1)) * 29)))) + (wrap64 ((wrap64 (Int.tdiv (wrap64 (x1001 - 1)) (x1000.length : Int))) * 53)))) (wrap64 (Int.tdiv (wrap64 ((wrap64 ((wrap64 ((wrap64 ((wrap64 (rd x1000 (Int.tmod (wrap64 (x1001 - 1)) (x1000.length : Int)))) * 131)) + (wrap64 ((wrap64 (rd x1000 (Int.tmod (wrap64 ((wrap64 ((wrap64 (x1001 - 1)) * 7)) + 3)) (x1000.length : Int)))) * 1117)))) + (wrap64 ((wrap64 (x1001 - 1)) * 29)))) + (wrap64 ((wrap64 (Int.tdiv (wrap64 (x1001 - 1)) (x1000.length : Int))) * 53)))) 64))) x1, x1001))) else (none)) else (none)) else (none)) else (none))))
def spec_l6Rd_pick.f (k : Nat) (s0_0 : List Int) (s0_1 : Int) (a1 : Int) : Option (Int × Int) := if a1 < 1 then (spec_l6Rd_pick.j0 k a1 true s0_0 (wrap64 (s0_1 + 1))) else (spec_l6Rd_pick.j0 k a1 ((s0_0.length : Int) == 0) s0_0 (wrap64 (s0_1 + 1)))
def spec_l4Both.f (a0 : Int) (a1_0 : Int) (a1_1 : Int) (l1_2 : List (S32)) (a2_0 : Int) (a2_1 : Int) (l2_2 : List (S32)) : Option (Int × Int × (List (S32))) := some (a0, 0, (([(⟨a1_0, a1_1, l1_2⟩ : S32), (⟨a2_0, a2_1, l2_2⟩ : S32)] : List (S32))))
def spec_l91Op.f (k : Nat) (s0_0 : List Int) (s0_1 : Int) : Option (Int × Int) := (spec_l6Rd_pick.f k s0_0 s0_1 12).bind fun bt113 => (some (wrap64 (1 + bt113.1), bt113.2))
def spec_l4Leaf.f (a0 : Int) (a1 : Int) : Option (Int × Int × (List (S32))) := some (a0, a1, (([] : List (S32))))
def spec_l91Leaf.f (k : Nat) (s0_0 : List Int) (s0_1 : Int) : Option (Int × Int × (List (S32)) × Int) := (spec_l6Rd_pick.f k s0_0 s0_1 4).bind fun bt120 => (if bt120.1 = 0 then ((spec_l6Rd_pick.f k s0_0 bt120.2 4).bind fun bt122 => ((spec_l4Leaf.f 0 bt122.1).bind fun bt124 => (some (bt124.1, bt124.2.1, bt124.2.2, bt122.2)))) else (if bt120.1 = 1 then ((some (([5, 31, 32, 100, 2047, 2048, 65536, 99999] : List Int) : List Int)).bind fun y129 => ((spec_l6Rd_pick.f k s0_0 bt120.2 8).bind fun bt132 => (if 0 ≤ bt132.1 then (if bt132.1 < (y129.length : Int) then ((spec_l4Leaf.f 0 (rd y129 bt132.1)).bind fun bt135 => (some (bt135.1, bt135.2.1, bt135.2.2, bt132.2))) else (none)) else (none)))) else ((spec_l6Rd_pick.f k s0_0 bt120.2 4).bind fun bt140 => ((spec_l4Leaf.f 13 bt140.1).bind fun bt142 => (some (bt142.1, bt142.2.1, bt142.2.2, bt140.2))))))
mutual
def spec_l91Expr.j0 : Nat → Int → Bool → List Int → Int → Option (Int × Int × (List (S32)) × Int)
 | 0, _, _, _, _ => none
 | k + 1, x1, x13, x1000, x1001 => if x13 = true then ((spec_l91Leaf.f k x1000 x1001).bind fun bt150 => (some (bt150.1, bt150.2.1, bt150.2.2.1, bt150.2.2.2))) else ((spec_l91Op.f k x1000 x1001).bind fun bt156 => ((spec_l91Expr.f k x1000 bt156.2 (wrap64 (x1 - 1))).bind fun bt158 => ((spec_l91Expr.f k x1000 bt158.2.2.2 (wrap64 (x1 - 1))).bind fun bt165 => ((spec_l4Both.f bt156.1 bt158.1 bt158.2.1 bt158.2.2.1 bt165.1 bt165.2.1 bt165.2.2.1).bind fun bt171 => (some (bt171.1, bt171.2.1, bt171.2.2, bt165.2.2.2))))))
def spec_l91Expr.f : Nat → List Int → Int → Int → Option (Int × Int × (List (S32)) × Int)
 | 0, _, _, _ => none
 | k + 1, s0_0, s0_1, a1 => if a1 < 2 then (spec_l91Expr.j0 k a1 true s0_0 s0_1) else ((spec_l6Rd_pick.f k s0_0 s0_1 3).bind fun bt148 => (spec_l91Expr.j0 k a1 (bt148.1 == 0) s0_0 bt148.2))
end
def spec_l92Set.f (k : Nat) (s0_0 : List Int) (s0_1 : Int) : Option (Int × Int × Int × Int × Int × (List (S32)) × (List (S35)) × (List (S35)) × Int) := (spec_l6Rd_pick.f k s0_0 s0_1 3).bind fun bt177 => ((spec_l6Rd_pick.f k s0_0 bt177.2 3).bind fun bt179 => ((spec_l91Expr.f k s0_0 bt179.2 (wrap64 (1 + bt179.1))).bind fun bt181 => (some (1, bt177.1, 0, bt181.1, bt181.2.1, bt181.2.2.1, ([] : List (S35)), ([] : List (S35)), bt181.2.2.2))))
def spec_l92Talk.f (k : Nat) (s0_0 : List Int) (s0_1 : Int) (a1 : Int) : Option (Int × Int × Int × Int × Int × (List (S32)) × (List (S35)) × (List (S35)) × Int) := if a1 < 1 then ((spec_l92Set.f k s0_0 s0_1).bind fun bt188 => (some (bt188.1, bt188.2.1, bt188.2.2.1, bt188.2.2.2.1, bt188.2.2.2.2.1, bt188.2.2.2.2.2.1, bt188.2.2.2.2.2.2.1, bt188.2.2.2.2.2.2.2.1, bt188.2.2.2.2.2.2.2.2))) else ((spec_l6Rd_pick.f k s0_0 s0_1 a1).bind fun bt203 => ((spec_l6Rd_pick.f k s0_0 bt203.2 2).bind fun bt205 => (if bt205.1 = 0 then ((spec_l6Rd_pick.f k s0_0 bt205.2 3).bind fun bt207 => ((spec_l91Expr.f k s0_0 bt207.2 (wrap64 (1 + bt207.1))).bind fun bt209 => (some (4, 0, bt203.1, bt209.1, bt209.2.1, bt209.2.2.1, ([] : List (S35)), ([] : List (S35)), bt209.2.2.2)))) else ((spec_l6Rd_pick.f k s0_0 bt205.2 3).bind fun bt215 => (some (5, bt215.1, bt203.1, 0, 0, ([] : List (S32)), ([] : List (S35)), ([] : List (S35)), bt215.2))))))
mutual
def spec_l92Loop.f : Nat → List Int → Int → Int → Int → Option ((List (S35)) × Int)
 | 0, _, _, _, _ => none
 | k + 1, s0_0, s0_1, a1, a2 => (spec_l6Rd_pick.f k s0_0 s0_1 3).bind fun bt217 => ((spec_l92Block.f k s0_0 bt217.2 a1 (wrap64 (a2 - 1)) bt217.1 false).bind fun bt219 => ((spec_l4Leaf.f 13 3).bind fun bt223 => ((spec_l4Leaf.f 0 1).bind fun bt228 => ((spec_l4Both.f 8 bt223.1 bt223.2.1 bt223.2.2 bt228.1 bt228.2.1 bt228.2.2).bind fun bt233 => ((spec_l4Leaf.f 13 3).bind fun bt239 => ((spec_l6Rd_pick.f k s0_0 bt219.2 3).bind fun bt244 => ((spec_l4Leaf.f 0 (wrap64 (1 + bt244.1))).bind fun bt246 => ((spec_l4Both.f 5 bt239.1 bt239.2.1 bt239.2.2 bt246.1 bt246.2.1 bt246.2.2).bind fun bt251 => ((some (([(⟨1, 3, 0, (⟨bt233.1, bt233.2.1, bt233.2.2⟩ : S32), ([] : List (S35)), ([] : List (S35))⟩ : S35)] : List (S35)) : List (S35))).bind fun y256 => (if bt219.1.length + y256.length < 1256584717458 then ((spec_l4Leaf.f 0 0).bind fun bt263 => (some ((([(⟨1, 3, 0, (⟨bt263.1, bt263.2.1, bt263.2.2⟩ : S32), ([] : List (S35)), ([] : List (S35))⟩ : S35), (⟨3, 0, 0, (⟨bt251.1, bt251.2.1, bt251.2.2⟩ : S32), (bt219.1 ++ y256), ([] : List (S35))⟩ : S35)] : List (S35))), bt244.2))) else (none)))))))))))
def spec_l92Stmt.j0 : Nat → Int → Int → Bool → Int → Bool → List Int → Int → Option ((List (S35)) × Int)
 | 0, _, _, _, _, _, _, _ => none
 | k + 1, x1, x2, x3, x10, x11, x1000, x1001 => if x11 = true then ((spec_l92Set.f k x1000 x1001).bind fun bt273 => (some ((([(⟨bt273.1, bt273.2.1, bt273.2.2.1, (⟨bt273.2.2.2.1, bt273.2.2.2.2.1, bt273.2.2.2.2.2.1⟩ : S32), bt273.2.2.2.2.2.2.1, bt273.2.2.2.2.2.2.2.1⟩ : S35)] : List (S35))), bt273.2.2.2.2.2.2.2.2))) else (if x10 = 2 then (if x2 > 0 then ((spec_l92If.f k x1000 x1001 x1 x2 x3).bind fun bt291 => (some ((([(⟨bt291.1, bt291.2.1, bt291.2.2.1, (⟨bt291.2.2.2.1, bt291.2.2.2.2.1, bt291.2.2.2.2.2.1⟩ : S32), bt291.2.2.2.2.2.2.1, bt291.2.2.2.2.2.2.2.1⟩ : S35)] : List (S35))), bt291.2.2.2.2.2.2.2.2))) else ((spec_l6Rd_pick.f k x1000 x1001 3).bind fun bt309 => ((spec_l91Expr.f k x1000 bt309.2 (wrap64 (1 + bt309.1))).bind fun bt311 => (some ((([(⟨7, 0, 0, (⟨bt311.1, bt311.2.1, bt311.2.2.1⟩ : S32), ([] : List (S35)), ([] : List (S35))⟩ : S35)] : List (S35))), bt311.2.2.2))))) else (if x10 = 3 then (if x2 > 0 then (spec_l92Stmt.j1 k x1 x2 x3 x1000 x1001) else (spec_l92Stmt.j1 k x1 x2 false x1000 x1001)) else (if x10 = 4 then (spec_l92Stmt.j2 k x1 x10 (x10 == 4) x1000 x1001) else (if x10 = 5 then (spec_l92Stmt.j2 k x1 x10 (x10 == 5) x1000 x1001) else (spec_l92Stmt.j2 k x1 x10 (x10 == 6) x1000 x1001)))))
def spec_l92Stmt.j1 : Nat → Int → Int → Bool → List Int → Int → Option ((List (S35)) × Int)
 | 0, _, _, _, _, _ => none
 | k + 1, x1, x2, x33, x1000, x1001 => if x33 = true then ((spec_l92Loop.f k x1000 x1001 x1 x2).bind fun bt320 => (some (bt320.1, bt320.2))) else ((spec_l6Rd_pick.f k x1000 x1001 3).bind fun bt324 => ((spec_l91Expr.f k x1000 bt324.2 (wrap64 (1 + bt324.1))).bind fun bt326 => (some ((([(⟨7, 0, 0, (⟨bt326.1, bt326.2.1, bt326.2.2.1⟩ : S32), ([] : List (S35)), ([] : List (S35))⟩ : S35)] : List (S35))), bt326.2.2.2))))
def spec_l92Stmt.j2 : Nat → Int → Int → Bool → List Int → Int → Option ((List (S35)) × Int)
 | 0, _, _, _, _, _ => none
 | k + 1, x1, x10, x38, x1000, x1001 => if x38 = true then ((spec_l92Talk.f k x1000 x1001 x1).bind fun bt335 => (some ((([(⟨bt335.1, bt335.2.1, bt335.2.2.1, (⟨bt335.2.2.2.1, bt335.2.2.2.2.1, bt335.2.2.2.2.2.1⟩ : S32), bt335.2.2.2.2.2.2.1, bt335.2.2.2.2.2.2.2.1⟩ : S35)] : List (S35))), bt335.2.2.2.2.2.2.2.2))) else (if x10 = 7 then (some ((([(⟨6, 0, 0, (⟨0, 0, ([] : List (S32))⟩ : S32), ([] : List (S35)), ([] : List (S35))⟩ : S35)] : List (S35))), x1001)) else ((spec_l6Rd_pick.f k x1000 x1001 3).bind fun bt356 => ((spec_l91Expr.f k x1000 bt356.2 (wrap64 (1 + bt356.1))).bind fun bt358 => (some ((([(⟨7, 0, 0, (⟨bt358.1, bt358.2.1, bt358.2.2.1⟩ : S32), ([] : List (S35)), ([] : List (S35))⟩ : S35)] : List (S35))), bt358.2.2.2)))))
def spec_l92Stmt.f : Nat → List Int → Int → Int → Int → Bool → Option ((List (S35)) × Int)
 | 0, _, _, _, _, _ => none
 | k + 1, s0_0, s0_1, a1, a2, a3 => (spec_l6Rd_pick.f k s0_0 s0_1 10).bind fun bt271 => (if bt271.1 = 0 then (spec_l92Stmt.j0 k a1 a2 a3 bt271.1 (bt271.1 == 0) s0_0 bt271.2) else (spec_l92Stmt.j0 k a1 a2 a3 bt271.1 (bt271.1 == 1) s0_0 bt271.2))
def spec_l92Block.l0 : Nat → Int → Int → Int → Bool → List (S35) → Int → List Int → Int → Option ((List (S35)) × Int)
 | 0, _, _, _, _, _, _, _, _ => none
 | k + 1, x1, x2, x3, x4, x11, x12, x1000, x1001 => if x12 < x3 then ((spec_l92Stmt.f k x1000 x1001 x1 x2 x4).bind fun bt370 => (if x11.length + bt370.1.length < 1256584717458 then (spec_l92Block.l0 k x1 x2 x3 x4 (x11 ++ bt370.1) (wrap64 (x12 + 1)) x1000 bt370.2) else (none))) else (some (x11, x1001))
def spec_l92Block.f : Nat → List Int → Int → Int → Int → Int → Bool → Option ((List (S35)) × Int)
 | 0, _, _, _, _, _, _ => none
 | k + 1, s0_0, s0_1, a1, a2, a3, a4 => spec_l92Block.l0 k a1 a2 a3 a4 (([] : List (S35))) 0 s0_0 s0_1
def spec_l92If.f : Nat → List Int → Int → Int → Int → Bool → Option (Int × Int × Int × Int × Int × (List (S32)) × (List (S35)) × (List (S35)) × Int)
 | 0, _, _, _, _, _ => none
 | k + 1, s0_0, s0_1, a1, a2, a3 => (spec_l6Rd_pick.f k s0_0 s0_1 2).bind fun bt378 => ((spec_l91Expr.f k s0_0 bt378.2 (wrap64 (1 + bt378.1))).bind fun bt380 => ((spec_l6Rd_pick.f k s0_0 bt380.2.2.2 3).bind fun bt387 => ((spec_l92Block.f k s0_0 bt387.2 a1 (wrap64 (a2 - 1)) bt387.1 a3).bind fun bt389 => ((spec_l6Rd_pick.f k s0_0 bt389.2 3).bind fun bt393 => ((spec_l92Block.f k s0_0 bt393.2 a1 (wrap64 (a2 - 1)) bt393.1 a3).bind fun bt395 => (some (2, 0, 0, bt380.1, bt380.2.1, bt380.2.2.1, bt389.1, bt395.1, bt395.2)))))))
end
mutual
def spec_l11Count.l0 : Nat → List (S35) → Int → Int → Option (Int)
 | 0, _, _, _ => none
 | k + 1, x0, x3, x4 => if x4 < (x0.length : Int) then (if 0 ≤ x4 then ((spec_l11Count.f k ((rd_T35 x0 x4).f4)).bind fun t400 => ((spec_l11Count.f k ((rd_T35 x0 x4).f5)).bind fun t402 => (spec_l11Count.l0 k x0 (wrap64 ((wrap64 ((wrap64 (x3 + 1)) + t400)) + t402)) (wrap64 (x4 + 1))))) else (none)) else (some x3)
def spec_l11Count.f : Nat → List (S35) → Option (Int)
 | 0, _ => none
 | k + 1, l0 => spec_l11Count.l0 k l0 0 0
end
def spec_l92Stmts.l0 : Nat → List (S35) → List Int → Int → Option ((List (S35)) × Int)
 | 0, _, _, _ => none
 | k + 1, x5, x1000, x1001 => (spec_l11Count.f k x5).bind fun t409 => (if t409 > 16 then (if 0 ≤ (wrap64 ((x5.length : Int) - 1)) then (if (wrap64 ((x5.length : Int) - 1)) ≤ (x5.length : Int) then (spec_l92Stmts.l0 k (x5.take ((wrap64 ((x5.length : Int) - 1)) : Int).toNat) x1000 x1001) else (none)) else (none)) else (some (x5, x1001)))
def spec_l92Stmts.f (k : Nat) (s0_0 : List Int) (s0_1 : Int) (a1 : Int) : Option ((List (S35)) × Int) := (spec_l6Rd_pick.f k s0_0 s0_1 6).bind fun bt403 => ((spec_l92Block.f k s0_0 bt403.2 a1 3 (wrap64 (1 + bt403.1)) true).bind fun bt405 => (spec_l92Stmts.l0 k bt405.1 s0_0 bt405.2))
def spec_l92Endless.f (k : Nat) (s0_0 : List Int) (s0_1 : Int) : Option (Int × Int × Int × Int × Int × (List (S32)) × (List (S35)) × (List (S35)) × Int) := (spec_l4Leaf.f 0 1).bind fun bt414 => ((spec_l6Rd_pick.f k s0_0 s0_1 2).bind fun bt419 => ((spec_l92Block.f k s0_0 bt419.2 0 1 bt419.1 false).bind fun bt421 => (some (3, 0, 0, bt414.1, bt414.2.1, bt414.2.2, bt421.1, ([] : List (S35)), bt421.2))))
def spec_l92Some.f (k : Nat) (s0_0 : List Int) (s0_1 : Int) : Option ((List (S35)) × Int) := (spec_l92Stmts.f k s0_0 s0_1 3).bind fun bt425 => ((spec_l6Rd_pick.f k s0_0 bt425.2 24).bind fun bt429 => (if bt429.1 = 0 then ((spec_l92Endless.f k s0_0 bt429.2).bind fun bt431 => (if bt425.1.length < 1256584717458 then (some ((bt425.1 ++ [(⟨bt431.1, bt431.2.1, bt431.2.2.1, (⟨bt431.2.2.2.1, bt431.2.2.2.2.1, bt431.2.2.2.2.2.1⟩ : S32), bt431.2.2.2.2.2.2.1, bt431.2.2.2.2.2.2.2.1⟩ : S35)]), bt431.2.2.2.2.2.2.2.2)) else (none))) else (if bt429.1 = 1 then ((some (([0, 8] : List Int) : List Int)).bind fun y449 => ((spec_l6Rd_pick.f k s0_0 bt429.2 2).bind fun bt452 => (if 0 ≤ bt452.1 then (if bt452.1 < (y449.length : Int) then (if bt425.1.length < 1256584717458 then (some ((bt425.1 ++ [(⟨rd y449 bt452.1, 0, 0, (⟨0, 0, ([] : List (S32))⟩ : S32), ([] : List (S35)), ([] : List (S35))⟩ : S35)]), bt452.2)) else (none)) else (none)) else (none)))) else (if bt429.1 = 2 then ((spec_l91Leaf.f k s0_0 bt429.2).bind fun bt458 => (if bt425.1.length < 1256584717458 then (some ((bt425.1 ++ [(⟨4, 0, 3, (⟨bt458.1, bt458.2.1, bt458.2.2.1⟩ : S32), ([] : List (S35)), ([] : List (S35))⟩ : S35)]), bt458.2.2.2)) else (none))) else (if bt429.1 = 3 then (if bt425.1.length < 1256584717458 then (some ((bt425.1 ++ [(⟨6, 1, 0, (⟨0, 0, ([] : List (S32))⟩ : S32), ([] : List (S35)), ([] : List (S35))⟩ : S35)]), bt429.2)) else (none)) else (if bt429.1 = 4 then ((spec_l92If.f k s0_0 bt429.2 1 1 false).bind fun bt470 => (if bt425.1.length < 1256584717458 then (some ((bt425.1 ++ [(⟨bt470.1, bt470.2.1, bt470.2.2.1, (⟨bt470.2.2.2.1, bt470.2.2.2.2.1, bt470.2.2.2.2.2.1⟩ : S32), (([(⟨2, 0, 0, (⟨0, 0, ([] : List (S32))⟩ : S32), (([(⟨2, 0, 0, (⟨0, 0, ([] : List (S32))⟩ : S32), (([(⟨2, 0, 0, (⟨0, 0, ([] : List (S32))⟩ : S32), ([] : List (S35)), ([] : List (S35))⟩ : S35)] : List (S35))), ([] : List (S35))⟩ : S35)] : List (S35))), ([] : List (S35))⟩ : S35)] : List (S35))), bt470.2.2.2.2.2.2.2.1⟩ : S35)]), bt470.2.2.2.2.2.2.2.2)) else (none))) else (if bt429.1 = 5 then ((spec_l91Leaf.f k s0_0 bt429.2).bind fun bt498 => (if bt425.1.length < 1256584717458 then (some ((bt425.1 ++ [(⟨3, 0, 0, (⟨bt498.1, bt498.2.1, bt498.2.2.1⟩ : S32), ([] : List (S35)), (([(⟨6, 0, 0, (⟨0, 0, ([] : List (S32))⟩ : S32), ([] : List (S35)), ([] : List (S35))⟩ : S35)] : List (S35)))⟩ : S35)]), bt498.2.2.2)) else (none))) else (some (bt425.1, bt429.2)))))))))
def spec_DrawStmtsFold.f (k : Nat) (l0 : List Int) : Option (List S35) := (spec_l6Open.f l0).bind fun o => (spec_l92Some.f k o.1 o.2).bind fun s => (spec_l6Rd_pick.f k o.1 s.2 3).bind fun p => if p.1 = 0 then ((spec_l92If.f k o.1 p.2 1 1 false).bind fun i => (spec_l91Op.f k o.1 i.2.2.2.2.2.2.2.2).bind fun q => (spec_l6Rd_pick.f k o.1 q.2 3).bind fun a => (spec_l6Rd_pick.f k o.1 a.2 3).bind fun b => some [(⟨i.1, i.2.1, i.2.2.1, ⟨q.1, 0, [⟨0, a.1, []⟩, ⟨0, b.1, []⟩]⟩, i.2.2.2.2.2.2.1, i.2.2.2.2.2.2.2.1⟩ : S35)]) else some s.1
def impl_OpValid.f (a0 : Int) : Option (Bool) := if a0 ≥ 1 then (some (decide (a0 ≤ 12))) else (some false)
def impl_exprValid.f : Nat → Int → Int → List (S32) → Int → Option (Bool)
 | 0, _, _, _, _ => none
 | k + 1, a0_0, a0_1, l0_2, a1 => if a0_0 = 0 then (if a0_1 ≥ 0 then (if a0_1 ≤ 99999 then (if (l0_2.length : Int) = 0 then (some (decide (a1 > 0))) else (some false)) else (some false)) else (some false)) else (if a0_0 = 13 then (if a0_1 ≥ 0 then (if a0_1 < 4 then (if (l0_2.length : Int) = 0 then (some (decide (a1 > 0))) else (some false)) else (some false)) else (some false)) else ((impl_OpValid.f a0_0).bind fun t511 => (if t511 = true then (if a0_1 = 0 then (if (l0_2.length : Int) = 2 then (if a1 > 1 then (if 0 < (l0_2.length : Int) then ((impl_exprValid.f k ((rd_T32 l0_2 0).f0) ((rd_T32 l0_2 0).f1) ((rd_T32 l0_2 0).f2) (wrap64 (a1 - 1))).bind fun t513 => (if t513 = true then (if 1 < (l0_2.length : Int) then ((impl_exprValid.f k ((rd_T32 l0_2 1).f0) ((rd_T32 l0_2 1).f1) ((rd_T32 l0_2 1).f2) (wrap64 (a1 - 1))).bind fun t515 => (some t515)) else (none)) else (some false))) else (none)) else (some false)) else (some false)) else (some false)) else (some false))))
def impl_ExprValid.f (k : Nat) (a0_0 : Int) (a0_1 : Int) (l0_2 : List (S32)) : Option (Bool) := (impl_exprValid.f k a0_0 a0_1 l0_2 5).bind fun t517 => (some t517)
def inr (n limit : Int) (needed : Bool) : Bool := (n == 0) || (needed && (decide (n > 0) && decide (n < limit)))
def stv_rest (k : Nat) (nv nb ne nd no : Bool) (va bx op n : Int) (la : List S32) (lb le : Nat) (boxes : Int) : Option Bool :=
  if inr va 4 nv = true then (if inr bx boxes nb = true then (if nb = true ∧ boxes ≤ bx then some false else
    (if ne = true then ((impl_ExprValid.f k op n la).bind fun t => if t = true then some ((nd || lb == 0) && (no || le == 0)) else some false)
     else (if op = 0 then (if n = 0 then (if 0 < (la.length : Int) then some false else some ((nd || lb == 0) && (no || le == 0))) else some false) else some false))) else some false) else some false
def impl_stmtValid.f (k : Nat) (kd va bx op n : Int) (la : List S32) (lb le : Nat) (boxes : Int) : Option Bool :=
 if kd = 1 then stv_rest k true false true false false va bx op n la lb le boxes
 else if kd = 2 then stv_rest k false false true true true va bx op n la lb le boxes
 else if kd = 3 then stv_rest k false false true true false va bx op n la lb le boxes
 else if kd = 4 then stv_rest k false true true false false va bx op n la lb le boxes
 else if kd = 5 then stv_rest k true true false false false va bx op n la lb le boxes
 else if kd = 7 then stv_rest k false false true false false va bx op n la lb le boxes
 else if kd = 6 then stv_rest k false false false false false va bx op n la lb le boxes
 else some false
mutual
def impl_blockValid.f : Nat → List S35 → Int → Int → Int → Option (Bool × Int)
 | 0, _, _, _, _ => none
 | k + 1, l, boxes, blocks, cnt => if 16 < wrap64 (cnt + (l.length : Int)) then some (false, wrap64 (cnt + (l.length : Int))) else impl_blockValid.l0 k l boxes blocks 0 (wrap64 (cnt + (l.length : Int)))
def impl_blockValid.l0 : Nat → List S35 → Int → Int → Int → Int → Option (Bool × Int)
 | 0, _, _, _, _, _ => none
 | k + 1, l, boxes, blocks, i, cnt => if i < (l.length : Int) then (if 0 ≤ i then
   ((impl_stmtValid.f k (rd_T35 l i).f0 (rd_T35 l i).f1 (rd_T35 l i).f2 (rd_T35 l i).f3.f0 (rd_T35 l i).f3.f1 (rd_T35 l i).f3.f2 (rd_T35 l i).f4.length (rd_T35 l i).f5.length boxes).bind fun t =>
    if t = true then (if 3 < blocks then some (false, cnt) else
     (if (rd_T35 l i).f0 = 2 ∨ (rd_T35 l i).f0 = 3 then (if 3 ≤ blocks then some (false, cnt) else
      ((impl_blockValid.f k (rd_T35 l i).f4 boxes (wrap64 (blocks + 1)) cnt).bind fun p => if p.1 = true then
       ((impl_blockValid.f k (rd_T35 l i).f5 boxes (wrap64 (blocks + 1)) p.2).bind fun q => if q.1 = true then impl_blockValid.l0 k l boxes blocks (wrap64 (i + 1)) q.2 else some (false, q.2)) else some (false, p.2)))
     else impl_blockValid.l0 k l boxes blocks (wrap64 (i + 1)) cnt)) else some (false, cnt)) else none) else some (true, cnt)
end
def impl_stmtsValid.f (k : Nat) (l0 : List (S35)) (a1 : Int) : Option Bool := (impl_blockValid.f k l0 a1 0 0).bind fun p => some p.1
def impl_StmtsValid.f (k : Nat) (l0 : List (S35)) : Option (Bool) := (impl_stmtsValid.f k l0 3).bind fun t518 => (some t518)
def impl_truth.f (a0 : Bool) : Option (Int) := if a0 = true then (some 1) else (some 0)
def impl_Wrap.f (a0 : Int) : Option (Int) := some (wrap64 (wrap32 (a0)))
def impl_apply.f (a0 : Int) (a1 : Int) (a2 : Int) : Option (Int) := if a0 = 1 then (some (Go.bits .or .i64 a1 a2)) else (if a0 = 2 then (some (Go.bits .xor .i64 a1 a2)) else (if a0 = 3 then (some (Go.bits .and .i64 a1 a2)) else (if a0 = 4 then ((impl_truth.f (a1 == a2)).bind fun t519 => (some t519)) else (if a0 = 5 then ((impl_truth.f (decide (a1 < a2))).bind fun t520 => (some t520)) else (if a0 = 6 then (if 0 ≤ (Go.bits .and .i64 a2 31) then ((impl_Wrap.f (shl .i64 a1 (Go.bits .and .i64 a2 31))).bind fun t521 => (some t521)) else (none)) else (if a0 = 7 then (if 0 ≤ (Go.bits .and .i64 a2 31) then (some (shr .i64 a1 (Go.bits .and .i64 a2 31))) else (none)) else (if a0 = 8 then ((impl_Wrap.f (wrap64 (a1 + a2))).bind fun t522 => (some t522)) else (if a0 = 9 then ((impl_Wrap.f (wrap64 (a1 - a2))).bind fun t523 => (some t523)) else (if a0 = 10 then ((impl_Wrap.f (wrap64 (a1 * a2))).bind fun t524 => (some t524)) else (if a0 = 11 then (if a2 = 0 then (some (-1)) else ((impl_Wrap.f (wrap64 (Int.tdiv a1 a2))).bind fun t525 => (some t525))) else (if a2 = 0 then (some a1) else (some (Int.tmod a1 a2)))))))))))))
mutual
def impl_exprFold.j0 : Nat → Bool → Int → Int → List (S32) → Int → Int → List (S32) → Int → Int → List (S32) → Option (Int × Int × (List (S32)))
 | 0, _, _, _, _, _, _, _, _, _, _ => none
 | k + 1, x32, x527000, x527001, x527002, x541000, x541001, x541002, x542000, x542001, x542002 => if x32 = true then ((impl_apply.f x527000 x541001 x542001).bind fun t542 => (if t542 ≥ 0 then (if t542 ≤ 99999 then (some (0, t542, ([] : List (S32)))) else (some (x527000, 0, (([(⟨x541000, x541001, x541002⟩ : S32), (⟨x542000, x542001, x542002⟩ : S32)] : List (S32)))))) else (some (x527000, 0, (([(⟨x541000, x541001, x541002⟩ : S32), (⟨x542000, x542001, x542002⟩ : S32)] : List (S32))))))) else (some (x527000, 0, (([(⟨x541000, x541001, x541002⟩ : S32), (⟨x542000, x542001, x542002⟩ : S32)] : List (S32)))))
def impl_exprFold.f : Nat → Int → Int → List (S32) → Option (Int × Int × (List (S32)))
 | 0, _, _, _ => none
 | k + 1, a0_0, a0_1, l0_2 => if (l0_2.length : Int) = 0 then (some (a0_0, a0_1, ([] : List (S32)))) else (if 0 < (l0_2.length : Int) then ((impl_exprFold.f k ((rd_T32 l0_2 0).f0) ((rd_T32 l0_2 0).f1) ((rd_T32 l0_2 0).f2)).bind fun bt529 => (if 1 < (l0_2.length : Int) then ((impl_exprFold.f k ((rd_T32 l0_2 1).f0) ((rd_T32 l0_2 1).f1) ((rd_T32 l0_2 1).f2)).bind fun bt535 => (if bt529.1 = 0 then (impl_exprFold.j0 k (bt535.1 == 0) a0_0 a0_1 l0_2 bt529.1 bt529.2.1 bt529.2.2 bt535.1 bt535.2.1 bt535.2.2) else (impl_exprFold.j0 k false a0_0 a0_1 l0_2 bt529.1 bt529.2.1 bt529.2.2 bt535.1 bt535.2.1 bt535.2.2))) else (none))) else (none))
end
mutual
def impl_stmtsFold.l0 : Nat → List (S35) → List (S35) → Int → Int → Option ((List (S35)))
 | 0, _, _, _, _ => none
 | k + 1, x3, x7, x8, x9 => if x9 < x8 then (if 0 ≤ x9 then (if x9 < (x7.length : Int) then ((impl_stmtsFold.f k ((rd_T35 x7 x9).f4)).bind fun t554 => ((impl_stmtsFold.f k ((rd_T35 x7 x9).f5)).bind fun t557 => ((impl_exprFold.f k ((rd_T35 x7 x9).f3.f0) ((rd_T35 x7 x9).f3.f1) ((rd_T35 x7 x9).f3.f2)).bind fun bt560 => (if ((rd_T35 x7 x9).f0) = 2 then (if bt560.1 = 0 then (impl_stmtsFold.j1 k x3 (bt560.1 == 0) x7 x8 x9 (bt560.2.1 != 0) ((rd_T35 x7 x9).f0) ((rd_T35 x7 x9).f1) ((rd_T35 x7 x9).f2) bt560.1 bt560.2.1 bt560.2.2 t554 t557) else (impl_stmtsFold.j1 k x3 (bt560.1 == 0) x7 x8 x9 false ((rd_T35 x7 x9).f0) ((rd_T35 x7 x9).f1) ((rd_T35 x7 x9).f2) bt560.1 bt560.2.1 bt560.2.2 t554 t557)) else (impl_stmtsFold.j1 k x3 (bt560.1 == 0) x7 x8 x9 false ((rd_T35 x7 x9).f0) ((rd_T35 x7 x9).f1) ((rd_T35 x7 x9).f2) bt560.1 bt560.2.1 bt560.2.2 t554 t557))))) else (none)) else (none)) else (some x3)
def impl_stmtsFold.j1 : Nat → List (S35) → Bool → List (S35) → Int → Int → Bool → Int → Int → Int → Int → Int → List (S32) → List (S35) → List (S35) → Option ((List (S35)))
 | 0, _, _, _, _, _, _, _, _, _, _, _, _, _, _ => none
 | k + 1, x3, x6, x7, x8, x9, x33, x554000, x554001, x554002, x554003, x554004, x554005, x554006, x554007 => if x33 = true then (if x3.length + x554006.length < 1256584717458 then (impl_stmtsFold.l0 k (x3 ++ x554006) x7 x8 (wrap64 (x9 + 1))) else (none)) else (if x554000 = 2 then (impl_stmtsFold.j2 k x3 x6 x7 x8 x9 x6 x554000 x554001 x554002 x554003 x554004 x554005 x554006 x554007) else (impl_stmtsFold.j2 k x3 x6 x7 x8 x9 false x554000 x554001 x554002 x554003 x554004 x554005 x554006 x554007))
def impl_stmtsFold.j2 : Nat → List (S35) → Bool → List (S35) → Int → Int → Bool → Int → Int → Int → Int → Int → List (S32) → List (S35) → List (S35) → Option ((List (S35)))
 | 0, _, _, _, _, _, _, _, _, _, _, _, _, _, _ => none
 | k + 1, x3, x6, x7, x8, x9, x50, x554000, x554001, x554002, x554003, x554004, x554005, x554006, x554007 => if x50 = true then (if x3.length + x554007.length < 1256584717458 then (impl_stmtsFold.l0 k (x3 ++ x554007) x7 x8 (wrap64 (x9 + 1))) else (none)) else (if x554000 = 3 then (if x6 = true then (if x554004 = 0 then (impl_stmtsFold.l0 k x3 x7 x8 (wrap64 (x9 + 1))) else (if x3.length < 1256584717458 then (impl_stmtsFold.l0 k (x3 ++ [(⟨x554000, x554001, x554002, (⟨x554003, x554004, x554005⟩ : S32), x554006, x554007⟩ : S35)]) x7 x8 (wrap64 (x9 + 1))) else (none))) else (if x3.length < 1256584717458 then (impl_stmtsFold.l0 k (x3 ++ [(⟨x554000, x554001, x554002, (⟨x554003, x554004, x554005⟩ : S32), x554006, x554007⟩ : S35)]) x7 x8 (wrap64 (x9 + 1))) else (none))) else (if x3.length < 1256584717458 then (impl_stmtsFold.l0 k (x3 ++ [(⟨x554000, x554001, x554002, (⟨x554003, x554004, x554005⟩ : S32), x554006, x554007⟩ : S35)]) x7 x8 (wrap64 (x9 + 1))) else (none)))
def impl_stmtsFold.f : Nat → List (S35) → Option ((List (S35)))
 | 0, _ => none
 | k + 1, l0 => impl_stmtsFold.l0 k ([] : List (S35)) l0 (l0.length : Int) 0
end
def impl_StmtsFold.f (k : Nat) (l0 : List (S35)) : Option ((List (S35)) × Bool) := (impl_StmtsValid.f k l0).bind fun t580 => (if t580 = true then ((impl_stmtsFold.f k l0).bind fun t581 => (some (t581, true))) else (some (([] : List (S35)), false)))
def spec_l6In.f (a0 : Int) (a1 : Int) (a2 : Int) : Option (Bool) := if a0 ≥ a1 then (some (decide (a0 ≤ a2))) else (some false)
def spec_l11Var.f (a0_0 : Int) (a0_1 : Int) (a0_2 : Int) (a0_3 : Int) (a0_4 : Int) (l0_5 : List (S32)) (l0_6 : List (S35)) (l0_7 : List (S35)) (a1 : Bool) : Option (Bool) := if a1 = true then ((spec_l6In.f a0_1 0 3).bind fun t585 => (some t585)) else (some (a0_1 == 0))
def spec_l11Box.f (a0_0 : Int) (a0_1 : Int) (a0_2 : Int) (a0_3 : Int) (a0_4 : Int) (l0_5 : List (S32)) (l0_6 : List (S35)) (l0_7 : List (S35)) (a1 : Bool) : Option (Bool) := if a1 = true then ((spec_l6In.f a0_2 0 2).bind fun t587 => (some t587)) else (some (a0_2 == 0))
def spec_OpValid.f (a0 : Int) : Option (Bool) := (spec_l6In.f a0 1 12).bind fun t588 => (some t588)
def spec_l4Ok.f : Nat → Int → Int → List (S32) → Int → Option (Bool)
 | 0, _, _, _, _ => none
 | k + 1, a0_0, a0_1, l0_2, a1 => if a1 < 1 then (some false) else (if a0_0 = 0 then ((spec_l6In.f a0_1 0 99999).bind fun t590 => (if t590 = true then (some ((l0_2.length : Int) == 0)) else (some false))) else (if a0_0 = 13 then ((spec_l6In.f a0_1 0 3).bind fun t591 => (if t591 = true then (some ((l0_2.length : Int) == 0)) else (some false))) else ((spec_OpValid.f a0_0).bind fun t592 => (if t592 = true then (if a0_1 = 0 then (if (l0_2.length : Int) = 2 then (if 0 < (l0_2.length : Int) then ((spec_l4Ok.f k ((rd_T32 l0_2 0).f0) ((rd_T32 l0_2 0).f1) ((rd_T32 l0_2 0).f2) (wrap64 (a1 - 1))).bind fun t594 => (if t594 = true then (if 1 < (l0_2.length : Int) then ((spec_l4Ok.f k ((rd_T32 l0_2 1).f0) ((rd_T32 l0_2 1).f1) ((rd_T32 l0_2 1).f2) (wrap64 (a1 - 1))).bind fun t596 => (some t596)) else (none)) else (some false))) else (none)) else (some false)) else (some false)) else (some false)))))
def spec_ExprValid.f (k : Nat) (a0_0 : Int) (a0_1 : Int) (l0_2 : List (S32)) : Option (Bool) := (spec_l4Ok.f k a0_0 a0_1 l0_2 5).bind fun t598 => (some t598)
def spec_l11Plain.f (a0_0 : Int) (a0_1 : Int) (l0_2 : List (S32)) : Option (Bool) := if a0_0 = 0 then (if a0_1 = 0 then (some ((l0_2.length : Int) == 0)) else (some false)) else (some false)
def spec_l11Simple.j0 : Nat → Bool → Int → Int → Int → Int → Int → List (S32) → List (S35) → List (S35) → Option (Bool)
 | 0, _, _, _, _, _, _, _, _, _ => none
 | k + 1, x12, x601000, x601001, x601002, x601003, x601004, x601005, x601006, x601007 => if x12 = true then (some false) else (if x601000 = 1 then ((spec_l11Var.f x601000 x601001 x601002 x601003 x601004 x601005 x601006 x601007 true).bind fun t601 => (if t601 = true then ((spec_l11Box.f x601000 x601001 x601002 x601003 x601004 x601005 x601006 x601007 false).bind fun t602 => (if t602 = true then ((spec_ExprValid.f k x601003 x601004 x601005).bind fun t603 => (some t603)) else (some false))) else (some false))) else (if x601000 = 4 then ((spec_l11Var.f x601000 x601001 x601002 x601003 x601004 x601005 x601006 x601007 false).bind fun t604 => (if t604 = true then ((spec_l11Box.f x601000 x601001 x601002 x601003 x601004 x601005 x601006 x601007 true).bind fun t605 => (if t605 = true then ((spec_ExprValid.f k x601003 x601004 x601005).bind fun t606 => (some t606)) else (some false))) else (some false))) else (if x601000 = 5 then ((spec_l11Var.f x601000 x601001 x601002 x601003 x601004 x601005 x601006 x601007 true).bind fun t607 => (if t607 = true then ((spec_l11Box.f x601000 x601001 x601002 x601003 x601004 x601005 x601006 x601007 true).bind fun t608 => (if t608 = true then ((spec_l11Plain.f x601003 x601004 x601005).bind fun t609 => (some t609)) else (some false))) else (some false))) else (if x601000 = 6 then ((spec_l11Var.f x601000 x601001 x601002 x601003 x601004 x601005 x601006 x601007 false).bind fun t610 => (if t610 = true then ((spec_l11Box.f x601000 x601001 x601002 x601003 x601004 x601005 x601006 x601007 false).bind fun t611 => (if t611 = true then ((spec_l11Plain.f x601003 x601004 x601005).bind fun t612 => (some t612)) else (some false))) else (some false))) else (if x601000 = 7 then ((spec_l11Var.f x601000 x601001 x601002 x601003 x601004 x601005 x601006 x601007 false).bind fun t613 => (if t613 = true then ((spec_l11Box.f x601000 x601001 x601002 x601003 x601004 x601005 x601006 x601007 false).bind fun t614 => (if t614 = true then ((spec_ExprValid.f k x601003 x601004 x601005).bind fun t615 => (some t615)) else (some false))) else (some false))) else (some false))))))
def spec_l11Simple.f (k : Nat) (a0_0 : Int) (a0_1 : Int) (a0_2 : Int) (a0_3 : Int) (a0_4 : Int) (l0_5 : List (S32)) (l0_6 : List (S35)) (l0_7 : List (S35)) : Option (Bool) := if (l0_6.length : Int) > 0 then (spec_l11Simple.j0 k true a0_0 a0_1 a0_2 a0_3 a0_4 l0_5 l0_6 l0_7) else (spec_l11Simple.j0 k (decide ((l0_7.length : Int) > 0)) a0_0 a0_1 a0_2 a0_3 a0_4 l0_5 l0_6 l0_7)
mutual
def spec_l11Ok.j0 : Nat → Int → Bool → Int → Int → Int → Int → Int → List (S32) → List (S35) → List (S35) → Option (Bool)
 | 0, _, _, _, _, _, _, _, _, _, _ => none
 | k + 1, x1, x12, x617000, x617001, x617002, x617003, x617004, x617005, x617006, x617007 => if x12 = true then ((spec_l11Simple.f k x617000 x617001 x617002 x617003 x617004 x617005 x617006 x617007).bind fun t617 => (some t617)) else (if x1 < 1 then (spec_l11Ok.j1 k x1 true x617000 x617001 x617002 x617003 x617004 x617005 x617006 x617007) else (if x617000 = 3 then (spec_l11Ok.j1 k x1 (decide ((x617007.length : Int) > 0)) x617000 x617001 x617002 x617003 x617004 x617005 x617006 x617007) else (spec_l11Ok.j1 k x1 false x617000 x617001 x617002 x617003 x617004 x617005 x617006 x617007)))
def spec_l11Ok.j1 : Nat → Int → Bool → Int → Int → Int → Int → Int → List (S32) → List (S35) → List (S35) → Option (Bool)
 | 0, _, _, _, _, _, _, _, _, _, _ => none
 | k + 1, x1, x27, x617000, x617001, x617002, x617003, x617004, x617005, x617006, x617007 => if x27 = true then (some false) else ((spec_l11Var.f x617000 x617001 x617002 x617003 x617004 x617005 x617006 x617007 false).bind fun t618 => (if t618 = true then ((spec_l11Box.f x617000 x617001 x617002 x617003 x617004 x617005 x617006 x617007 false).bind fun t619 => (if t619 = true then ((spec_ExprValid.f k x617003 x617004 x617005).bind fun t620 => (if t620 = true then ((spec_l11Blocks.f k x617006 (wrap64 (x1 - 1))).bind fun t621 => (if t621 = true then ((spec_l11Blocks.f k x617007 (wrap64 (x1 - 1))).bind fun t622 => (some t622)) else (some false))) else (some false))) else (some false))) else (some false)))
def spec_l11Ok.f : Nat → Int → Int → Int → Int → Int → List (S32) → List (S35) → List (S35) → Int → Option (Bool)
 | 0, _, _, _, _, _, _, _, _, _ => none
 | k + 1, a0_0, a0_1, a0_2, a0_3, a0_4, l0_5, l0_6, l0_7, a1 => if a0_0 = 2 then (spec_l11Ok.j0 k a1 false a0_0 a0_1 a0_2 a0_3 a0_4 l0_5 l0_6 l0_7) else (spec_l11Ok.j0 k a1 (a0_0 != 3) a0_0 a0_1 a0_2 a0_3 a0_4 l0_5 l0_6 l0_7)
def spec_l11Blocks.l0 : Nat → List (S35) → Int → Int → Option (Bool)
 | 0, _, _, _ => none
 | k + 1, x0, x1, x5 => if x5 < (x0.length : Int) then (if 0 ≤ x5 then ((spec_l11Ok.f k ((rd_T35 x0 x5).f0) ((rd_T35 x0 x5).f1) ((rd_T35 x0 x5).f2) ((rd_T35 x0 x5).f3.f0) ((rd_T35 x0 x5).f3.f1) ((rd_T35 x0 x5).f3.f2) ((rd_T35 x0 x5).f4) ((rd_T35 x0 x5).f5) x1).bind fun t624 => (if t624 = true then (spec_l11Blocks.l0 k x0 x1 (wrap64 (x5 + 1))) else (some false))) else (none)) else (some true)
def spec_l11Blocks.f : Nat → List (S35) → Int → Option (Bool)
 | 0, _, _ => none
 | k + 1, l0, a1 => spec_l11Blocks.l0 k l0 a1 0
end
def spec_StmtsValid.f (k : Nat) (l0 : List (S35)) : Option (Bool) := (spec_l11Blocks.f k l0 3).bind fun t625 => (if t625 = true then ((spec_l11Count.f k l0).bind fun t626 => (some (decide (t626 ≤ 16)))) else (some false))
def spec_WordValid.f (a0 : Int) : Option (Bool) := (spec_l6In.f a0 (-2147483648) 2147483647).bind fun t627 => (some t627)
def spec_l2Flag.f (a0 : Bool) : Option (Int) := if a0 = true then (some 1) else (some 0)
def spec_Wrap.f (a0 : Int) : Option (Int) := if (Int.tmod a0 4294967296) > 2147483647 then (some (wrap64 ((Int.tmod a0 4294967296) - 4294967296))) else (if (Int.tmod a0 4294967296) < (-2147483648) then (some (wrap64 ((Int.tmod a0 4294967296) + 4294967296))) else (some (Int.tmod a0 4294967296)))
def spec_l2Shift.f (a0 : Int) (a1 : Int) (a2 : Bool) : Option (Int) := if a2 = true then (if 0 ≤ (Go.bits .and .i64 a1 31) then (some (shr .i64 a0 (Go.bits .and .i64 a1 31))) else (none)) else (if 0 ≤ (Go.bits .and .i64 a1 31) then ((spec_Wrap.f (shl .i64 a0 (Go.bits .and .i64 a1 31))).bind fun t628 => (some t628)) else (none))
def spec_l2Divide.f (a0 : Int) (a1 : Int) : Option (Int) := if a1 = 0 then (some (-1)) else ((spec_Wrap.f (wrap64 (Int.tdiv a0 a1))).bind fun t629 => (some t629))
def spec_l2Remain.f (a0 : Int) (a1 : Int) : Option (Int) := if a1 = 0 then (some a0) else (some (Int.tmod a0 a1))
def spec_Apply.j0 : Nat → Int → Int → Int → Bool → Option (Int × Bool)
 | 0, _, _, _, _ => none
 | k + 1, x0, x1, x2, x20 => if x20 = true then (some (0, false)) else (if x0 = 1 then (some (Go.bits .or .i64 x1 x2, true)) else (if x0 = 2 then (some (Go.bits .xor .i64 x1 x2, true)) else (if x0 = 3 then (some (Go.bits .and .i64 x1 x2, true)) else (if x0 = 4 then ((spec_l2Flag.f (x1 == x2)).bind fun t633 => (some (t633, true))) else (if x0 = 5 then ((spec_l2Flag.f (decide (x1 < x2))).bind fun t634 => (some (t634, true))) else (if x0 = 6 then ((spec_l2Shift.f x1 x2 false).bind fun t635 => (some (t635, true))) else (if x0 = 7 then ((spec_l2Shift.f x1 x2 true).bind fun t636 => (some (t636, true))) else (if x0 = 8 then ((spec_Wrap.f (wrap64 (x1 + x2))).bind fun t637 => (some (t637, true))) else (if x0 = 9 then ((spec_Wrap.f (wrap64 (x1 - x2))).bind fun t638 => (some (t638, true))) else (if x0 = 10 then ((spec_Wrap.f (wrap64 (x1 * x2))).bind fun t639 => (some (t639, true))) else (if x0 = 11 then ((spec_l2Divide.f x1 x2).bind fun t640 => (some (t640, true))) else ((spec_l2Remain.f x1 x2).bind fun t641 => (some (t641, true))))))))))))))
def spec_Apply.f (k : Nat) (a0 : Int) (a1 : Int) (a2 : Int) : Option (Int × Bool) := (spec_OpValid.f a0).bind fun t630 => (if t630 = true then ((spec_WordValid.f a1).bind fun t631 => (if t631 = true then ((spec_WordValid.f a2).bind fun t632 => (spec_Apply.j0 k a0 a1 a2 (!t632))) else (spec_Apply.j0 k a0 a1 a2 true))) else (spec_Apply.j0 k a0 a1 a2 true))
mutual
def spec_l4Fold.j0 : Nat → Bool → Int → Int → List (S32) → Int → Int → List (S32) → Int → Int → List (S32) → Option (Int × Int × (List (S32)))
 | 0, _, _, _, _, _, _, _, _, _, _ => none
 | k + 1, x33, x643000, x643001, x643002, x656000, x656001, x656002, x663000, x663001, x663002 => if x33 = true then ((spec_Apply.f k x643000 x656001 x663001).bind fun bt663 => ((spec_l6In.f bt663.1 0 99999).bind fun t665 => (if t665 = true then ((spec_l4Leaf.f 0 bt663.1).bind fun bt666 => (some (bt666.1, bt666.2.1, bt666.2.2))) else ((spec_l4Both.f x643000 x656000 x656001 x656002 x663000 x663001 x663002).bind fun bt671 => (some (bt671.1, bt671.2.1, bt671.2.2)))))) else ((spec_l4Both.f x643000 x656000 x656001 x656002 x663000 x663001 x663002).bind fun bt676 => (some (bt676.1, bt676.2.1, bt676.2.2)))
def spec_l4Fold.f : Nat → Int → Int → List (S32) → Option (Int × Int × (List (S32)))
 | 0, _, _, _ => none
 | k + 1, a0_0, a0_1, l0_2 => if (l0_2.length : Int) = 0 then ((spec_l4Leaf.f a0_0 a0_1).bind fun bt644 => (some (bt644.1, bt644.2.1, bt644.2.2))) else (if 0 < (l0_2.length : Int) then ((spec_l4Fold.f k ((rd_T32 l0_2 0).f0) ((rd_T32 l0_2 0).f1) ((rd_T32 l0_2 0).f2)).bind fun bt650 => (if 1 < (l0_2.length : Int) then ((spec_l4Fold.f k ((rd_T32 l0_2 1).f0) ((rd_T32 l0_2 1).f1) ((rd_T32 l0_2 1).f2)).bind fun bt657 => (if bt650.1 = 0 then (spec_l4Fold.j0 k (bt657.1 == 0) a0_0 a0_1 l0_2 bt650.1 bt650.2.1 bt650.2.2 bt657.1 bt657.2.1 bt657.2.2) else (spec_l4Fold.j0 k false a0_0 a0_1 l0_2 bt650.1 bt650.2.1 bt650.2.2 bt657.1 bt657.2.1 bt657.2.2))) else (none))) else (none))
end
def pickF (x : S35) (op n : Int) (a : List S32) (b l : List S35) : List S35 := if (x.f0 == 2 && (op == 0 && n != 0)) = true then b else if (x.f0 == 2 && op == 0) = true then l else if (x.f0 == 3 && (op == 0 && n == 0)) = true then [] else [⟨x.f0, x.f1, x.f2, ⟨op, n, a⟩, b, l⟩]
mutual
def spec_l11FoldAll.l0 : Nat → List S35 → List S35 → Int → Option (List S35)
 | 0, _, _, _ => none
 | k + 1, l0, x3, x4 => if x4 < (l0.length : Int) then (if 0 ≤ x4 then ((spec_l11FoldOne.f k (rd_T35 l0 x4)).bind fun y => if x3.length + y.length < 1256584717458 then spec_l11FoldAll.l0 k l0 (x3 ++ y) (wrap64 (x4 + 1)) else none) else none) else some x3
def spec_l11FoldAll.f : Nat → List S35 → Option (List S35)
 | 0, _ => none
 | k + 1, l0 => spec_l11FoldAll.l0 k l0 [] 0
def spec_l11FoldOne.f : Nat → S35 → Option (List S35)
 | 0, _ => none
 | k + 1, x => (spec_l4Fold.f k x.f3.f0 x.f3.f1 x.f3.f2).bind fun e => (spec_l11FoldAll.f k x.f4).bind fun b => (spec_l11FoldAll.f k x.f5).bind fun l => some (pickF x e.1 e.2.1 e.2.2 b l)
end
def spec_StmtsFold.f (k : Nat) (l0 : List (S35)) : Option ((List (S35)) × Bool) := (spec_StmtsValid.f k l0).bind fun t681 => (if t681 = true then ((spec_l11FoldAll.f k l0).bind fun t682 => (some (t682, true))) else (some ((([] : List (S35))), false)))
mutual
def laws_sameExpr.j0 : Nat → Bool → Int → Int → List (S32) → Int → Int → List (S32) → Option (Bool)
 | 0, _, _, _, _, _, _, _ => none
 | k + 1, x26, x689000, x689001, x689002, x690000, x690001, x690002 => if x26 = true then (some false) else (laws_sameExpr.l0 k 0 x689000 x689001 x689002 x690000 x690001 x690002)
def laws_sameExpr.l0 : Nat → Int → Int → Int → List (S32) → Int → Int → List (S32) → Option (Bool)
 | 0, _, _, _, _, _, _, _ => none
 | k + 1, x5, x689000, x689001, x689002, x690000, x690001, x690002 => if x5 < (x689002.length : Int) then (if 0 ≤ x5 then (if x5 < (x690002.length : Int) then ((laws_sameExpr.f k ((rd_T32 x689002 x5).f0) ((rd_T32 x689002 x5).f1) ((rd_T32 x689002 x5).f2) ((rd_T32 x690002 x5).f0) ((rd_T32 x690002 x5).f1) ((rd_T32 x690002 x5).f2)).bind fun t692 => (if t692 = true then (laws_sameExpr.l0 k (wrap64 (x5 + 1)) x689000 x689001 x689002 x690000 x690001 x690002) else (some false))) else (none)) else (none)) else (some true)
def laws_sameExpr.f : Nat → Int → Int → List (S32) → Int → Int → List (S32) → Option (Bool)
 | 0, _, _, _, _, _, _ => none
 | k + 1, a0_0, a0_1, l0_2, a1_0, a1_1, l1_2 => if a0_0 = a1_0 then (if a0_1 = a1_1 then (laws_sameExpr.j0 k ((l0_2.length : Int) != (l1_2.length : Int)) a0_0 a0_1 l0_2 a1_0 a1_1 l1_2) else (laws_sameExpr.j0 k true a0_0 a0_1 l0_2 a1_0 a1_1 l1_2)) else (laws_sameExpr.j0 k true a0_0 a0_1 l0_2 a1_0 a1_1 l1_2)
end
mutual
def laws_sameStmts.l0 : Nat → List (S35) → List (S35) → Int → Option (Bool)
 | 0, _, _, _ => none
 | k + 1, x0, x1, x5 => if x5 < (x0.length : Int) then (if 0 ≤ x5 then (if x5 < (x1.length : Int) then (if ((rd_T35 x0 x5).f0) = ((rd_T35 x1 x5).f0) then (if ((rd_T35 x0 x5).f1) = ((rd_T35 x1 x5).f1) then (if ((rd_T35 x0 x5).f2) = ((rd_T35 x1 x5).f2) then ((laws_sameExpr.f k ((rd_T35 x0 x5).f3.f0) ((rd_T35 x0 x5).f3.f1) ((rd_T35 x0 x5).f3.f2) ((rd_T35 x1 x5).f3.f0) ((rd_T35 x1 x5).f3.f1) ((rd_T35 x1 x5).f3.f2)).bind fun t697 => (laws_sameStmts.j1 k x0 x1 x5 (!t697) ((rd_T35 x0 x5).f0) ((rd_T35 x0 x5).f1) ((rd_T35 x0 x5).f2) ((rd_T35 x0 x5).f3.f0) ((rd_T35 x0 x5).f3.f1) ((rd_T35 x0 x5).f3.f2) ((rd_T35 x0 x5).f4) ((rd_T35 x0 x5).f5) ((rd_T35 x1 x5).f0) ((rd_T35 x1 x5).f1) ((rd_T35 x1 x5).f2) ((rd_T35 x1 x5).f3.f0) ((rd_T35 x1 x5).f3.f1) ((rd_T35 x1 x5).f3.f2) ((rd_T35 x1 x5).f4) ((rd_T35 x1 x5).f5))) else (laws_sameStmts.j1 k x0 x1 x5 true ((rd_T35 x0 x5).f0) ((rd_T35 x0 x5).f1) ((rd_T35 x0 x5).f2) ((rd_T35 x0 x5).f3.f0) ((rd_T35 x0 x5).f3.f1) ((rd_T35 x0 x5).f3.f2) ((rd_T35 x0 x5).f4) ((rd_T35 x0 x5).f5) ((rd_T35 x1 x5).f0) ((rd_T35 x1 x5).f1) ((rd_T35 x1 x5).f2) ((rd_T35 x1 x5).f3.f0) ((rd_T35 x1 x5).f3.f1) ((rd_T35 x1 x5).f3.f2) ((rd_T35 x1 x5).f4) ((rd_T35 x1 x5).f5))) else (laws_sameStmts.j1 k x0 x1 x5 true ((rd_T35 x0 x5).f0) ((rd_T35 x0 x5).f1) ((rd_T35 x0 x5).f2) ((rd_T35 x0 x5).f3.f0) ((rd_T35 x0 x5).f3.f1) ((rd_T35 x0 x5).f3.f2) ((rd_T35 x0 x5).f4) ((rd_T35 x0 x5).f5) ((rd_T35 x1 x5).f0) ((rd_T35 x1 x5).f1) ((rd_T35 x1 x5).f2) ((rd_T35 x1 x5).f3.f0) ((rd_T35 x1 x5).f3.f1) ((rd_T35 x1 x5).f3.f2) ((rd_T35 x1 x5).f4) ((rd_T35 x1 x5).f5))) else (laws_sameStmts.j1 k x0 x1 x5 true ((rd_T35 x0 x5).f0) ((rd_T35 x0 x5).f1) ((rd_T35 x0 x5).f2) ((rd_T35 x0 x5).f3.f0) ((rd_T35 x0 x5).f3.f1) ((rd_T35 x0 x5).f3.f2) ((rd_T35 x0 x5).f4) ((rd_T35 x0 x5).f5) ((rd_T35 x1 x5).f0) ((rd_T35 x1 x5).f1) ((rd_T35 x1 x5).f2) ((rd_T35 x1 x5).f3.f0) ((rd_T35 x1 x5).f3.f1) ((rd_T35 x1 x5).f3.f2) ((rd_T35 x1 x5).f4) ((rd_T35 x1 x5).f5))) else (none)) else (none)) else (some true)
def laws_sameStmts.j1 : Nat → List (S35) → List (S35) → Int → Bool → Int → Int → Int → Int → Int → List (S32) → List (S35) → List (S35) → Int → Int → Int → Int → Int → List (S32) → List (S35) → List (S35) → Option (Bool)
 | 0, _, _, _, _, _, _, _, _, _, _, _, _, _, _, _, _, _, _, _, _ => none
 | k + 1, x0, x1, x5, x53, x695000, x695001, x695002, x695003, x695004, x695005, x695006, x695007, x697000, x697001, x697002, x697003, x697004, x697005, x697006, x697007 => if x53 = true then (some false) else ((laws_sameStmts.f k x695006 x697006).bind fun t698 => (if t698 = true then ((laws_sameStmts.f k x695007 x697007).bind fun t699 => (if t699 = true then (laws_sameStmts.l0 k x0 x1 (wrap64 (x5 + 1))) else (some false))) else (some false)))
def laws_sameStmts.f : Nat → List (S35) → List (S35) → Option (Bool)
 | 0, _, _ => none
 | k + 1, l0, l1 => if (l0.length : Int) = (l1.length : Int) then (laws_sameStmts.l0 k l0 l1 0) else (some false)
end
mutual
def laws_FnStmtsFoldParts.j0 : Nat → List Int → List Int → Bool → Option (Bool)
 | 0, _, _, _ => none
 | k + 1, x0, x1, x22 => if x22 = true then (some true) else ((spec_DrawStmtsFold.f k x0).bind fun t700 => ((impl_StmtsFold.f k t700).bind fun bt703 => ((spec_StmtsFold.f k t700).bind fun bt707 => (if (bt703.2 != bt707.2) = true then (laws_FnStmtsFoldParts.j1 k x1 t700 bt703.1 bt703.2 bt707.1 bt707.2 true) else ((laws_sameStmts.f k bt703.1 bt707.1).bind fun t711 => (if t711 = true then (laws_FnStmtsFoldParts.j1 k x1 t700 bt703.1 bt703.2 bt707.1 bt707.2 (!bt703.2)) else (laws_FnStmtsFoldParts.j1 k x1 t700 bt703.1 bt703.2 bt707.1 bt707.2 true)))))))
def laws_FnStmtsFoldParts.j1 : Nat → List Int → List (S35) → List (S35) → Bool → List (S35) → Bool → Bool → Option (Bool)
 | 0, _, _, _, _, _, _, _ => none
 | k + 1, x1, x5, x6, x7, x8, x9, x47 => if x47 = true then (if (x7 == x9) = true then ((laws_sameStmts.f k x6 x8).bind fun t712 => (some t712)) else (some false)) else (if (wrap64 ((x5.length : Int) + 1)) = 0 then (none) else (if 0 ≤ ((x1.length : Int) % (wrap64 ((x5.length : Int) + 1))) then (if ((x1.length : Int) % (wrap64 ((x5.length : Int) + 1))) ≤ (x5.length : Int) then ((impl_StmtsFold.f k (x5.take (((x1.length : Int) % (wrap64 ((x5.length : Int) + 1))) : Int).toNat)).bind fun bt718 => ((impl_StmtsFold.f k (x5.drop (((x1.length : Int) % (wrap64 ((x5.length : Int) + 1))) : Int).toNat)).bind fun bt727 => (if bt718.2 = true then (if bt727.2 = true then ((some (([] : List (S35)) : List (S35))).bind fun y731 => (if y731.length + bt718.1.length < 1256584717458 then ((some (y731 ++ bt718.1 : List (S35))).bind fun y734 => (if y734.length + bt727.1.length < 1256584717458 then ((laws_sameStmts.f k x6 (y734 ++ bt727.1)).bind fun t740 => (some t740)) else (none))) else (none))) else (some false)) else (some false)))) else (none)) else (none)))
end
def laws_FnStmtsFoldParts.f (k : Nat) (l0 : List Int) (l1 : List Int) : Option (Bool) := if (l0.length : Int) > 1048576 then (laws_FnStmtsFoldParts.j0 k l0 l1 true) else (laws_FnStmtsFoldParts.j0 k l0 l1 (decide ((l1.length : Int) > 1048576)))
def laws_FnStmtsFoldTwice.j0 : Nat → List (S35) → Bool → List (S35) → Bool → Bool → Option (Bool)
 | 0, _, _, _, _, _ => none
 | k + 1, x4, x5, x6, x7, x37 => if x37 = true then (if (x5 == x7) = true then ((laws_sameStmts.f k x4 x6).bind fun t753 => (some t753)) else (some false)) else ((impl_StmtsFold.f k x4).bind fun bt754 => (if bt754.2 = true then ((laws_sameStmts.f k bt754.1 x4).bind fun t758 => (some t758)) else (some false)))
def laws_FnStmtsFoldTwice.f (k : Nat) (l0 : List Int) : Option (Bool) := if (l0.length : Int) > 1048576 then (some true) else ((spec_DrawStmtsFold.f k l0).bind fun t741 => ((impl_StmtsFold.f k t741).bind fun bt744 => ((spec_StmtsFold.f k t741).bind fun bt748 => (if (bt744.2 != bt748.2) = true then (laws_FnStmtsFoldTwice.j0 k bt744.1 bt744.2 bt748.1 bt748.2 true) else ((laws_sameStmts.f k bt744.1 bt748.1).bind fun t752 => (if t752 = true then (laws_FnStmtsFoldTwice.j0 k bt744.1 bt744.2 bt748.1 bt748.2 (!bt744.2)) else (laws_FnStmtsFoldTwice.j0 k bt744.1 bt744.2 bt748.1 bt748.2 true)))))))
def laws_number.f (a0 : Int) : Option (Int × Int × (List (S32))) := some (0, a0, ([] : List (S32)))
def laws_FnStmtsFoldOne.f (k : Nat) (l0 : List Int) : Option Bool := if (l0.length : Int) > 1048576 then some true else (spec_DrawStmtsFold.f k l0).bind fun t => (impl_StmtsFold.f k t).bind fun a => (spec_StmtsFold.f k t).bind fun b => if a.2 = b.2 then ((laws_sameStmts.f k a.1 b.1).bind fun e => if e = true then (if a.2 = true then ((impl_StmtsFold.f k [(⟨2, 0, 0, ⟨0, 1, []⟩, t, []⟩ : S35)]).bind fun p => (impl_StmtsFold.f k [(⟨2, 0, 0, ⟨0, 0, []⟩, t, []⟩ : S35)]).bind fun q => (impl_StmtsValid.f k [(⟨2, 0, 0, ⟨0, 1, []⟩, t, []⟩ : S35)]).bind fun v => if v = true then (if p.2 = true then (if q.2 = true then ((laws_sameStmts.f k p.1 a.1).bind fun s => if s = true then some ((q.1.length : Int) == 0) else none) else none) else none) else (if p.2 = false then (if q.2 = false then some true else none) else none)) else some true) else none) else none
mutual
def impl_stmtsCount.l0 : Nat → Int → List (S35) → Int → Int → Option (Int)
 | 0, _, _, _, _ => none
 | k + 1, x3, x8, x9, x10 => if x10 < x9 then (if 0 ≤ x10 then (if x10 < (x8.length : Int) then ((impl_stmtsCount.f k ((rd_T35 x8 x10).f4)).bind fun t762 => ((impl_stmtsCount.f k ((rd_T35 x8 x10).f5)).bind fun t763 => (impl_stmtsCount.l0 k (wrap64 (x3 + (wrap64 (t762 + t763)))) x8 x9 (wrap64 (x10 + 1))))) else (none)) else (none)) else (some x3)
def impl_stmtsCount.f : Nat → List (S35) → Option (Int)
 | 0, _ => none
 | k + 1, l0 => impl_stmtsCount.l0 k (l0.length : Int) l0 (l0.length : Int) 0
end
def impl_StmtsCount.f (k : Nat) (l0 : List (S35)) : Option (Int) := (impl_StmtsValid.f k l0).bind fun t764 => (if t764 = true then ((impl_stmtsCount.f k l0).bind fun t765 => (some t765)) else (some (-1)))
def laws_FnStmtsFold.j0 : Nat → List (S35) → List (S35) → Bool → List (S35) → Bool → Bool → Option (Bool)
 | 0, _, _, _, _, _, _ => none
 | k + 1, x3, x4, x5, x6, x7, x35 => if x35 = true then (if (x5 == x7) = true then ((laws_sameStmts.f k x4 x6).bind fun t778 => (some t778)) else (some false)) else ((impl_StmtsValid.f k x4).bind fun t779 => (if t779 = true then ((impl_StmtsCount.f k x4).bind fun t780 => ((impl_StmtsCount.f k x3).bind fun t781 => (some (decide (t780 ≤ t781))))) else (some false)))
def laws_FnStmtsFold.f (k : Nat) (l0 : List Int) : Option (Bool) := if (l0.length : Int) > 1048576 then (some true) else ((spec_DrawStmtsFold.f k l0).bind fun t766 => ((impl_StmtsFold.f k t766).bind fun bt769 => ((spec_StmtsFold.f k t766).bind fun bt773 => (if (bt769.2 != bt773.2) = true then (laws_FnStmtsFold.j0 k t766 bt769.1 bt769.2 bt773.1 bt773.2 true) else ((laws_sameStmts.f k bt769.1 bt773.1).bind fun t777 => (if t777 = true then (laws_FnStmtsFold.j0 k t766 bt769.1 bt769.2 bt773.1 bt773.2 (!bt769.2)) else (laws_FnStmtsFold.j0 k t766 bt769.1 bt769.2 bt773.1 bt773.2 true)))))))
mutual
def laws_openIf.l0 : Nat → List (S35) → Int → Option (Bool)
 | 0, _, _ => none
 | k + 1, x0, x3 => if x3 < (x0.length : Int) then (if 0 ≤ x3 then (if ((rd_T35 x0 x3).f0) = 2 then (if ((rd_T35 x0 x3).f3.f0) = 0 then (laws_openIf.j1 k x0 x3 true ((rd_T35 x0 x3).f0) ((rd_T35 x0 x3).f1) ((rd_T35 x0 x3).f2) ((rd_T35 x0 x3).f3.f0) ((rd_T35 x0 x3).f3.f1) ((rd_T35 x0 x3).f3.f2) ((rd_T35 x0 x3).f4) ((rd_T35 x0 x3).f5)) else (if ((rd_T35 x0 x3).f0) = 3 then (laws_openIf.j1 k x0 x3 false ((rd_T35 x0 x3).f0) ((rd_T35 x0 x3).f1) ((rd_T35 x0 x3).f2) ((rd_T35 x0 x3).f3.f0) ((rd_T35 x0 x3).f3.f1) ((rd_T35 x0 x3).f3.f2) ((rd_T35 x0 x3).f4) ((rd_T35 x0 x3).f5)) else (laws_openIf.j1 k x0 x3 false ((rd_T35 x0 x3).f0) ((rd_T35 x0 x3).f1) ((rd_T35 x0 x3).f2) ((rd_T35 x0 x3).f3.f0) ((rd_T35 x0 x3).f3.f1) ((rd_T35 x0 x3).f3.f2) ((rd_T35 x0 x3).f4) ((rd_T35 x0 x3).f5)))) else (if ((rd_T35 x0 x3).f0) = 3 then (if ((rd_T35 x0 x3).f3.f0) = 0 then (laws_openIf.j1 k x0 x3 (((rd_T35 x0 x3).f3.f1) == 0) ((rd_T35 x0 x3).f0) ((rd_T35 x0 x3).f1) ((rd_T35 x0 x3).f2) ((rd_T35 x0 x3).f3.f0) ((rd_T35 x0 x3).f3.f1) ((rd_T35 x0 x3).f3.f2) ((rd_T35 x0 x3).f4) ((rd_T35 x0 x3).f5)) else (laws_openIf.j1 k x0 x3 false ((rd_T35 x0 x3).f0) ((rd_T35 x0 x3).f1) ((rd_T35 x0 x3).f2) ((rd_T35 x0 x3).f3.f0) ((rd_T35 x0 x3).f3.f1) ((rd_T35 x0 x3).f3.f2) ((rd_T35 x0 x3).f4) ((rd_T35 x0 x3).f5))) else (laws_openIf.j1 k x0 x3 false ((rd_T35 x0 x3).f0) ((rd_T35 x0 x3).f1) ((rd_T35 x0 x3).f2) ((rd_T35 x0 x3).f3.f0) ((rd_T35 x0 x3).f3.f1) ((rd_T35 x0 x3).f3.f2) ((rd_T35 x0 x3).f4) ((rd_T35 x0 x3).f5)))) else (none)) else (some false)
def laws_openIf.j1 : Nat → List (S35) → Int → Bool → Int → Int → Int → Int → Int → List (S32) → List (S35) → List (S35) → Option (Bool)
 | 0, _, _, _, _, _, _, _, _, _, _, _ => none
 | k + 1, x0, x3, x40, x784000, x784001, x784002, x784003, x784004, x784005, x784006, x784007 => if x40 = true then (some true) else ((laws_openIf.f k x784006).bind fun t784 => (if t784 = true then (some true) else ((laws_openIf.f k x784007).bind fun t785 => (if t785 = true then (some true) else (laws_openIf.l0 k x0 (wrap64 (x3 + 1)))))))
def laws_openIf.f : Nat → List (S35) → Option (Bool)
 | 0, _ => none
 | k + 1, l0 => laws_openIf.l0 k l0 0
end
mutual
def laws_countKind.l0 : Nat → List (S35) → Int → Int → Int → Option (Int)
 | 0, _, _, _, _ => none
 | k + 1, x0, x1, x5, x6 => if x6 < (x0.length : Int) then (if 0 ≤ x6 then (if ((rd_T35 x0 x6).f0) = x1 then ((laws_countKind.f k ((rd_T35 x0 x6).f4) x1).bind fun t788 => ((laws_countKind.f k ((rd_T35 x0 x6).f5) x1).bind fun t790 => (laws_countKind.l0 k x0 x1 (wrap64 ((wrap64 ((wrap64 (x5 + 1)) + t788)) + t790)) (wrap64 (x6 + 1))))) else ((laws_countKind.f k ((rd_T35 x0 x6).f4) x1).bind fun t792 => ((laws_countKind.f k ((rd_T35 x0 x6).f5) x1).bind fun t794 => (laws_countKind.l0 k x0 x1 (wrap64 ((wrap64 (x5 + t792)) + t794)) (wrap64 (x6 + 1)))))) else (none)) else (some x5)
def laws_countKind.f : Nat → List (S35) → Int → Option (Int)
 | 0, _, _ => none
 | k + 1, l0, a1 => laws_countKind.l0 k l0 a1 0 0
end
def laws_FnStmtsFoldIf.j0 : Nat → List (S35) → List (S35) → Bool → List (S35) → Bool → Bool → Option (Bool)
 | 0, _, _, _, _, _, _ => none
 | k + 1, x3, x4, x5, x6, x7, x35 => if x35 = true then (if (x5 == x7) = true then ((laws_sameStmts.f k x4 x6).bind fun t807 => (some t807)) else (some false)) else ((laws_openIf.f k x4).bind fun t808 => (if t808 = true then (some false) else ((laws_countKind.f k x4 3).bind fun t809 => ((laws_countKind.f k x3 3).bind fun t810 => (some (decide (t809 ≤ t810)))))))
def laws_FnStmtsFoldIf.f (k : Nat) (l0 : List Int) : Option (Bool) := if (l0.length : Int) > 1048576 then (some true) else ((spec_DrawStmtsFold.f k l0).bind fun t795 => ((impl_StmtsFold.f k t795).bind fun bt798 => ((spec_StmtsFold.f k t795).bind fun bt802 => (if (bt798.2 != bt802.2) = true then (laws_FnStmtsFoldIf.j0 k t795 bt798.1 bt798.2 bt802.1 bt802.2 true) else ((laws_sameStmts.f k bt798.1 bt802.1).bind fun t806 => (if t806 = true then (laws_FnStmtsFoldIf.j0 k t795 bt798.1 bt798.2 bt802.1 bt802.2 (!bt798.2)) else (laws_FnStmtsFoldIf.j0 k t795 bt798.1 bt798.2 bt802.1 bt802.2 true)))))))
def spec_l92Rooms.l0 : Nat → List Int → Int → Int → List Int → Int → Option (List Int × Int)
 | 0, _, _, _, _, _ => none
 | k + 1, x3, x4, x5, x1000, x1001 => if x5 < x4 then ((some (([1, 1, 2, 3, 4] : List Int) : List Int)).bind fun y820 => ((spec_l6Rd_pick.f k x1000 x1001 5).bind fun bt823 => (if 0 ≤ bt823.1 then (if bt823.1 < (y820.length : Int) then (if x3.length < 17592186044416 then (spec_l92Rooms.l0 k (x3 ++ [rd y820 bt823.1]) x4 (wrap64 (x5 + 1)) x1000 bt823.2) else (none)) else (none)) else (none)))) else (some (x3, x1001))
def spec_l92Rooms.f (k : Nat) (s0_0 : List Int) (s0_1 : Int) : Option (List Int × Int) := (some (([0, 1, 1, 2, 2, 3] : List Int) : List Int)).bind fun y814 => ((spec_l6Rd_pick.f k s0_0 s0_1 6).bind fun bt817 => (if 0 ≤ bt817.1 then (if bt817.1 < (y814.length : Int) then (spec_l92Rooms.l0 k (([] : List Int)) (rd y814 bt817.1) 0 s0_0 bt817.2) else (none)) else (none)))
def spec_l92Program.l0 : Nat → Int → Int → List Int → Int → List Int → List (List (S35)) → Option (List Int × (List (List (S35))) × Int)
 | 0, _, _, _, _, _, _ => none
 | k + 1, x4, x5, x1000, x1001, x838000, x838001 => if x5 < x4 then ((spec_l92Stmts.f k x1000 x1001 (x838000.length : Int)).bind fun bt840 => (if x838001.length < 5864062014805 then (spec_l92Program.l0 k x4 (wrap64 (x5 + 1)) x1000 bt840.2 x838000 (x838001 ++ [bt840.1])) else (none))) else ((spec_l6Rd_pick.f k x1000 x1001 16).bind fun bt847 => (if bt847.1 = 0 then ((spec_l92Endless.f k x1000 bt847.2).bind fun bt849 => (if 0 < (x838001.length : Int) then (some (x838000, (x838001.set (0 : Int).toNat (([(⟨bt849.1, bt849.2.1, bt849.2.2.1, (⟨bt849.2.2.2.1, bt849.2.2.2.2.1, bt849.2.2.2.2.2.1⟩ : S32), bt849.2.2.2.2.2.2.1, bt849.2.2.2.2.2.2.2.1⟩ : S35)] : List (S35)))), bt849.2.2.2.2.2.2.2.2)) else (none))) else (some (x838000, x838001, bt847.2))))
def spec_l92Program.f (k : Nat) (s0_0 : List Int) (s0_1 : Int) : Option (List Int × (List (List (S35))) × Int) := (spec_l92Rooms.f k s0_0 s0_1).bind fun bt830 => ((spec_l6Rd_pick.f k s0_0 bt830.2 3).bind fun bt838 => (spec_l92Program.l0 k (wrap64 (1 + bt838.1)) 0 s0_0 bt838.2 bt830.1 (([] : List (List (S35))))))
def spec_l92Wrong.f (k : Nat) (s0_0 : List Int) (s0_1 : Int) : Option (List Int × (List (List (S35))) × Int) := (spec_l92Program.f k s0_0 s0_1).bind fun bt869 => ((spec_l6Rd_pick.f k s0_0 bt869.2.2 30).bind fun bt877 => (if bt877.1 = 0 then ((some (([0, 5] : List Int) : List Int)).bind fun y879 => ((spec_l6Rd_pick.f k s0_0 bt877.2 2).bind fun bt882 => (if 0 ≤ bt882.1 then (if bt882.1 < (y879.length : Int) then (if bt869.1.length < 17592186044416 then (some ((bt869.1 ++ [rd y879 bt882.1]), bt869.2.1, bt882.2)) else (none)) else (none)) else (none)))) else (if bt877.1 = 1 then ((spec_l91Leaf.f k s0_0 bt877.2).bind fun bt888 => (if bt869.2.1.length < 5864062014805 then (some (bt869.1, (bt869.2.1 ++ [(([(⟨4, 0, (bt869.1.length : Int), (⟨bt888.1, bt888.2.1, bt888.2.2.1⟩ : S32), ([] : List (S35)), ([] : List (S35))⟩ : S35)] : List (S35)))]), bt888.2.2.2)) else (none))) else (if bt877.1 = 2 then (some (bt869.1, (([] : List (List (S35)))), bt877.2)) else (if bt877.1 = 3 then (if 0 < (bt869.2.1.length : Int) then ((some (([rd_L4 bt869.2.1 0, rd_L4 bt869.2.1 0, rd_L4 bt869.2.1 0] : List (List (S35))) : List (List (S35)))).bind fun y906 => (if bt869.2.1.length + y906.length < 5864062014805 then (some (bt869.1, (bt869.2.1 ++ y906), bt877.2)) else (none))) else (none)) else (if bt877.1 = 4 then (if 0 < (bt869.2.1.length : Int) then (if (rd_L4 bt869.2.1 0).length + 1 < 1256584717458 then (some (bt869.1, bt869.2.1.set 0 (rd_L4 bt869.2.1 0 ++ [⟨9, 0, 0, ⟨0, 0, []⟩, [], []⟩]), bt877.2)) else (none)) else (none)) else (some (bt869.1, bt869.2.1, bt877.2))))))))
def impl_roomsValid.l0 : Nat → List Int → List Int → Int → Int → Option (Bool)
 | 0, _, _, _, _ => none
 | k + 1, x0, x5, x6, x7 => if x7 < x6 then (if 0 ≤ x7 then (if x7 < (x5.length : Int) then (if (rd x5 x7) < 1 then (some false) else (if (rd x5 x7) > 4 then (some false) else (impl_roomsValid.l0 k x0 x5 x6 (wrap64 (x7 + 1))))) else (none)) else (none)) else (some (decide ((x0.length : Int) ≤ 3)))
def impl_roomsValid.f (k : Nat) (l0 : List Int) : Option (Bool) := impl_roomsValid.l0 k l0 l0 (l0.length : Int) 0
mutual
def impl_ProgramValid.j0 : Nat → Bool → List Int → List (List (S35)) → Option (Bool)
 | 0, _, _, _ => none
 | k + 1, x20, x969000, x969001 => if x20 = true then (some false) else (impl_ProgramValid.l0 k x969001 (x969001.length : Int) 0 x969000 x969001)
def impl_ProgramValid.l0 : Nat → List (List (S35)) → Int → Int → List Int → List (List (S35)) → Option (Bool)
 | 0, _, _, _, _, _ => none
 | k + 1, x22, x23, x24, x969000, x969001 => if x24 < x23 then (if 0 ≤ x24 then (if x24 < (x22.length : Int) then ((impl_stmtsValid.f k (rd_L4 x22 x24) (x969000.length : Int)).bind fun t971 => (if t971 = true then (impl_ProgramValid.l0 k x22 x23 (wrap64 (x24 + 1)) x969000 x969001) else (some false))) else (none)) else (none)) else (some true)
end
def impl_ProgramValid.f (k : Nat) (l0_0 : List Int) (l0_1 : List (List (S35))) : Option (Bool) := (impl_roomsValid.f k l0_0).bind fun t969 => (if t969 = true then (if (l0_1.length : Int) < 1 then (impl_ProgramValid.j0 k true l0_0 l0_1) else (impl_ProgramValid.j0 k (decide ((l0_1.length : Int) > 3)) l0_0 l0_1)) else (impl_ProgramValid.j0 k true l0_0 l0_1))
def slices_Clone_int_int.f (l0 : List Int) : Option (List Int) := (some (([] : List Int) : List Int)).bind fun y972 => (if y972.length + l0.length < 17592186044416 then (some (y972 ++ l0)) else (none))
def impl_ProgramFold.l0 : Nat → List (List (S35)) → Int → Int → List Int → List (List (S35)) → Option (List Int × (List (List (S35))) × Bool)
 | 0, _, _, _, _, _ => none
 | k + 1, x16, x17, x18, x985000, x985001 => if x18 < x17 then (if 0 ≤ x18 then (if x18 < (x16.length : Int) then ((impl_stmtsFold.f k (rd_L4 x16 x18)).bind fun t986 => (if x985001.length < 5864062014805 then (impl_ProgramFold.l0 k x16 x17 (wrap64 (x18 + 1)) x985000 (x985001 ++ [t986])) else (none))) else (none)) else (none)) else (some (x985000, x985001, true))
def impl_ProgramFold.f (k : Nat) (l0_0 : List Int) (l0_1 : List (List (S35))) : Option (List Int × (List (List (S35))) × Bool) := (impl_ProgramValid.f k l0_0 l0_1).bind fun t980 => (if t980 = true then ((slices_Clone_int_int.f l0_0).bind fun t981 => (impl_ProgramFold.l0 k l0_1 (l0_1.length : Int) 0 t981 ([] : List (List (S35))))) else (some (([] : List Int), ([] : List (List (S35))), false)))
def spec_l12Rooms.l0 : Nat → List Int → Int → Option (Bool)
 | 0, _, _ => none
 | k + 1, x0, x3 => if x3 < (x0.length : Int) then (if 0 ≤ x3 then ((spec_l6In.f (rd x0 x3) 1 4).bind fun t993 => (if t993 = true then (spec_l12Rooms.l0 k x0 (wrap64 (x3 + 1))) else (some false))) else (none)) else (some (decide ((x0.length : Int) ≤ 3)))
def spec_l12Rooms.f (k : Nat) (l0 : List Int) : Option (Bool) := spec_l12Rooms.l0 k l0 0
mutual
def spec_l12Boxes.l0 : Nat → List (S35) → Int → Int → Option (Bool)
 | 0, _, _, _ => none
 | k + 1, x0, x1, x5 => if x5 < (x0.length : Int) then (if 0 ≤ x5 then (if ((rd_T35 x0 x5).f0) = 4 then (spec_l12Boxes.j1 k x0 x1 x5 (decide (((rd_T35 x0 x5).f2) ≥ x1)) ((rd_T35 x0 x5).f0) ((rd_T35 x0 x5).f1) ((rd_T35 x0 x5).f2) ((rd_T35 x0 x5).f3.f0) ((rd_T35 x0 x5).f3.f1) ((rd_T35 x0 x5).f3.f2) ((rd_T35 x0 x5).f4) ((rd_T35 x0 x5).f5)) else (if ((rd_T35 x0 x5).f0) = 5 then (spec_l12Boxes.j1 k x0 x1 x5 (decide (((rd_T35 x0 x5).f2) ≥ x1)) ((rd_T35 x0 x5).f0) ((rd_T35 x0 x5).f1) ((rd_T35 x0 x5).f2) ((rd_T35 x0 x5).f3.f0) ((rd_T35 x0 x5).f3.f1) ((rd_T35 x0 x5).f3.f2) ((rd_T35 x0 x5).f4) ((rd_T35 x0 x5).f5)) else (spec_l12Boxes.j1 k x0 x1 x5 false ((rd_T35 x0 x5).f0) ((rd_T35 x0 x5).f1) ((rd_T35 x0 x5).f2) ((rd_T35 x0 x5).f3.f0) ((rd_T35 x0 x5).f3.f1) ((rd_T35 x0 x5).f3.f2) ((rd_T35 x0 x5).f4) ((rd_T35 x0 x5).f5)))) else (none)) else (some true)
def spec_l12Boxes.j1 : Nat → List (S35) → Int → Int → Bool → Int → Int → Int → Int → Int → List (S32) → List (S35) → List (S35) → Option (Bool)
 | 0, _, _, _, _, _, _, _, _, _, _, _, _ => none
 | k + 1, x0, x1, x5, x30, x996000, x996001, x996002, x996003, x996004, x996005, x996006, x996007 => if x30 = true then (some false) else ((spec_l12Boxes.f k x996006 x1).bind fun t996 => (if t996 = true then ((spec_l12Boxes.f k x996007 x1).bind fun t997 => (if t997 = true then (spec_l12Boxes.l0 k x0 x1 (wrap64 (x5 + 1))) else (some false))) else (some false)))
def spec_l12Boxes.f : Nat → List (S35) → Int → Option (Bool)
 | 0, _, _ => none
 | k + 1, l0, a1 => spec_l12Boxes.l0 k l0 a1 0
end
mutual
def spec_ProgramValid.j0 : Nat → Bool → List Int → List (List (S35)) → Option (Bool)
 | 0, _, _, _ => none
 | k + 1, x14, x999000, x999001 => if x14 = true then (some false) else (spec_ProgramValid.l0 k 0 x999000 x999001)
def spec_ProgramValid.l0 : Nat → Int → List Int → List (List (S35)) → Option (Bool)
 | 0, _, _, _ => none
 | k + 1, x3, x999000, x999001 => if x3 < (x999001.length : Int) then (if 0 ≤ x3 then ((spec_StmtsValid.f k (rd_L4 x999001 x3)).bind fun t1002 => (if t1002 = true then ((spec_l12Boxes.f k (rd_L4 x999001 x3) (x999000.length : Int)).bind fun t1004 => (if t1004 = true then (spec_ProgramValid.l0 k (wrap64 (x3 + 1)) x999000 x999001) else (some false))) else (some false))) else (none)) else (some true)
end
def spec_ProgramValid.f (k : Nat) (l0_0 : List Int) (l0_1 : List (List (S35))) : Option (Bool) := (spec_l12Rooms.f k l0_0).bind fun t999 => (if t999 = true then ((spec_l6In.f (l0_1.length : Int) 1 3).bind fun t1000 => (spec_ProgramValid.j0 k (!t1000) l0_0 l0_1)) else (spec_ProgramValid.j0 k true l0_0 l0_1))
def spec_ProgramFold.l0 : Nat → Int → List Int → List (List (S35)) → List Int → List (List (S35)) → Option (List Int × (List (List (S35))) × Bool)
 | 0, _, _, _, _, _ => none
 | k + 1, x5, x1006000, x1006001, x1018000, x1018001 => if x5 < (x1006001.length : Int) then (if 0 ≤ x5 then ((spec_l11FoldAll.f k (rd_L4 x1006001 x5)).bind fun t1019 => (if x1018001.length < 5864062014805 then (spec_ProgramFold.l0 k (wrap64 (x5 + 1)) x1006000 x1006001 x1018000 (x1018001 ++ [t1019])) else (none))) else (none)) else (some (x1018000, x1018001, true))
def spec_ProgramFold.f (k : Nat) (l0_0 : List Int) (l0_1 : List (List (S35))) : Option (List Int × (List (List (S35))) × Bool) := (spec_ProgramValid.f k l0_0 l0_1).bind fun t1007 => (if t1007 = true then ((some (([] : List Int) : List Int)).bind fun y1008 => (if y1008.length + l0_0.length < 17592186044416 then (spec_ProgramFold.l0 k 0 l0_0 l0_1 (y1008 ++ l0_0) (([] : List (List (S35))))) else (none))) else (some (([] : List Int), ([] : List (List (S35))), false)))
def laws_sameInts.l0 : Nat → List Int → List Int → Int → Option (Bool)
 | 0, _, _, _ => none
 | k + 1, x0, x1, x5 => if x5 < (x0.length : Int) then (if 0 ≤ x5 then (if x5 < (x1.length : Int) then (if (rd x0 x5) = (rd x1 x5) then (laws_sameInts.l0 k x0 x1 (wrap64 (x5 + 1))) else (some false)) else (none)) else (none)) else (some true)
def laws_sameInts.f (k : Nat) (l0 : List Int) (l1 : List Int) : Option (Bool) := if (l0.length : Int) = (l1.length : Int) then (laws_sameInts.l0 k l0 l1 0) else (some false)
mutual
def laws_sameProgram.j0 : Nat → Bool → List Int → List (List (S35)) → List Int → List (List (S35)) → Option (Bool)
 | 0, _, _, _, _, _ => none
 | k + 1, x20, x1028000, x1028001, x1029000, x1029001 => if x20 = true then (some false) else (laws_sameProgram.l0 k 0 x1028000 x1028001 x1029000 x1029001)
def laws_sameProgram.l0 : Nat → Int → List Int → List (List (S35)) → List Int → List (List (S35)) → Option (Bool)
 | 0, _, _, _, _, _ => none
 | k + 1, x5, x1028000, x1028001, x1029000, x1029001 => if x5 < (x1028001.length : Int) then (if 0 ≤ x5 then (if x5 < (x1029001.length : Int) then ((laws_sameStmts.f k (rd_L4 x1028001 x5) (rd_L4 x1029001 x5)).bind fun t1032 => (if t1032 = true then (laws_sameProgram.l0 k (wrap64 (x5 + 1)) x1028000 x1028001 x1029000 x1029001) else (some false))) else (none)) else (none)) else (some true)
end
def laws_sameProgram.f (k : Nat) (l0_0 : List Int) (l0_1 : List (List (S35))) (l1_0 : List Int) (l1_1 : List (List (S35))) : Option (Bool) := (laws_sameInts.f k l0_0 l1_0).bind fun t1029 => (if t1029 = true then (laws_sameProgram.j0 k ((l0_1.length : Int) != (l1_1.length : Int)) l0_0 l0_1 l1_0 l1_1) else (laws_sameProgram.j0 k true l0_0 l0_1 l1_0 l1_1))
mutual
def impl_hasLoop.l0 : Nat → List S35 → Int → Option Bool
 | 0, _, _ => none
 | k + 1, x, i => if i < (x.length : Int) then (if 0 ≤ i then ((impl_hasLoop.one k (rd_T35 x i)).bind fun b => if b = true then some true else impl_hasLoop.l0 k x (wrap64 (i + 1))) else none) else some false
def impl_hasLoop.one : Nat → S35 → Option Bool
 | 0, _ => none
 | k + 1, s => if s.f0 = 3 then some true else ((impl_hasLoop.f k s.f4).bind fun b => if b = true then some true else impl_hasLoop.f k s.f5)
def impl_hasLoop.f : Nat → List S35 → Option Bool
 | 0, _ => none
 | k + 1, l => impl_hasLoop.l0 k l 0
end
def impl_anyLoop.l0 : Nat → List (List S35) → Int → Option Bool
 | 0, _, _ => none
 | k + 1, x, i => if i < (x.length : Int) then (if 0 ≤ i then ((impl_hasLoop.f k (rd_L4 x i)).bind fun b => if b = true then some true else impl_anyLoop.l0 k x (wrap64 (i + 1))) else none) else some false
def impl_ProgramPlain.f (k : Nat) (l0_0 : List Int) (l0_1 : List (List S35)) : Option Bool := (impl_ProgramValid.f k l0_0 l0_1).bind fun v => if v = true then ((impl_anyLoop.l0 k l0_1 0).bind fun b => some (!b)) else some false
def impl_ProgramSize.l0 : Nat → Int → List (List (S35)) → Int → Int → Option (Int)
 | 0, _, _, _, _ => none
 | k + 1, x3, x10, x11, x12 => if x12 < x11 then (if 0 ≤ x12 then (if x12 < (x10.length : Int) then ((impl_stmtsCount.f k (rd_L4 x10 x12)).bind fun t1036 => (impl_ProgramSize.l0 k (wrap64 (x3 + t1036)) x10 x11 (wrap64 (x12 + 1)))) else (none)) else (none)) else (some x3)
def impl_ProgramSize.f (k : Nat) (l0_0 : List Int) (l0_1 : List (List (S35))) : Option (Int) := (impl_ProgramValid.f k l0_0 l0_1).bind fun t1034 => (if t1034 = true then (impl_ProgramSize.l0 k 0 l0_1 (l0_1.length : Int) 0) else (some (-1)))
end Go.Proofs.Ytodhbeeibagiaaa.PA

namespace Go.Proofs.Ytodhbeeibagiaaa.Open
open Go.ChangeShapes Go.WideShapes Go.RowKit Go.Proofs.YtodhbeeibagiaaaW.PrintWords
section
variable {H : Type} {enc : TypeId × Value → H} {P : Program} {w : World} {base : Nat} {spare : Nat → Bool} {held : Bool}
def Opn {α : Type} (enc : TypeId × Value → H) (P : Program) (w : World) (base : Nat) (spare : Nat → Bool) (held : Bool) (F : Nat) (t : TypeId) (d : Kd α) (G : α → Prop) : Prop :=
 ∀ f, f ≤ F → ∀ cs x, DataW.trod enc P w base spare held f t cs = some x → ∃ a, d.K w a cs ∧ G a
theorem Opn.le {α : Type} {F F' : Nat} {t : TypeId} {d : Kd α} {G : α → Prop} (h : Opn enc P w base spare held F t d G) (hf : F' ≤ F) : Opn enc P w base spare held F' t d G :=
 fun f hl => h f (Nat.le_trans hl hf)
theorem Opn.int {F : Nat} {t : TypeId} {k : IntKind} (hu : P.underlying t = some (.int k)) : Opn enc P w base spare held F t (Kd.int k) (fun n => (Lit.int k n).wf = true) := by
 intro f _ cs x h
 cases f with
 | zero => simp [DataW.trod] at h
 | succ n =>
  obtain ⟨m, rfl, hw⟩ : ∃ m, cs = [.int k m] ∧ (Lit.int k m).wf = true := by
   unfold DataW.trod at h
   rw [hu] at h
   split at h <;> simp_all
  exact ⟨m, rfl, hw⟩
theorem collect {α : Type} {Q : Nat → α → Prop} : ∀ m, (∀ i, i < m → ∃ a, Q i a) → ∃ l : List α, l.length = m ∧ ∀ i p, l[i]? = some p → Q i p
 | 0, _ => ⟨[], rfl, fun i p h => by simp at h⟩
 | m + 1, h => by
  obtain ⟨l, hl, hq⟩ := collect m (fun i hi => h i (by omega))
  obtain ⟨a, ha⟩ := h m (by omega)
  refine ⟨l ++ [a], by simp [hl], fun i p hp => ?_⟩
  rcases Nat.lt_or_ge i l.length with hlt | hge
  ·rw [List.getElem?_append_left hlt] at hp
   exact hq i p hp
  ·rw [List.getElem?_append_right hge] at hp
   have hi : i - l.length = 0 := by
    rcases Nat.eq_zero_or_pos (i - l.length) with h0 | h0
    ·exact h0
    ·rw [List.getElem?_eq_none (by simp; omega)] at hp
     cases hp
   rw [hi] at hp
   simp at hp
   subst hp
   have : i = m := by omega
   subst this
   exact ha
theorem Opn.slice {α : Type} {F : Nat} {t e : TypeId} {d : Kd α} {G : α → Prop} (hu : P.underlying t = some (.slice e)) (hc : P.cellsOf e = d.sz) (h : ∀ F', F' < F → Opn enc P w base spare held F' e d G) :
  Opn enc P w base spare held F t (Kd.slice e d) (fun l => l.length ≤ maxLen ∧ ∀ x ∈ l, G x) := by
 intro f hfF cs x hx
 rcases DataW.trod_slice hu hx with ⟨rfl, _⟩ | ⟨a, len, cap, elems, rest, n, rfl, rfl, _, _, hl, hm, hlen, hel, _, _⟩
 ·exact ⟨[], ⟨none, 0, rfl, Nat.le_refl _, rfl, by simp, fun hp => absurd hp (Nat.lt_irrefl 0)⟩, by simp, fun x hx => by simp at hx⟩
 ·obtain ⟨l, hll, hq⟩ := collect (Q := fun i p => (∃ c, c.length = d.sz ∧ d.K w p c ∧ ∀ j u, c[j]? = some u → w.cell? (a.add (i * d.sz + j)) = some u) ∧ G p) len (fun i hi => by
   have h1 := hel i hi
   have h2 : elems[i]? = some (elems[i]'(by omega)) := List.getElem?_eq_getElem (by omega)
   rw [h2] at h1
   obtain ⟨c, hc1, hc2⟩ := Option.bind_eq_some_iff.1 h1
   obtain ⟨p, hp, hg⟩ := h n (by omega) n (Nat.le_refl _) c _ hc2
   obtain ⟨_, hcl, hat⟩ := World.cells?_some hc1
   refine ⟨p, ⟨c, d.K_len hp, hp, fun j u hj => ?_⟩, hg⟩
   have hjl : j < c.length := (List.getElem?_eq_some_iff.1 hj).1
   have h3 := hat j (by omega)
   rw [hj] at h3
   rw [← hc, ← Go.Deep.add_add]
   exact h3)
  have hml : maxLen = 9223372036854775807 := rfl
  refine ⟨l, ⟨some a, cap, by rw [hll], by omega, rfl, by omega, fun _ => ⟨a, rfl, fun j p hj => (hq j p hj).1⟩⟩, by omega, fun x hx => ?_⟩
  obtain ⟨i, hi, rfl⟩ := List.getElem_of_mem hx
  exact (hq i _ (List.getElem?_eq_getElem hi)).2
end
end Go.Proofs.Ytodhbeeibagiaaa.Open

namespace Go.Proofs.Ytodhbeeibagiaaa.PA
open Go.RowKit Go.Proofs.YtodhbeeibagiaaaW.PrintWords
def laws_FnStmtsFoldOne.Pure : Prop := ∀ (l0 : List Int), (l0.length ≤ maxLen ∧ ∀ y ∈ l0, (Lit.int .u8 y).wf = true) → ∃ k, laws_FnStmtsFoldOne.f k l0 = some true
end Go.Proofs.Ytodhbeeibagiaaa.PA

namespace Go.Proofs.Ytodhbeeibagiaaa.PA
open Go.RowKit Go.Proofs.YtodhbeeibagiaaaW.PrintWords Go.Proofs.YtodhbeeibagiaaaW.PrintLast Go.Proofs.YtodhbeeibagiaaaW.PrintMore
attribute [local go_sem] max2_int min2_int max_two min_two max_three min_three max_four min_four
set_option linter.unusedVariables false
set_option linter.unusedSimpArgs false
def IsS91 (w0 W : World) (g : Nat) (f0 : List Int) (f1 : Int) : Prop := ∃ A0 c0, W.heap[g]? = some (.cells #[.slice A0 f0.length c0, .int .i64 f1] 91 (0, 0)) ∧ w0.heap.size ≤ g ∧ Kd.C (Kd.int .u8) w0 A0 f0.length f0
theorem IsS91.grown {w0 W : World} {g : Nat} {f0 : List Int} {f1 : Int} {W1 : World} {row : Option Nat} (h : IsS91 w0 W g f0 f1) (hw : W.grownBy W1 row) (hne : some g ≠ row) : IsS91 w0 W1 g f0 f1 := by
 obtain ⟨A0, c0, hb, hg, hr0⟩ := h
 exact ⟨A0, c0, blk_grown hb hw hne, hg, hr0⟩
theorem IsS91.own_neN {w0 W : World} {g : Nat} {f0 : List Int} {f1 : Int} {α : Type} {d : Kd α} {e : Nat} {base : Nat} {ok : Nat → Prop} {v : Value} {xs : List α} (h : IsS91 w0 W g f0 f1) (ho : Kd.N d e W base ok v xs) (ht : e ≠ 91) : some g ≠ v.ownBlock := by
 obtain ⟨A0, c0, hb, hg, hr0⟩ := h
 exact Kd.N_ne ho hb ht
theorem IsS91.fresh {w0 W : World} {g : Nat} {f0 : List Int} {f1 : Int} (h : IsS91 w0 W g f0 f1) : ∀ k, W.heap.size ≤ k → k ≠ g := by
 obtain ⟨A0, c0, hb, hg, hr0⟩ := h
 exact Kd.freshB hb
theorem IsS91.kept {w0 W : World} {g : Nat} {f0 : List Int} {f1 : Int} {W1 : World} {S : Nat → Prop} (h : IsS91 w0 W g f0 f1) (hk : Kept W W1 S) (hne : ¬ S g) : IsS91 w0 W1 g f0 f1 := by
 obtain ⟨A0, c0, hb, hg, hr0⟩ := h
 exact ⟨A0, c0, blk_kept hb hk hne, hg, hr0⟩
theorem IsS91.below {w0 W : World} {g : Nat} {f0 : List Int} {f1 : Int} {W1 : World} (h : IsS91 w0 W g f0 f1) (hw : Below W.heap.size W W1) : IsS91 w0 W1 g f0 f1 := h.grown (grown_of_below hw none) (by simp)
theorem IsS91.alloc {w0 W : World} {g : Nat} {f0 : List Int} {f1 : Int} (h : IsS91 w0 W g f0 f1) (o : Obj) : IsS91 w0 (W.alloc o) g f0 f1 := h.below (below_alloc (Below.refl _ _) o)
theorem IsS91.drewN {w0 W : World} {g : Nat} {f0 : List Int} {f1 : Int} (h : IsS91 w0 W g f0 f1) (m : Nat) : IsS91 w0 (W.drewN m) g f0 f1 := h
theorem IsS91.drew {w0 W : World} {g : Nat} {f0 : List Int} {f1 : Int} (h : IsS91 w0 W g f0 f1) : IsS91 w0 W.drew g f0 f1 := h
theorem IsS91.at_ {w0 W : World} {g : Nat} {f0 : List Int} {f1 : Int} {w' : World} {m : Nat} (hq : W.drewN m = w') (h : IsS91 w0 W g f0 f1) : IsS91 w0 w' g f0 f1 := by subst hq; exact IsS91.drewN h m
theorem IsS91.apart {w0 W : World} {g : Nat} {f0 : List Int} {f1 : Int} {α : Type} {d : Kd α} {e : Nat} {base : Nat} {ok : Nat → Prop} {v : Value} {xs : List α} (h : IsS91 w0 W g f0 f1) (ho : d.R e W base ok v xs) (ht : ∀ q, q ∈ e :: d.E → q ≠ 91) : d.R e W base (fun k => ok k ∧ k ≠ g) v xs := by
 obtain ⟨A0, c0, hb, hg, hr0⟩ := h
 exact Kd.R_types ho hb ht
theorem IsS91.own_ne {w0 W : World} {g : Nat} {f0 : List Int} {f1 : Int} {α : Type} {d : Kd α} {e : Nat} {base : Nat} {ok : Nat → Prop} {v : Value} {xs : List α} (h : IsS91 w0 W g f0 f1) (ho : d.R e W base ok v xs) (ht : e ≠ 91) : some g ≠ v.ownBlock := by
 obtain ⟨A0, c0, hb, hg, hr0⟩ := h
 exact Kd.R_ne ho hb ht
theorem IsS91.lt {w0 W : World} {g : Nat} {f0 : List Int} {f1 : Int} (h : IsS91 w0 W g f0 f1) : g < W.heap.size := by
 obtain ⟨A0, c0, hb, hg, hr0⟩ := h
 exact blk_lt hb
theorem IsS91.ge {w0 W : World} {g : Nat} {f0 : List Int} {f1 : Int} (h : IsS91 w0 W g f0 f1) : w0.heap.size ≤ g := by
 obtain ⟨A0, c0, hb, hg, hr0⟩ := h
 exact hg
theorem IsS91.far {w0 W : World} {g : Nat} {f0 : List Int} {f1 : Int} {p : Addr} (h : IsS91 w0 W g f0 f1) (hne : g ≠ p.block) (u : Value) : IsS91 w0 (W.setCell p u) g f0 f1 := by
 obtain ⟨A0, c0, hb, hg, hr0⟩ := h
 exact ⟨A0, c0, blk_far hb hne u, hg, hr0⟩
theorem cellS91_0 {W : World} {g : Nat} {A0 : Option Addr} {c0 : Nat} {f0 : List Int} {f1 : Int} (h : W.heap[g]? = some (.cells #[.slice A0 f0.length c0, .int .i64 f1] 91 (0, 0))) : W.cell? ⟨g, 0, none⟩ = some (.slice A0 f0.length c0) := (blk_cell h 0).trans rfl
theorem cellS91_1 {W : World} {g : Nat} {A0 : Option Addr} {c0 : Nat} {f0 : List Int} {f1 : Int} (h : W.heap[g]? = some (.cells #[.slice A0 f0.length c0, .int .i64 f1] 91 (0, 0))) : W.cell? ⟨g, 1, none⟩ = some (.int .i64 f1) := (blk_cell h 1).trans rfl
theorem IsS91.set_1 {w0 W : World} {g : Nat} {f0 : List Int} {f1 : Int} (h : IsS91 w0 W g f0 f1) (x : Int) : IsS91 w0 (W.setCell ⟨g, 1, none⟩ (.int .i64 x)) g f0 x := by
 obtain ⟨A0, c0, hb, hg, hr0⟩ := h
 exact ⟨A0, c0, by simpa using blk_set hb 1 (.int .i64 x), hg, hr0⟩
theorem spec_l6Open.calls (A0 : Option Addr) (c0 : Nat) (l0 : List Int) (r1 : List Int) (r2 : Int) (w0 w : World) (hB : Below w0.heap.size w0 w) (hr0 : Kd.C (Kd.int .u8) w0 A0 l0.length l0) (hc0 : l0.length ≤ c0) (h : spec_l6Open.f l0 = some (r1, r2)) :
  Calls Try.prog 39 #[.slice A0 l0.length c0] w fun e w' => ∃ g_ : Nat, e = .returned (.pointer (some ⟨g_, 0, none⟩)) ∧ IsS91 w0 w' g_ r1 r2 ∧ Below w0.heap.size w0 w' ∧ Below w.heap.size w w' := by
 have hu91 := Try.underlying91
 have HR0 := am hr0
 have HC0 := am hc0
 clear hr0 hc0
 have HBW := am (Below.refl w.heap.size w)
 have HW0 := am hB.size
 have HB := am hB
 clear hB
 have H : (if (l0.length : Int) > 2000 then (if 2000 ≤ (l0.length : Int) then (some (l0.take 2000, 0)) else (none)) else (some (l0, 0))) = some (r1, r2) := h
 clear h
 by_cases c2 : (l0.length : Int) > 2000
 ·rw [if_pos c2] at H
  have c2b0 : decide (2000 < (l0.length : Int)) = true := decide_eq_true c2
  have c2b1 : decide (2000 < l0.length) = true := decide_eq_true (by omega)
  clear c2
  by_cases c3 : 2000 ≤ (l0.length : Int)
  ·rw [if_pos c3] at H
   have c3b0 := eq_true c3
   have c3b1 : decide (2000 ≤ (l0.length : Int)) = true := decide_eq_true c3
   clear c3
   simp only [Option.some.injEq, Prod.mk.injEq] at H
   obtain ⟨rfl, rfl⟩ := H
   obtain ⟨i04, hi04, _, hsz4, _⟩ := info_parts info5
   obtain ⟨hcut4, hA4, hC4⟩ := print_take_of (P := Try.prog) (Value.int .u8) 0 22 5 .i64 Try.underlying22 hi04 hsz4 A0 c0 l0 2000 (by omega) (of_decide_eq_true asm_) HC0.out
   have HR101 := am (Kd.C_of_reads (h1 := fun _ => rfl) (hA4 _ (Kd.reads_of_C HR0.out)))
   have HC101 := am hC4
   clear hA4 hC4 hi04 hsz4
   go_enter Try.func39, Try.ntmps39
   go_wp2_with (first | ((with_reducible refine gate_dst (N := 10) rfl ?_); refine box_event rfl (N := 10) rfl (cs := #[.slice A0 (l0.take 2000).length c0, .int .i64 0]) (t := 91) rn_ ?_; intro gb102 hg w5 hbox hb; replace HB := am (below_step ab2_ hb); have BK102 := am (hbox); have GW102 := am ((by rw [hg]; exact (below_size ab67_) : w.heap.size ≤ gb102)); have GE102 := am ((Nat.le_trans HW0.out (by rw [hg]; exact (below_size ab67_) : w.heap.size ≤ gb102) : w0.heap.size ≤ gb102)); replace HBW := am (below_step HBW.out hb); clear hb hbox hg))
   go_ret
   exact ⟨_, rfl, (show IsS91 w0 _ gb102 (l0.take 2000) 0 from ⟨_, _, by (with_reducible repeat (first | refine blk_drewN ?_ _ | refine blk_drew ?_ | refine blk_alloc ?_ _)); exact BK102.out, GE102.out, HR101.out⟩), by repeat (first | (with_reducible first | exact HB.out | apply below_alloc | apply pw_below_drewN | apply below_drew1 | refine below_set ?_ GE102.out) | exact HB.out), by repeat (first | (with_reducible first | exact HBW.out | apply below_alloc | apply pw_below_drewN | apply below_drew1 | refine below_set ?_ GW102.out) | exact HBW.out)⟩
  rw [if_neg c3] at H
  exact absurd H (by simp)
 rw [if_neg c2] at H
 have c2b0 : decide (2000 < (l0.length : Int)) = false := decide_eq_false c2
 have c2b1 : decide (2000 < l0.length) = false := decide_eq_false (by omega)
 clear c2
 simp only [Option.some.injEq, Prod.mk.injEq] at H
 obtain ⟨rfl, rfl⟩ := H
 go_enter Try.func39, Try.ntmps39
 go_wp2_with (first | ((with_reducible refine gate_dst (N := 10) rfl ?_); refine box_event rfl (N := 10) rfl (cs := #[.slice A0 l0.length c0, .int .i64 0]) (t := 91) rn_ ?_; intro gb103 hg w6 hbox hb; replace HB := am (below_step ab2_ hb); have BK103 := am (hbox); have GW103 := am ((by rw [hg]; exact (below_size ab67_) : w.heap.size ≤ gb103)); have GE103 := am ((Nat.le_trans HW0.out (by rw [hg]; exact (below_size ab67_) : w.heap.size ≤ gb103) : w0.heap.size ≤ gb103)); replace HBW := am (below_step HBW.out hb); clear hb hbox hg))
 go_ret
 exact ⟨_, rfl, (show IsS91 w0 _ gb103 l0 0 from ⟨_, _, by (with_reducible repeat (first | refine blk_drewN ?_ _ | refine blk_drew ?_ | refine blk_alloc ?_ _)); exact BK103.out, GE103.out, HR0.out⟩), by repeat (first | (with_reducible first | exact HB.out | apply below_alloc | apply pw_below_drewN | apply below_drew1 | refine below_set ?_ GE103.out) | exact HB.out), by repeat (first | (with_reducible first | exact HBW.out | apply below_alloc | apply pw_below_drewN | apply below_drew1 | refine below_set ?_ GW103.out) | exact HBW.out)⟩
theorem spec_l6Rd_pick.mono_l : ∀ k, (∀ y0 y1 y2 y3, LeO (spec_l6Rd_pick.j0 k y0 y1 y2 y3) (spec_l6Rd_pick.j0 (k + 1) y0 y1 y2 y3))
 | 0 => fun _ _ _ _ r h => by simp [spec_l6Rd_pick.j0] at h
 | k + 1 => by
  have ih0 := spec_l6Rd_pick.mono_l k
  ·intro y0 y1 y2 y3
   unfold spec_l6Rd_pick.j0
   repeat' first
   | (with_reducible exact ih0 _ _ _ _)
   | (with_reducible exact LeO.refl _)
   | (with_reducible exact LeO.none _)
   | (with_reducible refine LeO.ite ?_ ?_)
   | (with_reducible refine LeO.bind ?_ (fun _ => ?_))
theorem spec_l6Rd_pick.mono : ∀ a0 a1 a2 k, LeO (spec_l6Rd_pick.f k a0 a1 a2) (spec_l6Rd_pick.f (k + 1) a0 a1 a2) := by
 intro a0 a1 a2 k
 have ih0 := spec_l6Rd_pick.mono_l k
 unfold spec_l6Rd_pick.f
 repeat' first
   | (with_reducible exact ih0 _ _ _ _)
   | (with_reducible exact LeO.refl _)
   | (with_reducible exact LeO.none _)
   | (with_reducible refine LeO.ite ?_ ?_)
   | (with_reducible refine LeO.bind ?_ (fun _ => ?_))
theorem spec_l6Rd_pick.calls (k : Nat) (g : Nat) (s0_0 : List Int) (s0_1 : Int) (a1 : Int) (r1 : Int) (r2 : Int) (w0 w : World) (hI : IsS91 w0 w g s0_0 s0_1) (hB : Below w0.heap.size w0 w) (h : spec_l6Rd_pick.f k s0_0 s0_1 a1 = some (r1, r2)) :
  Calls Try.prog 41 #[.pointer (some ⟨g, 0, none⟩), .int .i64 a1] w fun e w' => e = .returned (.int .i64 r1) ∧ IsS91 w0 w' g s0_0 r2 ∧ Below w0.heap.size w0 w' ∧ KeepBut w w' g none := by
 have HI0 := am hI
 have HK := am (KeepBut.refl w g none)
 have HL := am hB.size
 clear hI
 have HW0 := am hB.size
 have HB := am hB
 clear hB
 have H : (if a1 < 1 then (spec_l6Rd_pick.j0 k a1 true s0_0 (wrap64 (s0_1 + 1))) else (spec_l6Rd_pick.j0 k a1 ((s0_0.length : Int) == 0) s0_0 (wrap64 (s0_1 + 1)))) = some (r1, r2) := h
 clear h
 have HC3 := am H
 clear H
 obtain ⟨ASz4_0, cSz4_0, HGz4, hgz4, HSz4_0⟩ := HI0.out
 have hcz4_0 := cellS91_0 HGz4
 have hcz4_1 := cellS91_1 HGz4
 have hfz4_1 := blk_frozen HGz4 1
 clear HGz4 hgz4
 go_enter Try.func41, Try.ntmps41
 go_upto_region 2 with (fail)
 repeat (go_quiet (fail); go_upto_region 2 with (fail))
 go_cut [24] (fun v24 wc => ∃ (kq : Nat) (x24_2 : Bool), v24 = .bool x24_2 ∧ Aside0 (spec_l6Rd_pick.j0 kq a1 x24_2 s0_0 (wrap64 (s0_1 + 1)) = some (r1, r2)) ∧ Aside0 (kq ≤ k) ∧ Aside0 (IsS91 w0 wc g s0_0 (wrap64 (s0_1 + 1))) ∧ Aside0 (KeepBut w wc g none) ∧ Aside0 (Below w0.heap.size w0 wc))
 case first =>
  have H := HC3.out
  clear HC3
  by_cases c5 : a1 < 1
  ·rw [if_pos c5] at H
   have c5b0 : decide (a1 < 1) = true := decide_eq_true c5
   clear c5
   (first | rw [c5b0] | (simp only [i64_w, i32_w]; rw [c5b0]) | skip)
   have H' := am H
   clear H
   go_wp2
   repeat (go_quiet (fail); try go_wp2)
   go_meet
   case rel => exact ⟨_, (true), sd_, H', ⟨by first | omega | exact Nat.le_refl _⟩, ⟨ab4_⟩, ⟨ab3_⟩, ⟨ab5_⟩⟩
  rw [if_neg c5] at H
  have c5b0 : decide (a1 < 1) = false := decide_eq_false c5
  clear c5
  (first | rw [c5b0] | (simp only [i64_w, i32_w]; rw [c5b0]) | skip)
  have H' := am H
  clear H
  obtain ⟨ASz6_0, cSz6_0, HGz6, hgz6, HSz6_0⟩ := HI0.out
  have hcz6_0 := cellS91_0 HGz6
  have hcz6_1 := cellS91_1 HGz6
  have hfz6_1 := blk_frozen HGz6 1
  clear HGz6 hgz6
  go_wp2
  repeat (go_quiet (fail); try go_wp2)
  go_meet
  case rel => exact ⟨_, (((s0_0.length : Int) == 0)), sd_, H', ⟨by first | omega | exact Nat.le_refl _⟩, ⟨ab4_⟩, ⟨ab3_⟩, ⟨ab5_⟩⟩
 case rest =>
  clear HC3
  try clear hcz4_0
  try clear hcz4_1
  try clear hfz4_1
  obtain ⟨kq, x24_2, rfl, HA, HJ2, HI0, HK, HB⟩ := hcut
  cases kq with
  | zero => exact absurd HA.out (by simp [spec_l6Rd_pick.j0])
  | succ kj2 =>
   have H := HA.out
   clear HA
   simp only [spec_l6Rd_pick.j0] at H
   by_cases c7 : x24_2 = true
   ·subst c7
    rw [if_pos rfl] at H
    simp only [Option.some.injEq, Prod.mk.injEq] at H
    obtain ⟨rfl, rfl⟩ := H
    go_wp2
    repeat (go_quiet (fail); try go_wp2)
    go_ret
    exact ⟨rr_, ab4_, ab5_, ab3_⟩
   replace c7 := Bool.eq_false_iff.mpr c7
   subst c7
   rw [if_neg (show ¬ (false = true) by decide)] at H
   by_cases c8 : (wrap64 ((wrap64 (s0_1 + 1)) - 1)) < (s0_0.length : Int)
   ·rw [if_pos c8] at H
    have c8b0 : decide ((wrap64 ((wrap64 (s0_1 + 1)) - 1)) < (s0_0.length : Int)) = true := decide_eq_true c8
    clear c8
    obtain ⟨ji9, hji9⟩ : ∃ j_ : Int, (wrap64 ((wrap64 (s0_1 + 1)) - 1)) = j_ := ⟨_, rfl⟩
    replace H : (if 0 ≤ (ji9) then (if a1 = 0 then (none) else (some (Int.tmod (wrap64 (rd s0_0 (ji9))) a1, (wrap64 (s0_1 + 1))))) else (none)) = some (r1, r2) := by first | (rw [hji9] at H; exact H) | (simp only [hji9] at H ⊢; exact H)
    (try rw [hji9] at c8b0)
    have hji9w : (IntKind.i64.wrap ((wrap64 (s0_1 + 1)) - 1)) = ji9 := (i64_w _).trans hji9
    by_cases c10 : 0 ≤ (ji9)
    ·rw [if_pos c10] at H
     have c10b0 : decide (0 ≤ (ji9)) = true := decide_eq_true c10
     clear c10
     by_cases c11 : a1 = 0
     ·rw [if_pos c11] at H
      exact absurd H (by simp)
     rw [if_neg c11] at H
     have c11b0 : (a1 == 0) = false := beq_eq_false_iff_ne.mpr c11
     have c11b1 : (a1 != 0) = true := bne_iff_ne.mpr c11
     simp only [Option.some.injEq, Prod.mk.injEq] at H
     obtain ⟨rfl, rfl⟩ := H
     obtain ⟨ASz12_0, cSz12_0, HGz12, hgz12, HSz12_0⟩ := HI0.out
     have hcz12_0 := cellS91_0 HGz12
     have hcz12_1 := cellS91_1 HGz12
     have hfz12_1 := blk_frozen HGz12 1
     clear HGz12 hgz12
     have p104 : 0 ≤ ((ji9) : Int) := of_decide_eq_true asm_
     have q104 : (ji9) < (s0_0.length : Int) := of_decide_eq_true asm_
     obtain ⟨ad104, e104, hx104_0⟩ := Kd.at_int HSz12_0 (ji9) p104 q104
     cases e104
     replace hx104_0 := pw_cell_below HB.out hx104_0
     replace p104 := eq_true p104
     replace q104 := eq_true q104
     go_wp2
     repeat (go_quiet (fail); try go_wp2)
     go_ret
     exact ⟨by first | rfl | (simp [errW_none, errW_some] <;> rfl) | (simp only [← hji9]; first | rfl | (simp [errW_none, errW_some] <;> rfl)) | (simp [*, errW_none, errW_some] <;> rfl), ab4_, ab5_, ab3_⟩
    rw [if_neg c10] at H
    exact absurd H (by simp)
   rw [if_neg c8] at H
   have c8b0 : decide ((wrap64 ((wrap64 (s0_1 + 1)) - 1)) < (s0_0.length : Int)) = false := decide_eq_false c8
   clear c8
   by_cases c13 : (s0_0.length : Int) = 0
   ·rw [if_pos c13] at H
    exact absurd H (by simp)
   rw [if_neg c13] at H
   have c13b0 : ((s0_0.length : Int) == 0) = false := beq_eq_false_iff_ne.mpr c13
   have c13b1 : ((s0_0.length : Int) != 0) = true := bne_iff_ne.mpr c13
   have c13b2 : ¬ (s0_0 = []) := fun h_ => c13 (by rw [h_]; rfl)
   obtain ⟨ji14, hji14⟩ : ∃ j_ : Int, (Int.tmod (wrap64 ((wrap64 (s0_1 + 1)) - 1)) (s0_0.length : Int)) = j_ := ⟨_, rfl⟩
   replace H : (if 0 ≤ (ji14) then (if (ji14) < (s0_0.length : Int) then (if 0 ≤ (Int.tmod (wrap64 ((wrap64 ((wrap64 ((wrap64 (s0_1 + 1)) - 1)) * 7)) + 3)) (s0_0.length : Int)) then (if (Int.tmod (wrap64 ((wrap64 ((wrap64 ((wrap64 (s0_1 + 1)) - 1)) * 7)) + 3)) (s0_0.length : Int)) < (s0_0.length : Int) then (if a1 = 0 then (none) else (some (Int.tmod (Go.bits .xor .i64 (wrap64 ((wrap64 ((wrap64 ((wrap64 ((wrap64 (rd s0_0 (ji14))) * 131)) + (wrap64 ((wrap64 (rd s0_0 (Int.tmod (wrap64 ((wrap64 ((wrap64 ((wrap64 (s0_1 + 1)) - 1)) * 7)) + 3)) (s0_0.length : Int)))) * 1117)))) + (wrap64 ((wrap64 ((wrap64 (s0_1 + 1)) - 1)) * 29)))) + (wrap64 ((wrap64 (Int.tdiv (wrap64 ((wrap64 (s0_1 + 1)) - 1)) (s0_0.length : Int))) * 53)))) (wrap64 (Int.tdiv (wrap64 ((wrap64 ((wrap64 ((wrap64 ((wrap64 (rd s0_0 (ji14))) * 131)) + (wrap64 ((wrap64 (rd s0_0 (Int.tmod (wrap64 ((wrap64 ((wrap64 ((wrap64 (s0_1 + 1)) - 1)) * 7)) + 3)) (s0_0.length : Int)))) * 1117)))) + (wrap64 ((wrap64 ((wrap64 (s0_1 + 1)) - 1)) * 29)))) + (wrap64 ((wrap64 (Int.tdiv (wrap64 ((wrap64 (s0_1 + 1)) - 1)) (s0_0.length : Int))) * 53)))) 64))) a1, (wrap64 (s0_1 + 1))))) else (none)) else (none)) else (none)) else (none)) = some (r1, r2) := by first | (rw [hji14] at H; exact H) | (simp only [hji14] at H ⊢; exact H)
   by_cases c15 : 0 ≤ (ji14)
   ·rw [if_pos c15] at H
    have c15b0 : decide (0 ≤ (ji14)) = true := decide_eq_true c15
    clear c15
    by_cases c16 : (ji14) < (s0_0.length : Int)
    ·rw [if_pos c16] at H
     have c16b0 : decide ((ji14) < (s0_0.length : Int)) = true := decide_eq_true c16
     clear c16
     obtain ⟨ji17, hji17⟩ : ∃ j_ : Int, (Int.tmod (wrap64 ((wrap64 ((wrap64 ((wrap64 (s0_1 + 1)) - 1)) * 7)) + 3)) (s0_0.length : Int)) = j_ := ⟨_, rfl⟩
     replace H : (if 0 ≤ (ji17) then (if (ji17) < (s0_0.length : Int) then (if a1 = 0 then (none) else (some (Int.tmod (Go.bits .xor .i64 (wrap64 ((wrap64 ((wrap64 ((wrap64 ((wrap64 (rd s0_0 (ji14))) * 131)) + (wrap64 ((wrap64 (rd s0_0 (ji17))) * 1117)))) + (wrap64 ((wrap64 ((wrap64 (s0_1 + 1)) - 1)) * 29)))) + (wrap64 ((wrap64 (Int.tdiv (wrap64 ((wrap64 (s0_1 + 1)) - 1)) (s0_0.length : Int))) * 53)))) (wrap64 (Int.tdiv (wrap64 ((wrap64 ((wrap64 ((wrap64 ((wrap64 (rd s0_0 (ji14))) * 131)) + (wrap64 ((wrap64 (rd s0_0 (ji17))) * 1117)))) + (wrap64 ((wrap64 ((wrap64 (s0_1 + 1)) - 1)) * 29)))) + (wrap64 ((wrap64 (Int.tdiv (wrap64 ((wrap64 (s0_1 + 1)) - 1)) (s0_0.length : Int))) * 53)))) 64))) a1, (wrap64 (s0_1 + 1))))) else (none)) else (none)) = some (r1, r2) := by first | (rw [hji17] at H; exact H) | (simp only [hji17] at H ⊢; exact H)
     by_cases c18 : 0 ≤ (ji17)
     ·rw [if_pos c18] at H
      have c18b0 : decide (0 ≤ (ji17)) = true := decide_eq_true c18
      clear c18
      by_cases c19 : (ji17) < (s0_0.length : Int)
      ·rw [if_pos c19] at H
       have c19b0 : decide ((ji17) < (s0_0.length : Int)) = true := decide_eq_true c19
       clear c19
       by_cases c20 : a1 = 0
       ·rw [if_pos c20] at H
        exact absurd H (by simp)
       rw [if_neg c20] at H
       have c20b0 : (a1 == 0) = false := beq_eq_false_iff_ne.mpr c20
       have c20b1 : (a1 != 0) = true := bne_iff_ne.mpr c20
       simp only [Option.some.injEq, Prod.mk.injEq] at H
       obtain ⟨rfl, rfl⟩ := H
       obtain ⟨ASz21_0, cSz21_0, HGz21, hgz21, HSz21_0⟩ := HI0.out
       have hcz21_0 := cellS91_0 HGz21
       have hcz21_1 := cellS91_1 HGz21
       have hfz21_1 := blk_frozen HGz21 1
       clear HGz21 hgz21
       have p105 : 0 ≤ ((ji14) : Int) := of_decide_eq_true asm_
       have q105 : (ji14) < (s0_0.length : Int) := of_decide_eq_true asm_
       obtain ⟨ad105, e105, hx105_0⟩ := Kd.at_int HSz21_0 (ji14) p105 q105
       cases e105
       replace hx105_0 := pw_cell_below HB.out hx105_0
       replace p105 := eq_true p105
       replace q105 := eq_true q105
       have p106 : 0 ≤ ((ji17) : Int) := of_decide_eq_true asm_
       have q106 : (ji17) < (s0_0.length : Int) := of_decide_eq_true asm_
       obtain ⟨ad106, e106, hx106_0⟩ := Kd.at_int HSz21_0 (ji17) p106 q106
       obtain rfl : ad105 = ad106 := (by injection e106)
       replace hx106_0 := pw_cell_below HB.out hx106_0
       replace p106 := eq_true p106
       replace q106 := eq_true q106
       go_wp2
       repeat (go_quiet (fail); try go_wp2)
       go_ret
       exact ⟨by first | rfl | (simp [errW_none, errW_some] <;> rfl) | (simp only [← hji14, ← hji17]; first | rfl | (simp [errW_none, errW_some] <;> rfl)) | (simp [*, errW_none, errW_some] <;> rfl), ab4_, ab5_, ab3_⟩
      rw [if_neg c19] at H
      exact absurd H (by simp)
     rw [if_neg c18] at H
     exact absurd H (by simp)
    rw [if_neg c16] at H
    exact absurd H (by simp)
   rw [if_neg c15] at H
   exact absurd H (by simp)
theorem spec_l4Both.calls (a0 : Int) (a1_0 : Int) (a1_1 : Int) (P1_2_ : Nat → Prop) (A1_2 : Option Addr) (c1_2 : Nat) (l1_2 : List (S32)) (a2_0 : Int) (a2_1 : Int) (P2_2_ : Nat → Prop) (A2_2 : Option Addr) (c2_2 : Nat) (l2_2 : List (S32)) (r1 : Int) (r2 : Int) (r3 : List (S32)) (w : World) (hs1_2 : Kd.V k32 32 w w.heap.size (fun k_ => P1_2_ k_) (.slice A1_2 l1_2.length c1_2) l1_2) (hs2_2 : Kd.V k32 32 w w.heap.size (fun k_ => P2_2_ k_) (.slice A2_2 l2_2.length c2_2) l2_2) (h : spec_l4Both.f a0 a1_0 a1_1 l1_2 a2_0 a2_1 l2_2 = some (r1, r2, r3)) :
  Calls Try.prog 43 #[.int .i64 a0, .agg #[.int .i64 a1_0, .int .i64 a1_1, .slice A1_2 l1_2.length c1_2], .agg #[.int .i64 a2_0, .int .i64 a2_1, .slice A2_2 l2_2.length c2_2]] w fun e w' => ∃ v2_ : Value, e = .returned (.agg #[.int .i64 r1, .int .i64 r2, v2_]) ∧ Kd.N k32 32 w' w.heap.size (fun k_ => ((P1_2_ k_ ∨ P2_2_ k_) ∨ w.heap.size ≤ k_)) v2_ r3 ∧ Below w.heap.size w w' := by
 have hu32 := Try.underlying32
 have HO1_2 := am (show Kd.V k32 32 w w.heap.size (fun k_ => ((P1_2_ k_ ∨ P2_2_ k_) ∨ w.heap.size ≤ k_)) (.slice A1_2 l1_2.length c1_2) l1_2 from Kd.V_mono hs1_2 (fun k_ hk => .inl (.inl hk)))
 have HO2_2 := am (show Kd.V k32 32 w w.heap.size (fun k_ => ((P1_2_ k_ ∨ P2_2_ k_) ∨ w.heap.size ≤ k_)) (.slice A2_2 l2_2.length c2_2) l2_2 from Kd.V_mono hs2_2 (fun k_ hk => .inl (.inr hk)))
 have HB := am (Below.refl w.heap.size w)
 have H : (some (a0, 0, (([(⟨a1_0, a1_1, l1_2⟩ : S32), (⟨a2_0, a2_1, l2_2⟩ : S32)] : List (S32))))) = some (r1, r2, r3) := h
 clear h
 obtain ⟨y110, hy110⟩ : ∃ y_ : List (S32), y_ = (([(⟨a1_0, a1_1, l1_2⟩ : S32), (⟨a2_0, a2_1, l2_2⟩ : S32)] : List (S32))) := ⟨_, rfl⟩
 replace H : (some (a0, 0, y110)) = some (r1, r2, r3) := by first | (rw [hy110]; with_reducible exact H) | (have H2_ := (Option.bind_some _ _).symm.trans H; rw [hy110]; with_reducible exact H2_) | (have H2_ := (Option.bind_some _ _).symm.trans H; with_reducible exact H2_) | with_reducible exact H | (rw [hy110]; exact H) | exact H
 have Ny110 := am hy110
 clear hy110
 simp only [Option.some.injEq, Prod.mk.injEq] at H
 obtain ⟨rfl, rfl, rfl⟩ := H
 go_enter Try.func43, Try.ntmps43
 go_wp2_with (first | ((with_reducible refine gate_dst (N := 4) rfl ?_); refine box_event rfl (N := 4) rfl (cs := #[.int .i64 a1_0, .int .i64 a1_1, .slice A1_2 l1_2.length c1_2]) (t := 32) rn_ ?_; intro gb107 hg w4 hbox hb; replace HO1_2 := am (Kd.V_below (Kd.V_elderB (by (with_reducible repeat (first | apply Kd.V_alloc | apply Kd.V_drewN | apply Kd.V_drew)); exact HO1_2.out) gb107 (Nat.le_of_eq hg.symm)) hb); replace HO2_2 := am (Kd.V_below (Kd.V_elderB (by (with_reducible repeat (first | apply Kd.V_alloc | apply Kd.V_drewN | apply Kd.V_drew)); exact HO2_2.out) gb107 (Nat.le_of_eq hg.symm)) hb); have BK107 := am (hbox); have GW107 := am ((by rw [hg]; exact (below_size ab2_) : w.heap.size ≤ gb107)); have GE107 := am ((by rw [hg]; exact (below_size ab2_) : w.heap.size ≤ gb107)); replace HB := am (below_step ab2_ hb); clear hb hbox hg) | ((with_reducible refine gate_dst (N := 5) rfl ?_); refine box_event rfl (N := 5) rfl (cs := #[.int .i64 a2_0, .int .i64 a2_1, .slice A2_2 l2_2.length c2_2]) (t := 32) rn_ ?_; intro gb108 hg w5 hbox hb; replace HO1_2 := am (Kd.V_below (Kd.V_elderB (by (with_reducible repeat (first | apply Kd.V_alloc | apply Kd.V_drewN | apply Kd.V_drew)); exact HO1_2.out) gb108 (Nat.le_of_eq hg.symm)) hb); replace HO2_2 := am (Kd.V_below (Kd.V_elderB (by (with_reducible repeat (first | apply Kd.V_alloc | apply Kd.V_drewN | apply Kd.V_drew)); exact HO2_2.out) gb108 (Nat.le_of_eq hg.symm)) hb); have BK108 := am (hbox); have GW108 := am ((by rw [hg]; exact (below_size ab71_) : w.heap.size ≤ gb108)); have GE108 := am ((by rw [hg]; exact (below_size ab71_) : w.heap.size ≤ gb108)); replace HB := am (below_step ab71_ hb); have NB107_108 := am ((by rw [hg]; exact Nat.ne_of_lt (blt_ BK107.out) : gb107 ≠ gb108)); have NB108_107 := am ((by rw [hg]; exact Nat.ne_of_gt (blt_ BK107.out) : gb108 ≠ gb107)); replace BK107 := am (bbl_ BK107.out hb); clear hb hbox hg) | ((with_reducible refine gate_dst (N := 6) rfl ?_); refine box_event rfl (N := 6) rfl (cs := #[.int .i64 0, .int .i64 0, .slice none 0 0]) (t := 32) rn_ ?_; intro gb109 hg w6 hbox hb; replace HO1_2 := am (Kd.V_below (Kd.V_elderB (by (with_reducible repeat (first | apply Kd.V_alloc | apply Kd.V_drewN | apply Kd.V_drew)); exact HO1_2.out) gb109 (Nat.le_of_eq hg.symm)) hb); replace HO2_2 := am (Kd.V_below (Kd.V_elderB (by (with_reducible repeat (first | apply Kd.V_alloc | apply Kd.V_drewN | apply Kd.V_drew)); exact HO2_2.out) gb109 (Nat.le_of_eq hg.symm)) hb); have BK109 := am (hbox); have GW109 := am ((by rw [hg]; exact (below_size ab65_) : w.heap.size ≤ gb109)); have GE109 := am ((by rw [hg]; exact (below_size ab65_) : w.heap.size ≤ gb109)); replace HB := am (below_step ab65_ hb); have NB107_109 := am ((by rw [hg]; exact Nat.ne_of_lt (blt_ BK107.out) : gb107 ≠ gb109)); have NB109_107 := am ((by rw [hg]; exact Nat.ne_of_gt (blt_ BK107.out) : gb109 ≠ gb107)); replace BK107 := am (bbl_ BK107.out hb); have NB108_109 := am ((by rw [hg]; exact Nat.ne_of_lt (blt_ BK108.out) : gb108 ≠ gb109)); have NB109_108 := am ((by rw [hg]; exact Nat.ne_of_gt (blt_ BK108.out) : gb109 ≠ gb108)); replace BK108 := am (bbl_ BK108.out hb); clear hb hbox hg; have hnb7 := NB107_108.out; have hnc7 := NB108_107.out; have hnb8 := NB107_109.out; have hnc8 := NB109_107.out; obtain ⟨hcz9_0, hcz9_1, hcz9_2, hfz9_0, hfz9_1, hfz9_2⟩ := bcf3_ BK107.out; have hnb10 := NB108_109.out; have hnc10 := NB109_108.out; obtain ⟨hcz11_0, hcz11_1, hcz11_2, hfz11_0, hfz11_1, hfz11_2⟩ := bcf3_ BK108.out) | ((with_reducible refine gate_dst (N := 10) rfl ?_); refine Kd.N_lit k32 _ 32 rfl (N' := 10) rfl (xs := ([(⟨a1_0, a1_1, l1_2⟩ : S32), (⟨a2_0, a2_1, l2_2⟩ : S32)] : List (S32))) (inner := [.int .i64 a1_0, .int .i64 a1_1, .slice A1_2 l1_2.length c1_2, .int .i64 a2_0, .int .i64 a2_1, .slice A2_2 l2_2.length c2_2]) (ok := (fun k_ => ((P1_2_ k_ ∨ P2_2_ k_) ∨ w.heap.size ≤ k_) ∧ k_ ≠ gb107 ∧ k_ ≠ gb108 ∧ k_ ≠ gb109)) (okp := (fun k_ => ((P1_2_ k_ ∨ P2_2_ k_) ∨ w.heap.size ≤ k_) ∧ k_ ≠ gb107 ∧ k_ ≠ gb108 ∧ k_ ≠ gb109)) rn_ ?hp (fun _ hk => hk) ((show ∀ k_, w6.heap.size ≤ k_ → (fun k_ => ((P1_2_ k_ ∨ P2_2_ k_) ∨ w.heap.size ≤ k_) ∧ k_ ≠ gb107 ∧ k_ ≠ gb108 ∧ k_ ≠ gb109) k_ from fun k_ hk => ⟨(.inr (Nat.le_trans (below_size ab57_) hk)), frb_ BK107.out k_ hk, frb_ BK108.out k_ hk, frb_ BK109.out k_ hk⟩) _ (Nat.le_refl _)) (Below.refl _ _) (Nat.le_refl _) (by simp) ?_; (case hp => exact (Reps.c3 (show Kd.FK k32 _ _ (⟨a1_0, a1_1, l1_2⟩ : S32) [.int .i64 a1_0, .int .i64 a1_1, .slice A1_2 l1_2.length c1_2] from (k32_mkF _ _ (⟨a1_0, a1_1, l1_2⟩ : S32) (Kd.V_reads' (Kd.V_mono (ok' := (fun k_ => ((P1_2_ k_ ∨ P2_2_ k_) ∨ w.heap.size ≤ k_) ∧ k_ ≠ gb107 ∧ k_ ≠ gb108 ∧ k_ ≠ gb109)) (HO1_2.out) (fun k_ hk => ⟨hk.1.1.1, ⟨hk.1.1.2, ⟨hk.1.2, hk.2⟩⟩⟩))).2.1 (Kd.V_F (Kd.V_mono (ok' := (fun k_ => ((P1_2_ k_ ∨ P2_2_ k_) ∨ w.heap.size ≤ k_) ∧ k_ ≠ gb107 ∧ k_ ≠ gb108 ∧ k_ ≠ gb109)) (HO1_2.out) (fun k_ hk => ⟨hk.1.1.1, ⟨hk.1.1.2, ⟨hk.1.2, hk.2⟩⟩⟩))))) (Reps.c3 (show Kd.FK k32 _ _ (⟨a2_0, a2_1, l2_2⟩ : S32) [.int .i64 a2_0, .int .i64 a2_1, .slice A2_2 l2_2.length c2_2] from (k32_mkF _ _ (⟨a2_0, a2_1, l2_2⟩ : S32) (Kd.V_reads' (Kd.V_mono (ok' := (fun k_ => ((P1_2_ k_ ∨ P2_2_ k_) ∨ w.heap.size ≤ k_) ∧ k_ ≠ gb107 ∧ k_ ≠ gb108 ∧ k_ ≠ gb109)) (HO2_2.out) (fun k_ hk => ⟨hk.1.1.1, ⟨hk.1.1.2, ⟨hk.1.2, hk.2⟩⟩⟩))).2.1 (Kd.V_F (Kd.V_mono (ok' := (fun k_ => ((P1_2_ k_ ∨ P2_2_ k_) ∨ w.heap.size ≤ k_) ∧ k_ ≠ gb107 ∧ k_ ≠ gb108 ∧ k_ ≠ gb109)) (HO2_2.out) (fun k_ hk => ⟨hk.1.1.1, ⟨hk.1.1.2, ⟨hk.1.2, hk.2⟩⟩⟩))))) (Reps.none _ _)))); intro v111 w12 ho13 hb hg_ hnew_; clear hg_ hnew_; (first | rw [← Ny110.out] at ho13 | (simp only [Int.reduceToNat] at ho13; rw [← Ny110.out] at ho13)); replace HO1_2 := am (Kd.V_elder' (by (with_reducible repeat (first | apply Kd.V_alloc | apply Kd.V_drewN | apply Kd.V_drew)); exact HO1_2.out) (Kd.N_base ho13) hb); replace HO2_2 := am (Kd.V_elder' (by (with_reducible repeat (first | apply Kd.V_alloc | apply Kd.V_drewN | apply Kd.V_drew)); exact HO2_2.out) (Kd.N_base ho13) hb); have HO112 := am (Kd.N_lower ho13 (below_size ab57_)); replace BK107 := am (bbl_ BK107.out hb); replace BK108 := am (bbl_ BK108.out hb); replace BK109 := am (bbl_ BK109.out hb); replace HB := am (below_step ab57_ hb); clear hb ho13; obtain ⟨Ao14, co14, eo14⟩ := Kd.N_slice HO112.out; subst eo14; obtain ⟨hcz15_0, hcz15_1, hcz15_2, hfz15_0, hfz15_1, hfz15_2⟩ := bcf3_ BK109.out))
 refine bodyPost_ret (results_cell_row rfl _ _ gb109 32 #[.int .i64 a0, .int .i64 0, .slice Ao14 y110.length co14] (0, 0) _ rfl (blk_put (blk_put (blk_put BK109.out 0 _ rfl) 1 _ rfl) 2 _ rfl) Try.underlying32 rfl (by kernel_rfl)) rfl ?_
 exact ⟨_, ab11_, by (with_reducible repeat (first | apply Kd.N_alloc | apply Kd.N_drewN | apply Kd.N_drew)); exact Kd.N_mono (Kd.N_far (p := ⟨gb109, 2, none⟩) (Kd.N_far (p := ⟨gb109, 1, none⟩) (Kd.N_far (p := ⟨gb109, 0, none⟩) (Kd.N_mono HO112.out (fun k_ hk => (⟨hk, hk.2.2.2⟩ : _ ∧ k_ ≠ gb109))) (fun _ hk => hk.2) (.int .i64 a0)) (fun _ hk => hk.2) (.int .i64 0)) (fun _ hk => hk.2) (.slice Ao14 y110.length co14)) (fun _ hk => hk.1.1), ab57_⟩
theorem spec_l4Leaf.calls (a0 : Int) (a1 : Int) (r1 : Int) (r2 : Int) (r3 : List (S32)) (w : World) (h : spec_l4Leaf.f a0 a1 = some (r1, r2, r3)) :
  Calls Try.prog 45 #[.int .i64 a0, .int .i64 a1] w fun e w' => ∃ v2_ : Value, e = .returned (.agg #[.int .i64 r1, .int .i64 r2, v2_]) ∧ Kd.R k32 32 w' w.heap.size (fun _ => True) v2_ r3 ∧ Below w.heap.size w w' := by
 have hu32 := Try.underlying32
 have HB := am (Below.refl w.heap.size w)
 have H : (some (a0, a1, (([] : List (S32))))) = some (r1, r2, r3) := h
 clear h
 obtain ⟨y116, hy116⟩ : ∃ y_ : List (S32), y_ = (([] : List (S32))) := ⟨_, rfl⟩
 replace H : (some (a0, a1, y116)) = some (r1, r2, r3) := by first | (rw [hy116]; with_reducible exact H) | (have H2_ := (Option.bind_some _ _).symm.trans H; rw [hy116]; with_reducible exact H2_) | (have H2_ := (Option.bind_some _ _).symm.trans H; with_reducible exact H2_) | with_reducible exact H | (rw [hy116]; exact H) | exact H
 have Ny116 := am hy116
 clear hy116
 simp only [Option.some.injEq, Prod.mk.injEq] at H
 obtain ⟨rfl, rfl, rfl⟩ := H
 go_enter Try.func45, Try.ntmps45
 go_wp2_with (first | ((with_reducible refine gate_dst (N := 4) rfl ?_); refine box_event rfl (N := 4) rfl (cs := #[.int .i64 0, .int .i64 0, .slice none 0 0]) (t := 32) rn_ ?_; intro gb115 hg w3 hbox hb; have BK115 := am (hbox); have GW115 := am ((by rw [hg]; exact (below_size ab2_) : w.heap.size ≤ gb115)); have GE115 := am ((by rw [hg]; exact (below_size ab2_) : w.heap.size ≤ gb115)); replace HB := am (below_step ab2_ hb); clear hb hbox hg) | ((with_reducible refine gate_dst (N := 7) rfl ?_); refine Kd.R_lit k32 _ 32 rfl (N := 7) rfl (xs := ([] : List (S32))) (inner := []) (ok := fun _ => True) (okp := fun _ => True) rn_ ?hp (fun _ hk => hk) trivial (Below.refl _ _) (Nat.le_refl _) (by simp) ?_; (case hp => exact (Reps.none _ _)); intro v117 w4 ho5 hb hg_ hnew_; clear hg_ hnew_; (first | rw [← Ny116.out] at ho5 | (simp only [Int.reduceToNat] at ho5; rw [← Ny116.out] at ho5)); have HO118 := am (Kd.R_lower (Kd.R_newB ho5 (g := gb115) (o := .cells #[.int .i64 0, .int .i64 0, .slice none 0 0] 32 (0, 0)) (aG_ BK115.out)) (below_size ab74_)); replace BK115 := am (bbl_ BK115.out hb); replace HB := am (below_step ab74_ hb); clear hb ho5; obtain ⟨Ao6, co6, eo6⟩ := Kd.R_slice HO118.out; subst eo6; obtain ⟨hcz7_0, hcz7_1, hcz7_2, hfz7_0, hfz7_1, hfz7_2⟩ := bcf3_ BK115.out))
 refine bodyPost_ret (results_cell_row rfl _ _ gb115 32 #[.int .i64 a0, .int .i64 a1, .slice Ao6 y116.length co6] (0, 0) _ rfl (blk_put (blk_put (blk_put BK115.out 0 _ rfl) 1 _ rfl) 2 _ rfl) Try.underlying32 rfl (by kernel_rfl)) rfl ?_
 exact ⟨_, ab11_, by (with_reducible repeat (first | apply Kd.R_alloc | apply Kd.R_drewN | apply Kd.R_drew)); exact Kd.R_mono (Kd.R_far (p := ⟨gb115, 2, none⟩) (Kd.R_far (p := ⟨gb115, 1, none⟩) (Kd.R_far (p := ⟨gb115, 0, none⟩) (Kd.R_mono HO118.out (fun k_ hk => (⟨hk, hk.2⟩ : _ ∧ k_ ≠ gb115))) (fun _ hk => hk.2) (.int .i64 a0)) (fun _ hk => hk.2) (.int .i64 a1)) (fun _ hk => hk.2) (.slice Ao6 y116.length co6)) (fun _ hk => trivial), ab74_⟩
theorem spec_l91Op.mono : ∀ a0 a1 k, LeO (spec_l91Op.f k a0 a1) (spec_l91Op.f (k + 1) a0 a1) := by
 intro a0 a1 k
 unfold spec_l91Op.f
 repeat' first
   | (with_reducible exact spec_l6Rd_pick.mono _ _ _ _)
   | (with_reducible exact LeO.refl _)
   | (with_reducible exact LeO.none _)
   | (with_reducible refine LeO.ite ?_ ?_)
   | (with_reducible refine LeO.bind ?_ (fun _ => ?_))
theorem spec_l91Op.calls (k : Nat) (g : Nat) (s0_0 : List Int) (s0_1 : Int) (r1 : Int) (r2 : Int) (w0 w : World) (hI : IsS91 w0 w g s0_0 s0_1) (hB : Below w0.heap.size w0 w) (h : spec_l91Op.f k s0_0 s0_1 = some (r1, r2)) :
  Calls Try.prog 44 #[.pointer (some ⟨g, 0, none⟩)] w fun e w' => e = .returned (.int .i64 r1) ∧ IsS91 w0 w' g s0_0 r2 ∧ Below w0.heap.size w0 w' ∧ KeepBut w w' g none := by
 have HI0 := am hI
 have HK := am (KeepBut.refl w g none)
 have HL := am hB.size
 clear hI
 have HW0 := am hB.size
 have HB := am hB
 clear hB
 have H : ((spec_l6Rd_pick.f k s0_0 s0_1 12).bind fun bt113 => (some (wrap64 (1 + bt113.1), bt113.2))) = some (r1, r2) := h
 clear h
 obtain ⟨⟨t113, t114⟩, A20, H⟩ := bsm H
 (try dsimp only at H)
 have A2 := am A20
 clear A20
 simp only [Option.some.injEq, Prod.mk.injEq] at H
 obtain ⟨rfl, rfl⟩ := H
 go_enter Try.func44, Try.ntmps44
 go_wp2_with (first | ((with_reducible refine gate_callee (f := 41) rfl ?_); refine goesL_ (some 4) rfl rfl Try.func41 (by kernel_rfl) rfl #[.pointer (some ⟨g, 0, none⟩), .int .i64 12] rfl ab1_ ?_; (with_reducible refine (spec_l6Rd_pick.calls k g s0_0 s0_1 12 t113 t114 w0 _ ?side1 ?side2 A2.out).mono ?_); (case side1 => exact ab4_); (case side2 => exact ab5_); rintro e w3 ⟨rfl, hi, hb, hk⟩; refine ⟨_, rfl, ?_⟩; replace HK := am (KeepBut.trans ab3_ hk (.inl rfl)); replace HB := am (hb); replace HI0 := am (hi); (try clear hb); (try clear hb2); (try clear hk); (try clear hi)))
 go_ret
 exact ⟨rr_, ab4_, ab5_, ab3_⟩
theorem spec_l91Leaf.mono : ∀ a0 a1 k, LeO (spec_l91Leaf.f k a0 a1) (spec_l91Leaf.f (k + 1) a0 a1) := by
 intro a0 a1 k
 unfold spec_l91Leaf.f
 repeat' first
   | (with_reducible exact spec_l6Rd_pick.mono _ _ _ _)
   | (with_reducible exact LeO.refl _)
   | (with_reducible exact LeO.none _)
   | (with_reducible refine LeO.ite ?_ ?_)
   | (with_reducible refine LeO.bind ?_ (fun _ => ?_))
theorem spec_l91Leaf.calls (k : Nat) (g : Nat) (s0_0 : List Int) (s0_1 : Int) (r1 : Int) (r2 : Int) (r3 : List (S32)) (r4 : Int) (w0 w : World) (hI : IsS91 w0 w g s0_0 s0_1) (hB : Below w0.heap.size w0 w) (h : spec_l91Leaf.f k s0_0 s0_1 = some (r1, r2, r3, r4)) :
  Calls Try.prog 75 #[.pointer (some ⟨g, 0, none⟩)] w fun e w' => ∃ v2_ : Value, e = .returned (.agg #[.int .i64 r1, .int .i64 r2, v2_]) ∧ Kd.R k32 32 w' w.heap.size (fun _ => True) v2_ r3 ∧ IsS91 w0 w' g s0_0 r4 ∧ Below w0.heap.size w0 w' ∧ KeepBut w w' g none := by
 have hu32 := Try.underlying32
 have HI0 := am hI
 have HK := am (KeepBut.refl w g none)
 have HL := am hB.size
 clear hI
 have HW0 := am hB.size
 have HB := am hB
 clear hB
 have H : ((spec_l6Rd_pick.f k s0_0 s0_1 4).bind fun bt120 => (if bt120.1 = 0 then ((spec_l6Rd_pick.f k s0_0 bt120.2 4).bind fun bt122 => ((spec_l4Leaf.f 0 bt122.1).bind fun bt124 => (some (bt124.1, bt124.2.1, bt124.2.2, bt122.2)))) else (if bt120.1 = 1 then ((some (([5, 31, 32, 100, 2047, 2048, 65536, 99999] : List Int) : List Int)).bind fun y129 => ((spec_l6Rd_pick.f k s0_0 bt120.2 8).bind fun bt132 => (if 0 ≤ bt132.1 then (if bt132.1 < (y129.length : Int) then ((spec_l4Leaf.f 0 (rd y129 bt132.1)).bind fun bt135 => (some (bt135.1, bt135.2.1, bt135.2.2, bt132.2))) else (none)) else (none)))) else ((spec_l6Rd_pick.f k s0_0 bt120.2 4).bind fun bt140 => ((spec_l4Leaf.f 13 bt140.1).bind fun bt142 => (some (bt142.1, bt142.2.1, bt142.2.2, bt140.2))))))) = some (r1, r2, r3, r4) := h
 clear h
 obtain ⟨⟨t120, t121⟩, A20, H⟩ := bsm H
 (try dsimp only at H)
 have A2 := am A20
 clear A20
 have HH_ := am H
 clear H
 go_enter Try.func75, Try.ntmps75
 go_upto_region 2 with (first | ((with_reducible refine gate_dst (N := 2) rfl ?_); refine box_event rfl (N := 2) rfl (cs := #[.int .i64 0, .int .i64 0, .slice none 0 0]) (t := 32) rn_ ?_; intro gb119 hg w6 hbox hb; replace HB := am (below_step ab5_ hb); have BK119 := am (hbox); have GW119 := am ((by rw [hg]; exact (keep_size (w := w) (g := g) (row := none) ab3_) : w.heap.size ≤ gb119)); have GE119 := am ((Nat.le_trans HW0.out (by rw [hg]; exact (keep_size (w := w) (g := g) (row := none) ab3_) : w.heap.size ≤ gb119) : w0.heap.size ≤ gb119)); replace HK := am (KeepBut.trans ab3_ (KeepBut.of_below hb g none) (.inl rfl)); have NB0_119 := am ((by rw [hg]; exact Nat.ne_of_lt (IsS91.lt (show IsS91 w0 _ g s0_0 s0_1 from by repeat (first | (with_reducible first | exact HI0.out | apply IsS91.alloc | apply IsS91.drewN | apply IsS91.drew | apply IsS91.set_1) | exact HI0.out))) : g ≠ gb119)); have NB119_0 := am ((by rw [hg]; exact Nat.ne_of_gt (IsS91.lt (show IsS91 w0 _ g s0_0 s0_1 from by repeat (first | (with_reducible first | exact HI0.out | apply IsS91.alloc | apply IsS91.drewN | apply IsS91.drew | apply IsS91.set_1) | exact HI0.out))) : gb119 ≠ g)); replace HI0 := am (IsS91.below ab4_ hb); clear hb hbox hg) | ((with_reducible refine gate_callee (f := 41) rfl ?_); refine goesL_ (some 4) rfl rfl Try.func41 (by kernel_rfl) rfl #[.pointer (some ⟨g, 0, none⟩), .int .i64 4] rfl ab1_ ?_; (with_reducible refine (spec_l6Rd_pick.calls k g s0_0 s0_1 4 t120 t121 w0 _ ?side1 ?side2 A2.out).mono ?_); (case side1 => exact ab49_); (case side2 => exact ab45_); rintro e w7 ⟨rfl, hi, hb, hk⟩; refine ⟨_, rfl, ?_⟩; replace BK119 := am (KeepBut.blk hk (g' := gb119) (o := .cells #[.int .i64 0, .int .i64 0, .slice none 0 0] 32 (0, 0)) (aG_ BK119.out) NB119_0.out (by simp)); replace HK := am (KeepBut.trans ab25_ hk (.inl rfl)); replace HB := am (hb); replace HI0 := am (hi); (try clear hb); (try clear hb2); (try clear hk); (try clear hi)))
 have H := HH_.out
 clear HH_
 by_cases c3 : t120 = 0
 ·rw [if_pos c3] at H
  have c3b0 : (t120 == 0) = true := beq_iff_eq.mpr c3
  have c3b1 : (t120 != 0) = false := bne_eq_false_iff_eq.mpr c3
  clear c3
  obtain ⟨⟨t122, t123⟩, A40, H⟩ := bsm H
  (try dsimp only at H)
  have A4 := am A40
  clear A40
  obtain ⟨⟨t124, t125, t126⟩, A50, H⟩ := bsm H
  (try dsimp only at H)
  have A5 := am A50
  clear A50
  simp only [Option.some.injEq, Prod.mk.injEq] at H
  obtain ⟨rfl, rfl, rfl, rfl⟩ := H
  go_wp2_with (first | ((with_reducible refine gate_callee (f := 41) rfl ?_); refine goesL_ (some 8) rfl rfl Try.func41 (by kernel_rfl) rfl #[.pointer (some ⟨g, 0, none⟩), .int .i64 4] rfl ab1_ ?_; (with_reducible refine (spec_l6Rd_pick.calls k g s0_0 t121 4 t122 t123 w0 _ ?side1 ?side2 A4.out).mono ?_); (case side1 => exact ab49_); (case side2 => exact ab45_); rintro e w8 ⟨rfl, hi, hb, hk⟩; refine ⟨_, rfl, ?_⟩; replace BK119 := am (KeepBut.blk hk (g' := gb119) (o := .cells #[.int .i64 0, .int .i64 0, .slice none 0 0] 32 (0, 0)) (aG_ BK119.out) NB119_0.out (by simp)); replace HK := am (KeepBut.trans ab25_ hk (.inl rfl)); replace HB := am (hb); replace HI0 := am (hi); (try clear hb); (try clear hb2); (try clear hk); (try clear hi)) | ((with_reducible refine gate_callee (f := 45) rfl ?_); refine goesL_ (some 9) rfl rfl Try.func45 (by kernel_rfl) rfl #[.int .i64 0, .int .i64 t122] rfl ab1_ ?_; (with_reducible refine (spec_l4Leaf.calls 0 t122 t124 t125 t126 _ A5.out).mono ?_); rintro e w9 ⟨v127, rfl, ho0, hb⟩; refine ⟨_, rfl, ?_⟩; have HO128 := am (Kd.R_lower (Kd.R_newB ho0 (g := gb119) (o := .cells #[.int .i64 0, .int .i64 0, .slice none 0 0] 32 (0, 0)) (aG_ BK119.out)) (keep_size (w := w) (g := g) (row := none) ab25_)); replace BK119 := am (bbl_ BK119.out hb); replace HK := am (KeepBut.trans ab25_ (KeepBut.of_below hb g none) (.inl rfl)); replace HB := am (below_step ab45_ hb); replace HI0 := am (IsS91.below ab49_ hb); (try clear hb); (try clear hb2); (try clear hk); (try clear hi); (try clear ho0); have hnb10 := NB119_0.out; have hnc10 := NB0_119.out; obtain ⟨hcz11_0, hcz11_1, hcz11_2, hfz11_0, hfz11_1, hfz11_2⟩ := bcf3_ BK119.out; obtain ⟨Ao12, co12, eo12⟩ := Kd.R_slice HO128.out; subst eo12))
  refine bodyPost_ret (results_cell_row rfl _ _ gb119 32 #[.int .i64 t124, .int .i64 t125, .slice Ao12 t126.length co12] (0, 0) _ rfl (blk_put (blk_put (blk_put BK119.out 0 _ rfl) 1 _ rfl) 2 _ rfl) Try.underlying32 rfl (by kernel_rfl)) rfl ?_
  exact ⟨_, ab11_, by (with_reducible repeat (first | apply Kd.R_alloc | apply Kd.R_drewN | apply Kd.R_drew)); exact Kd.R_mono (Kd.R_far (p := ⟨gb119, 2, none⟩) (Kd.R_far (p := ⟨gb119, 1, none⟩) (Kd.R_far (p := ⟨gb119, 0, none⟩) (Kd.R_mono HO128.out (fun k_ hk => (⟨hk, hk.2⟩ : _ ∧ k_ ≠ gb119))) (fun _ hk => hk.2) (.int .i64 t124)) (fun _ hk => hk.2) (.int .i64 t125)) (fun _ hk => hk.2) (.slice Ao12 t126.length co12)) (fun _ hk => trivial), ab49_, ab45_, ab25_⟩
 rw [if_neg c3] at H
 have c3b0 : (t120 == 0) = false := beq_eq_false_iff_ne.mpr c3
 have c3b1 : (t120 != 0) = true := bne_iff_ne.mpr c3
 by_cases c13 : t120 = 1
 ·rw [if_pos c13] at H
  have c13b0 : (t120 == 1) = true := beq_iff_eq.mpr c13
  have c13b1 : (t120 != 1) = false := bne_eq_false_iff_eq.mpr c13
  clear c13
  obtain ⟨y129, hy129⟩ : ∃ y_ : List Int, y_ = (([5, 31, 32, 100, 2047, 2048, 65536, 99999] : List Int)) := ⟨_, rfl⟩
  replace H : ((spec_l6Rd_pick.f k s0_0 t121 8).bind fun bt132 => (if 0 ≤ bt132.1 then (if bt132.1 < (y129.length : Int) then ((spec_l4Leaf.f 0 (rd y129 bt132.1)).bind fun bt135 => (some (bt135.1, bt135.2.1, bt135.2.2, bt132.2))) else (none)) else (none))) = some (r1, r2, r3, r4) := by first | (rw [hy129]; with_reducible exact H) | (have H2_ := (Option.bind_some _ _).symm.trans H; rw [hy129]; with_reducible exact H2_) | (have H2_ := (Option.bind_some _ _).symm.trans H; with_reducible exact H2_) | with_reducible exact H | (rw [hy129]; exact H) | exact H
  have Ny129 := am hy129
  clear hy129
  obtain ⟨⟨t132, t133⟩, A140, H⟩ := bsm H
  (try dsimp only at H)
  have A14 := am A140
  clear A140
  by_cases c15 : 0 ≤ t132
  ·rw [if_pos c15] at H
   have c15b0 : decide (0 ≤ t132) = true := decide_eq_true c15
   clear c15
   by_cases c16 : t132 < (y129.length : Int)
   ·rw [if_pos c16] at H
    have c16b0 : decide (t132 < (y129.length : Int)) = true := decide_eq_true c16
    clear c16
    obtain ⟨⟨t135, t136, t137⟩, A170, H⟩ := bsm H
    (try dsimp only at H)
    have A17 := am A170
    clear A170
    simp only [Option.some.injEq, Prod.mk.injEq] at H
    obtain ⟨rfl, rfl, rfl, rfl⟩ := H
    go_wp2_with (first | ((with_reducible refine gate_dst (N := 12) rfl ?_); refine Kd.R_lit (Kd.int .i64) _ 3 rfl (N := 12) rfl (xs := ([5, 31, 32, 100, 2047, 2048, 65536, 99999] : List Int)) (inner := [.int .i64 5, .int .i64 31, .int .i64 32, .int .i64 100, .int .i64 2047, .int .i64 2048, .int .i64 65536, .int .i64 99999]) (ok := fun _ => True) (okp := fun _ => True) rn_ ?hp (fun _ hk => hk) trivial (Below.refl _ _) (Nat.le_refl _) (by simp) ?_; (case hp => exact (Reps.one (show Kd.M (Kd.int .i64) _ _ _ 5 [.int .i64 5] from rfl) (Reps.one (show Kd.M (Kd.int .i64) _ _ _ 31 [.int .i64 31] from rfl) (Reps.one (show Kd.M (Kd.int .i64) _ _ _ 32 [.int .i64 32] from rfl) (Reps.one (show Kd.M (Kd.int .i64) _ _ _ 100 [.int .i64 100] from rfl) (Reps.one (show Kd.M (Kd.int .i64) _ _ _ 2047 [.int .i64 2047] from rfl) (Reps.one (show Kd.M (Kd.int .i64) _ _ _ 2048 [.int .i64 2048] from rfl) (Reps.one (show Kd.M (Kd.int .i64) _ _ _ 65536 [.int .i64 65536] from rfl) (Reps.one (show Kd.M (Kd.int .i64) _ _ _ 99999 [.int .i64 99999] from rfl) (Reps.none _ _)))))))))); intro v130 w20 ho21 hb hg_ hnew_; clear hg_ hnew_; (first | rw [← Ny129.out] at ho21 | (simp only [Int.reduceToNat] at ho21; rw [← Ny129.out] at ho21)); have HO131 := am (Kd.R_lower ho21 (keep_size (w := w) (g := g) (row := none) ab25_)); replace BK119 := am (bbl_ BK119.out hb); replace HK := am (KeepBut.trans ab25_ (KeepBut.of_below hb g none) (.inl rfl)); replace HB := am (below_step ab45_ hb); replace HI0 := am (IsS91.below ab49_ hb); clear hb ho21) | ((with_reducible refine gate_callee (f := 41) rfl ?_); refine goesL_ (some 14) rfl rfl Try.func41 (by kernel_rfl) rfl #[.pointer (some ⟨g, 0, none⟩), .int .i64 8] rfl ab1_ ?_; (with_reducible refine (spec_l6Rd_pick.calls k g s0_0 t121 8 t132 t133 w0 _ ?side1 ?side2 A14.out).mono ?_); (case side1 => exact ab49_); (case side2 => exact ab45_); rintro e w22 ⟨rfl, hi, hb, hk⟩; refine ⟨_, rfl, ?_⟩; replace BK119 := am (KeepBut.blk hk (g' := gb119) (o := .cells #[.int .i64 0, .int .i64 0, .slice none 0 0] 32 (0, 0)) (aG_ BK119.out) NB119_0.out (by simp)); replace HO131 := am (Kd.R_mono (Kd.R_keep (IsS91.apart (show IsS91 w0 _ g s0_0 t121 from by repeat (first | (with_reducible first | exact HI0.out | apply IsS91.alloc | apply IsS91.drewN | apply IsS91.drew | apply IsS91.set_1 | refine IsS91.far ?_ NB0_119.out _) | exact HI0.out)) (aR_ HO131.out) (by decide)) hk (fun _ h => h.2)) (fun _ h => h.1)); replace HK := am (KeepBut.trans ab25_ hk (.inl rfl)); replace HB := am (hb); replace HI0 := am (hi); (try clear hb); (try clear hb2); (try clear hk); (try clear hi); obtain ⟨Ao23, co23, eo23⟩ := Kd.R_slice HO131.out; subst eo23; have p134 : 0 ≤ (t132 : Int) := of_decide_eq_true asm_; have q134 : t132 < (y129.length : Int) := of_decide_eq_true asm_; obtain ⟨ad134, e134, hx134_0⟩ := Kd.at_int (Kd.R_reads' HO131.out).2.2 t132 p134 q134; cases e134; replace p134 := eq_true p134; replace q134 := eq_true q134) | ((with_reducible refine gate_callee (f := 45) rfl ?_); refine goesL_ (some 17) rfl rfl Try.func45 (by kernel_rfl) rfl #[.int .i64 0, .int .i64 (rd y129 t132)] rfl ab1_ ?_; (with_reducible refine (spec_l4Leaf.calls 0 (rd y129 t132) t135 t136 t137 _ A17.out).mono ?_); rintro e w24 ⟨v138, rfl, ho0, hb⟩; refine ⟨_, rfl, ?_⟩; replace HO131 := am (Kd.R_below (aR_ HO131.out) hb); have HO139 := am (Kd.R_lower (Kd.R_newB ho0 (g := gb119) (o := .cells #[.int .i64 0, .int .i64 0, .slice none 0 0] 32 (0, 0)) (aG_ BK119.out)) (keep_size (w := w) (g := g) (row := none) ab25_)); replace BK119 := am (bbl_ BK119.out hb); replace HK := am (KeepBut.trans ab25_ (KeepBut.of_below hb g none) (.inl rfl)); replace HB := am (below_step ab45_ hb); replace HI0 := am (IsS91.below ab49_ hb); (try clear hb); (try clear hb2); (try clear hk); (try clear hi); (try clear ho0); have hnb25 := NB119_0.out; have hnc25 := NB0_119.out; obtain ⟨hcz26_0, hcz26_1, hcz26_2, hfz26_0, hfz26_1, hfz26_2⟩ := bcf3_ BK119.out; obtain ⟨Ao27, co27, eo27⟩ := Kd.R_slice HO139.out; subst eo27))
    refine bodyPost_ret (results_cell_row rfl _ _ gb119 32 #[.int .i64 t135, .int .i64 t136, .slice Ao27 t137.length co27] (0, 0) _ rfl (blk_put (blk_put (blk_put BK119.out 0 _ rfl) 1 _ rfl) 2 _ rfl) Try.underlying32 rfl (by kernel_rfl)) rfl ?_
    exact ⟨_, ab11_, by (with_reducible repeat (first | apply Kd.R_alloc | apply Kd.R_drewN | apply Kd.R_drew)); exact Kd.R_mono (Kd.R_far (p := ⟨gb119, 2, none⟩) (Kd.R_far (p := ⟨gb119, 1, none⟩) (Kd.R_far (p := ⟨gb119, 0, none⟩) (Kd.R_mono HO139.out (fun k_ hk => (⟨hk, hk.2⟩ : _ ∧ k_ ≠ gb119))) (fun _ hk => hk.2) (.int .i64 t135)) (fun _ hk => hk.2) (.int .i64 t136)) (fun _ hk => hk.2) (.slice Ao27 t137.length co27)) (fun _ hk => trivial), ab49_, ab45_, ab25_⟩
   rw [if_neg c16] at H
   exact absurd H (by simp)
  rw [if_neg c15] at H
  exact absurd H (by simp)
 rw [if_neg c13] at H
 have c13b0 : (t120 == 1) = false := beq_eq_false_iff_ne.mpr c13
 have c13b1 : (t120 != 1) = true := bne_iff_ne.mpr c13
 obtain ⟨⟨t140, t141⟩, A280, H⟩ := bsm H
 (try dsimp only at H)
 have A28 := am A280
 clear A280
 obtain ⟨⟨t142, t143, t144⟩, A290, H⟩ := bsm H
 (try dsimp only at H)
 have A29 := am A290
 clear A290
 simp only [Option.some.injEq, Prod.mk.injEq] at H
 obtain ⟨rfl, rfl, rfl, rfl⟩ := H
 go_wp2_with (first | ((with_reducible refine gate_callee (f := 41) rfl ?_); refine goesL_ (some 19) rfl rfl Try.func41 (by kernel_rfl) rfl #[.pointer (some ⟨g, 0, none⟩), .int .i64 4] rfl ab1_ ?_; (with_reducible refine (spec_l6Rd_pick.calls k g s0_0 t121 4 t140 t141 w0 _ ?side1 ?side2 A28.out).mono ?_); (case side1 => exact ab49_); (case side2 => exact ab45_); rintro e w32 ⟨rfl, hi, hb, hk⟩; refine ⟨_, rfl, ?_⟩; replace BK119 := am (KeepBut.blk hk (g' := gb119) (o := .cells #[.int .i64 0, .int .i64 0, .slice none 0 0] 32 (0, 0)) (aG_ BK119.out) NB119_0.out (by simp)); replace HK := am (KeepBut.trans ab25_ hk (.inl rfl)); replace HB := am (hb); replace HI0 := am (hi); (try clear hb); (try clear hb2); (try clear hk); (try clear hi)) | ((with_reducible refine gate_callee (f := 45) rfl ?_); refine goesL_ (some 20) rfl rfl Try.func45 (by kernel_rfl) rfl #[.int .i64 13, .int .i64 t140] rfl ab1_ ?_; (with_reducible refine (spec_l4Leaf.calls 13 t140 t142 t143 t144 _ A29.out).mono ?_); rintro e w33 ⟨v145, rfl, ho0, hb⟩; refine ⟨_, rfl, ?_⟩; have HO146 := am (Kd.R_lower (Kd.R_newB ho0 (g := gb119) (o := .cells #[.int .i64 0, .int .i64 0, .slice none 0 0] 32 (0, 0)) (aG_ BK119.out)) (keep_size (w := w) (g := g) (row := none) ab25_)); replace BK119 := am (bbl_ BK119.out hb); replace HK := am (KeepBut.trans ab25_ (KeepBut.of_below hb g none) (.inl rfl)); replace HB := am (below_step ab45_ hb); replace HI0 := am (IsS91.below ab49_ hb); (try clear hb); (try clear hb2); (try clear hk); (try clear hi); (try clear ho0); have hnb34 := NB119_0.out; have hnc34 := NB0_119.out; obtain ⟨hcz35_0, hcz35_1, hcz35_2, hfz35_0, hfz35_1, hfz35_2⟩ := bcf3_ BK119.out; obtain ⟨Ao36, co36, eo36⟩ := Kd.R_slice HO146.out; subst eo36))
 refine bodyPost_ret (results_cell_row rfl _ _ gb119 32 #[.int .i64 t142, .int .i64 t143, .slice Ao36 t144.length co36] (0, 0) _ rfl (blk_put (blk_put (blk_put BK119.out 0 _ rfl) 1 _ rfl) 2 _ rfl) Try.underlying32 rfl (by kernel_rfl)) rfl ?_
 exact ⟨_, ab11_, by (with_reducible repeat (first | apply Kd.R_alloc | apply Kd.R_drewN | apply Kd.R_drew)); exact Kd.R_mono (Kd.R_far (p := ⟨gb119, 2, none⟩) (Kd.R_far (p := ⟨gb119, 1, none⟩) (Kd.R_far (p := ⟨gb119, 0, none⟩) (Kd.R_mono HO146.out (fun k_ hk => (⟨hk, hk.2⟩ : _ ∧ k_ ≠ gb119))) (fun _ hk => hk.2) (.int .i64 t142)) (fun _ hk => hk.2) (.int .i64 t143)) (fun _ hk => hk.2) (.slice Ao36 t144.length co36)) (fun _ hk => trivial), ab49_, ab45_, ab25_⟩
theorem spec_l91Expr.mono_l : ∀ k, (∀ y0 y1 y2, LeO (spec_l91Expr.f k y0 y1 y2) (spec_l91Expr.f (k + 1) y0 y1 y2)) ∧ (∀ y0 y1 y2 y3, LeO (spec_l91Expr.j0 k y0 y1 y2 y3) (spec_l91Expr.j0 (k + 1) y0 y1 y2 y3))
 | 0 => ⟨fun _ _ _ r h => by simp [spec_l91Expr.f] at h, fun _ _ _ _ r h => by simp [spec_l91Expr.j0] at h⟩
 | k + 1 => by
  obtain ⟨ih0, ih1⟩ := spec_l91Expr.mono_l k
  refine ⟨?_, ?_⟩
  ·intro y0 y1 y2
   unfold spec_l91Expr.f
   repeat' first
   | (with_reducible exact ih0 _ _ _)
   | (with_reducible exact ih1 _ _ _ _)
   | (with_reducible exact spec_l6Rd_pick.mono _ _ _ _)
   | (with_reducible exact spec_l91Leaf.mono _ _ _)
   | (with_reducible exact spec_l91Op.mono _ _ _)
   | (with_reducible exact LeO.refl _)
   | (with_reducible exact LeO.none _)
   | (with_reducible refine LeO.ite ?_ ?_)
   | (with_reducible refine LeO.bind ?_ (fun _ => ?_))
  ·intro y0 y1 y2 y3
   unfold spec_l91Expr.j0
   repeat' first
   | (with_reducible exact ih0 _ _ _)
   | (with_reducible exact ih1 _ _ _ _)
   | (with_reducible exact spec_l6Rd_pick.mono _ _ _ _)
   | (with_reducible exact spec_l91Leaf.mono _ _ _)
   | (with_reducible exact spec_l91Op.mono _ _ _)
   | (with_reducible exact LeO.refl _)
   | (with_reducible exact LeO.none _)
   | (with_reducible refine LeO.ite ?_ ?_)
   | (with_reducible refine LeO.bind ?_ (fun _ => ?_))
theorem spec_l91Expr.mono : ∀ a0 a1 a2 k, LeO (spec_l91Expr.f k a0 a1 a2) (spec_l91Expr.f (k + 1) a0 a1 a2) := by
 intro a0 a1 a2 k
 obtain ⟨ih0, ih1⟩ := spec_l91Expr.mono_l k
 exact ih0 a0 a1 a2
def spec_l91Expr.T5 : Bool × List (List Nat × List Nat) := (true, [([], []), ([], []), ([], []), ([], []), ([3], [3]), ([2, 4], [2, 4]), ([0, 1, 5, 5], [0, 1, 5]), ([6, 6, 0, 1, 2, 3, 4, 5, 6], [6])])
def spec_l91Expr.B5 : List Nat := [0, 0, 0, 0, 8, 28, 63, 127]
theorem spec_l91Expr.tab5 : rtab .any (opsOf Try.f76 5) = spec_l91Expr.T5 := by kernel_rfl
theorem spec_l91Expr.bits5 : waitsOk spec_l91Expr.T5.2 spec_l91Expr.B5 = true := by kernel_rfl
theorem spec_l91Expr.calls (k : Nat) : ∀ (g : Nat) (s0_0 : List Int) (s0_1 : Int) (a1 : Int) (r1 : Int) (r2 : Int) (r3 : List (S32)) (r4 : Int) (w0 w : World) (hI : IsS91 w0 w g s0_0 s0_1) (hB : Below w0.heap.size w0 w) (h : spec_l91Expr.f k s0_0 s0_1 a1 = some (r1, r2, r3, r4)),
  Calls Try.prog 76 #[.pointer (some ⟨g, 0, none⟩), .int .i64 a1] w fun e w' => ∃ v2_ : Value, e = .returned (.agg #[.int .i64 r1, .int .i64 r2, v2_]) ∧ Kd.N k32 32 w' w.heap.size (fun k_ => (w.heap.size ≤ k_)) v2_ r3 ∧ IsS91 w0 w' g s0_0 r4 ∧ Below w0.heap.size w0 w' ∧ KeepBut w w' g none := by
 induction k using Nat.strongRecOn with
 | _ k ih =>
 intro g s0_0 s0_1 a1 r1 r2 r3 r4 w0 w hI hB h
 cases k with
 | zero => exact absurd h (by simp [spec_l91Expr.f])
 | succ k =>
 simp only [spec_l91Expr.f] at h
 have hu32 := Try.underlying32
 have HI0 := am hI
 have HK := am (KeepBut.refl w g none)
 have HL := am hB.size
 clear hI
 have HW0 := am hB.size
 have HB := am hB
 clear hB
 have H : (if a1 < 2 then (spec_l91Expr.j0 k a1 true s0_0 s0_1) else ((spec_l6Rd_pick.f k s0_0 s0_1 3).bind fun bt148 => (spec_l91Expr.j0 k a1 (bt148.1 == 0) s0_0 bt148.2))) = some (r1, r2, r3, r4) := h
 clear h
 have HC3 := am H
 clear H
 go_enter Try.func76, Try.ntmps76
 go_upto_region 1 with (first | ((with_reducible refine gate_dst (N := 4) rfl ?_); refine box_event rfl (N := 4) rfl (cs := #[.int .i64 0, .int .i64 0, .slice none 0 0]) (t := 32) rn_ ?_; intro gb147 hg w4 hbox hb; replace HB := am (below_step ab5_ hb); have BK147 := am (hbox); have GW147 := am ((by rw [hg]; exact (keep_size (w := w) (g := g) (row := none) ab3_) : w.heap.size ≤ gb147)); have GE147 := am ((Nat.le_trans HW0.out (by rw [hg]; exact (keep_size (w := w) (g := g) (row := none) ab3_) : w.heap.size ≤ gb147) : w0.heap.size ≤ gb147)); replace HK := am (KeepBut.trans ab3_ (KeepBut.of_below hb g none) (.inl rfl)); have NB0_147 := am ((by rw [hg]; exact Nat.ne_of_lt (IsS91.lt (show IsS91 w0 _ g s0_0 s0_1 from by repeat (first | (with_reducible first | exact HI0.out | apply IsS91.alloc | apply IsS91.drewN | apply IsS91.drew | apply IsS91.set_1) | exact HI0.out))) : g ≠ gb147)); have NB147_0 := am ((by rw [hg]; exact Nat.ne_of_gt (IsS91.lt (show IsS91 w0 _ g s0_0 s0_1 from by repeat (first | (with_reducible first | exact HI0.out | apply IsS91.alloc | apply IsS91.drewN | apply IsS91.drew | apply IsS91.set_1) | exact HI0.out))) : gb147 ≠ g)); replace HI0 := am (IsS91.below ab4_ hb); clear hb hbox hg))
 (try simp only [Act.put, List.setIfInBounds_toArray, List.set_cons_zero, List.set_cons_succ])
 go_cut [13] (fun v13 wc => ∃ (kq : Nat) (x13_2 : Bool) (x1001_2 : Int), v13 = .bool x13_2 ∧ Aside0 (spec_l91Expr.j0 kq a1 x13_2 s0_0 x1001_2 = some (r1, r2, r3, r4)) ∧ Aside0 (kq ≤ k) ∧ Aside0 (wc.heap[gb147]? = some (.cells #[.int .i64 0, .int .i64 0, (.slice none 0 0)] 32 (0, 0))) ∧ Aside0 (IsS91 w0 wc g s0_0 x1001_2) ∧ Aside0 (KeepBut w wc g none) ∧ Aside0 (Below w0.heap.size w0 wc))
 case first =>
  have H := HC3.out
  clear HC3
  by_cases c5 : a1 < 2
  ·rw [if_pos c5] at H
   have c5b0 : decide (a1 < 2) = true := decide_eq_true c5
   clear c5
   (first | rw [c5b0] | (simp only [i64_w, i32_w]; rw [c5b0]) | skip)
   have H' := am H
   clear H
   go_wp2
   go_meet
   case rel => exact ⟨_, (true), (s0_1), sd_, H', ⟨by first | omega | exact Nat.le_refl _⟩, ⟨by (with_reducible repeat (first | refine blk_drewN ?_ _ | refine blk_drew ?_ | refine blk_alloc ?_ _)); exact BK147.out⟩, ⟨ab53_⟩, ⟨ab27_⟩, ⟨ab58_⟩⟩
  rw [if_neg c5] at H
  have c5b0 : decide (a1 < 2) = false := decide_eq_false c5
  clear c5
  (first | rw [c5b0] | (simp only [i64_w, i32_w]; rw [c5b0]) | skip)
  obtain ⟨⟨t148, t149⟩, A60, H⟩ := bsm H
  (try dsimp only at H)
  have A6 := am A60
  clear A60
  have H' := am H
  clear H
  go_wp2_with (first | (go_at_call 41; (with_reducible refine (spec_l6Rd_pick.calls k g s0_0 s0_1 3 t148 t149 w0 _ ?side1 ?side2 A6.out).mono ?_); (case side1 => exact ab53_); (case side2 => exact ab58_); rintro e w7 ⟨rfl, hi, hb, hk⟩; replace BK147 := am (KeepBut.blk hk (g' := gb147) (o := .cells #[.int .i64 0, .int .i64 0, .slice none 0 0] 32 (0, 0)) (aG_ BK147.out) NB147_0.out (by simp)); replace HK := am (KeepBut.trans ab27_ hk (.inl rfl)); replace HB := am (hb); replace HI0 := am (hi); (try clear hb); (try clear hb2); (try clear hk); (try clear hi)))
  go_meet
  case rel => exact ⟨_, ((t148 == 0)), (t149), sd_, H', ⟨by first | omega | exact Nat.le_refl _⟩, ⟨by (with_reducible repeat (first | refine blk_drewN ?_ _ | refine blk_drew ?_ | refine blk_alloc ?_ _)); exact BK147.out⟩, ⟨ab53_⟩, ⟨ab27_⟩, ⟨ab58_⟩⟩
 case rest =>
  clear HC3
  obtain ⟨kq, x13_2, x1001_2, rfl, HA, HJ2, BK147, HI0, HK, HB⟩ := hcut
  cases kq with
  | zero => exact absurd HA.out (by simp [spec_l91Expr.j0])
  | succ kj2 =>
   have H := HA.out
   clear HA
   simp only [spec_l91Expr.j0] at H
   by_cases c8 : x13_2 = true
   ·subst c8
    rw [if_pos rfl] at H
    obtain ⟨⟨t150, t151, t152, t155⟩, A90, H⟩ := bsm H
    (try dsimp only at H)
    have A9 := am A90
    clear A90
    simp only [Option.some.injEq, Prod.mk.injEq] at H
    obtain ⟨rfl, rfl, rfl, rfl⟩ := H
    go_wp2_with (first | ((with_reducible refine gate_callee (f := 75) rfl ?_); refine goesL_ (some 15) rfl rfl Try.func75 (by kernel_rfl) rfl #[.pointer (some ⟨g, 0, none⟩)] rfl ab1_ ?_; (with_reducible refine (spec_l91Leaf.calls kj2 g s0_0 x1001_2 t150 t151 t152 t155 w0 _ ?side1 ?side2 A9.out).mono ?_); (case side1 => exact ab53_); (case side2 => exact ab58_); rintro e w10 ⟨v153, rfl, ho0, hi, hb, hk⟩; refine ⟨_, rfl, ?_⟩; have HO154 := am (Kd.N_lower (Kd.N_mono (ok' := fun k_ => (w.heap.size ≤ k_) ∧ k_ ≠ gb147 ∧ k_ ≠ g) (Kd.R_N (Kd.R_bound ho0)) (fun k_ hk_ => ⟨(Nat.le_trans (keep_size (w := w) (g := g) (row := none) ab27_) hk_.2.1), (frb_ BK147.out k_ hk_.2.1), (IsS91.fresh ab53_ k_ hk_.2.1)⟩)) (keep_size (w := w) (g := g) (row := none) ab27_)); replace BK147 := am (KeepBut.blk hk (g' := gb147) (o := .cells #[.int .i64 0, .int .i64 0, .slice none 0 0] 32 (0, 0)) (aG_ BK147.out) NB147_0.out (by simp)); replace HK := am (KeepBut.trans ab27_ hk (.inl rfl)); replace HB := am (hb); replace HI0 := am (hi); (try clear hb); (try clear hb2); (try clear hk); (try clear hi); (try clear ho0); have hnb11 := NB147_0.out; have hnc11 := NB0_147.out; obtain ⟨hcz12_0, hcz12_1, hcz12_2, hfz12_0, hfz12_1, hfz12_2⟩ := bcf3_ BK147.out; obtain ⟨Ao13, co13, eo13⟩ := Kd.N_slice HO154.out; subst eo13))
    refine bodyPost_ret (results_cell_row rfl _ _ gb147 32 #[.int .i64 t150, .int .i64 t151, .slice Ao13 t152.length co13] (0, 0) _ rfl (blk_put (blk_put (blk_put BK147.out 0 _ rfl) 1 _ rfl) 2 _ rfl) Try.underlying32 rfl (by kernel_rfl)) rfl ?_
    exact ⟨_, ab11_, by (with_reducible repeat (first | apply Kd.N_alloc | apply Kd.N_drewN | apply Kd.N_drew)); exact Kd.N_mono (Kd.N_far (p := ⟨gb147, 2, none⟩) (Kd.N_far (p := ⟨gb147, 1, none⟩) (Kd.N_far (p := ⟨gb147, 0, none⟩) (Kd.N_mono HO154.out (fun k_ hk => (⟨hk, hk.2.1⟩ : _ ∧ k_ ≠ gb147))) (fun _ hk => hk.2) (.int .i64 t150)) (fun _ hk => hk.2) (.int .i64 t151)) (fun _ hk => hk.2) (.slice Ao13 t152.length co13)) (fun _ hk => hk.1.1), ab53_, ab58_, ab27_⟩
   replace c8 := Bool.eq_false_iff.mpr c8
   subst c8
   rw [if_neg (show ¬ (false = true) by decide)] at H
   obtain ⟨⟨t156, t157⟩, A140, H⟩ := bsm H
   (try dsimp only at H)
   have A14 := am A140
   clear A140
   obtain ⟨⟨t158, t159, t160, t163⟩, A150, H⟩ := bsm H
   (try dsimp only at H)
   have A15 := am A150
   clear A150
   obtain ⟨⟨t165, t166, t167, t170⟩, A160, H⟩ := bsm H
   (try dsimp only at H)
   have A16 := am A160
   clear A160
   obtain ⟨⟨t171, t172, t173⟩, A170, H⟩ := bsm H
   (try dsimp only at H)
   have A17 := am A170
   clear A170
   simp only [Option.some.injEq, Prod.mk.injEq] at H
   obtain ⟨rfl, rfl, rfl, rfl⟩ := H
   try go_wp2_with (first | ((with_reducible refine gate_callee (f := 44) rfl ?_); refine goesL_ (some 17) rfl rfl Try.func44 (by kernel_rfl) rfl #[.pointer (some ⟨g, 0, none⟩)] rfl ab1_ ?_; (with_reducible refine (spec_l91Op.calls kj2 g s0_0 x1001_2 t156 t157 w0 _ ?side1 ?side2 A14.out).mono ?_); (case side1 => exact ab53_); (case side2 => exact ab58_); rintro e w18 ⟨rfl, hi, hb, hk⟩; refine ⟨_, rfl, ?_⟩; replace BK147 := am (KeepBut.blk hk (g' := gb147) (o := .cells #[.int .i64 0, .int .i64 0, .slice none 0 0] 32 (0, 0)) (aG_ BK147.out) NB147_0.out (by simp)); replace HK := am (KeepBut.trans ab27_ hk (.inl rfl)); replace HB := am (hb); replace HI0 := am (hi); (try clear hb); (try clear hb2); (try clear hk); (try clear hi)) | ((with_reducible refine gate_callee (f := 76) rfl ?_); refine goesL_ (some 21) rfl rfl Try.func76 (by kernel_rfl) rfl #[.pointer (some ⟨g, 0, none⟩), .int .i64 (wrap64 (a1 - 1))] rfl ab1_ ?_; (with_reducible refine (ih kj2 (by have := HJ2.out; omega) g s0_0 t157 (wrap64 (a1 - 1)) t158 t159 t160 t163 w0 _ ?side1 ?side2 A15.out).mono ?_); (case side1 => exact ab53_); (case side2 => exact ab58_); rintro e w19 ⟨v161, rfl, ho0, hi, hb, hk⟩; refine ⟨_, rfl, ?_⟩; have HO162 := am (Kd.N_lower (Kd.N_mono (ok' := fun k_ => (w.heap.size ≤ k_) ∧ k_ ≠ gb147 ∧ k_ ≠ g) ho0 (fun k_ hk_ => ⟨(Nat.le_trans (keep_size (w := w) (g := g) (row := none) ab27_) hk_), (frb_ BK147.out k_ hk_), (IsS91.fresh ab53_ k_ hk_)⟩)) (keep_size (w := w) (g := g) (row := none) ab27_)); replace BK147 := am (KeepBut.blk hk (g' := gb147) (o := .cells #[.int .i64 0, .int .i64 0, .slice none 0 0] 32 (0, 0)) (aG_ BK147.out) NB147_0.out (by simp)); replace HK := am (KeepBut.trans ab27_ hk (.inl rfl)); replace HB := am (hb); replace HI0 := am (hi); (try clear hb); (try clear hb2); (try clear hk); (try clear hi); (try clear ho0)) | ((with_reducible refine gate_dst (N := 6) rfl ?_); refine box_event rfl (N := 6) rfl (cs := #[.int .i64 0, .int .i64 0, .slice none 0 0]) (t := 32) rn_ ?_; intro gb164 hg w20 hbox hb; replace HO162 := am (Kd.N_below (Kd.N_elderB (aN_ HO162.out) gb164 (Nat.le_of_eq hg.symm)) hb); replace HB := am (below_step ab58_ hb); have BK164 := am (hbox); have GW164 := am ((by rw [hg]; exact (keep_size (w := w) (g := g) (row := none) ab27_) : w.heap.size ≤ gb164)); have GE164 := am ((Nat.le_trans HW0.out (by rw [hg]; exact (keep_size (w := w) (g := g) (row := none) ab27_) : w.heap.size ≤ gb164) : w0.heap.size ≤ gb164)); replace HK := am (KeepBut.trans ab27_ (KeepBut.of_below hb g none) (.inl rfl)); have NB147_164 := am ((by rw [hg]; exact Nat.ne_of_lt (blt_ BK147.out) : gb147 ≠ gb164)); have NB164_147 := am ((by rw [hg]; exact Nat.ne_of_gt (blt_ BK147.out) : gb164 ≠ gb147)); replace BK147 := am (bbl_ BK147.out hb); have NB0_164 := am ((by rw [hg]; exact Nat.ne_of_lt (IsS91.lt (show IsS91 w0 _ g s0_0 t163 from by repeat (first | (with_reducible first | exact HI0.out | apply IsS91.alloc | apply IsS91.drewN | apply IsS91.drew | apply IsS91.set_1 | refine IsS91.far ?_ NB0_147.out _) | exact HI0.out))) : g ≠ gb164)); have NB164_0 := am ((by rw [hg]; exact Nat.ne_of_gt (IsS91.lt (show IsS91 w0 _ g s0_0 t163 from by repeat (first | (with_reducible first | exact HI0.out | apply IsS91.alloc | apply IsS91.drewN | apply IsS91.drew | apply IsS91.set_1 | refine IsS91.far ?_ NB0_147.out _) | exact HI0.out))) : gb164 ≠ g)); replace HI0 := am (IsS91.below ab53_ hb); clear hb hbox hg; have hnb21 := NB164_147.out; have hnc21 := NB147_164.out; have hnb22 := NB164_0.out; have hnc22 := NB0_164.out; obtain ⟨hcz23_0, hcz23_1, hcz23_2, hfz23_0, hfz23_1, hfz23_2⟩ := bcf3_ BK164.out; obtain ⟨Ao24, co24, eo24⟩ := Kd.N_slice HO162.out; subst eo24))
   have n0_ : Aside0 (Kd.N k32 32 (((w20.setCell ⟨gb164, 0, none⟩ (.int .i64 t158)).setCell ⟨gb164, 1, none⟩ (.int .i64 t159)).setCell ⟨gb164, 2, none⟩ (.slice Ao24 t160.length co24)) w.heap.size (fun k_ => (w.heap.size ≤ k_) ∧ k_ ≠ gb147 ∧ k_ ≠ g ∧ k_ ≠ gb164) (.slice Ao24 t160.length co24) t160) := ⟨by (with_reducible repeat (first | apply Kd.N_alloc | apply Kd.N_drewN | apply Kd.N_drew)); exact Kd.N_mono (Kd.N_far (p := ⟨gb164, 2, none⟩) (Kd.N_far (p := ⟨gb164, 1, none⟩) (Kd.N_far (p := ⟨gb164, 0, none⟩) (Kd.N_mono HO162.out (fun k_ hk => (⟨hk, hk.2⟩ : _ ∧ k_ ≠ gb164))) (fun _ hk => hk.2) (.int .i64 t158)) (fun _ hk => hk.2) (.int .i64 t159)) (fun _ hk => hk.2) (.slice Ao24 t160.length co24)) (fun _ hk => ⟨hk.1.1.1, ⟨hk.1.1.2.1, ⟨hk.1.1.2.2, hk.1.2⟩⟩⟩)⟩
   have n1_ : Aside0 ((((w20.setCell ⟨gb164, 0, none⟩ (.int .i64 t158)).setCell ⟨gb164, 1, none⟩ (.int .i64 t159)).setCell ⟨gb164, 2, none⟩ (.slice Ao24 t160.length co24)).heap[gb147]? = some (.cells #[.int .i64 0, .int .i64 0, .slice none 0 0] 32 (0, 0))) := ⟨(blk_far (blk_far (blk_far BK147.out NB147_164.out _) NB147_164.out _) NB147_164.out _)⟩
   have n2_ : Aside0 ((((w20.setCell ⟨gb164, 0, none⟩ (.int .i64 t158)).setCell ⟨gb164, 1, none⟩ (.int .i64 t159)).setCell ⟨gb164, 2, none⟩ (.slice Ao24 t160.length co24)).heap[gb164]? = some (.cells #[.int .i64 t158, .int .i64 t159, .slice Ao24 t160.length co24] 32 (0, 0))) := ⟨(blk_put (blk_put (blk_put BK164.out 0 _ rfl) 1 _ rfl) 2 _ rfl)⟩
   have n3_ : Aside0 (IsS91 w0 (((w20.setCell ⟨gb164, 0, none⟩ (.int .i64 t158)).setCell ⟨gb164, 1, none⟩ (.int .i64 t159)).setCell ⟨gb164, 2, none⟩ (.slice Ao24 t160.length co24)) g s0_0 t163) := ⟨ab54_⟩
   have n4_ : Aside0 (KeepBut w (((w20.setCell ⟨gb164, 0, none⟩ (.int .i64 t158)).setCell ⟨gb164, 1, none⟩ (.int .i64 t159)).setCell ⟨gb164, 2, none⟩ (.slice Ao24 t160.length co24)) g none) := ⟨ab39_⟩
   have n5_ : Aside0 (Below w0.heap.size w0 (((w20.setCell ⟨gb164, 0, none⟩ (.int .i64 t158)).setCell ⟨gb164, 1, none⟩ (.int .i64 t159)).setCell ⟨gb164, 2, none⟩ (.slice Ao24 t160.length co24))) := ⟨ab61_⟩
   (try clear HO162)
   (try clear BK147)
   (try clear BK164)
   (try clear HI0)
   (try clear HK)
   (try clear HB)
   generalize (((w20.setCell ⟨gb164, 0, none⟩ (.int .i64 t158)).setCell ⟨gb164, 1, none⟩ (.int .i64 t159)).setCell ⟨gb164, 2, none⟩ (.slice Ao24 t160.length co24)) = w25 at n0_ n1_ n2_ n3_ n4_ n5_ ⊢
   have HO162 := n0_
   have BK147 := n1_
   have BK164 := n2_
   have HI0 := n3_
   have HK := n4_
   have HB := n5_
   clear n0_ n1_ n2_ n3_ n4_ n5_
   replace HO162 := am (Kd.N_drew HO162.out)
   replace BK147 := am (blk_drew BK147.out)
   replace BK164 := am (blk_drew BK164.out)
   replace HI0 := am (IsS91.drew HI0.out)
   replace HK := am (keep_drew HK.out)
   replace HB := am (below_drew1 HB.out)
   refine start_ (n := 8) (S := fun w' => w'.cell? ⟨gb164, 0, none⟩ = some (.int .i64 t158) ∧ w'.cell? ⟨gb164, 1, none⟩ = some (.int .i64 t159) ∧ w'.cell? ⟨gb164, 2, none⟩ = some (.slice Ao24 t160.length co24)) (ds := []) #[false, false, false, false, false, false, false, false] (by kernel_rfl) rfl rfl ⟨(blk_cell BK164.out 0).trans rfl, (blk_cell BK164.out 1).trans rfl, (blk_cell BK164.out 2).trans rfl⟩ (fun hHeld => ?_); refine with_tabW spec_l91Expr.tab5 spec_l91Expr.bits5 (fun HT_ HW_ => ?_)
   generalize w25.drew = w26 at HO162 BK147 BK164 HI0 HK HB hHeld ⊢
   refine pure_ (i := 0) (N := some 22) (v := ?_) (a' := ?_) #[true, false, false, false, false, false, false, false] rfl rfl (any_of HT_.out (by kernel_rfl)) (fun _ _ _ h => h) (Or.inl ⟨by rfl, ?_⟩) ?_ ?_
   rotate_left
   ·intro w'
    go_simp
    with_reducible rfl
   rotate_left
   ·simp only [Act.put, List.setIfInBounds_toArray, List.set_cons_zero, List.set_cons_succ, i64_w, i32_w]
    rfl
   refine pure_ (i := 2) (N := some 24) (v := ?_) (a' := ?_) #[true, false, true, false, false, false, false, false] rfl rfl (any_of HT_.out (by kernel_rfl)) (fun _ _ _ h => h) (Or.inl ⟨by rfl, ?_⟩) ?_ ?_
   rotate_left
   ·intro w'
    go_simp
    with_reducible rfl
   rotate_left
   ·simp only [Act.put, List.setIfInBounds_toArray, List.set_cons_zero, List.set_cons_succ, i64_w, i32_w]
    rfl
   refine pure_ (i := 3) (N := some 25) (v := ?_) (a' := ?_) #[true, false, true, true, false, false, false, false] rfl rfl (any_of HT_.out (by kernel_rfl)) (fun _ _ _ h => h) (Or.inl ⟨by rfl, ?_⟩) ?_ ?_
   rotate_left
   ·intro w'
    go_simp
    with_reducible rfl
   rotate_left
   ·simp only [Act.put, List.setIfInBounds_toArray, List.set_cons_zero, List.set_cons_succ, i64_w, i32_w]
    rfl
   refine pure_ (i := 4) (N := some 26) (v := ?_) (a' := ?_) #[true, false, true, true, true, false, false, false] rfl rfl (any_of HT_.out (by kernel_rfl)) (fun _ _ _ h => h) (Or.inl ⟨by rfl, ?_⟩) ?_ ?_
   rotate_left
   ·intro w'
    go_simp
    with_reducible rfl
   rotate_left
   ·simp only [Act.put, List.setIfInBounds_toArray, List.set_cons_zero, List.set_cons_succ, i64_w, i32_w]
    rfl
   refine take_ (i := 1) (N := some 23) (v := ?_) (a' := ?_) #[true, true, true, true, true, false, false, false] rfl rfl (take_ofW HT_.out HW_.out (by kernel_rfl)) (fun _ _ _ h => h) (Or.inl ⟨by rfl, ?_⟩) hHeld ?_ ?_
   rotate_left
   ·rintro w' ⟨s0, s1, s2⟩
    go_simp
    with_reducible rfl
   rotate_left
   ·simp only [Act.put, List.setIfInBounds_toArray, List.set_cons_zero, List.set_cons_succ, i64_w, i32_w]
    rfl
   refine one_ (i := 5) (N := some 27) #[true, true, true, true, true, true, false, false] rfl rfl (one_of HT_.out (by kernel_rfl)) (by decide) (fun K hK => ?_)
   refine goes_ Try.func76 (by kernel_rfl) rfl #[.pointer (some ⟨g, 0, none⟩), .int .i64 (wrap64 (a1 - 1))] (by rfl) rfl rfl ab1_ ?_
   with_reducible refine (ih kj2 (by have := HJ2.out; omega) g s0_0 t163 (wrap64 (a1 - 1)) t165 t166 t167 t170 w0 _ ?side1 ?side2 A16.out).mono ?_
   (case side1 => exact ab54_)
   (case side2 => exact ab61_)
   rintro e w27 ⟨v168, rfl, ho0, hi, hb, hk⟩
   refine ⟨_, rfl, ?_⟩
   have HO169 := am (Kd.N_lower (Kd.N_mono (ok' := fun k_ => (w.heap.size ≤ k_) ∧ some k_ ≠ (.slice Ao24 t160.length co24 : Value).ownBlock ∧ k_ ≠ gb147 ∧ k_ ≠ gb164 ∧ k_ ≠ g) ho0 (fun k_ hk_ => ⟨(Nat.le_trans (keep_size (w := w) (g := g) (row := none) ab39_) hk_), (Kd.fresh' (Kd.N_lt (aN_ HO162.out)) k_ hk_), (frb_ BK147.out k_ hk_), (frb_ BK164.out k_ hk_), (IsS91.fresh ab54_ k_ hk_)⟩)) (keep_size (w := w) (g := g) (row := none) ab39_))
   replace BK147 := am (KeepBut.blk hk (g' := gb147) (o := .cells #[.int .i64 0, .int .i64 0, .slice none 0 0] 32 (0, 0)) (aG_ BK147.out) NB147_0.out (by simp))
   replace HO162 := am (Kd.N_mono (Kd.N_told (Kd.N_oldK (Kd.N_mono (ok := fun k_ => (((w.heap.size ≤ k_)) ∧ (k_ ≠ gb147 ∧ (k_ ≠ g ∧ k_ ≠ gb164)))) (aN_ HO162.out) (fun k_ hk_ => (⟨hk_, hk_.2.2.1⟩ : _ ∧ k_ ≠ g))) hk) (by first | exact Kd.N_base ho0 | exact Kd.N_base (Kd.R_N ho0))) (fun _ h_ => h_.1))
   replace BK164 := am (KeepBut.blk hk (g' := gb164) (o := .cells #[.int .i64 t158, .int .i64 t159, .slice Ao24 t160.length co24] 32 (0, 0)) (aG_ BK164.out) NB164_0.out (by simp))
   replace HK := am (KeepBut.trans ab39_ hk (.inl rfl))
   replace HB := am (hb)
   replace HI0 := am (hi)
   (try clear hb)
   (try clear hb2)
   (try clear hk)
   (try clear hi)
   (try clear ho0)
   obtain ⟨Ao28, co28, eo28⟩ := Kd.N_slice HO169.out
   (first | subst eo28 | (injection eo28 with f1_ f2_ f3_; have f4_ := f1_.symm; have f5_ := f3_.symm; clear f1_ f2_ f3_; subst f4_; subst f5_))
   refine hK.out _ _ ⟨(blk_cell BK164.out 0).trans rfl, (blk_cell BK164.out 1).trans rfl, (blk_cell BK164.out 2).trans rfl⟩ (fun hHeld => ?_)
   clear hK K
   refine norm_ (a' := ?_) ?_ ?_
   rotate_left
   ·show Act.put _ (some 27) _ = _
    simp only [Act.put, List.setIfInBounds_toArray, List.set_cons_zero, List.set_cons_succ, i64_w, i32_w]
    rfl
   refine one_ (i := 6) (N := some 28) #[true, true, true, true, true, true, true, false] rfl rfl (one_of HT_.out (by kernel_rfl)) (by decide) (fun K hK => ?_)
   refine goes_ Try.func43 (by kernel_rfl) rfl #[.int .i64 t156, .agg #[.int .i64 t158, .int .i64 t159, .slice Ao24 t160.length co24], .agg #[.int .i64 t165, .int .i64 t166, .slice Ao28 t167.length co28]] (by rfl) rfl rfl ab1_ ?_
   with_reducible refine (spec_l4Both.calls t156 t158 t159 (fun k_ => (((w.heap.size ≤ k_) ∧ (k_ ≠ gb147 ∧ (k_ ≠ g ∧ k_ ≠ gb164))) ∧ some k_ ≠ (.slice Ao28 t167.length co28 : Value).ownBlock)) _ _ t160 t165 t166 (fun k_ => ((w.heap.size ≤ k_) ∧ (some k_ ≠ (.slice Ao24 t160.length co24 : Value).ownBlock ∧ (k_ ≠ gb147 ∧ (k_ ≠ gb164 ∧ k_ ≠ g))))) _ _ t167 t171 t172 t173 _ ?side1 ?side2 A17.out).mono ?_
   (case side1 => exact Kd.N_V (HO162.out))
   (case side2 => exact Kd.N_V (HO169.out))
   rintro e w29 ⟨v174, rfl, ho0, hb⟩
   refine ⟨_, rfl, ?_⟩
   replace HO162 := am (Kd.N_elder' (aN_ HO162.out) (by first | exact Kd.N_base ho0 | exact Kd.N_base (Kd.R_N ho0)) hb)
   replace HO169 := am (Kd.N_elder' (aN_ HO169.out) (by first | exact Kd.N_base ho0 | exact Kd.N_base (Kd.R_N ho0)) hb)
   have HO175 := am (Kd.N_lower (Kd.N_mono (ok' := fun k_ => (w.heap.size ≤ k_) ∧ k_ ≠ gb147 ∧ k_ ≠ gb164 ∧ k_ ≠ g) ho0 (fun k_ hk_ => ⟨Or.elim hk_ (fun hs_ => Or.elim hs_ (fun hs_ => hs_.1.1) (fun hs_ => hs_.1)) (fun hn_ => (Nat.le_trans (keep_size (w := w) (g := g) (row := none) ab39_) hn_)), Or.elim hk_ (fun hs_ => Or.elim hs_ (fun hs_ => hs_.1.2.1) (fun hs_ => hs_.2.2.1)) (fun hn_ => (frb_ BK147.out k_ hn_)), Or.elim hk_ (fun hs_ => Or.elim hs_ (fun hs_ => hs_.1.2.2.2) (fun hs_ => hs_.2.2.2.1)) (fun hn_ => (frb_ BK164.out k_ hn_)), Or.elim hk_ (fun hs_ => Or.elim hs_ (fun hs_ => hs_.1.2.2.1) (fun hs_ => hs_.2.2.2.2)) (fun hn_ => (IsS91.fresh ab54_ k_ hn_))⟩)) (keep_size (w := w) (g := g) (row := none) ab39_))
   replace BK147 := am (bbl_ BK147.out hb)
   replace BK164 := am (bbl_ BK164.out hb)
   replace HK := am (KeepBut.trans ab39_ (KeepBut.of_below hb g none) (.inl rfl))
   replace HB := am (below_step ab61_ hb)
   replace HI0 := am (IsS91.below ab54_ hb)
   (try clear hb)
   (try clear hb2)
   (try clear hk)
   (try clear hi)
   (try clear ho0)
   obtain ⟨Ao32, co32, eo32⟩ := Kd.N_slice HO175.out
   (first | subst eo32 | (injection eo32 with f1_ f2_ f3_; have f4_ := f1_.symm; have f5_ := f3_.symm; clear f1_ f2_ f3_; subst f4_; subst f5_))
   refine hK.out _ _ ⟨(blk_cell BK164.out 0).trans rfl, (blk_cell BK164.out 1).trans rfl, (blk_cell BK164.out 2).trans rfl⟩ (fun hHeld => ?_)
   clear hK K
   refine norm_ (a' := ?_) ?_ ?_
   rotate_left
   ·show Act.put _ (some 28) _ = _
    simp only [Act.put, List.setIfInBounds_toArray, List.set_cons_zero, List.set_cons_succ, i64_w, i32_w]
    rfl
   refine one_ (i := 7) (N := none) #[true, true, true, true, true, true, true, true] rfl rfl (one_of HT_.out (by kernel_rfl)) (by decide) (fun K hK => ?_)
   have hs30 : w29.cell? ⟨gb147, 0, none⟩ = some (.int .i64 0) := (blk_cell BK147.out 0).trans rfl
   have hfs30 := blk_frozen BK147.out 0
   have hns30_1 := NB164_147.out
   have hms30_1 := NB147_164.out
   have hs31 : w29.cell? ⟨gb147, 1, none⟩ = some (.int .i64 0) := (blk_cell BK147.out 1).trans rfl
   have hfs31 := blk_frozen BK147.out 1
   have hns31_1 := NB164_147.out
   have hms31_1 := NB147_164.out
   have hs33 : w29.cell? ⟨gb147, 2, none⟩ = some (.slice none 0 0) := (blk_cell BK147.out 2).trans rfl
   have hfs33 := blk_frozen BK147.out 2
   have hns33_1 := NB164_147.out
   have hms33_1 := NB147_164.out
   refine skip_ (w1 := ?_) (by rfl) rfl ?_ ?_
   rotate_left
   ·go_simp
    rfl
   refine hK.out _ _ ⟨((cell_far (p := ⟨gb147, _, none⟩) NB164_147.out _).trans (((cell_far (p := ⟨gb147, _, none⟩) NB164_147.out _).trans (((cell_far (p := ⟨gb147, _, none⟩) NB164_147.out _).trans (hHeld.1)))))), ((cell_far (p := ⟨gb147, _, none⟩) NB164_147.out _).trans (((cell_far (p := ⟨gb147, _, none⟩) NB164_147.out _).trans (((cell_far (p := ⟨gb147, _, none⟩) NB164_147.out _).trans (hHeld.2.1)))))), ((cell_far (p := ⟨gb147, _, none⟩) NB164_147.out _).trans (((cell_far (p := ⟨gb147, _, none⟩) NB164_147.out _).trans (((cell_far (p := ⟨gb147, _, none⟩) NB164_147.out _).trans (hHeld.2.2))))))⟩ (fun hHeld => ?_)
   clear hK K
   refine done_ (done_of HT_.out (by kernel_rfl)) ?_
   try go_wp2
   refine bodyPost_ret (results_cell_row rfl _ _ gb147 32 #[.int .i64 t171, .int .i64 t172, .slice Ao32 t173.length co32] (0, 0) _ rfl (blk_put (blk_put (blk_put BK147.out 0 _ rfl) 1 _ rfl) 2 _ rfl) Try.underlying32 rfl (by kernel_rfl)) rfl ?_
   exact ⟨_, ab11_, by (with_reducible repeat (first | apply Kd.N_alloc | apply Kd.N_drewN | apply Kd.N_drew)); exact Kd.N_mono (Kd.N_far (p := ⟨gb147, 2, none⟩) (Kd.N_far (p := ⟨gb147, 1, none⟩) (Kd.N_far (p := ⟨gb147, 0, none⟩) (Kd.N_mono HO175.out (fun k_ hk => (⟨hk, hk.2.1⟩ : _ ∧ k_ ≠ gb147))) (fun _ hk => hk.2) (.int .i64 t171)) (fun _ hk => hk.2) (.int .i64 t172)) (fun _ hk => hk.2) (.slice Ao32 t173.length co32)) (fun _ hk => hk.1.1), ab54_, ab61_, ab39_⟩
theorem spec_l92Set.mono : ∀ a0 a1 k, LeO (spec_l92Set.f k a0 a1) (spec_l92Set.f (k + 1) a0 a1) := by
 intro a0 a1 k
 unfold spec_l92Set.f
 repeat' first
   | (with_reducible exact spec_l6Rd_pick.mono _ _ _ _)
   | (with_reducible exact spec_l91Expr.mono _ _ _ _)
   | (with_reducible exact LeO.refl _)
   | (with_reducible exact LeO.none _)
   | (with_reducible refine LeO.ite ?_ ?_)
   | (with_reducible refine LeO.bind ?_ (fun _ => ?_))
theorem spec_l92Set.calls (k : Nat) (g : Nat) (s0_0 : List Int) (s0_1 : Int) (r1 : Int) (r2 : Int) (r3 : Int) (r4 : Int) (r5 : Int) (r6 : List (S32)) (r7 : List (S35)) (r8 : List (S35)) (r9 : Int) (w0 w : World) (hI : IsS91 w0 w g s0_0 s0_1) (hB : Below w0.heap.size w0 w) (h : spec_l92Set.f k s0_0 s0_1 = some (r1, r2, r3, r4, r5, r6, r7, r8, r9)) :
  Calls Try.prog 103 #[.pointer (some ⟨g, 0, none⟩)] w fun e w' => ∃ v5_ v6_ v7_ : Value, e = .returned (.agg #[.int .i64 r1, .int .i64 r2, .int .i64 r3, .int .i64 r4, .int .i64 r5, v5_, v6_, v7_]) ∧ Kd.N k32 32 w' w.heap.size (fun k_ => (w.heap.size ≤ k_) ∧ some k_ ≠ (v6_ : Value).ownBlock ∧ some k_ ≠ (v7_ : Value).ownBlock) v5_ r6 ∧ Kd.N k35 35 w' w.heap.size (fun k_ => (w.heap.size ≤ k_) ∧ some k_ ≠ (v5_ : Value).ownBlock ∧ some k_ ≠ (v7_ : Value).ownBlock) v6_ r7 ∧ Kd.N k35 35 w' w.heap.size (fun k_ => (w.heap.size ≤ k_) ∧ some k_ ≠ (v5_ : Value).ownBlock ∧ some k_ ≠ (v6_ : Value).ownBlock) v7_ r8 ∧ IsS91 w0 w' g s0_0 r9 ∧ Below w0.heap.size w0 w' ∧ KeepBut w w' g none := by
 have hu35 := Try.underlying35
 have HI0 := am hI
 have HK := am (KeepBut.refl w g none)
 have HL := am hB.size
 clear hI
 have HW0 := am hB.size
 have HB := am hB
 clear hB
 have H : ((spec_l6Rd_pick.f k s0_0 s0_1 3).bind fun bt177 => ((spec_l6Rd_pick.f k s0_0 bt177.2 3).bind fun bt179 => ((spec_l91Expr.f k s0_0 bt179.2 (wrap64 (1 + bt179.1))).bind fun bt181 => (some (1, bt177.1, 0, bt181.1, bt181.2.1, bt181.2.2.1, ([] : List (S35)), ([] : List (S35)), bt181.2.2.2))))) = some (r1, r2, r3, r4, r5, r6, r7, r8, r9) := h
 clear h
 obtain ⟨⟨t177, t178⟩, A20, H⟩ := bsm H
 (try dsimp only at H)
 have A2 := am A20
 clear A20
 obtain ⟨⟨t179, t180⟩, A30, H⟩ := bsm H
 (try dsimp only at H)
 have A3 := am A30
 clear A30
 obtain ⟨⟨t181, t182, t183, t186⟩, A40, H⟩ := bsm H
 (try dsimp only at H)
 have A4 := am A40
 clear A40
 simp only [Option.some.injEq, Prod.mk.injEq] at H
 obtain ⟨rfl, rfl, rfl, rfl, rfl, rfl, rfl, rfl, rfl⟩ := H
 go_enter Try.func103, Try.ntmps103
 go_wp2_with (first | ((with_reducible refine gate_dst (N := 2) rfl ?_); refine box_event rfl (N := 2) rfl (cs := #[.int .i64 0, .int .i64 0, .int .i64 0, .int .i64 0, .int .i64 0, .slice none 0 0, .slice none 0 0, .slice none 0 0]) (t := 35) rn_ ?_; intro gb176 hg w5 hbox hb; replace HB := am (below_step ab5_ hb); have BK176 := am (hbox); have GW176 := am ((by rw [hg]; exact (keep_size (w := w) (g := g) (row := none) ab3_) : w.heap.size ≤ gb176)); have GE176 := am ((Nat.le_trans HW0.out (by rw [hg]; exact (keep_size (w := w) (g := g) (row := none) ab3_) : w.heap.size ≤ gb176) : w0.heap.size ≤ gb176)); replace HK := am (KeepBut.trans ab3_ (KeepBut.of_below hb g none) (.inl rfl)); have NB0_176 := am ((by rw [hg]; exact Nat.ne_of_lt (IsS91.lt (show IsS91 w0 _ g s0_0 s0_1 from by repeat (first | (with_reducible first | exact HI0.out | apply IsS91.alloc | apply IsS91.drewN | apply IsS91.drew | apply IsS91.set_1) | exact HI0.out))) : g ≠ gb176)); have NB176_0 := am ((by rw [hg]; exact Nat.ne_of_gt (IsS91.lt (show IsS91 w0 _ g s0_0 s0_1 from by repeat (first | (with_reducible first | exact HI0.out | apply IsS91.alloc | apply IsS91.drewN | apply IsS91.drew | apply IsS91.set_1) | exact HI0.out))) : gb176 ≠ g)); replace HI0 := am (IsS91.below ab4_ hb); clear hb hbox hg) | ((with_reducible refine gate_callee (f := 41) rfl ?_); refine goesL_ (some 5) rfl rfl Try.func41 (by kernel_rfl) rfl #[.pointer (some ⟨g, 0, none⟩), .int .i64 3] rfl ab1_ ?_; (with_reducible refine (spec_l6Rd_pick.calls k g s0_0 s0_1 3 t177 t178 w0 _ ?side1 ?side2 A2.out).mono ?_); (case side1 => exact ab81_); (case side2 => repeat (first | (with_reducible first | exact HB.out | apply below_alloc | apply pw_below_drewN | apply below_drew1 | refine below_set ?_ (IsS91.ge HI0.out) | refine below_set ?_ GE176.out) | exact HB.out)); rintro e w6 ⟨rfl, hi, hb, hk⟩; refine ⟨_, rfl, ?_⟩; replace BK176 := am (KeepBut.blk hk (g' := gb176) (o := .cells #[.int .i64 0, .int .i64 0, .int .i64 0, .int .i64 0, .int .i64 0, .slice none 0 0, .slice none 0 0, .slice none 0 0] 35 (0, 0)) (aG_ BK176.out) NB176_0.out (by simp)); replace HK := am (KeepBut.trans ab55_ hk (.inl rfl)); replace HB := am (hb); replace HI0 := am (hi); (try clear hb); (try clear hb2); (try clear hk); (try clear hi)) | ((with_reducible refine gate_callee (f := 41) rfl ?_); refine goesL_ (some 9) rfl rfl Try.func41 (by kernel_rfl) rfl #[.pointer (some ⟨g, 0, none⟩), .int .i64 3] rfl ab1_ ?_; (with_reducible refine (spec_l6Rd_pick.calls k g s0_0 t178 3 t179 t180 w0 _ ?side1 ?side2 A3.out).mono ?_); (case side1 => exact ab81_); (case side2 => repeat (first | (with_reducible first | exact HB.out | apply below_alloc | apply pw_below_drewN | apply below_drew1 | refine below_set ?_ (IsS91.ge HI0.out) | refine below_set ?_ GE176.out) | exact HB.out)); rintro e w7 ⟨rfl, hi, hb, hk⟩; refine ⟨_, rfl, ?_⟩; replace BK176 := am (KeepBut.blk hk (g' := gb176) (o := .cells #[.int .i64 0, .int .i64 0, .int .i64 0, .int .i64 0, .int .i64 0, .slice none 0 0, .slice none 0 0, .slice none 0 0] 35 (0, 0)) (aG_ BK176.out) NB176_0.out (by simp)); replace HK := am (KeepBut.trans ab55_ hk (.inl rfl)); replace HB := am (hb); replace HI0 := am (hi); (try clear hb); (try clear hb2); (try clear hk); (try clear hi)) | ((with_reducible refine gate_callee (f := 76) rfl ?_); refine goesL_ (some 11) rfl rfl Try.func76 (by kernel_rfl) rfl #[.pointer (some ⟨g, 0, none⟩), .int .i64 (wrap64 (1 + t179))] rfl ab1_ ?_; (with_reducible refine (spec_l91Expr.calls k g s0_0 t180 (wrap64 (1 + t179)) t181 t182 t183 t186 w0 _ ?side1 ?side2 A4.out).mono ?_); (case side1 => exact ab81_); (case side2 => repeat (first | (with_reducible first | exact HB.out | apply below_alloc | apply pw_below_drewN | apply below_drew1 | refine below_set ?_ (IsS91.ge HI0.out) | refine below_set ?_ GE176.out) | exact HB.out)); rintro e w8 ⟨v184, rfl, ho0, hi, hb, hk⟩; refine ⟨_, rfl, ?_⟩; have HO185 := am (Kd.N_lower (Kd.N_mono (ok' := fun k_ => (w.heap.size ≤ k_) ∧ k_ ≠ gb176 ∧ k_ ≠ g) ho0 (fun k_ hk_ => ⟨(Nat.le_trans (keep_size (w := w) (g := g) (row := none) ab55_) hk_), (frb_ BK176.out k_ hk_), (IsS91.fresh ab81_ k_ hk_)⟩)) (keep_size (w := w) (g := g) (row := none) ab55_)); replace BK176 := am (KeepBut.blk hk (g' := gb176) (o := .cells #[.int .i64 0, .int .i64 0, .int .i64 0, .int .i64 0, .int .i64 0, .slice none 0 0, .slice none 0 0, .slice none 0 0] 35 (0, 0)) (aG_ BK176.out) NB176_0.out (by simp)); replace HK := am (KeepBut.trans ab55_ hk (.inl rfl)); replace HB := am (hb); replace HI0 := am (hi); (try clear hb); (try clear hb2); (try clear hk); (try clear hi); (try clear ho0); obtain ⟨Ao9, co9, eo9⟩ := Kd.N_slice HO185.out; subst eo9; have hnb10 := NB176_0.out; have hnc10 := NB0_176.out; obtain ⟨hcz11_0, hcz11_1, hcz11_2, hcz11_3, hcz11_4, hcz11_5, hcz11_6, hcz11_7, hfz11_0, hfz11_1, hfz11_2, hfz11_3, hfz11_4, hfz11_5, hfz11_6, hfz11_7⟩ := bcf8_ BK176.out))
 refine bodyPost_ret (results_cell_row rfl _ _ gb176 35 #[.int .i64 1, .int .i64 t177, .int .i64 0, .int .i64 t181, .int .i64 t182, .slice Ao9 t183.length co9, .slice none 0 0, .slice none 0 0] (0, 0) _ rfl (blk_put (blk_put (blk_put (blk_put (blk_put (blk_put (blk_put (blk_put BK176.out 0 _ rfl) 1 _ rfl) 2 _ rfl) 3 _ rfl) 4 _ rfl) 5 _ rfl) 6 _ rfl) 7 _ rfl) Try.underlying35 rfl (by kernel_rfl)) rfl ?_
 exact ⟨_, _, _, ab11_, by (with_reducible repeat (first | apply Kd.N_alloc | apply Kd.N_drewN | apply Kd.N_drew)); exact Kd.N_mono (Kd.N_far (p := ⟨gb176, 7, none⟩) (Kd.N_far (p := ⟨gb176, 6, none⟩) (Kd.N_far (p := ⟨gb176, 5, none⟩) (Kd.N_far (p := ⟨gb176, 4, none⟩) (Kd.N_far (p := ⟨gb176, 3, none⟩) (Kd.N_far (p := ⟨gb176, 2, none⟩) (Kd.N_far (p := ⟨gb176, 1, none⟩) (Kd.N_far (p := ⟨gb176, 0, none⟩) (Kd.N_mono HO185.out (fun k_ hk => (⟨hk, hk.2.1⟩ : _ ∧ k_ ≠ gb176))) (fun _ hk => hk.2) (.int .i64 1)) (fun _ hk => hk.2) (.int .i64 t177)) (fun _ hk => hk.2) (.int .i64 0)) (fun _ hk => hk.2) (.int .i64 t181)) (fun _ hk => hk.2) (.int .i64 t182)) (fun _ hk => hk.2) (.slice Ao9 t183.length co9)) (fun _ hk => hk.2) (.slice none 0 0)) (fun _ hk => hk.2) (.slice none 0 0)) (fun _ hk => ⟨hk.1.1, ⟨(by simp [Value.ownBlock]), (by simp [Value.ownBlock])⟩⟩), by first | exact Kd.R_nil _ _ _ _ _ | exact Kd.N_nil _ _ _ _ _ | exact Kd.V_nil _ _ _ _ _ | exact Kd.Q_nil _ _ _ _ _ | exact Kd.S_nil _ _ _ _ _, by first | exact Kd.R_nil _ _ _ _ _ | exact Kd.N_nil _ _ _ _ _ | exact Kd.V_nil _ _ _ _ _ | exact Kd.Q_nil _ _ _ _ _ | exact Kd.S_nil _ _ _ _ _, ab81_, by repeat (first | (with_reducible first | exact HB.out | apply below_alloc | apply pw_below_drewN | apply below_drew1 | refine below_set ?_ (IsS91.ge HI0.out) | refine below_set ?_ GE176.out) | exact HB.out), ab55_⟩
theorem spec_l92Talk.mono : ∀ a0 a1 a2 k, LeO (spec_l92Talk.f k a0 a1 a2) (spec_l92Talk.f (k + 1) a0 a1 a2) := by
 intro a0 a1 a2 k
 unfold spec_l92Talk.f
 repeat' first
   | (with_reducible exact spec_l6Rd_pick.mono _ _ _ _)
   | (with_reducible exact spec_l91Expr.mono _ _ _ _)
   | (with_reducible exact spec_l92Set.mono _ _ _)
   | (with_reducible exact LeO.refl _)
   | (with_reducible exact LeO.none _)
   | (with_reducible refine LeO.ite ?_ ?_)
   | (with_reducible refine LeO.bind ?_ (fun _ => ?_))
theorem spec_l92Talk.calls (k : Nat) (g : Nat) (s0_0 : List Int) (s0_1 : Int) (a1 : Int) (r1 : Int) (r2 : Int) (r3 : Int) (r4 : Int) (r5 : Int) (r6 : List (S32)) (r7 : List (S35)) (r8 : List (S35)) (r9 : Int) (w0 w : World) (hI : IsS91 w0 w g s0_0 s0_1) (hB : Below w0.heap.size w0 w) (h : spec_l92Talk.f k s0_0 s0_1 a1 = some (r1, r2, r3, r4, r5, r6, r7, r8, r9)) :
  Calls Try.prog 105 #[.pointer (some ⟨g, 0, none⟩), .int .i64 a1] w fun e w' => ∃ v5_ v6_ v7_ : Value, e = .returned (.agg #[.int .i64 r1, .int .i64 r2, .int .i64 r3, .int .i64 r4, .int .i64 r5, v5_, v6_, v7_]) ∧ Kd.N k32 32 w' w.heap.size (fun k_ => (w.heap.size ≤ k_) ∧ some k_ ≠ (v6_ : Value).ownBlock ∧ some k_ ≠ (v7_ : Value).ownBlock) v5_ r6 ∧ Kd.N k35 35 w' w.heap.size (fun k_ => (w.heap.size ≤ k_) ∧ some k_ ≠ (v5_ : Value).ownBlock ∧ some k_ ≠ (v7_ : Value).ownBlock) v6_ r7 ∧ Kd.N k35 35 w' w.heap.size (fun k_ => (w.heap.size ≤ k_) ∧ some k_ ≠ (v5_ : Value).ownBlock ∧ some k_ ≠ (v6_ : Value).ownBlock) v7_ r8 ∧ IsS91 w0 w' g s0_0 r9 ∧ Below w0.heap.size w0 w' ∧ KeepBut w w' g none := by
 have hu35 := Try.underlying35
 have HI0 := am hI
 have HK := am (KeepBut.refl w g none)
 have HL := am hB.size
 clear hI
 have HW0 := am hB.size
 have HB := am hB
 clear hB
 have H : (if a1 < 1 then ((spec_l92Set.f k s0_0 s0_1).bind fun bt188 => (some (bt188.1, bt188.2.1, bt188.2.2.1, bt188.2.2.2.1, bt188.2.2.2.2.1, bt188.2.2.2.2.2.1, bt188.2.2.2.2.2.2.1, bt188.2.2.2.2.2.2.2.1, bt188.2.2.2.2.2.2.2.2))) else ((spec_l6Rd_pick.f k s0_0 s0_1 a1).bind fun bt203 => ((spec_l6Rd_pick.f k s0_0 bt203.2 2).bind fun bt205 => (if bt205.1 = 0 then ((spec_l6Rd_pick.f k s0_0 bt205.2 3).bind fun bt207 => ((spec_l91Expr.f k s0_0 bt207.2 (wrap64 (1 + bt207.1))).bind fun bt209 => (some (4, 0, bt203.1, bt209.1, bt209.2.1, bt209.2.2.1, ([] : List (S35)), ([] : List (S35)), bt209.2.2.2)))) else ((spec_l6Rd_pick.f k s0_0 bt205.2 3).bind fun bt215 => (some (5, bt215.1, bt203.1, 0, 0, ([] : List (S32)), ([] : List (S35)), ([] : List (S35)), bt215.2))))))) = some (r1, r2, r3, r4, r5, r6, r7, r8, r9) := h
 clear h
 have HH_ := am H
 clear H
 go_enter Try.func105, Try.ntmps105
 go_upto_region 1 with (first | ((with_reducible refine gate_dst (N := 4) rfl ?_); refine box_event rfl (N := 4) rfl (cs := #[.int .i64 0, .int .i64 0, .int .i64 0, .int .i64 0, .int .i64 0, .slice none 0 0, .slice none 0 0, .slice none 0 0]) (t := 35) rn_ ?_; intro gb187 hg w5 hbox hb; replace HB := am (below_step ab5_ hb); have BK187 := am (hbox); have GW187 := am ((by rw [hg]; exact (keep_size (w := w) (g := g) (row := none) ab3_) : w.heap.size ≤ gb187)); have GE187 := am ((Nat.le_trans HW0.out (by rw [hg]; exact (keep_size (w := w) (g := g) (row := none) ab3_) : w.heap.size ≤ gb187) : w0.heap.size ≤ gb187)); replace HK := am (KeepBut.trans ab3_ (KeepBut.of_below hb g none) (.inl rfl)); have NB0_187 := am ((by rw [hg]; exact Nat.ne_of_lt (IsS91.lt (show IsS91 w0 _ g s0_0 s0_1 from by repeat (first | (with_reducible first | exact HI0.out | apply IsS91.alloc | apply IsS91.drewN | apply IsS91.drew | apply IsS91.set_1) | exact HI0.out))) : g ≠ gb187)); have NB187_0 := am ((by rw [hg]; exact Nat.ne_of_gt (IsS91.lt (show IsS91 w0 _ g s0_0 s0_1 from by repeat (first | (with_reducible first | exact HI0.out | apply IsS91.alloc | apply IsS91.drewN | apply IsS91.drew | apply IsS91.set_1) | exact HI0.out))) : gb187 ≠ g)); replace HI0 := am (IsS91.below ab4_ hb); clear hb hbox hg))
 have H := HH_.out
 clear HH_
 by_cases c3 : a1 < 1
 ·rw [if_pos c3] at H
  have c3b0 : decide (a1 < 1) = true := decide_eq_true c3
  clear c3
  obtain ⟨⟨t188, t189, t190, t191, t192, t193, t196, t199, t202⟩, A40, H⟩ := bsm H
  (try dsimp only at H)
  have A4 := am A40
  clear A40
  simp only [Option.some.injEq, Prod.mk.injEq] at H
  obtain ⟨rfl, rfl, rfl, rfl, rfl, rfl, rfl, rfl, rfl⟩ := H
  go_wp2_with (first | ((with_reducible refine gate_callee (f := 103) rfl ?_); refine goesL_ (some 9) rfl rfl Try.func103 (by kernel_rfl) rfl #[.pointer (some ⟨g, 0, none⟩)] rfl ab1_ ?_; (with_reducible refine (spec_l92Set.calls k g s0_0 s0_1 t188 t189 t190 t191 t192 t193 t196 t199 t202 w0 _ ?side1 ?side2 A4.out).mono ?_); (case side1 => exact ab48_); (case side2 => exact ab64_); rintro e w6 ⟨v194, v197, v200, rfl, ho0, ho1, ho2, hi, hb, hk⟩; refine ⟨_, rfl, ?_⟩; have HO195 := am (Kd.N_lower (Kd.N_mono (ok' := fun k_ => (w.heap.size ≤ k_) ∧ some k_ ≠ (v197 : Value).ownBlock ∧ some k_ ≠ (v200 : Value).ownBlock ∧ k_ ≠ gb187 ∧ k_ ≠ g) ho0 (fun k_ hk_ => ⟨(Nat.le_trans (keep_size (w := w) (g := g) (row := none) ab21_) hk_.1), hk_.2.1, hk_.2.2, (frb_ BK187.out k_ hk_.1), (IsS91.fresh ab48_ k_ hk_.1)⟩)) (keep_size (w := w) (g := g) (row := none) ab21_)); have HO198 := am (Kd.N_lower (Kd.N_mono (ok' := fun k_ => (w.heap.size ≤ k_) ∧ some k_ ≠ (v194 : Value).ownBlock ∧ some k_ ≠ (v200 : Value).ownBlock ∧ k_ ≠ gb187 ∧ k_ ≠ g) ho1 (fun k_ hk_ => ⟨(Nat.le_trans (keep_size (w := w) (g := g) (row := none) ab21_) hk_.1), hk_.2.1, hk_.2.2, (frb_ BK187.out k_ hk_.1), (IsS91.fresh ab48_ k_ hk_.1)⟩)) (keep_size (w := w) (g := g) (row := none) ab21_)); have HO201 := am (Kd.N_lower (Kd.N_mono (ok' := fun k_ => (w.heap.size ≤ k_) ∧ some k_ ≠ (v194 : Value).ownBlock ∧ some k_ ≠ (v197 : Value).ownBlock ∧ k_ ≠ gb187 ∧ k_ ≠ g) ho2 (fun k_ hk_ => ⟨(Nat.le_trans (keep_size (w := w) (g := g) (row := none) ab21_) hk_.1), hk_.2.1, hk_.2.2, (frb_ BK187.out k_ hk_.1), (IsS91.fresh ab48_ k_ hk_.1)⟩)) (keep_size (w := w) (g := g) (row := none) ab21_)); replace BK187 := am (KeepBut.blk hk (g' := gb187) (o := .cells #[.int .i64 0, .int .i64 0, .int .i64 0, .int .i64 0, .int .i64 0, .slice none 0 0, .slice none 0 0, .slice none 0 0] 35 (0, 0)) (aG_ BK187.out) NB187_0.out (by simp)); replace HK := am (KeepBut.trans ab21_ hk (.inl rfl)); replace HB := am (hb); replace HI0 := am (hi); (try clear hb); (try clear hb2); (try clear hk); (try clear hi); (try clear ho0); (try clear ho1); (try clear ho2); have hnb7 := NB187_0.out; have hnc7 := NB0_187.out; obtain ⟨hcz8_0, hcz8_1, hcz8_2, hcz8_3, hcz8_4, hcz8_5, hcz8_6, hcz8_7, hfz8_0, hfz8_1, hfz8_2, hfz8_3, hfz8_4, hfz8_5, hfz8_6, hfz8_7⟩ := bcf8_ BK187.out; obtain ⟨Ao9, co9, eo9⟩ := Kd.N_slice HO195.out; subst eo9; obtain ⟨Ao10, co10, eo10⟩ := Kd.N_slice HO198.out; subst eo10; obtain ⟨Ao11, co11, eo11⟩ := Kd.N_slice HO201.out; subst eo11))
  refine bodyPost_ret (results_cell_row rfl _ _ gb187 35 #[.int .i64 t188, .int .i64 t189, .int .i64 t190, .int .i64 t191, .int .i64 t192, .slice Ao9 t193.length co9, .slice Ao10 t196.length co10, .slice Ao11 t199.length co11] (0, 0) _ rfl (blk_put (blk_put (blk_put (blk_put (blk_put (blk_put (blk_put (blk_put BK187.out 0 _ rfl) 1 _ rfl) 2 _ rfl) 3 _ rfl) 4 _ rfl) 5 _ rfl) 6 _ rfl) 7 _ rfl) Try.underlying35 rfl (by kernel_rfl)) rfl ?_
  exact ⟨_, _, _, ab11_, by (with_reducible repeat (first | apply Kd.N_alloc | apply Kd.N_drewN | apply Kd.N_drew)); exact Kd.N_mono (Kd.N_far (p := ⟨gb187, 7, none⟩) (Kd.N_far (p := ⟨gb187, 6, none⟩) (Kd.N_far (p := ⟨gb187, 5, none⟩) (Kd.N_far (p := ⟨gb187, 4, none⟩) (Kd.N_far (p := ⟨gb187, 3, none⟩) (Kd.N_far (p := ⟨gb187, 2, none⟩) (Kd.N_far (p := ⟨gb187, 1, none⟩) (Kd.N_far (p := ⟨gb187, 0, none⟩) (Kd.N_mono HO195.out (fun k_ hk => (⟨hk, hk.2.2.2.1⟩ : _ ∧ k_ ≠ gb187))) (fun _ hk => hk.2) (.int .i64 t188)) (fun _ hk => hk.2) (.int .i64 t189)) (fun _ hk => hk.2) (.int .i64 t190)) (fun _ hk => hk.2) (.int .i64 t191)) (fun _ hk => hk.2) (.int .i64 t192)) (fun _ hk => hk.2) (.slice Ao9 t193.length co9)) (fun _ hk => hk.2) (.slice Ao10 t196.length co10)) (fun _ hk => hk.2) (.slice Ao11 t199.length co11)) (fun _ hk => ⟨hk.1.1, ⟨hk.1.2.1, hk.1.2.2.1⟩⟩), by (with_reducible repeat (first | apply Kd.N_alloc | apply Kd.N_drewN | apply Kd.N_drew)); exact Kd.N_mono (Kd.N_far (p := ⟨gb187, 7, none⟩) (Kd.N_far (p := ⟨gb187, 6, none⟩) (Kd.N_far (p := ⟨gb187, 5, none⟩) (Kd.N_far (p := ⟨gb187, 4, none⟩) (Kd.N_far (p := ⟨gb187, 3, none⟩) (Kd.N_far (p := ⟨gb187, 2, none⟩) (Kd.N_far (p := ⟨gb187, 1, none⟩) (Kd.N_far (p := ⟨gb187, 0, none⟩) (Kd.N_mono HO198.out (fun k_ hk => (⟨hk, hk.2.2.2.1⟩ : _ ∧ k_ ≠ gb187))) (fun _ hk => hk.2) (.int .i64 t188)) (fun _ hk => hk.2) (.int .i64 t189)) (fun _ hk => hk.2) (.int .i64 t190)) (fun _ hk => hk.2) (.int .i64 t191)) (fun _ hk => hk.2) (.int .i64 t192)) (fun _ hk => hk.2) (.slice Ao9 t193.length co9)) (fun _ hk => hk.2) (.slice Ao10 t196.length co10)) (fun _ hk => hk.2) (.slice Ao11 t199.length co11)) (fun _ hk => ⟨hk.1.1, ⟨hk.1.2.1, hk.1.2.2.1⟩⟩), by (with_reducible repeat (first | apply Kd.N_alloc | apply Kd.N_drewN | apply Kd.N_drew)); exact Kd.N_mono (Kd.N_far (p := ⟨gb187, 7, none⟩) (Kd.N_far (p := ⟨gb187, 6, none⟩) (Kd.N_far (p := ⟨gb187, 5, none⟩) (Kd.N_far (p := ⟨gb187, 4, none⟩) (Kd.N_far (p := ⟨gb187, 3, none⟩) (Kd.N_far (p := ⟨gb187, 2, none⟩) (Kd.N_far (p := ⟨gb187, 1, none⟩) (Kd.N_far (p := ⟨gb187, 0, none⟩) (Kd.N_mono HO201.out (fun k_ hk => (⟨hk, hk.2.2.2.1⟩ : _ ∧ k_ ≠ gb187))) (fun _ hk => hk.2) (.int .i64 t188)) (fun _ hk => hk.2) (.int .i64 t189)) (fun _ hk => hk.2) (.int .i64 t190)) (fun _ hk => hk.2) (.int .i64 t191)) (fun _ hk => hk.2) (.int .i64 t192)) (fun _ hk => hk.2) (.slice Ao9 t193.length co9)) (fun _ hk => hk.2) (.slice Ao10 t196.length co10)) (fun _ hk => hk.2) (.slice Ao11 t199.length co11)) (fun _ hk => ⟨hk.1.1, ⟨hk.1.2.1, hk.1.2.2.1⟩⟩), ab48_, ab64_, ab21_⟩
 rw [if_neg c3] at H
 have c3b0 : decide (a1 < 1) = false := decide_eq_false c3
 clear c3
 obtain ⟨⟨t203, t204⟩, A120, H⟩ := bsm H
 (try dsimp only at H)
 have A12 := am A120
 clear A120
 obtain ⟨⟨t205, t206⟩, A130, H⟩ := bsm H
 (try dsimp only at H)
 have A13 := am A130
 clear A130
 by_cases c14 : t205 = 0
 ·rw [if_pos c14] at H
  have c14b0 : (t205 == 0) = true := beq_iff_eq.mpr c14
  have c14b1 : (t205 != 0) = false := bne_eq_false_iff_eq.mpr c14
  clear c14
  obtain ⟨⟨t207, t208⟩, A150, H⟩ := bsm H
  (try dsimp only at H)
  have A15 := am A150
  clear A150
  obtain ⟨⟨t209, t210, t211, t214⟩, A160, H⟩ := bsm H
  (try dsimp only at H)
  have A16 := am A160
  clear A160
  simp only [Option.some.injEq, Prod.mk.injEq] at H
  obtain ⟨rfl, rfl, rfl, rfl, rfl, rfl, rfl, rfl, rfl⟩ := H
  go_wp2_with (first | ((with_reducible refine gate_callee (f := 41) rfl ?_); refine goesL_ (some 12) rfl rfl Try.func41 (by kernel_rfl) rfl #[.pointer (some ⟨g, 0, none⟩), .int .i64 a1] rfl ab1_ ?_; (with_reducible refine (spec_l6Rd_pick.calls k g s0_0 s0_1 a1 t203 t204 w0 _ ?side1 ?side2 A12.out).mono ?_); (case side1 => exact ab48_); (case side2 => exact ab64_); rintro e w18 ⟨rfl, hi, hb, hk⟩; refine ⟨_, rfl, ?_⟩; replace BK187 := am (KeepBut.blk hk (g' := gb187) (o := .cells #[.int .i64 0, .int .i64 0, .int .i64 0, .int .i64 0, .int .i64 0, .slice none 0 0, .slice none 0 0, .slice none 0 0] 35 (0, 0)) (aG_ BK187.out) NB187_0.out (by simp)); replace HK := am (KeepBut.trans ab21_ hk (.inl rfl)); replace HB := am (hb); replace HI0 := am (hi); (try clear hb); (try clear hb2); (try clear hk); (try clear hi)) | ((with_reducible refine gate_callee (f := 41) rfl ?_); refine goesL_ (some 14) rfl rfl Try.func41 (by kernel_rfl) rfl #[.pointer (some ⟨g, 0, none⟩), .int .i64 2] rfl ab1_ ?_; (with_reducible refine (spec_l6Rd_pick.calls k g s0_0 t204 2 t205 t206 w0 _ ?side1 ?side2 A13.out).mono ?_); (case side1 => exact ab48_); (case side2 => exact ab64_); rintro e w19 ⟨rfl, hi, hb, hk⟩; refine ⟨_, rfl, ?_⟩; replace BK187 := am (KeepBut.blk hk (g' := gb187) (o := .cells #[.int .i64 0, .int .i64 0, .int .i64 0, .int .i64 0, .int .i64 0, .slice none 0 0, .slice none 0 0, .slice none 0 0] 35 (0, 0)) (aG_ BK187.out) NB187_0.out (by simp)); replace HK := am (KeepBut.trans ab21_ hk (.inl rfl)); replace HB := am (hb); replace HI0 := am (hi); (try clear hb); (try clear hb2); (try clear hk); (try clear hi)) | ((with_reducible refine gate_callee (f := 41) rfl ?_); refine goesL_ (some 19) rfl rfl Try.func41 (by kernel_rfl) rfl #[.pointer (some ⟨g, 0, none⟩), .int .i64 3] rfl ab1_ ?_; (with_reducible refine (spec_l6Rd_pick.calls k g s0_0 t206 3 t207 t208 w0 _ ?side1 ?side2 A15.out).mono ?_); (case side1 => exact ab48_); (case side2 => exact ab64_); rintro e w20 ⟨rfl, hi, hb, hk⟩; refine ⟨_, rfl, ?_⟩; replace BK187 := am (KeepBut.blk hk (g' := gb187) (o := .cells #[.int .i64 0, .int .i64 0, .int .i64 0, .int .i64 0, .int .i64 0, .slice none 0 0, .slice none 0 0, .slice none 0 0] 35 (0, 0)) (aG_ BK187.out) NB187_0.out (by simp)); replace HK := am (KeepBut.trans ab21_ hk (.inl rfl)); replace HB := am (hb); replace HI0 := am (hi); (try clear hb); (try clear hb2); (try clear hk); (try clear hi)) | ((with_reducible refine gate_callee (f := 76) rfl ?_); refine goesL_ (some 21) rfl rfl Try.func76 (by kernel_rfl) rfl #[.pointer (some ⟨g, 0, none⟩), .int .i64 (wrap64 (1 + t207))] rfl ab1_ ?_; (with_reducible refine (spec_l91Expr.calls k g s0_0 t208 (wrap64 (1 + t207)) t209 t210 t211 t214 w0 _ ?side1 ?side2 A16.out).mono ?_); (case side1 => exact ab48_); (case side2 => exact ab64_); rintro e w21 ⟨v212, rfl, ho0, hi, hb, hk⟩; refine ⟨_, rfl, ?_⟩; have HO213 := am (Kd.N_lower (Kd.N_mono (ok' := fun k_ => (w.heap.size ≤ k_) ∧ k_ ≠ gb187 ∧ k_ ≠ g) ho0 (fun k_ hk_ => ⟨(Nat.le_trans (keep_size (w := w) (g := g) (row := none) ab21_) hk_), (frb_ BK187.out k_ hk_), (IsS91.fresh ab48_ k_ hk_)⟩)) (keep_size (w := w) (g := g) (row := none) ab21_)); replace BK187 := am (KeepBut.blk hk (g' := gb187) (o := .cells #[.int .i64 0, .int .i64 0, .int .i64 0, .int .i64 0, .int .i64 0, .slice none 0 0, .slice none 0 0, .slice none 0 0] 35 (0, 0)) (aG_ BK187.out) NB187_0.out (by simp)); replace HK := am (KeepBut.trans ab21_ hk (.inl rfl)); replace HB := am (hb); replace HI0 := am (hi); (try clear hb); (try clear hb2); (try clear hk); (try clear hi); (try clear ho0); obtain ⟨Ao22, co22, eo22⟩ := Kd.N_slice HO213.out; subst eo22; have hnb23 := NB187_0.out; have hnc23 := NB0_187.out; obtain ⟨hcz24_0, hcz24_1, hcz24_2, hcz24_3, hcz24_4, hcz24_5, hcz24_6, hcz24_7, hfz24_0, hfz24_1, hfz24_2, hfz24_3, hfz24_4, hfz24_5, hfz24_6, hfz24_7⟩ := bcf8_ BK187.out))
  refine bodyPost_ret (results_cell_row rfl _ _ gb187 35 #[.int .i64 4, .int .i64 0, .int .i64 t203, .int .i64 t209, .int .i64 t210, .slice Ao22 t211.length co22, .slice none 0 0, .slice none 0 0] (0, 0) _ rfl (blk_put (blk_put (blk_put (blk_put (blk_put (blk_put (blk_put (blk_put BK187.out 0 _ rfl) 1 _ rfl) 2 _ rfl) 3 _ rfl) 4 _ rfl) 5 _ rfl) 6 _ rfl) 7 _ rfl) Try.underlying35 rfl (by kernel_rfl)) rfl ?_
  exact ⟨_, _, _, ab11_, by (with_reducible repeat (first | apply Kd.N_alloc | apply Kd.N_drewN | apply Kd.N_drew)); exact Kd.N_mono (Kd.N_far (p := ⟨gb187, 7, none⟩) (Kd.N_far (p := ⟨gb187, 6, none⟩) (Kd.N_far (p := ⟨gb187, 5, none⟩) (Kd.N_far (p := ⟨gb187, 4, none⟩) (Kd.N_far (p := ⟨gb187, 3, none⟩) (Kd.N_far (p := ⟨gb187, 2, none⟩) (Kd.N_far (p := ⟨gb187, 1, none⟩) (Kd.N_far (p := ⟨gb187, 0, none⟩) (Kd.N_mono HO213.out (fun k_ hk => (⟨hk, hk.2.1⟩ : _ ∧ k_ ≠ gb187))) (fun _ hk => hk.2) (.int .i64 4)) (fun _ hk => hk.2) (.int .i64 0)) (fun _ hk => hk.2) (.int .i64 t203)) (fun _ hk => hk.2) (.int .i64 t209)) (fun _ hk => hk.2) (.int .i64 t210)) (fun _ hk => hk.2) (.slice Ao22 t211.length co22)) (fun _ hk => hk.2) (.slice none 0 0)) (fun _ hk => hk.2) (.slice none 0 0)) (fun _ hk => ⟨hk.1.1, ⟨(by simp [Value.ownBlock]), (by simp [Value.ownBlock])⟩⟩), by first | exact Kd.R_nil _ _ _ _ _ | exact Kd.N_nil _ _ _ _ _ | exact Kd.V_nil _ _ _ _ _ | exact Kd.Q_nil _ _ _ _ _ | exact Kd.S_nil _ _ _ _ _, by first | exact Kd.R_nil _ _ _ _ _ | exact Kd.N_nil _ _ _ _ _ | exact Kd.V_nil _ _ _ _ _ | exact Kd.Q_nil _ _ _ _ _ | exact Kd.S_nil _ _ _ _ _, ab48_, ab64_, ab21_⟩
 rw [if_neg c14] at H
 have c14b0 : (t205 == 0) = false := beq_eq_false_iff_ne.mpr c14
 have c14b1 : (t205 != 0) = true := bne_iff_ne.mpr c14
 obtain ⟨⟨t215, t216⟩, A250, H⟩ := bsm H
 (try dsimp only at H)
 have A25 := am A250
 clear A250
 simp only [Option.some.injEq, Prod.mk.injEq] at H
 obtain ⟨rfl, rfl, rfl, rfl, rfl, rfl, rfl, rfl, rfl⟩ := H
 go_wp2_with (first | ((with_reducible refine gate_callee (f := 41) rfl ?_); refine goesL_ (some 12) rfl rfl Try.func41 (by kernel_rfl) rfl #[.pointer (some ⟨g, 0, none⟩), .int .i64 a1] rfl ab1_ ?_; (with_reducible refine (spec_l6Rd_pick.calls k g s0_0 s0_1 a1 t203 t204 w0 _ ?side1 ?side2 A12.out).mono ?_); (case side1 => exact ab48_); (case side2 => exact ab64_); rintro e w27 ⟨rfl, hi, hb, hk⟩; refine ⟨_, rfl, ?_⟩; replace BK187 := am (KeepBut.blk hk (g' := gb187) (o := .cells #[.int .i64 0, .int .i64 0, .int .i64 0, .int .i64 0, .int .i64 0, .slice none 0 0, .slice none 0 0, .slice none 0 0] 35 (0, 0)) (aG_ BK187.out) NB187_0.out (by simp)); replace HK := am (KeepBut.trans ab21_ hk (.inl rfl)); replace HB := am (hb); replace HI0 := am (hi); (try clear hb); (try clear hb2); (try clear hk); (try clear hi)) | ((with_reducible refine gate_callee (f := 41) rfl ?_); refine goesL_ (some 14) rfl rfl Try.func41 (by kernel_rfl) rfl #[.pointer (some ⟨g, 0, none⟩), .int .i64 2] rfl ab1_ ?_; (with_reducible refine (spec_l6Rd_pick.calls k g s0_0 t204 2 t205 t206 w0 _ ?side1 ?side2 A13.out).mono ?_); (case side1 => exact ab48_); (case side2 => exact ab64_); rintro e w28 ⟨rfl, hi, hb, hk⟩; refine ⟨_, rfl, ?_⟩; replace BK187 := am (KeepBut.blk hk (g' := gb187) (o := .cells #[.int .i64 0, .int .i64 0, .int .i64 0, .int .i64 0, .int .i64 0, .slice none 0 0, .slice none 0 0, .slice none 0 0] 35 (0, 0)) (aG_ BK187.out) NB187_0.out (by simp)); replace HK := am (KeepBut.trans ab21_ hk (.inl rfl)); replace HB := am (hb); replace HI0 := am (hi); (try clear hb); (try clear hb2); (try clear hk); (try clear hi)) | ((with_reducible refine gate_callee (f := 41) rfl ?_); refine goesL_ (some 25) rfl rfl Try.func41 (by kernel_rfl) rfl #[.pointer (some ⟨g, 0, none⟩), .int .i64 3] rfl ab1_ ?_; (with_reducible refine (spec_l6Rd_pick.calls k g s0_0 t206 3 t215 t216 w0 _ ?side1 ?side2 A25.out).mono ?_); (case side1 => exact ab48_); (case side2 => exact ab64_); rintro e w29 ⟨rfl, hi, hb, hk⟩; refine ⟨_, rfl, ?_⟩; replace BK187 := am (KeepBut.blk hk (g' := gb187) (o := .cells #[.int .i64 0, .int .i64 0, .int .i64 0, .int .i64 0, .int .i64 0, .slice none 0 0, .slice none 0 0, .slice none 0 0] 35 (0, 0)) (aG_ BK187.out) NB187_0.out (by simp)); replace HK := am (KeepBut.trans ab21_ hk (.inl rfl)); replace HB := am (hb); replace HI0 := am (hi); (try clear hb); (try clear hb2); (try clear hk); (try clear hi); have hnb30 := NB187_0.out; have hnc30 := NB0_187.out; obtain ⟨hcz31_0, hcz31_1, hcz31_2, hcz31_3, hcz31_4, hcz31_5, hcz31_6, hcz31_7, hfz31_0, hfz31_1, hfz31_2, hfz31_3, hfz31_4, hfz31_5, hfz31_6, hfz31_7⟩ := bcf8_ BK187.out))
 refine bodyPost_ret (results_cell_row rfl _ _ gb187 35 #[.int .i64 5, .int .i64 t215, .int .i64 t203, .int .i64 0, .int .i64 0, .slice none 0 0, .slice none 0 0, .slice none 0 0] (0, 0) _ rfl (blk_put (blk_put (blk_put (blk_put (blk_put (blk_put (blk_put (blk_put BK187.out 0 _ rfl) 1 _ rfl) 2 _ rfl) 3 _ rfl) 4 _ rfl) 5 _ rfl) 6 _ rfl) 7 _ rfl) Try.underlying35 rfl (by kernel_rfl)) rfl ?_
 exact ⟨_, _, _, ab11_, by first | exact Kd.R_nil _ _ _ _ _ | exact Kd.N_nil _ _ _ _ _ | exact Kd.V_nil _ _ _ _ _ | exact Kd.Q_nil _ _ _ _ _ | exact Kd.S_nil _ _ _ _ _, by first | exact Kd.R_nil _ _ _ _ _ | exact Kd.N_nil _ _ _ _ _ | exact Kd.V_nil _ _ _ _ _ | exact Kd.Q_nil _ _ _ _ _ | exact Kd.S_nil _ _ _ _ _, by first | exact Kd.R_nil _ _ _ _ _ | exact Kd.N_nil _ _ _ _ _ | exact Kd.V_nil _ _ _ _ _ | exact Kd.Q_nil _ _ _ _ _ | exact Kd.S_nil _ _ _ _ _, ab48_, ab64_, ab21_⟩
theorem spec_l92Loop.mono_all : ∀ k, (∀ y0 y1 y2 y3, LeO (spec_l92Loop.f k y0 y1 y2 y3) (spec_l92Loop.f (k + 1) y0 y1 y2 y3)) ∧ (∀ y0 y1 y2 y3 y4, LeO (spec_l92Stmt.f k y0 y1 y2 y3 y4) (spec_l92Stmt.f (k + 1) y0 y1 y2 y3 y4)) ∧ (∀ y0 y1 y2 y3 y4 y5 y6, LeO (spec_l92Stmt.j0 k y0 y1 y2 y3 y4 y5 y6) (spec_l92Stmt.j0 (k + 1) y0 y1 y2 y3 y4 y5 y6)) ∧ (∀ y0 y1 y2 y3 y4, LeO (spec_l92Stmt.j1 k y0 y1 y2 y3 y4) (spec_l92Stmt.j1 (k + 1) y0 y1 y2 y3 y4)) ∧ (∀ y0 y1 y2 y3 y4, LeO (spec_l92Stmt.j2 k y0 y1 y2 y3 y4) (spec_l92Stmt.j2 (k + 1) y0 y1 y2 y3 y4)) ∧ (∀ y0 y1 y2 y3 y4 y5, LeO (spec_l92Block.f k y0 y1 y2 y3 y4 y5) (spec_l92Block.f (k + 1) y0 y1 y2 y3 y4 y5)) ∧ (∀ y0 y1 y2 y3 y4 y5 y6 y7, LeO (spec_l92Block.l0 k y0 y1 y2 y3 y4 y5 y6 y7) (spec_l92Block.l0 (k + 1) y0 y1 y2 y3 y4 y5 y6 y7)) ∧ (∀ y0 y1 y2 y3 y4, LeO (spec_l92If.f k y0 y1 y2 y3 y4) (spec_l92If.f (k + 1) y0 y1 y2 y3 y4))
 | 0 => ⟨fun _ _ _ _ r h => by simp [spec_l92Loop.f] at h, fun _ _ _ _ _ r h => by simp [spec_l92Stmt.f] at h, fun _ _ _ _ _ _ _ r h => by simp [spec_l92Stmt.j0] at h, fun _ _ _ _ _ r h => by simp [spec_l92Stmt.j1] at h, fun _ _ _ _ _ r h => by simp [spec_l92Stmt.j2] at h, fun _ _ _ _ _ _ r h => by simp [spec_l92Block.f] at h, fun _ _ _ _ _ _ _ _ r h => by simp [spec_l92Block.l0] at h, fun _ _ _ _ _ r h => by simp [spec_l92If.f] at h⟩
 | k + 1 => by
  obtain ⟨ih0, ih1, ih2, ih3, ih4, ih5, ih6, ih7⟩ := spec_l92Loop.mono_all k
  refine ⟨?_, ?_, ?_, ?_, ?_, ?_, ?_, ?_⟩
  ·intro y0 y1 y2 y3
   unfold spec_l92Loop.f
   repeat' first
   | (with_reducible exact ih0 _ _ _ _)
   | (with_reducible exact ih1 _ _ _ _ _)
   | (with_reducible exact ih2 _ _ _ _ _ _ _)
   | (with_reducible exact ih3 _ _ _ _ _)
   | (with_reducible exact ih4 _ _ _ _ _)
   | (with_reducible exact ih5 _ _ _ _ _ _)
   | (with_reducible exact ih6 _ _ _ _ _ _ _ _)
   | (with_reducible exact ih7 _ _ _ _ _)
   | (with_reducible exact spec_l6Rd_pick.mono _ _ _ _)
   | (with_reducible exact spec_l91Expr.mono _ _ _ _)
   | (with_reducible exact spec_l92Set.mono _ _ _)
   | (with_reducible exact spec_l92Talk.mono _ _ _ _)
   | (with_reducible exact LeO.refl _)
   | (with_reducible exact LeO.none _)
   | (with_reducible refine LeO.ite ?_ ?_)
   | (with_reducible refine LeO.bind ?_ (fun _ => ?_))
  ·intro y0 y1 y2 y3 y4
   unfold spec_l92Stmt.f
   repeat' first
   | (with_reducible exact ih0 _ _ _ _)
   | (with_reducible exact ih1 _ _ _ _ _)
   | (with_reducible exact ih2 _ _ _ _ _ _ _)
   | (with_reducible exact ih3 _ _ _ _ _)
   | (with_reducible exact ih4 _ _ _ _ _)
   | (with_reducible exact ih5 _ _ _ _ _ _)
   | (with_reducible exact ih6 _ _ _ _ _ _ _ _)
   | (with_reducible exact ih7 _ _ _ _ _)
   | (with_reducible exact spec_l6Rd_pick.mono _ _ _ _)
   | (with_reducible exact spec_l91Expr.mono _ _ _ _)
   | (with_reducible exact spec_l92Set.mono _ _ _)
   | (with_reducible exact spec_l92Talk.mono _ _ _ _)
   | (with_reducible exact LeO.refl _)
   | (with_reducible exact LeO.none _)
   | (with_reducible refine LeO.ite ?_ ?_)
   | (with_reducible refine LeO.bind ?_ (fun _ => ?_))
  ·intro y0 y1 y2 y3 y4 y5 y6
   unfold spec_l92Stmt.j0
   repeat' first
   | (with_reducible exact ih0 _ _ _ _)
   | (with_reducible exact ih1 _ _ _ _ _)
   | (with_reducible exact ih2 _ _ _ _ _ _ _)
   | (with_reducible exact ih3 _ _ _ _ _)
   | (with_reducible exact ih4 _ _ _ _ _)
   | (with_reducible exact ih5 _ _ _ _ _ _)
   | (with_reducible exact ih6 _ _ _ _ _ _ _ _)
   | (with_reducible exact ih7 _ _ _ _ _)
   | (with_reducible exact spec_l6Rd_pick.mono _ _ _ _)
   | (with_reducible exact spec_l91Expr.mono _ _ _ _)
   | (with_reducible exact spec_l92Set.mono _ _ _)
   | (with_reducible exact spec_l92Talk.mono _ _ _ _)
   | (with_reducible exact LeO.refl _)
   | (with_reducible exact LeO.none _)
   | (with_reducible refine LeO.ite ?_ ?_)
   | (with_reducible refine LeO.bind ?_ (fun _ => ?_))
  ·intro y0 y1 y2 y3 y4
   unfold spec_l92Stmt.j1
   repeat' first
   | (with_reducible exact ih0 _ _ _ _)
   | (with_reducible exact ih1 _ _ _ _ _)
   | (with_reducible exact ih2 _ _ _ _ _ _ _)
   | (with_reducible exact ih3 _ _ _ _ _)
   | (with_reducible exact ih4 _ _ _ _ _)
   | (with_reducible exact ih5 _ _ _ _ _ _)
   | (with_reducible exact ih6 _ _ _ _ _ _ _ _)
   | (with_reducible exact ih7 _ _ _ _ _)
   | (with_reducible exact spec_l6Rd_pick.mono _ _ _ _)
   | (with_reducible exact spec_l91Expr.mono _ _ _ _)
   | (with_reducible exact spec_l92Set.mono _ _ _)
   | (with_reducible exact spec_l92Talk.mono _ _ _ _)
   | (with_reducible exact LeO.refl _)
   | (with_reducible exact LeO.none _)
   | (with_reducible refine LeO.ite ?_ ?_)
   | (with_reducible refine LeO.bind ?_ (fun _ => ?_))
  ·intro y0 y1 y2 y3 y4
   unfold spec_l92Stmt.j2
   repeat' first
   | (with_reducible exact ih0 _ _ _ _)
   | (with_reducible exact ih1 _ _ _ _ _)
   | (with_reducible exact ih2 _ _ _ _ _ _ _)
   | (with_reducible exact ih3 _ _ _ _ _)
   | (with_reducible exact ih4 _ _ _ _ _)
   | (with_reducible exact ih5 _ _ _ _ _ _)
   | (with_reducible exact ih6 _ _ _ _ _ _ _ _)
   | (with_reducible exact ih7 _ _ _ _ _)
   | (with_reducible exact spec_l6Rd_pick.mono _ _ _ _)
   | (with_reducible exact spec_l91Expr.mono _ _ _ _)
   | (with_reducible exact spec_l92Set.mono _ _ _)
   | (with_reducible exact spec_l92Talk.mono _ _ _ _)
   | (with_reducible exact LeO.refl _)
   | (with_reducible exact LeO.none _)
   | (with_reducible refine LeO.ite ?_ ?_)
   | (with_reducible refine LeO.bind ?_ (fun _ => ?_))
  ·intro y0 y1 y2 y3 y4 y5
   unfold spec_l92Block.f
   repeat' first
   | (with_reducible exact ih0 _ _ _ _)
   | (with_reducible exact ih1 _ _ _ _ _)
   | (with_reducible exact ih2 _ _ _ _ _ _ _)
   | (with_reducible exact ih3 _ _ _ _ _)
   | (with_reducible exact ih4 _ _ _ _ _)
   | (with_reducible exact ih5 _ _ _ _ _ _)
   | (with_reducible exact ih6 _ _ _ _ _ _ _ _)
   | (with_reducible exact ih7 _ _ _ _ _)
   | (with_reducible exact spec_l6Rd_pick.mono _ _ _ _)
   | (with_reducible exact spec_l91Expr.mono _ _ _ _)
   | (with_reducible exact spec_l92Set.mono _ _ _)
   | (with_reducible exact spec_l92Talk.mono _ _ _ _)
   | (with_reducible exact LeO.refl _)
   | (with_reducible exact LeO.none _)
   | (with_reducible refine LeO.ite ?_ ?_)
   | (with_reducible refine LeO.bind ?_ (fun _ => ?_))
  ·intro y0 y1 y2 y3 y4 y5 y6 y7
   unfold spec_l92Block.l0
   repeat' first
   | (with_reducible exact ih0 _ _ _ _)
   | (with_reducible exact ih1 _ _ _ _ _)
   | (with_reducible exact ih2 _ _ _ _ _ _ _)
   | (with_reducible exact ih3 _ _ _ _ _)
   | (with_reducible exact ih4 _ _ _ _ _)
   | (with_reducible exact ih5 _ _ _ _ _ _)
   | (with_reducible exact ih6 _ _ _ _ _ _ _ _)
   | (with_reducible exact ih7 _ _ _ _ _)
   | (with_reducible exact spec_l6Rd_pick.mono _ _ _ _)
   | (with_reducible exact spec_l91Expr.mono _ _ _ _)
   | (with_reducible exact spec_l92Set.mono _ _ _)
   | (with_reducible exact spec_l92Talk.mono _ _ _ _)
   | (with_reducible exact LeO.refl _)
   | (with_reducible exact LeO.none _)
   | (with_reducible refine LeO.ite ?_ ?_)
   | (with_reducible refine LeO.bind ?_ (fun _ => ?_))
  ·intro y0 y1 y2 y3 y4
   unfold spec_l92If.f
   repeat' first
   | (with_reducible exact ih0 _ _ _ _)
   | (with_reducible exact ih1 _ _ _ _ _)
   | (with_reducible exact ih2 _ _ _ _ _ _ _)
   | (with_reducible exact ih3 _ _ _ _ _)
   | (with_reducible exact ih4 _ _ _ _ _)
   | (with_reducible exact ih5 _ _ _ _ _ _)
   | (with_reducible exact ih6 _ _ _ _ _ _ _ _)
   | (with_reducible exact ih7 _ _ _ _ _)
   | (with_reducible exact spec_l6Rd_pick.mono _ _ _ _)
   | (with_reducible exact spec_l91Expr.mono _ _ _ _)
   | (with_reducible exact spec_l92Set.mono _ _ _)
   | (with_reducible exact spec_l92Talk.mono _ _ _ _)
   | (with_reducible exact LeO.refl _)
   | (with_reducible exact LeO.none _)
   | (with_reducible refine LeO.ite ?_ ?_)
   | (with_reducible refine LeO.bind ?_ (fun _ => ?_))
theorem spec_l92Loop.mono : ∀ a0 a1 a2 a3 k, LeO (spec_l92Loop.f k a0 a1 a2 a3) (spec_l92Loop.f (k + 1) a0 a1 a2 a3) := by
 intro a0 a1 a2 a3 k
 obtain ⟨ih0, ih1, ih2, ih3, ih4, ih5, ih6, ih7⟩ := spec_l92Loop.mono_all k
 exact ih0 a0 a1 a2 a3
theorem spec_l92Stmt.mono : ∀ a0 a1 a2 a3 a4 k, LeO (spec_l92Stmt.f k a0 a1 a2 a3 a4) (spec_l92Stmt.f (k + 1) a0 a1 a2 a3 a4) := by
 intro a0 a1 a2 a3 a4 k
 obtain ⟨ih0, ih1, ih2, ih3, ih4, ih5, ih6, ih7⟩ := spec_l92Loop.mono_all k
 exact ih1 a0 a1 a2 a3 a4
theorem spec_l92Block.mono : ∀ a0 a1 a2 a3 a4 a5 k, LeO (spec_l92Block.f k a0 a1 a2 a3 a4 a5) (spec_l92Block.f (k + 1) a0 a1 a2 a3 a4 a5) := by
 intro a0 a1 a2 a3 a4 a5 k
 obtain ⟨ih0, ih1, ih2, ih3, ih4, ih5, ih6, ih7⟩ := spec_l92Loop.mono_all k
 exact ih5 a0 a1 a2 a3 a4 a5
theorem spec_l92If.mono : ∀ a0 a1 a2 a3 a4 k, LeO (spec_l92If.f k a0 a1 a2 a3 a4) (spec_l92If.f (k + 1) a0 a1 a2 a3 a4) := by
 intro a0 a1 a2 a3 a4 k
 obtain ⟨ih0, ih1, ih2, ih3, ih4, ih5, ih6, ih7⟩ := spec_l92Loop.mono_all k
 exact ih7 a0 a1 a2 a3 a4
abbrev spec_l92Loop.CallsAt (k : Nat) : Prop := ∀ (g : Nat) (s0_0 : List Int) (s0_1 : Int) (a1 : Int) (a2 : Int) (r1 : List (S35)) (r2 : Int) (w0 w : World) (hI : IsS91 w0 w g s0_0 s0_1) (hB : Below w0.heap.size w0 w) (h : spec_l92Loop.f k s0_0 s0_1 a1 a2 = some (r1, r2)),
  Calls Try.prog 104 #[.pointer (some ⟨g, 0, none⟩), .int .i64 a1, .int .i64 a2] w fun e w' => ∃ v0_ : Value, e = .returned (v0_) ∧ Kd.N k35 35 w' w.heap.size (fun k_ => (w.heap.size ≤ k_)) v0_ r1 ∧ IsS91 w0 w' g s0_0 r2 ∧ Below w0.heap.size w0 w' ∧ KeepBut w w' g none
abbrev spec_l92Stmt.CallsAt (k : Nat) : Prop := ∀ (g : Nat) (s0_0 : List Int) (s0_1 : Int) (a1 : Int) (a2 : Int) (a3 : Bool) (r1 : List (S35)) (r2 : Int) (w0 w : World) (hI : IsS91 w0 w g s0_0 s0_1) (hB : Below w0.heap.size w0 w) (h : spec_l92Stmt.f k s0_0 s0_1 a1 a2 a3 = some (r1, r2)),
  Calls Try.prog 93 #[.pointer (some ⟨g, 0, none⟩), .int .i64 a1, .int .i64 a2, .bool a3] w fun e w' => ∃ v0_ : Value, e = .returned (v0_) ∧ Kd.N k35 35 w' w.heap.size (fun k_ => (w.heap.size ≤ k_)) v0_ r1 ∧ IsS91 w0 w' g s0_0 r2 ∧ Below w0.heap.size w0 w' ∧ KeepBut w w' g none
abbrev spec_l92Block.CallsAt (k : Nat) : Prop := ∀ (g : Nat) (s0_0 : List Int) (s0_1 : Int) (a1 : Int) (a2 : Int) (a3 : Int) (a4 : Bool) (r1 : List (S35)) (r2 : Int) (w0 w : World) (hI : IsS91 w0 w g s0_0 s0_1) (hB : Below w0.heap.size w0 w) (h : spec_l92Block.f k s0_0 s0_1 a1 a2 a3 a4 = some (r1, r2)),
  Calls Try.prog 77 #[.pointer (some ⟨g, 0, none⟩), .int .i64 a1, .int .i64 a2, .int .i64 a3, .bool a4] w fun e w' => ∃ v0_ : Value, e = .returned (v0_) ∧ Kd.N k35 35 w' w.heap.size (fun k_ => (w.heap.size ≤ k_)) v0_ r1 ∧ IsS91 w0 w' g s0_0 r2 ∧ Below w0.heap.size w0 w' ∧ KeepBut w w' g none
abbrev spec_l92If.CallsAt (k : Nat) : Prop := ∀ (g : Nat) (s0_0 : List Int) (s0_1 : Int) (a1 : Int) (a2 : Int) (a3 : Bool) (r1 : Int) (r2 : Int) (r3 : Int) (r4 : Int) (r5 : Int) (r6 : List (S32)) (r7 : List (S35)) (r8 : List (S35)) (r9 : Int) (w0 w : World) (hI : IsS91 w0 w g s0_0 s0_1) (hB : Below w0.heap.size w0 w) (h : spec_l92If.f k s0_0 s0_1 a1 a2 a3 = some (r1, r2, r3, r4, r5, r6, r7, r8, r9)),
  Calls Try.prog 42 #[.pointer (some ⟨g, 0, none⟩), .int .i64 a1, .int .i64 a2, .bool a3] w fun e w' => ∃ v5_ v6_ v7_ : Value, e = .returned (.agg #[.int .i64 r1, .int .i64 r2, .int .i64 r3, .int .i64 r4, .int .i64 r5, v5_, v6_, v7_]) ∧ Kd.N k32 32 w' w.heap.size (fun k_ => (w.heap.size ≤ k_) ∧ some k_ ≠ (v6_ : Value).ownBlock ∧ some k_ ≠ (v7_ : Value).ownBlock) v5_ r6 ∧ Kd.N k35 35 w' w.heap.size (fun k_ => (w.heap.size ≤ k_) ∧ some k_ ≠ (v5_ : Value).ownBlock ∧ some k_ ≠ (v7_ : Value).ownBlock) v6_ r7 ∧ Kd.N k35 35 w' w.heap.size (fun k_ => (w.heap.size ≤ k_) ∧ some k_ ≠ (v5_ : Value).ownBlock ∧ some k_ ≠ (v6_ : Value).ownBlock) v7_ r8 ∧ IsS91 w0 w' g s0_0 r9 ∧ Below w0.heap.size w0 w' ∧ KeepBut w w' g none
end Go.Proofs.Ytodhbeeibagiaaa.PA

