-- made by a program of this session (wip/myprint.py over the kit's print)
import Derived.Test.YtpifdlpieglhlaaV
import Derived.Test.YtpifdlpieglhlaaPAx0
import Derived.Test.YtpifdlpieglhlaaPAx1
namespace Go.Proofs.Ytpifdlpieglhlaa.PA
open Go.RowKit Go.Proofs.YtpifdlpieglhlaaW.PrintWords Go.Proofs.YtpifdlpieglhlaaW.PrintLast Go.Proofs.YtpifdlpieglhlaaW.PrintMore
attribute [local go_sem] max2_int min2_int max_two min_two max_three min_three max_four min_four   -- for this text's walks alone
set_option linter.unusedVariables false
set_option linter.unusedSimpArgs false

/-! ### impl_stmtValid_1: function 55 -/
set_option maxHeartbeats 8000000 in
set_option maxRecDepth 100000 in
theorem impl_stmtValid_1.calls (n limit : Int) (needed : Bool) (w : World) :
    Calls Try.prog 55 #[.int .i64 n, .int .i64 limit, .bool needed] w fun e w' => e = .returned (.bool (inr n limit needed)) ∧ Drawn0 w w' := by
  by_cases h0 : n = 0
  · subst h0
    go_enter Try.func55, Try.ntmps55
    go_wp2
    go_ret
    exact ⟨by simp [inr], ab49_⟩
  · have h0b : (n == 0) = false := beq_eq_false_iff_ne.mpr h0
    cases needed with
    | false =>
      go_enter Try.func55, Try.ntmps55
      go_wp2
      go_ret
      exact ⟨by simp [inr, h0], ab49_⟩
    | true =>
      by_cases h1 : 0 < n
      · have h1b : decide (0 < n) = true := decide_eq_true h1
        by_cases h2 : n < limit
        · have h2b : decide (n < limit) = true := decide_eq_true h2
          go_enter Try.func55, Try.ntmps55
          go_wp2
          go_ret
          exact ⟨by simp [inr, h0]; omega, ab49_⟩
        · have h2b : decide (n < limit) = false := decide_eq_false h2
          go_enter Try.func55, Try.ntmps55
          go_wp2
          go_ret
          exact ⟨by simp [inr, h0]; omega, ab49_⟩
      · have h1b : decide (0 < n) = false := decide_eq_false h1
        go_enter Try.func55, Try.ntmps55
        go_wp2
        go_ret
        exact ⟨by simp [inr, h0]; omega, ab49_⟩
theorem inr_calls {n limit : Int} {needed b : Bool} (w : World) (h : inr n limit needed = b) :
    Calls Try.prog 55 #[.int .i64 n, .int .i64 limit, .bool needed] w fun e w' => e = .returned (.bool b) ∧ Drawn0 w w' := h ▸ impl_stmtValid_1.calls n limit needed w

end Go.Proofs.Ytpifdlpieglhlaa.PA
