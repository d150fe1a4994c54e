-- WRITTEN BY xprint.py, a program of this session, over the translation of the seat. Lean checks it.
import Derived.Test.YtgjglmhjgfgnlaaX0
namespace Go.Proofs.Ytgjglmhjgfgnlaa.X
open Go.RowKit Go.Proofs.YtgjglmhjgfgnlaaW.PrintWords Go.Proofs.YtgjglmhjgfgnlaaW.PrintLast Go.Proofs.YtgjglmhjgfgnlaaW.PrintMore
attribute [local go_sem] max2_int min2_int max_two min_two max_three min_three max_four min_four   -- for this text's walks alone
set_option linter.unusedVariables false
set_option linter.unusedSimpArgs false

/-! ### spec_l12Least: function 36 -/
def spec_l12Least.f  : Option (Int) := some (-9223372036854775808)
set_option maxHeartbeats 8000000 in
set_option maxRecDepth 100000 in
theorem spec_l12Least.calls  (r : Int) (w : World) (h : spec_l12Least.f  = some r) :
    Calls Try.prog 36 #[] w fun e w' => e = .returned (.int .i64 r) ∧ Drawn0 w w' := by
  have H : (some (-9223372036854775808)) = some r := h
  clear h
  obtain rfl := Option.some.inj H
  go_enter Try.func36, Try.ntmps36
  go_wp2
  go_ret
  exact ⟨by first | rfl | (simp; done) | (simp [*]; done), by repeat (first | exact Drawn0.refl _ | apply Drawn0.step)⟩

end Go.Proofs.Ytgjglmhjgfgnlaa.X
