-- WRITTEN BY xprint.py, a program of this session, over the translation of the seat. Lean checks it.
import Derived.Test.YtgjglmhjgfgnlaaX0
namespace Go.Proofs.Ytgjglmhjgfgnlaa.X
open Go.RowKit Go.Proofs.YtgjglmhjgfgnlaaW.PrintWords Go.Proofs.YtgjglmhjgfgnlaaW.PrintLast Go.Proofs.YtgjglmhjgfgnlaaW.PrintMore
attribute [local go_sem] max2_int min2_int max_two min_two max_three min_three max_four min_four   -- for this text's walks alone
set_option linter.unusedVariables false
set_option linter.unusedSimpArgs false

/-! ### spec_l12Mul: function 37 -/
def spec_l12Mul.f (a0 a1 : Int) : Option (Int × Bool) :=
  if a0 = 0 ∨ a1 = 0 then some (0, true)
  else if wrap64 (Int.tdiv (wrap64 (a0 * a1)) a1) = a0 ∧ ¬ (a0 = -1 ∧ a1 = -9223372036854775808) ∧ ¬ (a1 = -1 ∧ a0 = -9223372036854775808) then some (wrap64 (a0 * a1), true) else some (0, false)
set_option maxHeartbeats 1000000 in
theorem spec_l12Mul.calls (a0 a1 : Int) (r1 : Int) (r2 : Bool) (w : World) (h : spec_l12Mul.f a0 a1 = some (r1, r2)) :
    Calls Try.prog 37 #[.int .i64 a0, .int .i64 a1] w fun e w' => e = .returned (.tuple #[.int .i64 r1, .bool r2]) ∧ Drawn0 w w' := by
  have H := Aside0.mk h
  clear h
  by_cases h0 : a0 = 0
  · have hh : (a0 == 0) = true := by simpa using h0
    have e := H.out; simp only [spec_l12Mul.f, h0, true_or, if_true, Option.some.injEq, Prod.mk.injEq] at e
    obtain ⟨rfl, rfl⟩ := e
    clear h0 H
    go_enter Try.func37, Try.ntmps37
    go_wp2
    go_ret2
    exact ⟨rfl, Drawn0.refl _⟩
  by_cases h1 : a1 = 0
  · have hh : (a0 == 0) = false := by simpa using h0
    have hh1 : (a1 == 0) = true := by simpa using h1
    have e := H.out; simp only [spec_l12Mul.f, h1, or_true, if_true, Option.some.injEq, Prod.mk.injEq] at e
    obtain ⟨rfl, rfl⟩ := e
    clear h0 h1 H
    go_enter Try.func37, Try.ntmps37
    go_wp2
    go_ret2
    exact ⟨rfl, Drawn0.refl _⟩
  have e := H.out
  simp only [spec_l12Mul.f, h0, h1, or_self, if_false] at e
  have c6b0 : (a1 == 0) = false := beq_eq_false_iff_ne.mpr h1
  have c6b1 : (a1 != 0) = true := bne_iff_ne.mpr h1
  have c5b0 : (a0 == 0) = false := beq_eq_false_iff_ne.mpr h0
  have E := Aside0.mk e
  clear e H
  go_enter Try.func37, Try.ntmps37
  go_wp2
  all_goals
    go_ret2
    refine ⟨?_, by repeat (first | exact Drawn0.refl _ | apply Drawn0.step)⟩
    have e := E.out
    clear E
    simp_all

end Go.Proofs.Ytgjglmhjgfgnlaa.X
