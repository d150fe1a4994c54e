/- AddInts of the program tells what AddInts of the reference tells, of all two whole numbers of 64 bits. -/
import Derived.Test.YtgjglmhjgfgnlaaPFnExactAddIntsx1
import Derived.OpenShut
namespace Go.Proofs.Ytgjglmhjgfgnlaa.Pure
open Go.RowKit Go.Proofs.Ytgjglmhjgfgnlaa.PFnExactAddInts Go.Proofs.YtgjglmhjgfgnlaaW.PrintWords Go.Proofs.YtgjglmhjgfgnlaaW.PrintLast

theorem wrap_sum (a b : Int) (ha : -9223372036854775808 ≤ a ∧ a ≤ 9223372036854775807) (hb : -9223372036854775808 ≤ b ∧ b ≤ 9223372036854775807) :
    (a + b > 9223372036854775807 ∧ wrap64 (a + b) = a + b - 18446744073709551616) ∨ (a + b < -9223372036854775808 ∧ wrap64 (a + b) = a + b + 18446744073709551616) ∨
    (-9223372036854775808 ≤ a + b ∧ a + b ≤ 9223372036854775807 ∧ wrap64 (a + b) = a + b) := by
  unfold wrap64; omega
theorem spec_add (a b : Int) (ha : -9223372036854775808 ≤ a ∧ a ≤ 9223372036854775807) (hb : -9223372036854775808 ≤ b ∧ b ≤ 9223372036854775807) :
    spec_AddInts.f a b = if -9223372036854775808 ≤ a + b ∧ a + b ≤ 9223372036854775807 then some (a + b, 0) else some (0, 4) := by
  have h := wrap_sum a b ha hb
  unfold spec_AddInts.f spec_l12Add.f
  rcases h with ⟨h1, h2⟩ | ⟨h1, h2⟩ | ⟨h1, h2, h3⟩
  · rw [h2, if_neg (show ¬ (-9223372036854775808 ≤ a + b ∧ a + b ≤ 9223372036854775807) by omega), if_pos (show a > 0 by omega), if_pos (show b > 0 by omega), if_pos (by omega)]; rfl
  · rw [h2, if_neg (show ¬ (-9223372036854775808 ≤ a + b ∧ a + b ≤ 9223372036854775807) by omega), if_neg (show ¬ a > 0 by omega), if_pos (show a < 0 by omega), if_pos (show b < 0 by omega)]
    have : decide (a + b + 18446744073709551616 ≥ 0) = true := by simp; omega
    simp [this]
  · rw [h3, if_pos (show -9223372036854775808 ≤ a + b ∧ a + b ≤ 9223372036854775807 by omega)]
    by_cases c1 : a > 0
    · rw [if_pos c1]
      by_cases c2 : b > 0
      · rw [if_pos c2, if_neg (by omega), if_neg (by omega)]; rfl
      · rw [if_neg c2, if_neg (by omega)]; rfl
    · rw [if_neg c1]
      by_cases c3 : a < 0
      · rw [if_pos c3]
        by_cases c4 : b < 0
        · rw [if_pos c4]
          have : decide (a + b ≥ 0) = false := by simp; omega
          simp [this]
        · rw [if_neg c4]; rfl
      · rw [if_neg c3]; rfl
theorem impl_add (a b : Int) (ha : -9223372036854775808 ≤ a ∧ a ≤ 9223372036854775807) (hb : -9223372036854775808 ≤ b ∧ b ≤ 9223372036854775807) :
    impl_AddInts.f a b = if -9223372036854775808 ≤ a + b ∧ a + b ≤ 9223372036854775807 then some (a + b, 0) else some (0, 4) := by
  have h := wrap_sum a b ha hb
  unfold impl_AddInts.f
  rcases h with ⟨h1, h2⟩ | ⟨h1, h2⟩ | ⟨h1, h2, h3⟩
  · rw [h2, if_neg (show ¬ (-9223372036854775808 ≤ a + b ∧ a + b ≤ 9223372036854775807) by omega), if_neg]
    rw [decide_eq_false (show ¬ (a + b - 18446744073709551616 > a) by omega), decide_eq_true (show b > 0 by omega)]; decide
  · rw [h2, if_neg (show ¬ (-9223372036854775808 ≤ a + b ∧ a + b ≤ 9223372036854775807) by omega), if_neg]
    rw [decide_eq_true (show (a + b + 18446744073709551616 > a) by omega), decide_eq_false (show ¬ b > 0 by omega)]; decide
  · rw [h3, if_pos (show -9223372036854775808 ≤ a + b ∧ a + b ≤ 9223372036854775807 by omega), if_pos]
    rw [beq_iff_eq, decide_eq_decide]; omega

theorem FnExactAddInts : laws_FnExactAddInts.Pure := by
  intro a b wa wb
  have ha := bounds_i64 wa
  have hb := bounds_i64 wb
  unfold laws_FnExactAddInts.f
  rw [spec_add a b ha hb, impl_add a b ha hb]
  split <;> simp

end Go.Proofs.Ytgjglmhjgfgnlaa.Pure
