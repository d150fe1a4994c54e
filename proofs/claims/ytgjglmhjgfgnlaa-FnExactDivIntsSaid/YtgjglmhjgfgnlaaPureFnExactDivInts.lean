/- DivInts of the program tells what DivInts of the reference tells, of all two whole numbers of 64 bits. -/
import Derived.Test.YtgjglmhjgfgnlaaPFnExactDivIntsx1
import Derived.OpenShut
namespace Go.Proofs.Ytgjglmhjgfgnlaa.Pure
open Go.RowKit Go.Proofs.Ytgjglmhjgfgnlaa.PFnExactDivInts Go.Proofs.YtgjglmhjgfgnlaaW.PrintWords Go.Proofs.YtgjglmhjgfgnlaaW.PrintLast

theorem wrap_in (a : Int) (ha : -9223372036854775808 ≤ a ∧ a ≤ 9223372036854775807) : wrap64 a = a := by unfold wrap64; omega
theorem tdiv_range (a b : Int) (ha : -9223372036854775808 ≤ a ∧ a ≤ 9223372036854775807) (h0 : b ≠ 0) (h1 : ¬ (a = -9223372036854775808 ∧ b = -1)) :
    -9223372036854775808 ≤ Int.tdiv a b ∧ Int.tdiv a b ≤ 9223372036854775807 := by
  have hn : (Int.tdiv a b).natAbs = a.natAbs / b.natAbs := Int.natAbs_tdiv a b
  by_cases hb1 : b = -1
  · subst hb1
    have : Int.tdiv a (-1) = -a := by rw [Int.tdiv_neg, Int.tdiv_one]
    rw [this]; omega
  · by_cases hb2 : b = 1
    · subst hb2; rw [Int.tdiv_one]; exact ha
    · have h2 : a.natAbs / b.natAbs ≤ a.natAbs / 2 := Nat.div_le_div_left (by omega) (by decide)
      omega
theorem FnExactDivInts : laws_FnExactDivInts.Pure := by
  intro a b wa wb
  have ha := bounds_i64 wa
  have hb := bounds_i64 wb
  unfold laws_FnExactDivInts.f
  by_cases h0 : b = 0
  · subst h0
    unfold spec_DivInts.f impl_DivInts.f
    simp
  by_cases h1 : a = -9223372036854775808 ∧ b = -1
  · obtain ⟨rfl, rfl⟩ := h1
    unfold spec_DivInts.f impl_DivInts.f spec_l12Least.f
    simp
  have hs : spec_DivInts.f a b = some (Int.tdiv a b, Int.tmod a b, 0) := by
    have hr := tdiv_range a b ha h0 h1
    have hm : Int.tmod a b = a - Int.tdiv a b * b := by rw [Int.tmod_def, Int.mul_comm]
    have hprod : wrap64 (Int.tdiv a b * b) = Int.tdiv a b * b ∧ wrap64 (a - Int.tdiv a b * b) = Int.tmod a b := by
      have h3 : (Int.tmod a b).natAbs ≤ a.natAbs := by
        rw [Int.natAbs_tmod]; exact Nat.mod_le _ _
      have h4 : 0 ≤ a → 0 ≤ Int.tmod a b := fun h => Int.tmod_nonneg b h
      have h5 : a ≤ 0 → Int.tmod a b ≤ 0 := fun h => by
        have := Int.tmod_nonneg b (a := -a) (by omega)
        rw [Int.neg_tmod] at this; omega
      have h6 : Int.tdiv a b * b = a - Int.tmod a b := by omega
      rw [h6]
      refine ⟨wrap_in _ (by omega), ?_⟩
      rw [show a - (a - Int.tmod a b) = Int.tmod a b by omega]; exact wrap_in _ (by omega)
    unfold spec_DivInts.f spec_l12Least.f
    rw [if_neg h0, wrap_in _ hr, hprod.1, hprod.2]
    by_cases h2 : b = -1
    · rw [if_pos h2]; simp only [Option.bind_some]; rw [if_neg (by omega)]
    · rw [if_neg h2]
  have hi : impl_DivInts.f a b = some (Int.tdiv a b, Int.tmod a b, 0) := by
    have hr := tdiv_range a b ha h0 h1
    unfold impl_DivInts.f
    rw [if_neg h0, wrap_in _ hr]
    by_cases h2 : a = -9223372036854775808
    · rw [if_pos h2, if_neg (by omega)]
    · rw [if_neg h2]
  rw [hs, hi]; simp

end Go.Proofs.Ytgjglmhjgfgnlaa.Pure
