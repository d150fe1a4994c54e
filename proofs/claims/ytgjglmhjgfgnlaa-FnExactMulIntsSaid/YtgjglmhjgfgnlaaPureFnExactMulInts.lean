/- MulInts of the program tells what MulInts of the reference tells, of all two whole numbers of 64 bits. -/
import Derived.Test.YtgjglmhjgfgnlaaXPFnExactMulInts
import Derived.OpenShut
import Derived.Laws.Bits64b
namespace Go.Proofs.Ytgjglmhjgfgnlaa.Pure
open Go.RowKit Go.Proofs.Ytgjglmhjgfgnlaa.X Go.Proofs.YtgjglmhjgfgnlaaW.PrintWords Go.Proofs.YtgjglmhjgfgnlaaW.PrintLast

theorem wrap_in (a : Int) (ha : -9223372036854775808 ≤ a ∧ a ≤ 9223372036854775807) : wrap64 a = a := by unfold wrap64; omega
theorem wrap_range (a : Int) : -9223372036854775808 ≤ wrap64 a ∧ wrap64 a ≤ 9223372036854775807 := by unfold wrap64; omega

/-! The reference. -/
theorem spec_mul (a b : Int) (ha : -9223372036854775808 ≤ a ∧ a ≤ 9223372036854775807) (hb : -9223372036854775808 ≤ b ∧ b ≤ 9223372036854775807) :
    spec_MulInts.f a b = if -9223372036854775808 ≤ a * b ∧ a * b ≤ 9223372036854775807 then some (a * b, 0) else some (0, 4) := by
  unfold spec_MulInts.f spec_l12Mul.f
  by_cases ha0 : a = 0
  · subst ha0; simp
  by_cases hb0 : b = 0
  · subst hb0; simp
  rw [if_neg (show ¬ (a = 0 ∨ b = 0) by omega)]
  by_cases hin : -9223372036854775808 ≤ a * b ∧ a * b ≤ 9223372036854775807
  · rw [if_pos hin, wrap_in _ hin, Int.mul_tdiv_cancel _ hb0, wrap_in _ ha]
    have h1 : ¬ (a = -1 ∧ b = -9223372036854775808) := by rintro ⟨rfl, rfl⟩; omega
    have h2 : ¬ (b = -1 ∧ a = -9223372036854775808) := by rintro ⟨rfl, rfl⟩; omega
    rw [if_pos ⟨rfl, h1, h2⟩]; rfl
  · rw [if_neg hin]
    have hneg : ¬ (wrap64 (Int.tdiv (wrap64 (a * b)) b) = a ∧ ¬ (a = -1 ∧ b = -9223372036854775808) ∧ ¬ (b = -1 ∧ a = -9223372036854775808)) := by
      by_cases hb1 : b = -1
      · subst hb1
        have hA : a = -9223372036854775808 := by omega
        subst hA
        simp
      · have hw := wrap_range (a * b)
        generalize wrap64 (a * b) = n at hw
        rintro ⟨he, -⟩
        have hn : (Int.tdiv n b).natAbs = n.natAbs / b.natAbs := Int.natAbs_tdiv n b
        have hle : n.natAbs / b.natAbs ≤ n.natAbs := Nat.div_le_self _ _
        have hr : -9223372036854775808 ≤ Int.tdiv n b ∧ Int.tdiv n b ≤ 9223372036854775807 := by
          by_cases hb2 : b = 1
          · subst hb2; rw [Int.tdiv_one]; exact hw
          · have h2 : n.natAbs / b.natAbs ≤ n.natAbs / 2 := Nat.div_le_div_left (by omega) (by decide)
            omega
        rw [wrap_in _ hr] at he
        have hm : Int.tmod n b = n - b * Int.tdiv n b := Int.tmod_def n b
        rw [he, Int.mul_comm b a] at hm
        have h3 : (Int.tmod n b).natAbs ≤ n.natAbs := by rw [Int.natAbs_tmod]; exact Nat.mod_le _ _
        have h4 : 0 ≤ n → 0 ≤ Int.tmod n b := fun h => Int.tmod_nonneg b h
        have h5 : n ≤ 0 → Int.tmod n b ≤ 0 := fun h => by
          have := Int.tmod_nonneg b (a := -n) (by omega)
          rw [Int.neg_tmod] at this; omega
        omega
    rw [if_neg hneg]; rfl

/-! The program. -/
theorem mul64 (x y : Int) (hx : 0 ≤ x ∧ x ≤ 9223372036854775808) (hy : 0 ≤ y ∧ y ≤ 9223372036854775808) :
    bits_Mul64.f x y = some (x * y / 18446744073709551616, x * y % 18446744073709551616) := by
  have hmask : ∀ z : Int, 0 ≤ z → z < 18446744073709551616 → Go.bits .and .u64 z 4294967295 = z % 4294967296 := by
    intro z h0 h1
    obtain ⟨n, rfl⟩ := Int.eq_ofNat_of_zero_le h0
    have := bits_and_u64_nat n 4294967295 (by omega) (by decide)
    rw [show ((4294967295 : Nat) : Int) = 4294967295 from rfl] at this
    rw [this, show (4294967295 : Nat) = 2 ^ 32 - 1 from rfl, Nat.and_two_pow_sub_one_eq_mod]
    omega
  have hA0 : 0 ≤ x / 4294967296 ∧ x / 4294967296 ≤ 2147483648 := by omega
  have hB0 : 0 ≤ y / 4294967296 ∧ y / 4294967296 ≤ 2147483648 := by omega
  have hC0 : 0 ≤ x % 4294967296 ∧ x % 4294967296 ≤ 4294967295 := by omega
  have hD0 : 0 ≤ y % 4294967296 ∧ y % 4294967296 ≤ 4294967295 := by omega
  have hprod : x * y = (x / 4294967296) * (y / 4294967296) * 18446744073709551616 + ((x / 4294967296) * (y % 4294967296) + (x % 4294967296) * (y / 4294967296)) * 4294967296 + (x % 4294967296) * (y % 4294967296) := by
    have hx' : x = 4294967296 * (x / 4294967296) + x % 4294967296 := by omega
    have hy' : y = 4294967296 * (y / 4294967296) + y % 4294967296 := by omega
    generalize x / 4294967296 = p at *
    generalize x % 4294967296 = q at *
    generalize y / 4294967296 = r at *
    generalize y % 4294967296 = s at *
    subst hx' hy'
    grind
  have bound : ∀ (u v U V : Int), 0 ≤ u → u ≤ U → 0 ≤ v → v ≤ V → 0 ≤ u * v ∧ u * v ≤ U * V := fun u v U V h1 h2 h3 h4 =>
    ⟨Int.mul_nonneg h1 h3, Int.mul_le_mul h2 h4 h3 (by omega)⟩
  have bA := bound _ _ _ _ hA0.1 hA0.2 hB0.1 hB0.2
  have bB := bound _ _ _ _ hA0.1 hA0.2 hD0.1 hD0.2
  have bC := bound _ _ _ _ hC0.1 hC0.2 hB0.1 hB0.2
  have bD := bound _ _ _ _ hC0.1 hC0.2 hD0.1 hD0.2
  unfold bits_Mul64.f
  rw [hmask x hx.1 (by omega), hmask y hy.1 (by omega), hprod]
  generalize (x / 4294967296) * (y / 4294967296) = A at *
  generalize (x / 4294967296) * (y % 4294967296) = B at *
  generalize (x % 4294967296) * (y / 4294967296) = C at *
  generalize (x % 4294967296) * (y % 4294967296) = D at *
  simp only [IntKind.wrap_u64]
  rw [hmask _ (by omega) (by omega)]
  congr 2
  omega
theorem size_is (a : Int) (ha : -9223372036854775808 ≤ a ∧ a ≤ 9223372036854775807) : impl_size.f a = some (if a < 0 then -a else a) := by
  unfold impl_size.f
  simp only [IntKind.wrap_u64]
  split
  · congr 1; omega
  · congr 1; omega
theorem impl_mul (a b : Int) (ha : -9223372036854775808 ≤ a ∧ a ≤ 9223372036854775807) (hb : -9223372036854775808 ≤ b ∧ b ≤ 9223372036854775807) :
    impl_MulInts.f a b = if -9223372036854775808 ≤ a * b ∧ a * b ≤ 9223372036854775807 then some (a * b, 0) else some (0, 4) := by
  have hx : 0 ≤ (if a < 0 then -a else a) ∧ (if a < 0 then -a else a) ≤ 9223372036854775808 := by split <;> omega
  have hy : 0 ≤ (if b < 0 then -b else b) ∧ (if b < 0 then -b else b) ≤ 9223372036854775808 := by split <;> omega
  have hs : ((decide (a < 0)) == (decide (b < 0))) = true ∧ a * b = (if a < 0 then -a else a) * (if b < 0 then -b else b) ∨
      ((decide (a < 0)) == (decide (b < 0))) = false ∧ a * b = -((if a < 0 then -a else a) * (if b < 0 then -b else b)) := by
    by_cases c1 : a < 0 <;> by_cases c2 : b < 0 <;> simp [c1, c2, Int.neg_mul, Int.mul_neg]
  unfold impl_MulInts.f
  rw [size_is a ha, size_is b hb]
  simp only [Option.bind_some]
  rw [mul64 _ _ hx hy]
  have hP := Int.mul_nonneg hx.1 hy.1
  generalize (if a < 0 then -a else a) * (if b < 0 then -b else b) = p at *
  simp only [Option.bind_some]
  generalize ((decide (a < 0)) == (decide (b < 0))) = s at *
  rcases hs with ⟨rfl, e⟩ | ⟨rfl, e⟩
  · rw [e]
    by_cases h0 : p / 18446744073709551616 = 0
    · rw [if_pos h0]
      by_cases h1 : p % 18446744073709551616 > 9223372036854775808
      · rw [if_pos h1, if_neg (by omega)]
      · rw [if_neg h1]
        by_cases h2 : p % 18446744073709551616 = 9223372036854775808
        · rw [if_pos h2, if_pos rfl, if_neg (by omega)]
        · rw [if_neg h2, if_pos (by omega), wrap_in _ (by omega)]
    · rw [if_neg h0, if_neg (by omega)]
  · rw [e]
    by_cases h0 : p / 18446744073709551616 = 0
    · rw [if_pos h0]
      by_cases h1 : p % 18446744073709551616 > 9223372036854775808
      · rw [if_pos h1, if_neg (by omega)]
      · rw [if_neg h1]
        by_cases h2 : p % 18446744073709551616 = 9223372036854775808
        · rw [if_pos h2, if_neg (by decide), if_pos (by omega), wrap_in _ (by omega)]
        · rw [if_neg h2, if_pos (by omega), wrap_in _ (by omega)]
    · rw [if_neg h0, if_neg (by omega)]

theorem FnExactMulInts : laws_FnExactMulInts.Need := by
  intro a b wa wb
  have ha := bounds_i64 wa
  have hb := bounds_i64 wb
  unfold laws_FnExactMulInts.f
  rw [spec_mul a b ha hb, impl_mul a b ha hb]
  split <;> simp

end Go.Proofs.Ytgjglmhjgfgnlaa.Pure
