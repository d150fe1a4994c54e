/- The program's answer to a sign between two values is the reference's answer. -/
import Derived.Test.YthpmephgahngoaaYFnExactBinaryValue0
import Derived.Test.YthpmephgahngoaaYFnExactBinaryValue13
import Derived.Test.YthpmephgahngoaaYFnExactBinaryValue8
import Derived.Test.YthpmephgahngoaaYFnExactBinaryValue2
import Derived.Test.YthpmephgahngoaaYFnExactBinaryValue1
import Derived.Test.YthpmephgahngoaaYFnExactBinaryValue7
import Derived.Test.YthpmephgahngoaaYFnExactBinaryValue6
import Derived.Test.YthpmephgahngoaaYFnExactBinaryValue5
import Derived.Test.YthpmephgahngoaaYFnExactBinaryValue11
import Derived.Test.YthpmephgahngoaaYFnExactBinaryValue12
import Derived.Test.YthpmephgahngoaaYFnExactBinaryValue4
import Derived.Test.YthpmephgahngoaaYFnExactBinaryValue10
import Derived.Test.YthpmephgahngoaaYFnExactBinaryValue3
import Derived.OpenShut
namespace Go.Proofs.Ythpmephgahngoaa.Pure
open Go.RowKit Go.Proofs.Ythpmephgahngoaa.X Go.Proofs.YthpmephgahngoaaW.PrintWords Go.Proofs.YthpmephgahngoaaW.PrintLast
set_option linter.unusedVariables false
set_option linter.unusedSimpArgs false
theorem eqv_refl (a b : Int) (t : ByteArray) : laws_eqValue.f a b t a b t = some true := by unfold laws_eqValue.f; simp
theorem int_beq (p q : Int) : (p == q) = decide (p = q) := by by_cases h : p = q <;> simp [h]
theorem types_same (k : Nat) (hk : 3 ≤ k) (s : ByteArray) (hl : lvl s.toList ≠ 0) (a b : Int) (t : ByteArray) (x y : Int) (u : ByteArray) :
    ∃ T, spec_l12Types.f k s a b t x y u = some T ∧ impl_areKinds.f (lvl s.toList) a b t x y u = some T := by
  obtain ⟨k, rfl⟩ : ∃ m, k = m + 3 := ⟨k - 3, by omega⟩
  have hv : lvl s.toList = 1 ∨ lvl s.toList = 2 ∨ lvl s.toList = 4 ∨ lvl s.toList = 5 ∨ lvl s.toList = 6 := by
    revert hl
    unfold lvl
    split
    · simp
    split
    · simp
    split
    · simp
    split
    · simp
    split <;> simp
  unfold spec_l12Types.f impl_areKinds.f impl_isOf.f
  rw [spec_lvl _ (by omega)]
  simp only [Option.bind_some, spec_l12Types.j0]
  generalize lvl s.toList = L at hv
  clear hl
  rcases hv with rfl | rfl | rfl | rfl | rfl
  case inr.inr.inl =>
    by_cases a0 : a = 0
    · subst a0; exact ⟨_, rfl, rfl⟩
    by_cases x0 : x = 0
    · subst x0; simp [a0]
    by_cases e : a = x
    · subst e; simp [a0]
    · simp [a0, x0, e, Ne.symm e, int_beq]
  all_goals
    by_cases a0 : a = 0 <;> by_cases a1 : a = 1 <;> by_cases a2 : a = 2 <;> by_cases x0 : x = 0 <;> by_cases x1 : x = 1 <;> by_cases x2 : x = 2 <;>
      first | (exfalso; omega) | (simp [a0, a1, a2, x0, x1, x2, int_beq]; done)
theorem logic_same (k k2 : Nat) (hk : 3 ≤ k) (hk2 : 3 ≤ k2) (s : ByteArray) (hl : lvl s.toList = 1 ∨ lvl s.toList = 2) (a b : Int) (t : ByteArray) (x y : Int) (u : ByteArray) :
    ∃ r, spec_l12Logic.f k s a b t x y u = some r ∧ impl_logic.f k2 s a b t x y u = some r := by
  obtain ⟨k, rfl⟩ : ∃ m, k = m + 1 := ⟨k - 1, by omega⟩
  obtain ⟨k2, rfl⟩ : ∃ m, k2 = m + 1 := ⟨k2 - 1, by omega⟩
  have hs : s.toList = [111, 114] ∨ s.toList = [97, 110, 100] := by
    revert hl
    unfold lvl
    split
    · simp_all
    split
    · simp_all
    split
    · simp
    split
    · simp
    split <;> simp
  have hb : ∀ c : Bool, impl_boolValue.f c = some (1, (if c = true then 1 else 0), (⟨#[]⟩ : ByteArray)) := fun c => by cases c <;> rfl
  have hc : ∀ c : Bool, spec_l12Bool.f c = some (1, (if c = true then 1 else 0), (⟨#[]⟩ : ByteArray)) := fun c => by cases c <;> rfl
  unfold spec_l12Logic.f impl_logic.f impl_isBool.f
  simp only [hb, hc, Option.bind_some, spec_l12Logic.j0, impl_logic.j0]
  rcases hs with hs | hs <;> rw [hs] <;> simp only [show ((([111, 114] : List UInt8) == [111, 114]) = true) from rfl, show ((([97, 110, 100] : List UInt8) == [111, 114]) = false) from rfl,
    show ((([111, 114] : List UInt8) == [97, 110, 100]) = false) from rfl, show ((([97, 110, 100] : List UInt8) == [97, 110, 100]) = true) from rfl, Bool.not_true, Bool.not_false]
  all_goals
    (repeat' split) <;> first | exact ⟨_, rfl, rfl⟩ | (exfalso; simp_all; done)
theorem arith_same (s : ByteArray) (a x : Int) (ha : -9223372036854775808 ≤ a ∧ a ≤ 9223372036854775807) (hx : -9223372036854775808 ≤ x ∧ x ≤ 9223372036854775807) (k : Nat) (b' : Int × ByteArray)
    (hl : lvl s.toList = 5 ∨ lvl s.toList = 6) (p q : Int) (t u : ByteArray) :
    ∃ r, spec_l12Binary.j0 (k + 3) s false p a t q x u = some r ∧
      ((impl_arithmetic.f s a x).bind fun bt114 => (if bt114.2 = 0 then (some (2, bt114.1, (⟨#[]⟩ : ByteArray), 0)) else (some (0, 0, (⟨#[]⟩ : ByteArray), bt114.2)))) = some r := by
  rw [spec_l12Binary.j0, if_neg (by decide), spec_lvl _ (by omega)]
  unfold impl_arithmetic.f spec_l12Int.f spec_l12Least.f
  simp only [Option.bind_some]
  rw [if_neg (by omega)]
  have hs : s.toList = [43] ∨ s.toList = [45] ∨ s.toList = [42] ∨ s.toList = [47] ∨ s.toList = [37] := by
    revert hl
    unfold lvl
    split
    · simp
    split
    · simp
    split
    · simp
    split
    · rename_i h; intro _; rcases h with h | h <;> simp [h]
    split
    · rename_i h; intro _; rcases h with h | h | h <;> simp [h]
    · simp
  clear hl
  have hadd : ∀ y, -9223372036854775808 ≤ y ∧ y ≤ 9223372036854775807 → spec_AddInts.f a y = impl_AddInts.f a y := fun y hy => by rw [spec_add a y ha hy, impl_add a y ha hy]
  have two : ∀ o : Option (Int × Int), (∃ v, o = some v) → ∃ r, (o.bind fun bt114 => if bt114.2 = 0 then (some bt114.1).bind fun bt116 => some (2, bt116, (⟨#[]⟩ : ByteArray), (0 : Int)) else some (0, 0, (⟨#[]⟩ : ByteArray), bt114.2)) = some r ∧
      ((o.bind fun bt => some (bt.1, bt.2)).bind fun bt114 => if bt114.2 = 0 then some (2, bt114.1, (⟨#[]⟩ : ByteArray), 0) else some (0, 0, (⟨#[]⟩ : ByteArray), bt114.2)) = some r := by
    rintro _ ⟨v, rfl⟩
    simp only [Option.bind_some]
    by_cases h : v.2 = 0
    · rw [if_pos h]; exact ⟨_, rfl, rfl⟩
    · rw [if_neg h]; exact ⟨_, rfl, rfl⟩
  have addS : ∀ y, -9223372036854775808 ≤ y ∧ y ≤ 9223372036854775807 → ∃ v, impl_AddInts.f a y = some v := fun y hy => by
    rw [impl_add a y ha hy]; split <;> exact ⟨_, rfl⟩
  have mulS : ∃ v, impl_MulInts.f a x = some v := by rw [impl_mul a x ha hx]; split <;> exact ⟨_, rfl⟩
  rcases hs with hs | hs | hs | hs | hs <;> rw [hs]
  · rw [if_pos rfl, if_pos rfl, hadd x hx]
    obtain ⟨v, e⟩ := addS x hx
    rw [e]; simp only [Option.bind_some]
    by_cases h : v.2 = 0
    · rw [if_pos h]; exact ⟨_, rfl, rfl⟩
    · rw [if_neg h]; exact ⟨_, rfl, rfl⟩
  · rw [if_neg (show ¬ ([45] : List UInt8) = [43] by decide), if_pos (show ([45] : List UInt8) = [45] from rfl), if_neg (show ¬ ([45] : List UInt8) = [43] by decide), if_pos (show ([45] : List UInt8) = [45] from rfl)]
    by_cases hm : x = -9223372036854775808
    · rw [if_pos hm, if_pos hm]
      by_cases h : a < 0
      · rw [if_neg (show ¬ a ≥ 0 by omega), if_pos h]; exact ⟨_, rfl, rfl⟩
      · rw [if_pos (show a ≥ 0 by omega), if_neg h]; exact ⟨_, rfl, rfl⟩
    · rw [if_neg hm, if_neg hm, hadd _ (wrap_range _)]
      obtain ⟨v, e⟩ := addS _ (wrap_range (-x))
      rw [e]; simp only [Option.bind_some]
      by_cases h : v.2 = 0
      · rw [if_pos h]; exact ⟨_, rfl, rfl⟩
      · rw [if_neg h]; exact ⟨_, rfl, rfl⟩
  · rw [if_neg (show ¬ ([42] : List UInt8) = [43] by decide), if_neg (show ¬ ([42] : List UInt8) = [45] by decide), if_pos (show ([42] : List UInt8) = [42] from rfl), if_neg (show ¬ ([42] : List UInt8) = [43] by decide), if_neg (show ¬ ([42] : List UInt8) = [45] by decide), if_pos (show ([42] : List UInt8) = [42] from rfl), spec_mul a x ha hx, ← impl_mul a x ha hx]
    obtain ⟨v, e⟩ := mulS
    rw [e]; simp only [Option.bind_some]
    by_cases h : v.2 = 0
    · rw [if_pos h]; exact ⟨_, rfl, rfl⟩
    · rw [if_neg h]; exact ⟨_, rfl, rfl⟩
  · rw [if_neg (show ¬ ([47] : List UInt8) = [43] by decide), if_neg (show ¬ ([47] : List UInt8) = [45] by decide), if_neg (show ¬ ([47] : List UInt8) = [42] by decide), if_pos (show ([47] : List UInt8) = [47] from rfl), if_neg (show ¬ ([47] : List UInt8) = [43] by decide), if_neg (show ¬ ([47] : List UInt8) = [45] by decide), if_neg (show ¬ ([47] : List UInt8) = [42] by decide), if_neg (show ¬ ([47] : List UInt8) = [37] by decide)]
    by_cases h0 : x = 0
    · subst h0
      rw [show spec_DivInts.f a 0 = some (0, 0, 13) from rfl, show impl_DivInts.f a 0 = some (0, 0, 13) from rfl]; exact ⟨_, rfl, rfl⟩
    by_cases h1 : a = -9223372036854775808 ∧ x = -1
    · obtain ⟨rfl, rfl⟩ := h1
      rw [show spec_DivInts.f (-9223372036854775808) (-1) = some (0, 0, 4) from rfl, show impl_DivInts.f (-9223372036854775808) (-1) = some (0, 0, 4) from rfl]; exact ⟨_, rfl, rfl⟩
    rw [spec_div a x ha hx h0 h1, impl_div a x ha hx h0 h1]; exact ⟨_, rfl, rfl⟩
  · rw [if_neg (show ¬ ([37] : List UInt8) = [43] by decide), if_neg (show ¬ ([37] : List UInt8) = [45] by decide), if_neg (show ¬ ([37] : List UInt8) = [42] by decide), if_neg (show ¬ ([37] : List UInt8) = [47] by decide), if_neg (show ¬ ([37] : List UInt8) = [43] by decide), if_neg (show ¬ ([37] : List UInt8) = [45] by decide), if_neg (show ¬ ([37] : List UInt8) = [42] by decide), if_pos (show ([37] : List UInt8) = [37] from rfl)]
    by_cases h0 : x = 0
    · subst h0
      rw [show spec_DivInts.f a 0 = some (0, 0, 13) from rfl, if_neg (by decide), show impl_DivInts.f a 0 = some (0, 0, 13) from rfl]; exact ⟨_, rfl, rfl⟩
    by_cases h1 : a = -9223372036854775808 ∧ x = -1
    · obtain ⟨rfl, rfl⟩ := h1
      rw [show spec_DivInts.f (-9223372036854775808) (-1) = some (0, 0, 4) from rfl, if_pos rfl]; exact ⟨_, rfl, rfl⟩
    rw [spec_div a x ha hx h0 h1]
    by_cases h2 : x = -1
    · subst h2
      rw [if_pos rfl]
      exact ⟨_, rfl, by rw [Int.tmod_neg, Int.tmod_one]; rfl⟩
    · rw [if_neg h2, impl_div a x ha hx h0 h1]; exact ⟨_, rfl, rfl⟩
theorem binary_same (k k2 : Nat) (s : ByteArray) (hl : lvl s.toList ≠ 0) (a b : Int) (t : ByteArray) (x y : Int) (u : ByteArray) (hb : -9223372036854775808 ≤ b ∧ b ≤ 9223372036854775807) (hy : -9223372036854775808 ≤ y ∧ y ≤ 9223372036854775807) :
    (spec_l12Types.f (k + 20) s a b t x y u = some false ∧ impl_binaryValue.f (k2 + 20) s a b t x y u = some (0, 0, (⟨#[]⟩ : ByteArray), 10)) ∨
    ∃ r, spec_l12Types.f (k + 20) s a b t x y u = some true ∧ spec_l12Binary.f (k + 20) s a b t x y u = some r ∧ impl_binaryValue.f (k2 + 20) s a b t x y u = some r := by
  obtain ⟨T, e1, e2⟩ := types_same (k + 20) (by omega) s hl a b t x y u
  cases T with
  | false => exact .inl ⟨e1, by unfold impl_binaryValue.f; rw [impl_lvl _ (by omega), Option.bind_some, e2, Option.bind_some, if_neg (by decide)]⟩
  | true =>
    refine .inr ?_
    unfold spec_l12Binary.f impl_binaryValue.f
    rw [impl_lvl _ (by omega), Option.bind_some, e2, Option.bind_some, if_pos rfl, spec_lvl _ (by omega), Option.bind_some]
    have hv : lvl s.toList = 1 ∨ lvl s.toList = 2 ∨ lvl s.toList = 4 ∨ lvl s.toList = 5 ∨ lvl s.toList = 6 := by
      revert hl
      unfold lvl
      split
      · simp
      split
      · simp
      split
      · simp
      split
      · simp
      split <;> simp
    by_cases h3 : lvl s.toList < 3
    · obtain ⟨r, f1, f2⟩ := logic_same (k + 20) (k2 + 20) (by omega) (by omega) s (by omega) a b t x y u
      rw [if_pos h3, if_pos (show lvl s.toList < 4 by omega), f1, f2]
      exact ⟨_, e1, rfl, rfl⟩
    · rw [if_neg h3, if_neg (show ¬ lvl s.toList < 4 by omega)]
      have nul : ∃ r, spec_l12Binary.j0 (k + 20) s true a b t x y u = some r ∧ impl_binaryValue.j0 (k2 + 20) s (lvl s.toList) true a b t x y u = some r := by
        simp only [spec_l12Binary.j0, impl_binaryValue.j0, if_true]
        exact ⟨_, rfl, rfl⟩
      have non : ∃ r, spec_l12Binary.j0 (k + 20) s false a b t x y u = some r ∧ impl_binaryValue.j0 (k2 + 20) s (lvl s.toList) false a b t x y u = some r := by
        by_cases h4 : lvl s.toList = 4
        · rw [spec_l12Binary.j0, if_neg (by decide), spec_lvl _ (by omega), Option.bind_some, if_pos h4, impl_binaryValue.j0, if_neg (by decide), if_pos h4, spec_cmp, impl_cmp _ (by omega)]
          simp only [Option.bind_some]
          have hsame : ∀ n, impl_compared.f s n = spec_l12Compared.f s n := fun n => rfl
          have hsome : ∀ n, ∃ c, spec_l12Compared.f s n = some c := fun n => by
            unfold spec_l12Compared.f
            split
            · exact ⟨_, rfl⟩
            split
            · exact ⟨_, rfl⟩
            split
            · exact ⟨_, rfl⟩
            split
            · exact ⟨_, rfl⟩
            split <;> exact ⟨_, rfl⟩
          rw [hsame]
          obtain ⟨c, e⟩ := hsome (cmpVal (a, b, t) (x, y, u))
          rw [e, Option.bind_some, Option.bind_some]
          cases c <;> exact ⟨_, rfl, rfl⟩
        · obtain ⟨r, f1, f2⟩ := arith_same s b y hb hy (k + 17) (0, t) (by omega) a x t u
          refine ⟨r, f1, ?_⟩
          rw [impl_binaryValue.j0, if_neg (by decide), if_neg h4]
          exact f2
      by_cases ha : a = 0
      · rw [if_pos ha, if_pos ha]
        obtain ⟨r, f1, f2⟩ := nul
        exact ⟨r, e1, f1, f2⟩
      · rw [if_neg ha, if_neg ha]
        cases hc : (x == 0) with
        | true => obtain ⟨r, f1, f2⟩ := nul; exact ⟨r, e1, f1, f2⟩
        | false => obtain ⟨r, f1, f2⟩ := non; exact ⟨r, e1, f1, f2⟩
theorem answer_same (k : Nat) (s : ByteArray) (a b : Int) (t : ByteArray) (x y : Int) (u : ByteArray) (hb : -9223372036854775808 ≤ b ∧ b ≤ 9223372036854775807) (hy : -9223372036854775808 ≤ y ∧ y ≤ 9223372036854775807) :
    ∃ r, spec_BinaryValue.f (k + 21) s a b t x y u = some r ∧ impl_BinaryValue.f (k + 21) s a b t x y u = some r := by
  unfold spec_BinaryValue.f impl_BinaryValue.f impl_areLong.f
  simp only [Option.bind_some, List.any_cons, List.any_nil, Bool.or_false, decide_eq_true_eq, spec_vok, impl_vok]
  by_cases hs : (s.size : Int) > 65536
  · rw [if_pos hs, if_pos (show 65536 < (s.size : Int) by omega)]; exact ⟨_, rfl, rfl⟩
  rw [if_neg hs, if_neg (show ¬ 65536 < (s.size : Int) by omega)]
  cases h1 : vok a b t with
  | false =>
    rw [if_neg (by decide), if_neg (by decide), spec_BinaryValue.j0, if_pos rfl]; exact ⟨_, rfl, rfl⟩
  | true =>
    rw [if_pos rfl, if_pos rfl]
    cases h2 : vok x y u with
    | false => rw [if_neg (by decide), if_neg (by decide), spec_BinaryValue.j0, if_pos rfl]; exact ⟨_, rfl, rfl⟩
    | true =>
      rw [if_pos rfl, if_pos rfl, spec_lvl _ (by omega), impl_lvl _ (by omega), Option.bind_some, Option.bind_some]
      by_cases hl : lvl s.toList = 0
      · rw [if_pos hl, hl, spec_BinaryValue.j0, if_pos (show ((0 : Int) == 0) = true from rfl)]; exact ⟨_, rfl, rfl⟩
      rw [if_neg hl, show (lvl s.toList == 0) = false by simpa using hl, spec_BinaryValue.j0, if_neg (by decide)]
      rcases binary_same k (k + 1) s hl a b t x y u hb hy with ⟨f1, f2⟩ | ⟨r, f1, f2, f3⟩
      · rw [f1, show k + 21 = k + 1 + 20 by omega, f2]; exact ⟨_, rfl, rfl⟩
      · rw [f1, show k + 21 = k + 1 + 20 by omega, f3, Option.bind_some, if_pos rfl, f2]; exact ⟨_, rfl, rfl⟩
theorem FnExactBinaryValue : laws_FnExactBinaryValue.Need := by
  intro s a b t x y u _ ha hb ht hx hy hu
  refine ⟨21, ?_⟩
  unfold laws_FnExactBinaryValue.f laws_toValue.f
  simp only [Option.bind_some]
  split
  · rfl
  have sz : ∀ p q (t : ByteArray) n, ∃ m, laws_szValue.f p q t n = some m := fun p q t n => by unfold laws_szValue.f; split <;> exact ⟨_, rfl⟩
  obtain ⟨m, e⟩ := sz a b t 1048576
  rw [e, Option.bind_some]
  split
  · rfl
  obtain ⟨n, e'⟩ := sz x y u m
  rw [e', Option.bind_some]
  split
  · rfl
  obtain ⟨r, f1, f2⟩ := answer_same 0 s a b t x y u (i64_of hb) (i64_of hy)
  rw [f1, f2, Option.bind_some, Option.bind_some, eqv_refl, Option.bind_some, if_pos rfl, if_pos rfl]
end Go.Proofs.Ythpmephgahngoaa.Pure
