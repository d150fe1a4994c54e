/- Sums, products and quotients of the program are right or out of range, whatever two numbers are drawn. -/
import Derived.Test.YtgjglmhjgfgnlaaYFnArith0
import Derived.Test.YtgjglmhjgfgnlaaYFnArith1
import Derived.OpenShut
namespace Go.Proofs.Ytgjglmhjgfgnlaa.Pure
open Go.RowKit Go.Proofs.Ytgjglmhjgfgnlaa.X Go.Proofs.YtgjglmhjgfgnlaaW.PrintWords Go.Proofs.YtgjglmhjgfgnlaaW.PrintLast
set_option linter.unusedVariables false
set_option linter.unusedSimpArgs false
theorem FnArith : laws_FnArith.Need := by
  rintro c m ⟨hc, wc⟩ ⟨hm, wm⟩
  refine ⟨4, ?_⟩
  unfold laws_FnArith.f
  have hj : ∀ b, laws_FnArith.j0 4 c m b = some true := by
    intro b
    simp only [laws_FnArith.j0]
    cases b with
    | true => rfl
    | false =>
      rw [if_neg (by decide)]
      obtain ⟨_, a, _, e1, _, ha, _⟩ := value_of wc 2
      obtain ⟨_, b, _, e2, _, hb, _⟩ := value_of wm 2
      rw [e1, e2]
      simp only [Option.bind_some]
      rw [impl_add a b ha hb, spec_add a b ha hb, impl_mul a b ha hb, spec_mul a b ha hb]
      have hd : ∃ q r e, impl_DivInts.f a b = some (q, r, e) ∧ laws_FnArith.j1 3 a b q r e false = some true := by
        by_cases h0 : b = 0
        · subst h0
          exact ⟨0, 0, 13, by unfold impl_DivInts.f; rfl, by simp only [laws_FnArith.j1]; rfl⟩
        by_cases h1 : a = -9223372036854775808 ∧ b = -1
        · obtain ⟨rfl, rfl⟩ := h1
          exact ⟨0, 0, 4, by unfold impl_DivInts.f; rfl, by simp only [laws_FnArith.j1]; rfl⟩
        refine ⟨_, _, _, impl_div a b ha hb h0 h1, ?_⟩
        have hr := tdiv_range a b ha h0 h1
        have hm : Int.tmod a b = a - Int.tdiv a b * b := by rw [Int.tmod_def, Int.mul_comm]
        have h3 : (Int.tmod a b).natAbs ≤ a.natAbs := by rw [Int.natAbs_tmod]; exact Nat.mod_le _ _
        have h3' : (Int.tmod a b).natAbs < b.natAbs := by rw [Int.natAbs_tmod]; exact Nat.mod_lt _ (by omega)
        have h4 : 0 ≤ a → 0 ≤ Int.tmod a b := fun h => Int.tmod_nonneg b h
        have h5 : a ≤ 0 → Int.tmod a b ≤ 0 := fun h => by
          have := Int.tmod_nonneg b (a := -a) (by omega)
          rw [Int.neg_tmod] at this; omega
        have h6 : Int.tdiv a b * b = a - Int.tmod a b := by omega
        simp only [laws_FnArith.j1]
        rw [h6]
        generalize Int.tmod a b = r at *
        clear hm h6
        rw [wrap_in (a - r) (by omega), wrap_in (a - r + r) (by omega), if_neg (by decide), if_neg h0, if_pos trivial, if_pos (by omega)]
        have hmx : ∀ x : Int, -9223372036854775808 < x → x ≤ 9223372036854775807 → mx x (wrap64 (-x)) = (x.natAbs : Int) := fun x h h' => by
          rw [wrap_in (-x) (by omega)]; unfold mx; omega
        have hmin : b ≠ -9223372036854775808 → (mx r (wrap64 (-r))) < (mx b (wrap64 (-b))) := fun h => by
          rw [hmx r (by omega) (by omega), hmx b (by omega) (by omega)]; omega
        have hlast : (if (mx r (wrap64 (-r))) < (mx b (wrap64 (-b))) then some true else if b = -9223372036854775808 then some (a - r + r == a) else some false) = some true := by
          by_cases hb' : b = -9223372036854775808
          · split
            · rfl
            · rw [show a - r + r = a by omega]; simp
          · rw [if_pos (hmin hb')]
        rw [hlast]
        split
        · rfl
        · rw [if_pos]
          rw [beq_iff_eq, decide_eq_decide]; omega
      obtain ⟨q, r, e, hq, hj⟩ := hd
      have hsum : (if -9223372036854775808 ≤ a + b ∧ a + b ≤ 9223372036854775807 then some (a + b, (0 : Int)) else some (0, 4)) = some (a + b, 0) ∧ (-9223372036854775808 ≤ a + b ∧ a + b ≤ 9223372036854775807) ∨
          (if -9223372036854775808 ≤ a + b ∧ a + b ≤ 9223372036854775807 then some (a + b, (0 : Int)) else some (0, 4)) = some (0, 4) := by
        by_cases h : -9223372036854775808 ≤ a + b ∧ a + b ≤ 9223372036854775807
        · exact .inl ⟨by rw [if_pos h], h⟩
        · exact .inr (by rw [if_neg h])
      have hmul : (if -9223372036854775808 ≤ a * b ∧ a * b ≤ 9223372036854775807 then some (a * b, (0 : Int)) else some (0, 4)) = some (a * b, 0) ∧ (-9223372036854775808 ≤ a * b ∧ a * b ≤ 9223372036854775807) ∨
          (if -9223372036854775808 ≤ a * b ∧ a * b ≤ 9223372036854775807 then some (a * b, (0 : Int)) else some (0, 4)) = some (0, 4) := by
        by_cases h : -9223372036854775808 ≤ a * b ∧ a * b ≤ 9223372036854775807
        · exact .inl ⟨by rw [if_pos h], h⟩
        · exact .inr (by rw [if_neg h])
      have hp : b ≠ 0 → (wrap64 (Int.tdiv (a * b) b) != a) = false := fun h => by
        rw [Int.mul_tdiv_cancel _ h, wrap_in a ha]; simp
      rw [hq]
      rcases hsum with ⟨e1, hs⟩ | e1 <;> rcases hmul with ⟨e2, hs2⟩ | e2 <;> rw [e1, e2] <;> simp only [Option.bind_some, if_true]
      · rw [if_pos (by rw [show a + b - b = a by omega, wrap_in a ha])]
        by_cases hb0 : b = 0
        · rw [if_pos hb0]; exact hj
        · rw [if_neg hb0, hp hb0]; exact hj
      · rw [if_pos (by rw [show a + b - b = a by omega, wrap_in a ha]), if_neg (by decide)]; exact hj
      · rw [if_neg (by decide)]
        by_cases hb0 : b = 0
        · rw [if_pos hb0]; exact hj
        · rw [if_neg hb0, hp hb0]; exact hj
      · rw [if_neg (by decide), if_neg (by decide)]; exact hj
  split <;> exact hj _
end Go.Proofs.Ytgjglmhjgfgnlaa.Pure
