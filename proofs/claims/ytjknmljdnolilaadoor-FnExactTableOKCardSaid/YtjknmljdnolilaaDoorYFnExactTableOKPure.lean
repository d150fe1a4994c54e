/- The program says of a table that it is right just where the reference does. -/
import Derived.Test.YtjknmljdnolilaaDoorYFnExactTableOK3
import Derived.Test.YtjknmljdnolilaaDoorYFnExactTableOK4
import Derived.Test.YtjknmljdnolilaaDoorYFnExactTableOK6
import Derived.Test.YtjknmljdnolilaaDoorYFnExactTableOK7
import Derived.Test.YtjknmljdnolilaaDoorYFnExactTableOK10
import Derived.Test.YtjknmljdnolilaaDoorYFnExactTableOK12
import Derived.Test.YtjknmljdnolilaaDoorYFnExactTableOK13
import Derived.Test.YtjknmljdnolilaaDoorYFnExactTableOK14
import Derived.OpenShut
namespace Go.Proofs.YtjknmljdnolilaaDoor.Pure
open Go.RowKit Go.Proofs.YtjknmljdnolilaaDoor.X Go.Proofs.YtjknmljdnolilaaDoorW.PrintWords Go.Proofs.YtjknmljdnolilaaDoorW.PrintLast
set_option linter.unusedVariables false
set_option linter.unusedSimpArgs false
theorem bound_of (C : List S97) (X : List S99) (hC : ∀ x ∈ C, x.f0.size ≤ maxLen) (hX : ∀ x ∈ X, x.f0.size ≤ maxLen ∧ x.f1.length ≤ 1048576) : ∃ B, SmallT B (C.map cvColumn) (X.map cvIndex) := by
  have h1 : ∃ B, ∀ x ∈ C, x.f0.size ≤ B := by
    clear hC
    induction C with
    | nil => exact ⟨0, fun x h => by cases h⟩
    | cons y ys ih => obtain ⟨B, hB⟩ := ih; exact ⟨B + y.f0.size, fun x h => by rcases List.mem_cons.1 h with rfl | h; omega; have := hB x h; omega⟩
  have h2 : ∃ B, ∀ x ∈ X, x.f0.size ≤ B := by
    clear hX
    induction X with
    | nil => exact ⟨0, fun x h => by cases h⟩
    | cons y ys ih => obtain ⟨B, hB⟩ := ih; exact ⟨B + y.f0.size, fun x h => by rcases List.mem_cons.1 h with rfl | h; omega; have := hB x h; omega⟩
  obtain ⟨B1, h1⟩ := h1
  obtain ⟨B2, h2⟩ := h2
  refine ⟨B1 + B2 + 2097152, fun x h => ?_, fun x h => ?_⟩
  · obtain ⟨y, hy, rfl⟩ := List.mem_map.1 h
    exact ⟨hC y hy, by have := h1 y hy; show y.f0.size ≤ _; omega⟩
  · obtain ⟨y, hy, rfl⟩ := List.mem_map.1 h
    exact ⟨(hX y hy).1, (hX y hy).2, by have := h2 y hy; have := (hX y hy).2; show y.f0.size + y.f1.length + y.f1.length ≤ _; omega⟩
theorem table_same (n0 : ByteArray) (C : List S70) (q : Int) (X : List S75) (B : Nat) (hn : n0.size ≤ maxLen) (hS : SmallT B C X) (hC : C.length ≤ 1048576) (hX : X.length ≤ 1048576) (k : Nat) (hk : B + n0.size + C.length + X.length + C.length + X.length + 600 < k) :
    ∃ r, spec_TableOK.f k n0 C q X = some r ∧ impl_TableOK.f k n0 C q X = some r := by
  unfold spec_TableOK.f impl_TableOK.f
  rw [impl_free n0 hn k (by omega), spec_free n0 hn k (by omega), impl_in, spec_in, impl_in, spec_in]
  simp only [Option.bind_some]
  obtain ⟨k, rfl⟩ : ∃ m, k = m + 1 := ⟨k - 1, by omega⟩
  have hT : ∃ r, spec_TableOK.j0 (k + 1) true n0 C q X = some r ∧ impl_TableOK.j0 (k + 1) true n0 C q X = some r := by
    rw [spec_TableOK.j0, impl_TableOK.j0, if_pos rfl, if_pos rfl]; exact ⟨_, rfl, rfl⟩
  have hF : ∃ r, spec_TableOK.j0 (k + 1) false n0 C q X = some r ∧ impl_TableOK.j0 (k + 1) false n0 C q X = some r := by
    rw [spec_TableOK.j0, impl_TableOK.j0, if_neg (show ¬ false = true by decide), if_neg (show ¬ false = true by decide)]
    have h1 := idx_same n0 C q X B hS hC hX (k - C.length - 1 - X.length - 1) (by omega) X.length 0 (by omega)
    rw [show k - C.length - 1 - X.length - 1 + X.length + 1 = k - C.length - 1 by omega] at h1
    have h2 := cols_same n0 C q X B hS hC (k - C.length - 1) (by omega) h1 C.length 0 (by omega)
    rw [show k - C.length - 1 + C.length + 1 = k by omega] at h2
    exact h2
  cases free n0 with
  | false => rw [if_neg (show ¬ false = true by decide), if_neg (show ¬ false = true by decide)]; exact hT
  | true =>
    rw [if_pos rfl, if_pos rfl]
    cases (decide (1 ≤ (C.length : Int)) && decide ((C.length : Int) ≤ 8)) with
    | false => rw [if_neg (show ¬ false = true by decide), if_neg (show ¬ false = true by decide)]; exact hT
    | true =>
      rw [if_pos rfl, if_pos rfl]
      cases (decide (1 ≤ q) && decide (q ≤ (C.length : Int))) with
      | false => rw [if_neg (show ¬ false = true by decide), if_neg (show ¬ false = true by decide)]; exact hT
      | true =>
        rw [if_pos rfl, if_pos rfl]
        cases decide ((X.length : Int) > 4) with
        | true => exact hT
        | false => exact hF
theorem FnExactTableOK : laws_FnExactTableOK.Need := by
  intro n0 C q X hn hC _ hX
  have hCs : ∀ x ∈ C, x.f0.size ≤ maxLen := fun x h => (hC.2 x h).1
  have hXs : ∀ x ∈ X, x.f0.size ≤ maxLen ∧ x.f1.length ≤ maxLen := fun x h => ⟨(hX.2 x h).1, (hX.2 x h).2.1⟩
  by_cases hsm : ∀ x ∈ X, x.f1.length ≤ 1048576
  case neg =>
    refine ⟨C.length + X.length + 1, ?_⟩
    unfold laws_FnExactTableOK.f laws_szTable.f
    have hn2 := hn
    simp only [maxLen] at hn2
    rw [wrap_in (1048576 - (n0.size : Int)) (by omega)]
    by_cases c : 1048576 - (n0.size : Int) < 0
    · rw [if_pos c]; rfl
    rw [if_neg c]
    obtain ⟨m1, e1, a1, b1, _⟩ := szColumnS_is C hC.1 hCs (1048576 - (n0.size : Int)) (by omega) (C.length + X.length + 1) (by omega)
    rw [e1, Option.bind_some]
    by_cases c1 : m1 < 0
    · rw [if_pos c1]; rfl
    rw [if_neg c1]
    obtain ⟨m2, e2, a2, b2, d2⟩ := szIndexS_is X hX.1 hXs m1 (by omega) (C.length + X.length + 1) (by omega)
    rw [e2, Option.bind_some]
    by_cases c2 : m2 < 0
    · rw [if_pos c2]; rfl
    · exact absurd (d2.resolve_left c2).2 hsm
  obtain ⟨B, hB⟩ := bound_of C X hCs (fun x h => ⟨(hXs x h).1, hsm x h⟩)
  obtain ⟨K, hK⟩ : ∃ K : Nat, B + n0.size + C.length + X.length + C.length + X.length + 2097152 < K := ⟨_, Nat.lt_succ_self _⟩
  refine ⟨K, ?_⟩
  unfold laws_FnExactTableOK.f laws_szTable.f laws_toTable.f laws_eqTable.f
  have hn2 := hn
  simp only [maxLen] at hn2
  rw [wrap_in (1048576 - (n0.size : Int)) (by omega)]
  by_cases c : 1048576 - (n0.size : Int) < 0
  · rw [if_pos c]; rfl
  rw [if_neg c]
  obtain ⟨m1, e1, a1, b1, d1⟩ := szColumnS_is C hC.1 hCs (1048576 - (n0.size : Int)) (by omega) K (by omega)
  rw [e1, Option.bind_some]
  by_cases c1 : m1 < 0
  · rw [if_pos c1]; rfl
  rw [if_neg c1]
  obtain ⟨m2, e2, a2, b2, d2⟩ := szIndexS_is X hX.1 hXs m1 (by omega) K (by omega)
  rw [e2, Option.bind_some]
  by_cases c2 : m2 < 0
  · rw [if_pos c2]; rfl
  have hCl := d1.resolve_left c1
  have hXl := (d2.resolve_left c2).1
  rw [if_neg c2, Option.bind_some, if_neg c2, toColumnS_is C hCl K (by omega), toIndexS_is X hXl 1048576 (by omega) hsm K (by omega)]
  simp only [Option.bind_some]
  obtain ⟨r, f1, f2⟩ := table_same n0 (C.map cvColumn) q (X.map cvIndex) B hn hB (by rw [List.length_map]; exact hCl) (by rw [List.length_map]; exact hXl) K (by rw [List.length_map, List.length_map]; omega)
  rw [f1, f2, Option.bind_some, Option.bind_some, if_neg (show ¬ (r != r) = true by simp)]
  simp only [if_true]
  rw [eqColumnS_refl (C.map cvColumn) (by rw [List.length_map]; exact hCl) K (by rw [List.length_map]; omega),
    eqIndexS_refl (X.map cvIndex) (by rw [List.length_map]; exact hXl) 1048576 (by omega) (fun x h => by obtain ⟨y, hy, rfl⟩ := List.mem_map.1 h; exact hsm y hy) K (by rw [List.length_map]; omega)]
  rfl
end Go.Proofs.YtjknmljdnolilaaDoor.Pure
