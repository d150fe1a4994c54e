/- The program's code of a row in a table is the reference's. -/
import Derived.Test.YtjknmljdnolilaaDoorYFnExactCheckRow3
import Derived.Test.YtjknmljdnolilaaDoorYFnExactCheckRow14
import Derived.Test.YtjknmljdnolilaaDoorYFnExactCheckRow15
import Derived.OpenShut
namespace Go.Proofs.YtjknmljdnolilaaDoor.Pure
open Go.RowKit Go.Proofs.YtjknmljdnolilaaDoor.X Go.Proofs.YtjknmljdnolilaaDoorW.PrintWords Go.Proofs.YtjknmljdnolilaaDoorW.PrintLast
set_option linter.unusedVariables false
set_option linter.unusedSimpArgs false
theorem FnExactCheckRow : laws_FnExactCheckRow.Need := by
  intro n0 C q X R hn hC _ hX hR
  have hCs : ∀ x ∈ C, x.f0.size ≤ maxLen := fun x h => (hC.2 x h).1
  have hXs : ∀ x ∈ X, x.f0.size ≤ maxLen ∧ x.f1.length ≤ maxLen := fun x h => ⟨(hX.2 x h).1, (hX.2 x h).2.1⟩
  have hRs : ∀ x ∈ R, x.f2.size ≤ maxLen := fun x h => (hR.2 x h).2.2
  obtain ⟨B, hB⟩ := bound_if C X hCs (fun x h => (hXs x h).1)
  obtain ⟨K, hK⟩ : ∃ K : Nat, B + n0.size + C.length + X.length + C.length + X.length + R.length + 4194304 < K := ⟨_, Nat.lt_succ_self _⟩
  refine ⟨K, ?_⟩
  unfold laws_FnExactCheckRow.f
  obtain ⟨m1, e1, a1, b1, d1⟩ := szTable_is n0 C q X hn hC.1 hCs hX.1 hXs 1048576 (by omega) K (by omega)
  rw [e1, Option.bind_some]
  by_cases c1 : m1 < 0
  · rw [if_pos c1]
  rw [if_neg c1]
  obtain ⟨_, hCl, hXl, hsm⟩ := d1.resolve_left c1
  obtain ⟨m2, e2, a2, b2, d2⟩ := szValueS_is R hR.1 hRs m1 (by omega) K (by omega)
  rw [e2, Option.bind_some]
  by_cases c2 : m2 < 0
  · rw [if_pos c2]
  have hRl := d2.resolve_left c2
  rw [if_neg c2, toTable_is n0 C q X hCl hXl hsm K (by omega), Option.bind_some, toValueS_is R hRl K (by omega), Option.bind_some]
  obtain ⟨r, f1, f2⟩ := checkrow_same n0 (C.map cvColumn) q (X.map cvIndex) B hn (hB hsm) (by rw [List.length_map]; exact hCl) (by rw [List.length_map]; exact hXl) (R.map cvValue) (by rw [List.length_map]; exact hRl) K (by rw [List.length_map, List.length_map, List.length_map]; omega)
  simp only [f1, f2, Option.bind_some, if_true]
  rw [show (r.2 != r.2) = false by simp]
  obtain ⟨K, rfl⟩ : ∃ m, K = m + 1 := ⟨K - 1, by omega⟩
  rw [laws_FnExactCheckRow.j0, if_neg (by decide), toTable_is n0 C q X hCl hXl hsm K (by omega), Option.bind_some]
  dsimp only
  rw [eqTable_refl n0 (C.map cvColumn) q (X.map cvIndex) (by rw [List.length_map]; exact hCl) (by rw [List.length_map]; exact hXl) (fun x h => by obtain ⟨y, hy, rfl⟩ := List.mem_map.1 h; exact hsm y hy) K (by omega), Option.bind_some, if_pos rfl, toValueS_is R hRl K (by omega), Option.bind_some,
    eqValueS_refl (R.map cvValue) (by rw [List.length_map]; exact hRl) K (by rw [List.length_map]; omega), Option.bind_some, if_pos rfl]
end Go.Proofs.YtjknmljdnolilaaDoor.Pure
