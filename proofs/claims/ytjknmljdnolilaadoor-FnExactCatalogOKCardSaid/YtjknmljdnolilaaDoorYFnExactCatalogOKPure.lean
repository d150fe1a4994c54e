/- The program says of a catalog that it is right just where the reference does. -/
import Derived.Test.YtjknmljdnolilaaDoorYFnExactCatalogOK3
import Derived.Test.YtjknmljdnolilaaDoorYFnExactCatalogOK7
import Derived.Test.YtjknmljdnolilaaDoorYFnExactCatalogOK16
import Derived.Test.YtjknmljdnolilaaDoorYFnExactCatalogOK17
import Derived.Test.YtjknmljdnolilaaDoorYFnExactCatalogOK18
import Derived.OpenShut
namespace Go.Proofs.YtjknmljdnolilaaDoor.Pure
open Go.RowKit Go.Proofs.YtjknmljdnolilaaDoor.X Go.Proofs.YtjknmljdnolilaaDoorW.PrintWords Go.Proofs.YtjknmljdnolilaaDoorW.PrintLast
set_option linter.unusedVariables false
set_option linter.unusedSimpArgs false
theorem FnExactCatalogOK : laws_FnExactCatalogOK.Need := by
  intro L hL
  have hw : ∀ x ∈ L, wfTable x := fun x h => by
    obtain ⟨h0, h1, _, h3⟩ := hL.2 x h
    exact ⟨h0, h1.1, fun y hy => (h1.2 y hy).1, h3.1, fun y hy => ⟨(h3.2 y hy).1, (h3.2 y hy).2.1⟩⟩
  obtain ⟨B, hB⟩ := small_of L hw
  obtain ⟨M, hM⟩ := bounded_ rdTable L
  obtain ⟨K, hK⟩ : ∃ K : Nat, B + M + L.length + M + 4194304 < K := ⟨_, Nat.lt_succ_self _⟩
  have hlt : ∀ x ∈ L, wfTable x ∧ ltTable x ≤ M := fun x h => ⟨hw x h, by have := hM x h; unfold rdTable at this; unfold ltTable; omega⟩
  refine ⟨K, ?_⟩
  unfold laws_FnExactCatalogOK.f
  obtain ⟨m, e, a, b, c⟩ := szTableS_is L hL.1 M hlt 1048576 (by omega) K (by omega)
  rw [e, Option.bind_some]
  by_cases h : m < 0
  · rw [if_pos h]
  obtain ⟨hl, hs⟩ := c.resolve_left h
  rw [if_neg h, toTableS_is L hl hs K (by omega), Option.bind_some]
  obtain ⟨r, e1, e2⟩ := catalog_same (L.map cvTable) (by rw [List.length_map]; exact hl) (B + M) (fun x hx => by
    obtain ⟨y, hy, rfl⟩ := List.mem_map.1 hx
    have hm := hM y hy
    have hy1 := (hs y hy).1
    have hy2 := (hs y hy).2.1
    have l1 : (cvTable y).f1.length = y.f1.length := by show (y.f1.map cvColumn).length = _; rw [List.length_map]
    have l2 : (cvTable y).f3.length = y.f3.length := by show (y.f3.map cvIndex).length = _; rw [List.length_map]
    have hk : B + y.f0.size + (cvTable y).f1.length + (cvTable y).f3.length + (cvTable y).f1.length + (cvTable y).f3.length + 600 ≤ B + M := by unfold rdTable at hm; rw [l1, l2]; omega
    obtain ⟨r, f1, f2⟩ := table_same y.f0 (cvTable y).f1 y.f2 (cvTable y).f3 B (hw y hy).1 (hB hs y hy) (by rw [l1]; exact hy1) (by rw [l2]; exact hy2) (B + M + 1) (by omega)
    refine ⟨r, fun k hk2 => ?_⟩
    obtain ⟨r2, g1, g2⟩ := table_same y.f0 (cvTable y).f1 y.f2 (cvTable y).f3 B (hw y hy).1 (hB hs y hy) (by rw [l1]; exact hy1) (by rw [l2]; exact hy2) k (by omega)
    have : r2 = r := by
      have := at_rounds (fun k => spec_TableOK.mono y.f0 (cvTable y).f1 y.f2 (cvTable y).f3 k) (show B + M + 1 ≤ k by omega) f1
      exact Option.some.inj (g1.symm.trans this)
    subst this
    exact ⟨g1, g2⟩) K (by rw [List.length_map]; omega)
  rw [e1, Option.bind_some, Option.bind_some, e2, Option.bind_some, if_neg (show ¬ (r != r) = true by simp), Option.bind_some, eqTableS_refl (L.map cvTable) (by rw [List.length_map]; exact hl) (fun x hx => by obtain ⟨y, hy, rfl⟩ := List.mem_map.1 hx; exact cvTable_si y (hs y hy)) K (by rw [List.length_map]; omega), Option.bind_some, if_pos rfl]
end Go.Proofs.YtjknmljdnolilaaDoor.Pure
