/- The program's text of a table is the reference's. -/
import Derived.Test.YtjknmljdnolilaaGreatDoorYFnExactTableText3
import Derived.Test.YtjknmljdnolilaaGreatDoorYFnExactTableText9
import Derived.Test.YtjknmljdnolilaaGreatDoorYFnExactTableText16
import Derived.Test.YtjknmljdnolilaaGreatDoorYFnExactTableText19
import Derived.Test.YtjknmljdnolilaaGreatDoorYFnExactTableText10
import Derived.Test.YtjknmljdnolilaaGreatDoorYFnExactTableText17
import Derived.Test.YtjknmljdnolilaaGreatDoorYFnExactTableText20
import Derived.Test.YtjknmljdnolilaaGreatDoorYFnExactTableText21
import Derived.OpenShut
namespace Go.Proofs.YtjknmljdnolilaaGreatDoor.Pure
open Go.RowKit Go.Proofs.YtjknmljdnolilaaGreatDoor.X Go.Proofs.YtjknmljdnolilaaGreatDoorW.PrintWords Go.Proofs.YtjknmljdnolilaaGreatDoorW.PrintLast
set_option linter.unusedVariables false
set_option linter.unusedSimpArgs false
theorem FnExactTableText : laws_FnExactTableText.Need := by
  intro n0 C q X hn hC _ hX
  have hCs : ∀ x ∈ C, x.f0.size ≤ maxLen := fun x h => (hC.2 x h).1
  have hXs : ∀ x ∈ X, x.f0.size ≤ maxLen ∧ x.f1.length ≤ maxLen := fun x h => ⟨(hX.2 x h).1, (hX.2 x h).2.1⟩
  obtain ⟨B, hB⟩ := bound_if C X hCs (fun x h => (hXs x h).1)
  obtain ⟨r, K0, hev⟩ : ∃ (r : ByteArray) (K0 : Nat), Good n0 (C.map cvColumn) q (X.map cvIndex) → ∀ k, K0 ≤ k → spec_l09Text.f k n0 (C.map cvColumn) q (X.map cvIndex) = some r ∧ impl_tableText.f k n0 (C.map cvColumn) q (X.map cvIndex) = some r := by
    by_cases hg : Good n0 (C.map cvColumn) q (X.map cvIndex)
    · obtain ⟨r, ⟨K1, ev1⟩, ⟨K2, ev2⟩⟩ := text_same n0 (C.map cvColumn) q (X.map cvIndex) hg
      exact ⟨r, K1 + K2, fun _ k hk => ⟨ev1 k (by omega), ev2 k (by omega)⟩⟩
    · exact ⟨⟨#[]⟩, 0, fun h => absurd h hg⟩
  obtain ⟨K, hK⟩ : ∃ K : Nat, B + n0.size + C.length + X.length + C.length + X.length + K0 + 4194304 < K := ⟨_, Nat.lt_succ_self _⟩
  refine ⟨K, ?_⟩
  unfold laws_FnExactTableText.f
  obtain ⟨m1, e1, a1, b1, d1⟩ := szTable_is n0 C q X hn hC.1 hCs hX.1 hXs 1048576 (by omega) K (by omega)
  rw [e1, Option.bind_some]
  by_cases c1 : m1 < 0
  · rw [if_pos c1]
  rw [if_neg c1]
  obtain ⟨_, hCl, hXl, hsm⟩ := d1.resolve_left c1
  rw [toTable_is n0 C q X hCl hXl hsm K (by omega), Option.bind_some]
  obtain ⟨t, f1, f2⟩ := table_same n0 (C.map cvColumn) q (X.map cvIndex) B hn (hB hsm) (by rw [List.length_map]; exact hCl) (by rw [List.length_map]; exact hXl) K (by rw [List.length_map, List.length_map]; omega)
  have hgood : t = true → Good n0 (C.map cvColumn) q (X.map cvIndex) := fun ht => by
    subst ht
    exact table_good n0 (C.map cvColumn) q (X.map cvIndex) B hn (hB hsm) (by rw [List.length_map]; exact hCl) (by rw [List.length_map]; exact hXl) K (by rw [List.length_map, List.length_map]; omega) f2
  have fin : ∀ (x : ByteArray) (y : Int), spec_TableText.f K n0 (C.map cvColumn) q (X.map cvIndex) = some (x, y) → impl_TableText.f K n0 (C.map cvColumn) q (X.map cvIndex) = some (x, y) →
      ((spec_TableText.f K n0 (C.map cvColumn) q (X.map cvIndex)).bind fun bt111 => ((some (n0, C.map cvColumn, q, X.map cvIndex)).bind fun bt113 => ((impl_TableText.f K bt113.1 bt113.2.1 bt113.2.2.1 bt113.2.2.2).bind fun bt122 => (if bt122.1.toList = bt111.1.toList then (laws_FnExactTableText.j0 K (bt122.2 != bt111.2) n0 C q X bt113.1 bt113.2.1 bt113.2.2.1 bt113.2.2.2) else (laws_FnExactTableText.j0 K true n0 C q X bt113.1 bt113.2.1 bt113.2.2.1 bt113.2.2.2))))) = some true := by
    intro x y g1 g2
    simp only [g1, g2, Option.bind_some, if_true]
    rw [show (y != y) = false by simp]
    obtain ⟨K, rfl⟩ : ∃ m, K = m + 1 := ⟨K - 1, by omega⟩
    rw [laws_FnExactTableText.j0, if_neg (by decide), toTable_is n0 C q X hCl hXl hsm K (by omega), Option.bind_some]
    dsimp only
    rw [eqTable_refl n0 (C.map cvColumn) q (X.map cvIndex) (by rw [List.length_map]; exact hCl) (by rw [List.length_map]; exact hXl) (fun x h => by obtain ⟨y, hy, rfl⟩ := List.mem_map.1 h; exact hsm y hy) K (by omega), Option.bind_some, if_pos rfl]
  cases t with
  | true =>
    obtain ⟨g1, g2⟩ := hev (hgood rfl) K (by omega)
    refine fin r 0 ?_ ?_
    · unfold spec_TableText.f; rw [f1, Option.bind_some, if_pos rfl, g1]; rfl
    · unfold impl_TableText.f; rw [f2, Option.bind_some, if_pos rfl, g2]; rfl
  | false =>
    refine fin (⟨#[]⟩ : ByteArray) 1 ?_ ?_
    · unfold spec_TableText.f; rw [f1, Option.bind_some, if_neg (by decide)]
    · unfold impl_TableText.f; rw [f2, Option.bind_some, if_neg (by decide)]
end Go.Proofs.YtjknmljdnolilaaGreatDoor.Pure
