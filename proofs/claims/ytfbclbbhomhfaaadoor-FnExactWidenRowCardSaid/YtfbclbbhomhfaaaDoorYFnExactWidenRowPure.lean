/- The program's longer row is the reference's, and neither row is written to. -/
import Derived.Test.YtfbclbbhomhfaaaDoorYFnExactWidenRow3
import Derived.Test.YtfbclbbhomhfaaaDoorYFnExactWidenRow8
import Derived.Test.YtfbclbbhomhfaaaDoorYFnExactWidenRow21
import Derived.Test.YtfbclbbhomhfaaaDoorYFnExactWidenRow12
import Derived.Test.YtfbclbbhomhfaaaDoorYFnExactWidenRow18
import Derived.Test.YtfbclbbhomhfaaaDoorYFnExactWidenRow22
import Derived.Test.YtfbclbbhomhfaaaDoorYFnExactWidenRow23
import Derived.OpenShut
namespace Go.Proofs.YtfbclbbhomhfaaaDoor.Pure
open Go.RowKit Go.Proofs.YtfbclbbhomhfaaaDoor.X Go.Proofs.YtfbclbbhomhfaaaDoorW.PrintWords Go.Proofs.YtfbclbbhomhfaaaDoorW.PrintLast
set_option linter.unusedVariables false
set_option linter.unusedSimpArgs false
theorem check_len (k : Nat) (n0 : ByteArray) (C : List S72) (q : Int) (X : List S74) (R : List S41) (j : Int) (h : impl_CheckRow.f k n0 C q X R = some (0, j)) : R.length ≤ 8 := by
  unfold impl_CheckRow.f at h
  by_cases c : (R.length : Int) > 4096
  · rw [if_pos c] at h; simp at h
  rw [if_neg c] at h
  obtain ⟨t, _, h⟩ := Option.bind_eq_some_iff.1 h
  cases t
  · simp at h
  · rw [if_pos rfl, impl_row, Option.bind_some] at h
    by_cases r : rowok R = true
    · unfold rowok at r
      have := (Bool.and_eq_true _ _ ▸ r : _ ∧ _).1
      exact of_decide_eq_true this
    · rw [if_neg r] at h; simp at h
theorem widen_at (n0 : ByteArray) (C : List S72) (q : Int) (X : List S74) (B : Nat) (hn : n0.size ≤ maxLen) (hS : SmallT B C X) (hC : C.length ≤ 1048576) (hX : X.length ≤ 1048576) (R : List S41) (hR : R.length ≤ 1048576) (a b : Int) (t : ByteArray)
    (k : Nat) (hk : B + n0.size + C.length + X.length + C.length + X.length + R.length + 600 < k) :
    ∃ r : List S41 × Int, r.1.length ≤ 9 ∧ spec_WidenRow.f k n0 C q X R a b t = some r ∧ impl_WidenRow.f k n0 C q X R a b t = some r := by
  unfold spec_WidenRow.f impl_WidenRow.f
  obtain ⟨r, f1, f2⟩ := checkrow_same n0 C q X B hn hS hC hX R hR k hk
  rw [f2]
  by_cases h : (R.length : Int) > 4096
  · have e : r = (2, 0) := by
      unfold impl_CheckRow.f at f2
      rw [if_pos h] at f2
      exact (Option.some.inj f2).symm
    subst e
    rw [if_pos h]
    exact ⟨([], 2), by simp, rfl, rfl⟩
  rw [if_neg h, f1]
  obtain ⟨c, j⟩ := r
  simp only [Option.bind_some]
  by_cases hc : c = 0
  · subst hc
    have hl := check_len k n0 C q X R j f2
    rw [if_pos rfl, if_pos rfl, spec_vok, impl_vok]
    by_cases h8 : R.length = 8
    · rw [if_pos (by omega), if_pos (by omega)]; exact ⟨([], 7), by simp, rfl, rfl⟩
    · rw [if_neg (show ¬ ((R.length : Int) = 8) by omega), if_neg (show ¬ ((R.length : Int) ≥ 8) by omega)]
      simp only [Option.bind_some]
      cases vok a b t
      · exact ⟨([], 1), by simp, rfl, rfl⟩
      · unfold impl_Value_25.f
        rw [if_pos rfl, if_pos rfl, if_pos (show R.length * 32 ≤ 140737488355328 by omega)]
        simp only [Option.bind_some, List.nil_append, List.length_nil, List.length_cons]
        rw [if_pos (show 0 + R.length < 4398046511104 by omega), if_pos (show R.length + (0 + 1) < 4398046511104 by omega)]
        refine ⟨(R ++ [⟨a, b, t⟩], 0), ?_, rfl, rfl⟩
        rw [List.length_append]
        show R.length + 1 ≤ 9
        omega
  · rw [if_neg hc, if_neg hc]; exact ⟨([], c), by simp, rfl, rfl⟩
theorem widen_same (n0 : ByteArray) (C : List S72) (q : Int) (X : List S74) (B : Nat) (hn : n0.size ≤ maxLen) (hS : SmallT B C X) (hC : C.length ≤ 1048576) (hX : X.length ≤ 1048576) (R : List S41) (hR : R.length ≤ 1048576) (a b : Int) (t : ByteArray) :
    ∃ r : List S41 × Int, r.1.length ≤ 9 ∧ ∀ k, B + n0.size + C.length + X.length + C.length + X.length + R.length + 601 ≤ k → spec_WidenRow.f k n0 C q X R a b t = some r ∧ impl_WidenRow.f k n0 C q X R a b t = some r := by
  obtain ⟨r, hl, f1, f2⟩ := widen_at n0 C q X B hn hS hC hX R hR a b t _ (Nat.lt_succ_self _)
  exact ⟨r, hl, fun k hk => ⟨at_rounds (g := fun k => spec_WidenRow.f k n0 C q X R a b t) (fun k => spec_WidenRow.mono n0 C q X R a b t k) hk f1, at_rounds (g := fun k => impl_WidenRow.f k n0 C q X R a b t) (fun k => impl_WidenRow.mono n0 C q X R a b t k) hk f2⟩⟩
theorem FnExactWidenRow : laws_FnExactWidenRow.Need := by
  intro n0 C q X R va vb vt hn hC _ hX hR _ _ _
  have hCs : ∀ x ∈ C, x.f0.size ≤ maxLen := fun x h => (hC.2 x h).1
  have hXs : ∀ x ∈ X, x.f0.size ≤ maxLen ∧ x.f1.length ≤ maxLen := fun x h => ⟨(hX.2 x h).1, (hX.2 x h).2.1⟩
  have hRs : ∀ x ∈ R, x.f2.size ≤ maxLen := fun x h => (hR.2 x h).2.2
  obtain ⟨B, hB⟩ := bound_if C X hCs (fun x h => (hXs x h).1)
  obtain ⟨K, hK⟩ : ∃ K : Nat, B + n0.size + C.length + X.length + C.length + X.length + R.length + 4194304 < K := ⟨_, Nat.lt_succ_self _⟩
  refine ⟨K + 3, ?_⟩
  unfold laws_FnExactWidenRow.f
  obtain ⟨m1, e1, a1, b1, d1⟩ := szTable_is n0 C q X hn hC.1 hCs hX.1 hXs 1048576 (by omega) (K + 3) (by omega)
  rw [e1, Option.bind_some]
  by_cases c1 : m1 < 0
  · rw [if_pos c1]
  rw [if_neg c1]
  obtain ⟨_, hCl, hXl, hsm⟩ := d1.resolve_left c1
  obtain ⟨m2, e2, a2, b2, d2⟩ := szValueS_is R hR.1 hRs m1 (by omega) (K + 3) (by omega)
  rw [e2, Option.bind_some]
  by_cases c2 : m2 < 0
  · rw [if_pos c2]
  have hRl := d2.resolve_left c2
  obtain ⟨m3, e3⟩ : ∃ m3, laws_szValue.f va vb vt m2 = some m3 := by unfold laws_szValue.f; split <;> exact ⟨_, rfl⟩
  rw [if_neg c2, e3, Option.bind_some]
  by_cases c3 : m3 < 0
  · rw [if_pos c3]
  have tv : ∀ a b t, laws_toValue.f a b t = some (a, b, t) := fun _ _ _ => rfl
  have hCm : (C.map cvColumn).length ≤ 1048576 := by rw [List.length_map]; exact hCl
  have hXm : (X.map cvIndex).length ≤ 1048576 := by rw [List.length_map]; exact hXl
  have hRm : (R.map cvValue).length ≤ 1048576 := by rw [List.length_map]; exact hRl
  have hMm : ∀ x ∈ X.map cvIndex, x.f1.length ≤ 1048576 := fun x h => by obtain ⟨y, hy, rfl⟩ := List.mem_map.1 h; exact hsm y hy
  have lC : (C.map cvColumn).length = C.length := List.length_map _
  have lX : (X.map cvIndex).length = X.length := List.length_map _
  have lR : (R.map cvValue).length = R.length := List.length_map _
  obtain ⟨r, hl, hw⟩ := widen_same n0 (C.map cvColumn) q (X.map cvIndex) B hn (hB hsm) hCm hXm (R.map cvValue) hRm va vb vt
  rw [if_neg c3, toTable_is n0 C q X hCl hXl hsm (K + 3) (by omega), Option.bind_some, toValueS_is R hRl (K + 3) (by omega), Option.bind_some]
  simp only [tv, (hw (K + 3) (by omega)).1, (hw (K + 3) (by omega)).2, Option.bind_some]
  rw [eqValueS_refl r.1 (by omega) (K + 3) (by omega), Option.bind_some, if_pos rfl, show (r.2 != r.2) = false by simp]
  rw [laws_FnExactWidenRow.j0, if_neg (by decide), toTable_is n0 C q X hCl hXl hsm (K + 2) (by omega), Option.bind_some]
  dsimp only
  rw [eqTable_refl n0 (C.map cvColumn) q (X.map cvIndex) hCm hXm hMm (K + 2) (by omega), Option.bind_some, if_pos rfl, toValueS_is R hRl (K + 2) (by omega), Option.bind_some, eqValueS_refl (R.map cvValue) hRm (K + 2) (by omega), Option.bind_some, if_pos rfl]
  obtain ⟨p, g1, g2, g3⟩ := markTable_is n0 (C.map cvColumn) q (X.map cvIndex) hCm hXm hMm 1 (by omega) (by omega) (K + 2) (by omega)
  obtain ⟨u, ys, g4, g5, g6, g7⟩ := marks_held (R.map cvValue) p (by omega) g2 (by omega)
  rw [g1, Option.bind_some, (g7 (K + 2) (by omega)).1, Option.bind_some, if_neg (by show ¬ u < 0; omega), eqValueS_refl r.1 (by omega) (K + 2) (by omega), Option.bind_some, if_pos rfl, show (r.2 != r.2) = false by simp]
  obtain ⟨v, zs, i4, i5, i6, i7⟩ := marks_held r.1 1 (by omega) (by omega) (by omega)
  rw [laws_FnExactWidenRow.j1, if_neg (by decide), (i7 (K + 1) (by omega)).1, Option.bind_some]
  dsimp only
  rw [(i7 (K + 1) (by omega)).2, Option.bind_some, if_neg (by omega), if_pos rfl, toTable_is n0 C q X hCl hXl hsm (K + 1) (by omega), Option.bind_some, toValueS_is R hRl (K + 1) (by omega), Option.bind_some, tv, Option.bind_some]
  dsimp only
  rw [(hw (K + 1) (by omega)).2, Option.bind_some, eqValueS_refl r.1 (by omega) (K + 1) (by omega), Option.bind_some, if_pos rfl, show (r.2 != r.2) = false by simp]
  rw [laws_FnExactWidenRow.j2, if_neg (by decide), (i7 K (by omega)).2, Option.bind_some, if_neg (by omega), if_pos rfl]
end Go.Proofs.YtfbclbbhomhfaaaDoor.Pure
