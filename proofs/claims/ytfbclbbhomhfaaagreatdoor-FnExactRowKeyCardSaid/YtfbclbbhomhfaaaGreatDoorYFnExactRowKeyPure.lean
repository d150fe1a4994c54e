/- The program's key bytes of a row's key are the reference's, in memory of their own. -/
import Derived.Test.YtfbclbbhomhfaaaGreatDoorYFnExactRowKey3
import Derived.Test.YtfbclbbhomhfaaaGreatDoorYFnExactRowKey13
import Derived.Test.YtfbclbbhomhfaaaGreatDoorYFnExactRowKey20
import Derived.Test.YtfbclbbhomhfaaaGreatDoorYFnExactRowKey21
import Derived.Test.YtfbclbbhomhfaaaGreatDoorYFnExactRowKey22
import Derived.Test.YtfbclbbhomhfaaaGreatDoorYFnExactRowKey18
import Derived.Test.YtfbclbbhomhfaaaGreatDoorYFnExactRowKey19
import Derived.Test.YtfbclbbhomhfaaaGreatDoorYFnExactRowKey14
import Derived.Test.YtfbclbbhomhfaaaGreatDoorYFnExactRowKey23
import Derived.Test.YtfbclbbhomhfaaaGreatDoorYFnExactRowKey24
import Derived.OpenShut
namespace Go.Proofs.YtfbclbbhomhfaaaGreatDoor.Pure
open Go.RowKit Go.Proofs.YtfbclbbhomhfaaaGreatDoor.X Go.Proofs.YtfbclbbhomhfaaaGreatDoorW.PrintWords Go.Proofs.YtfbclbbhomhfaaaGreatDoorW.PrintLast
set_option linter.unusedVariables false
set_option linter.unusedSimpArgs false
theorem check_row (k : Nat) (n0 : ByteArray) (C : List S74) (q : Int) (X : List S76) (R : List S56) (j : Int) (h : impl_CheckRow.f k n0 C q X R = some (0, j)) :
    (R.length ≤ 8 ∧ ∀ v ∈ R, vok v.f0 v.f1 v.f2 = true) ∧ R.length = C.length ∧ impl_TableOK.f k n0 C q X = some true := by
  unfold impl_CheckRow.f at h
  by_cases c : (R.length : Int) > 4096
  · rw [if_pos c] at h; simp at h
  rw [if_neg c] at h
  obtain ⟨t, ht, h⟩ := Option.bind_eq_some_iff.1 h
  cases t
  · simp at h
  · rw [if_pos rfl, impl_row, Option.bind_some] at h
    by_cases r : rowok R = true
    · rw [if_pos r] at h
      unfold rowok at r
      rw [Bool.and_eq_true] at r
      refine ⟨⟨of_decide_eq_true r.1, fun v hv => List.all_eq_true.1 r.2 v hv⟩, ?_, ht⟩
      unfold impl_Table_rowCode.f at h
      by_cases hl : (R.length : Int) = (C.length : Int)
      · omega
      · rw [if_neg hl] at h; simp at h
    · rw [if_neg r] at h; simp at h
theorem table_key (k : Nat) (n0 : ByteArray) (C : List S74) (q : Int) (X : List S76) (h : impl_TableOK.f k n0 C q X = some true) : 1 ≤ q ∧ q ≤ (C.length : Int) := by
  unfold impl_TableOK.f at h
  obtain ⟨a, _, h⟩ := Option.bind_eq_some_iff.1 h
  have jt : ∀ k, impl_TableOK.j0 k true n0 C q X ≠ some true := fun k => by cases k <;> simp [impl_TableOK.j0]
  by_cases ca : a = true
  · rw [if_pos ca, impl_in, Option.bind_some] at h
    split at h
    · rw [impl_in, Option.bind_some] at h
      split at h
      · rename_i hq
        rw [Bool.and_eq_true] at hq
        exact ⟨of_decide_eq_true hq.1, of_decide_eq_true hq.2⟩
      · exact absurd h (jt k)
    · exact absurd h (jt k)
  · rw [if_neg ca] at h; exact absurd h (jt k)
theorem rowkey_same (n0 : ByteArray) (C : List S74) (q : Int) (X : List S76) (B : Nat) (hn : n0.size ≤ maxLen) (hS : SmallT B C X) (hC : C.length ≤ 1048576) (hX : X.length ≤ 1048576) (R : List S56) (hR : R.length ≤ 1048576) (hr : ∀ v ∈ R, -9223372036854775808 ≤ v.f1 ∧ v.f1 ≤ 9223372036854775807) :
    ∃ r : List Int × Int, r.1.length ≤ 1000 ∧ Ev (fun k => spec_RowKey.f k n0 C q X R) r ∧ Ev (fun k => impl_RowKey.f k n0 C q X R) r := by
  obtain ⟨r, f1, f2⟩ := checkrow_same n0 C q X B hn hS hC hX R hR _ (Nat.lt_succ_self _)
  have e1 : Ev (fun k => spec_CheckRow.f k n0 C q X R) r := Ev.of (fun k => spec_CheckRow.mono _ _ _ _ _ k) f1
  have e2 : Ev (fun k => impl_CheckRow.f k n0 C q X R) r := Ev.of (fun k => impl_CheckRow.mono _ _ _ _ _ k) f2
  by_cases h : (R.length : Int) > 4096
  · have e : r = (2, 0) := by
      unfold impl_CheckRow.f at f2
      rw [if_pos h] at f2
      exact (Option.some.inj f2).symm
    subst e
    refine ⟨([], 2), by simp, Ev.congr (fun k => ?_) (Ev.now _), ?_⟩
    · unfold spec_RowKey.f; rw [if_pos h]
    · refine Ev.congr (fun k => by unfold impl_RowKey.f; rfl) (Ev.bind e2 (Ev.congr (fun k => ?_) (Ev.now _)))
      rw [if_neg (by decide)]
  obtain ⟨c, j⟩ := r
  by_cases hc : c = 0
  · subst hc
    obtain ⟨⟨hl, hv⟩, hlc, ht⟩ := check_row _ n0 C q X R j f2
    have hq := table_key _ n0 C q X ht
    have hg : ∀ v ∈ R.take q.toNat, gval v := fun v hm => ⟨hv v (List.mem_of_mem_take hm), hr v (List.mem_of_mem_take hm)⟩
    have hlt : (R.take q.toNat).length ≤ 8 := by rw [List.length_take]; omega
    have k1 := spec_key (R.take q.toNat) (by omega) hg
    have k2 := impl_key (R.take q.toNat) (by omega) hg
    have kl := kb_length _ hg
    refine ⟨(kb (R.take q.toNat), 0), by show (kb _).length ≤ 1000; omega, ?_, ?_⟩
    · refine Ev.congr (fun k => by unfold spec_RowKey.f; rw [if_neg h]) (Ev.bind e1 (Ev.congr (fun k => ?_) (Ev.bind (f := fun _ t => some (t, (0 : Int))) k1 (Ev.now _))))
      rw [if_pos rfl, if_pos (show (0 : Int) ≤ q by omega), if_pos (show q ≤ (R.length : Int) by omega)]
    · refine Ev.congr (fun k => by unfold impl_RowKey.f; rfl) (Ev.bind e2 (Ev.congr (fun k => ?_) (Ev.bind (f := fun _ t => some (t, (0 : Int))) k2 (Ev.now _))))
      rw [if_pos rfl]
      unfold impl_Table_rowKey.f
      rw [if_pos (show (0 : Int) ≤ q by omega), if_pos (show q ≤ (R.length : Int) by omega)]
      cases impl_keyBytes.f k (R.take q.toNat) <;> rfl
  · refine ⟨([], c), by simp, ?_, ?_⟩
    · refine Ev.congr (fun k => by unfold spec_RowKey.f; rw [if_neg h]) (Ev.bind e1 (Ev.congr (fun k => ?_) (Ev.now _)))
      rw [if_neg hc]
    · refine Ev.congr (fun k => by unfold impl_RowKey.f; rfl) (Ev.bind e2 (Ev.congr (fun k => ?_) (Ev.now _)))
      rw [if_neg hc]
theorem FnExactRowKey : laws_FnExactRowKey.Need := by
  intro n0 C q X R hn hC _ hX hR
  have hCs : ∀ x ∈ C, x.f0.size ≤ maxLen := fun x h => (hC.2 x h).1
  have hXs : ∀ x ∈ X, x.f0.size ≤ maxLen ∧ x.f1.length ≤ maxLen := fun x h => ⟨(hX.2 x h).1, (hX.2 x h).2.1⟩
  have hRs : ∀ x ∈ R, x.f2.size ≤ maxLen := fun x h => (hR.2 x h).2.2
  have hRi : ∀ v ∈ R.map cvValue, -9223372036854775808 ≤ v.f1 ∧ v.f1 ≤ 9223372036854775807 := fun v h => by obtain ⟨y, hy, rfl⟩ := List.mem_map.1 h; exact i64_of (hR.2 y hy).2.1
  obtain ⟨B, hB⟩ := bound_if C X hCs (fun x h => (hXs x h).1)
  by_cases c0 : C.length ≤ 1048576 ∧ X.length ≤ 1048576 ∧ (∀ x ∈ X, x.f1.length ≤ 1048576) ∧ R.length ≤ 1048576
  case neg =>
    obtain ⟨K, hK⟩ : ∃ K : Nat, C.length + X.length + R.length + 4194304 < K := ⟨_, Nat.lt_succ_self _⟩
    refine ⟨K, ?_⟩
    unfold laws_FnExactRowKey.f
    obtain ⟨m1, e1, a1, b1, d1⟩ := szTable_is n0 C q X hn hC.1 hCs hX.1 hXs 1048576 (by omega) K (by omega)
    rw [e1, Option.bind_some]
    by_cases c1 : m1 < 0
    · rw [if_pos c1]
    rw [if_neg c1]
    obtain ⟨_, hCl, hXl, hsm⟩ := d1.resolve_left c1
    obtain ⟨m2, e2, a2, b2, d2⟩ := szValueS_is R hR.1 hRs m1 (by omega) K (by omega)
    rw [e2, Option.bind_some]
    by_cases c2 : m2 < 0
    · rw [if_pos c2]
    · exact absurd ⟨hCl, hXl, hsm, d2.resolve_left c2⟩ c0
  obtain ⟨hCl, hXl, hsm, hRl⟩ := c0
  have hCm : (C.map cvColumn).length ≤ 1048576 := by rw [List.length_map]; exact hCl
  have hXm : (X.map cvIndex).length ≤ 1048576 := by rw [List.length_map]; exact hXl
  have hRm : (R.map cvValue).length ≤ 1048576 := by rw [List.length_map]; exact hRl
  have hMm : ∀ x ∈ X.map cvIndex, x.f1.length ≤ 1048576 := fun x h => by obtain ⟨y, hy, rfl⟩ := List.mem_map.1 h; exact hsm y hy
  have lC : (C.map cvColumn).length = C.length := List.length_map _
  have lX : (X.map cvIndex).length = X.length := List.length_map _
  have lR : (R.map cvValue).length = R.length := List.length_map _
  obtain ⟨r, hl, ⟨K1, w1⟩, ⟨K2, w2⟩⟩ := rowkey_same n0 (C.map cvColumn) q (X.map cvIndex) B hn (hB hsm) hCm hXm (R.map cvValue) hRm hRi
  obtain ⟨K, hK⟩ : ∃ K : Nat, K1 + K2 + C.length + X.length + R.length + 4194304 < K := ⟨_, Nat.lt_succ_self _⟩
  refine ⟨K + 3, ?_⟩
  unfold laws_FnExactRowKey.f
  obtain ⟨m1, e1, a1, b1, d1⟩ := szTable_is n0 C q X hn hC.1 hCs hX.1 hXs 1048576 (by omega) (K + 3) (by omega)
  rw [e1, Option.bind_some]
  by_cases c1 : m1 < 0
  · rw [if_pos c1]
  rw [if_neg c1]
  obtain ⟨m2, e2, a2, b2, d2⟩ := szValueS_is R hR.1 hRs m1 (by omega) (K + 3) (by omega)
  rw [e2, Option.bind_some]
  by_cases c2 : m2 < 0
  · rw [if_pos c2]
  have hw1 := w1 (K + 3) (by omega)
  have hw2 := w2 (K + 3) (by omega)
  have hw3 := w2 (K + 1) (by omega)
  dsimp only at hw1 hw2 hw3
  rw [if_neg c2, toTable_is n0 C q X hCl hXl hsm (K + 3) (by omega), Option.bind_some, toValueS_is R hRl (K + 3) (by omega), Option.bind_some]
  simp only [hw1, hw2, Option.bind_some]
  rw [eqByteS_refl r.1 (by omega) (K + 3) (by omega), Option.bind_some, if_pos rfl, show (r.2 != r.2) = false by simp]
  rw [laws_FnExactRowKey.j0, if_neg (by decide), toTable_is n0 C q X hCl hXl hsm (K + 2) (by omega), Option.bind_some]
  dsimp only
  rw [eqTable_refl n0 (C.map cvColumn) q (X.map cvIndex) hCm hXm hMm (K + 2) (by omega), Option.bind_some, if_pos rfl, toValueS_is R hRl (K + 2) (by omega), Option.bind_some, eqValueS_refl (R.map cvValue) hRm (K + 2) (by omega), Option.bind_some, if_pos rfl]
  obtain ⟨p, g1, g2, g3⟩ := markTable_is n0 (C.map cvColumn) q (X.map cvIndex) hCm hXm hMm 1 (by omega) (by omega) (K + 2) (by omega)
  obtain ⟨ys, g6, g7⟩ := markValue_f (R.map cvValue) p (by omega) g2 (by omega)
  rw [g1, Option.bind_some, g7 (K + 2) (by omega), Option.bind_some, if_neg (by show ¬ p + 3 * _ < 0; omega), eqByteS_refl r.1 (by omega) (K + 2) (by omega), Option.bind_some, if_pos rfl, show (r.2 != r.2) = false by simp]
  obtain ⟨v, zs, i4, i7⟩ := bytes_held r.1 (by omega)
  rw [laws_FnExactRowKey.j1, if_neg (by decide), (i7 (K + 1) (by omega)).1, Option.bind_some]
  dsimp only
  rw [(i7 (K + 1) (by omega)).2, Option.bind_some, if_neg (by omega), if_pos rfl, toTable_is n0 C q X hCl hXl hsm (K + 1) (by omega), Option.bind_some, toValueS_is R hRl (K + 1) (by omega), Option.bind_some]
  dsimp only
  rw [hw3, Option.bind_some, eqByteS_refl r.1 (by omega) (K + 1) (by omega), Option.bind_some, if_pos rfl, show (r.2 != r.2) = false by simp]
  rw [laws_FnExactRowKey.j2, if_neg (by decide), (i7 K (by omega)).2, Option.bind_some, if_neg (by omega), if_pos rfl]
end Go.Proofs.YtfbclbbhomhfaaaGreatDoor.Pure
