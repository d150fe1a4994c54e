/- Contracts of functions, and what is told of them. -/
import Derived.Test.YtfbclbbhomhfaaaDoorYFnExactWidenRow3
import Derived.Test.YtfbclbbhomhfaaaDoorYFnExactWidenRow4
import Derived.Test.YtfbclbbhomhfaaaDoorYFnExactWidenRow15
import Derived.Test.YtfbclbbhomhfaaaDoorYFnExactWidenRow6
import Derived.Test.YtfbclbbhomhfaaaDoorYFnExactWidenRow5
import Derived.Test.YtfbclbbhomhfaaaDoorYFnExactWidenRow22
import Derived.OpenShut
import Derived.Test.YtfbclbbhomhfaaaDoorYFnExactWidenRow10
import Derived.Test.YtfbclbbhomhfaaaDoorYFnExactWidenRow12
import Derived.Test.YtfbclbbhomhfaaaDoorYFnExactWidenRow19
import Derived.Test.YtfbclbbhomhfaaaDoorYFnExactWidenRow17
import Derived.Test.YtfbclbbhomhfaaaDoorYFnExactWidenRow8
import Derived.Test.YtfbclbbhomhfaaaDoorYFnExactWidenRow16
import Derived.Test.YtfbclbbhomhfaaaDoorYFnExactWidenRow7
import Derived.Test.YtfbclbbhomhfaaaDoorYFnExactWidenRow11
import Derived.Test.YtfbclbbhomhfaaaDoorRows
import Derived.LaidByTextLater
import Derived.SevenTiedAt
import Derived.LaidSub
import Derived.LaidOnce
import GoSem.ClaimSeven
set_option linter.unusedSimpArgs false
set_option linter.unusedVariables false
section
/- A table is right for both or for neither. -/
namespace Go.Proofs.YtfbclbbhomhfaaaDoor.Pure
open Go.RowKit Go.Proofs.YtfbclbbhomhfaaaDoor.X Go.Proofs.YtfbclbbhomhfaaaDoorW.PrintWords Go.Proofs.YtfbclbbhomhfaaaDoorW.PrintLast
def SmallT (B : Nat) (C : List S72) (X : List S74) : Prop :=
  (∀ x ∈ C, x.f0.size ≤ maxLen ∧ x.f0.size ≤ B) ∧ ∀ x ∈ X, x.f0.size ≤ maxLen ∧ x.f1.length ≤ 1048576 ∧ x.f0.size + x.f1.length + x.f1.length ≤ B
theorem idx_same (n0 : ByteArray) (C : List S72) (q : Int) (X : List S74) (B : Nat) (hS : SmallT B C X) (hC : C.length ≤ 1048576) (hX : X.length ≤ 1048576) (k : Nat) (hk : B + X.length + 200 < k) : ∀ d i, i + d = X.length →
    ∃ r, spec_TableOK.l1 (k + d + 1) (i : Int) n0 C q X = some r ∧ impl_TableOK.l1 (k + d + 1) X (X.length : Int) (i : Int) n0 C q X = some r
  | 0, i, h => by rw [show k + 0 + 1 = k + 1 from rfl, spec_TableOK.l1, impl_TableOK.l1, if_neg (show ¬ (i : Int) < (X.length : Int) by omega), if_neg (show ¬ (i : Int) < (X.length : Int) by omega)]; exact ⟨_, rfl, rfl⟩
  | d + 1, i, h => by
    have hlt : i < X.length := by omega
    have hx := hS.2 X[i] (List.getElem_mem hlt)
    obtain ⟨r, e1, e2⟩ := idx_same n0 C q X B hS hC hX k hk d (i + 1) (by omega)
    obtain ⟨t, f1, f2⟩ := index_same n0 C q X X[i] hx.1 hx.2.1 hC (k + d + 1) (by omega)
    have self := fIdx_self (fun x : S74 => x.f0.toList == X[i].f0.toList) X i hlt (by simp)
    rw [show k + (d + 1) + 1 = (k + d + 1) + 1 by omega, spec_TableOK.l1, impl_TableOK.l1, if_pos (show (i : Int) < (X.length : Int) by omega), if_pos (show (0 : Int) ≤ (i : Int) by omega), if_pos (show (i : Int) < (X.length : Int) by omega), if_pos (show (0 : Int) ≤ (i : Int) by omega), if_pos (show (i : Int) < (X.length : Int) by omega),
      rdiIndex_ X i hlt, f1, f2, Option.bind_some, Option.bind_some]
    cases t with
    | false => rw [if_neg (show ¬ false = true by decide), if_neg (show ¬ false = true by decide)]; exact ⟨_, rfl, rfl⟩
    | true =>
      rw [if_pos rfl, if_pos rfl, if_pos (show (i : Int) ≤ (X.length : Int) by omega), show (i : Int).toNat = i from rfl, findIndex_is (X.take i) _ (by rw [List.length_take]; omega) _ (by rw [List.length_take]; omega), next64 i X.length (by omega) (by simp only [maxLen]; omega), e1, e2]
      unfold impl_Table_index.f
      rw [Option.bind_some, Option.bind_some]
      by_cases c : fIdx (fun x : S74 => x.f0.toList == X[i].f0.toList) X = (i : Int)
      · rw [if_pos c, if_neg (show ¬ fIdx (fun x : S74 => x.f0.toList == X[i].f0.toList) (X.take i) ≥ 0 by have := self.1 c; omega)]; exact ⟨_, rfl, rfl⟩
      · rw [if_neg c, if_pos (show fIdx (fun x : S74 => x.f0.toList == X[i].f0.toList) (X.take i) ≥ 0 by have : ¬ _ := fun b => c (self.2 b); omega)]; exact ⟨_, rfl, rfl⟩
theorem cols_same (n0 : ByteArray) (C : List S72) (q : Int) (X : List S74) (B : Nat) (hS : SmallT B C X) (hC : C.length ≤ 1048576) (k : Nat) (hk : B + C.length + 200 < k)
    (H : ∃ r, spec_TableOK.l1 k 0 n0 C q X = some r ∧ impl_TableOK.l1 k X (X.length : Int) 0 n0 C q X = some r) : ∀ d i, i + d = C.length →
    ∃ r, spec_TableOK.l0 (k + d + 1) (i : Int) n0 C q X = some r ∧ impl_TableOK.l0 (k + d + 1) C (C.length : Int) (i : Int) n0 C q X = some r
  | 0, i, h => by rw [show k + 0 + 1 = k + 1 from rfl, spec_TableOK.l0, impl_TableOK.l0, if_neg (show ¬ (i : Int) < (C.length : Int) by omega), if_neg (show ¬ (i : Int) < (C.length : Int) by omega)]; exact H
  | d + 1, i, h => by
    have hlt : i < C.length := by omega
    have hx := hS.1 C[i] (List.getElem_mem hlt)
    obtain ⟨r, e1, e2⟩ := cols_same n0 C q X B hS hC k hk H d (i + 1) (by omega)
    have self := fIdx_self (fun x : S72 => x.f0.toList == C[i].f0.toList) C i hlt (by simp)
    rw [show k + (d + 1) + 1 = (k + d + 1) + 1 by omega, spec_TableOK.l0, impl_TableOK.l0, if_pos (show (i : Int) < (C.length : Int) by omega), if_pos (show (0 : Int) ≤ (i : Int) by omega), if_pos (show (i : Int) < (C.length : Int) by omega), if_pos (show (0 : Int) ≤ (i : Int) by omega), if_pos (show (i : Int) < (C.length : Int) by omega),
      rdiColumn_ C i hlt]
    unfold impl_columnOK.f impl_Table_column.f
    rw [impl_free C[i].f0 hx.1 _ (by omega), spec_free C[i].f0 hx.1 _ (by omega), impl_in, spec_in, show (i : Int).toNat = i from rfl, findColumn_is (C.take i) _ (by rw [List.length_take]; omega) _ (by rw [List.length_take]; omega), next64 i C.length (by omega) (by simp only [maxLen]; omega), e1, e2]
    simp only [Option.bind_some]
    cases free C[i].f0 with
    | false => simp
    | true =>
      cases (decide (1 ≤ C[i].f1) && decide (C[i].f1 ≤ 4)) with
      | false => simp
      | true =>
        by_cases c : fIdx (fun x : S72 => x.f0.toList == C[i].f0.toList) C = (i : Int)
        · have hn : ¬ fIdx (fun x : S72 => x.f0.toList == C[i].f0.toList) (C.take i) ≥ 0 := by have := self.1 c; omega
          by_cases hq : (i : Int) < q <;> cases C[i].f2 <;> simp [c, hn, hq, show (i : Int) ≤ (C.length : Int) by omega]
        · have hn : fIdx (fun x : S72 => x.f0.toList == C[i].f0.toList) (C.take i) ≥ 0 := by have : ¬ _ := fun b => c (self.2 b); omega
          by_cases hq : (i : Int) < q <;> cases C[i].f2 <;> simp [c, hn, hq, show (i : Int) ≤ (C.length : Int) by omega]
end Go.Proofs.YtfbclbbhomhfaaaDoor.Pure
end

section
/- A law's copies, likeness and sizes of tables. -/
namespace Go.Proofs.YtfbclbbhomhfaaaDoor.Pure
open Go.RowKit Go.Proofs.YtfbclbbhomhfaaaDoor.X Go.Proofs.YtfbclbbhomhfaaaDoorW.PrintWords Go.Proofs.YtfbclbbhomhfaaaDoorW.PrintLast
theorem bound_of (C : List S64) (X : List S68) (hC : ∀ x ∈ C, x.f0.size ≤ maxLen) (hX : ∀ x ∈ X, x.f0.size ≤ maxLen ∧ x.f1.length ≤ 1048576) : ∃ B, SmallT B (C.map cvColumn) (X.map cvIndex) := by
  have h1 : ∃ B, ∀ x ∈ C, x.f0.size ≤ B := by
    clear hC
    induction C with
    | nil => exact ⟨0, fun x h => by cases h⟩
    | cons y ys ih => obtain ⟨B, hB⟩ := ih; exact ⟨B + y.f0.size, fun x h => by rcases List.mem_cons.1 h with rfl | h; omega; have := hB x h; omega⟩
  have h2 : ∃ B, ∀ x ∈ X, x.f0.size ≤ B := by
    clear hX
    induction X with
    | nil => exact ⟨0, fun x h => by cases h⟩
    | cons y ys ih => obtain ⟨B, hB⟩ := ih; exact ⟨B + y.f0.size, fun x h => by rcases List.mem_cons.1 h with rfl | h; omega; have := hB x h; omega⟩
  obtain ⟨B1, h1⟩ := h1
  obtain ⟨B2, h2⟩ := h2
  refine ⟨B1 + B2 + 2097152, fun x h => ?_, fun x h => ?_⟩
  · obtain ⟨y, hy, rfl⟩ := List.mem_map.1 h
    exact ⟨hC y hy, by have := h1 y hy; show y.f0.size ≤ _; omega⟩
  · obtain ⟨y, hy, rfl⟩ := List.mem_map.1 h
    exact ⟨(hX y hy).1, (hX y hy).2, by have := h2 y hy; have := (hX y hy).2; show y.f0.size + y.f1.length + y.f1.length ≤ _; omega⟩
theorem bound_if (C : List S64) (X : List S68) (hC : ∀ x ∈ C, x.f0.size ≤ maxLen) (hX : ∀ x ∈ X, x.f0.size ≤ maxLen) : ∃ B, (∀ x ∈ X, x.f1.length ≤ 1048576) → SmallT B (C.map cvColumn) (X.map cvIndex) := by
  by_cases h : ∀ x ∈ X, x.f1.length ≤ 1048576
  · obtain ⟨B, hB⟩ := bound_of C X hC (fun x hx => ⟨hX x hx, h x hx⟩); exact ⟨B, fun _ => hB⟩
  · exact ⟨0, fun h2 => absurd h2 h⟩
theorem table_same (n0 : ByteArray) (C : List S72) (q : Int) (X : List S74) (B : Nat) (hn : n0.size ≤ maxLen) (hS : SmallT B C X) (hC : C.length ≤ 1048576) (hX : X.length ≤ 1048576) (k : Nat) (hk : B + n0.size + C.length + X.length + C.length + X.length + 600 < k) :
    ∃ r, spec_TableOK.f k n0 C q X = some r ∧ impl_TableOK.f k n0 C q X = some r := by
  unfold spec_TableOK.f impl_TableOK.f
  rw [impl_free n0 hn k (by omega), spec_free n0 hn k (by omega), impl_in, spec_in, impl_in, spec_in]
  simp only [Option.bind_some]
  obtain ⟨k, rfl⟩ : ∃ m, k = m + 1 := ⟨k - 1, by omega⟩
  have hT : ∃ r, spec_TableOK.j0 (k + 1) true n0 C q X = some r ∧ impl_TableOK.j0 (k + 1) true n0 C q X = some r := by
    rw [spec_TableOK.j0, impl_TableOK.j0, if_pos rfl, if_pos rfl]; exact ⟨_, rfl, rfl⟩
  have hF : ∃ r, spec_TableOK.j0 (k + 1) false n0 C q X = some r ∧ impl_TableOK.j0 (k + 1) false n0 C q X = some r := by
    rw [spec_TableOK.j0, impl_TableOK.j0, if_neg (show ¬ false = true by decide), if_neg (show ¬ false = true by decide)]
    have h1 := idx_same n0 C q X B hS hC hX (k - C.length - 1 - X.length - 1) (by omega) X.length 0 (by omega)
    rw [show k - C.length - 1 - X.length - 1 + X.length + 1 = k - C.length - 1 by omega] at h1
    have h2 := cols_same n0 C q X B hS hC (k - C.length - 1) (by omega) h1 C.length 0 (by omega)
    rw [show k - C.length - 1 + C.length + 1 = k by omega] at h2
    exact h2
  cases free n0 with
  | false => rw [if_neg (show ¬ false = true by decide), if_neg (show ¬ false = true by decide)]; exact hT
  | true =>
    rw [if_pos rfl, if_pos rfl]
    cases (decide (1 ≤ (C.length : Int)) && decide ((C.length : Int) ≤ 8)) with
    | false => rw [if_neg (show ¬ false = true by decide), if_neg (show ¬ false = true by decide)]; exact hT
    | true =>
      rw [if_pos rfl, if_pos rfl]
      cases (decide (1 ≤ q) && decide (q ≤ (C.length : Int))) with
      | false => rw [if_neg (show ¬ false = true by decide), if_neg (show ¬ false = true by decide)]; exact hT
      | true =>
        rw [if_pos rfl, if_pos rfl]
        cases decide ((X.length : Int) > 4) with
        | true => exact hT
        | false => exact hF
theorem szTable_is (n0 : ByteArray) (C : List S64) (q : Int) (X : List S68) (hn : n0.size ≤ maxLen) (hCl : C.length ≤ maxLen) (hC : ∀ x ∈ C, x.f0.size ≤ maxLen) (hXl : X.length ≤ maxLen) (hX : ∀ x ∈ X, x.f0.size ≤ maxLen ∧ x.f1.length ≤ maxLen)
    (m : Int) (hm : 0 ≤ m ∧ m ≤ 1048576) (k : Nat) (hk : C.length + X.length < k) :
    ∃ n, laws_szTable.f k n0 C q X m = some n ∧ -1 ≤ n ∧ n ≤ m ∧ (n < 0 ∨ (n0.size ≤ 1048576 ∧ C.length ≤ 1048576 ∧ X.length ≤ 1048576 ∧ ∀ x ∈ X, x.f1.length ≤ 1048576)) := by
  unfold laws_szTable.f
  have hn2 := hn
  simp only [maxLen] at hn2
  rw [wrap_in (m - (n0.size : Int)) (by omega)]
  by_cases c : m - (n0.size : Int) < 0
  · rw [if_pos c]; exact ⟨_, rfl, by omega⟩
  rw [if_neg c]
  obtain ⟨m1, e1, a1, b1, d1⟩ := szColumnS_is C hCl hC (m - (n0.size : Int)) (by omega) k (by omega)
  rw [e1, Option.bind_some]
  by_cases c1 : m1 < 0
  · rw [if_pos c1]; exact ⟨_, rfl, by omega⟩
  rw [if_neg c1]
  obtain ⟨m2, e2, a2, b2, d2⟩ := szIndexS_is X hXl hX m1 (by omega) k (by omega)
  rw [e2, Option.bind_some]
  by_cases c2 : m2 < 0
  · rw [if_pos c2]; exact ⟨_, rfl, by omega⟩
  rw [if_neg c2]
  exact ⟨_, rfl, by omega, by omega, .inr ⟨by omega, d1.resolve_left c1, (d2.resolve_left c2).1, (d2.resolve_left c2).2⟩⟩
theorem toTable_is (n0 : ByteArray) (C : List S64) (q : Int) (X : List S68) (hC : C.length ≤ 1048576) (hX : X.length ≤ 1048576) (hsm : ∀ x ∈ X, x.f1.length ≤ 1048576) (k : Nat) (hk : 2097152 < k) :
    laws_toTable.f k n0 C q X = some (n0, C.map cvColumn, q, X.map cvIndex) := by
  unfold laws_toTable.f
  rw [toColumnS_is C hC k (by omega), toIndexS_is X hX 1048576 (by omega) hsm k (by omega)]
  rfl
theorem eqTable_refl (n0 : ByteArray) (C : List S72) (q : Int) (X : List S74) (hC : C.length ≤ 1048576) (hX : X.length ≤ 1048576) (hsm : ∀ x ∈ X, x.f1.length ≤ 1048576) (k : Nat) (hk : 2097152 < k) :
    laws_eqTable.f k n0 C q X n0 C q X = some true := by
  unfold laws_eqTable.f
  simp only [if_true]
  rw [eqColumnS_refl C hC k (by omega), eqIndexS_refl X hX 1048576 (by omega) hsm k (by omega)]
  rfl
end Go.Proofs.YtfbclbbhomhfaaaDoor.Pure
end

section
/- A value's code in a column, a row's code in a table. -/
namespace Go.Proofs.YtfbclbbhomhfaaaDoor.Pure
open Go.RowKit Go.Proofs.YtfbclbbhomhfaaaDoor.X Go.Proofs.YtfbclbbhomhfaaaDoorW.PrintWords Go.Proofs.YtfbclbbhomhfaaaDoorW.PrintLast
def cellCode (ty : Int) (nl : Bool) (kd : Int) : Int := if kd = 0 then (if nl = true then 0 else 14) else if kd = ty then 0 else 10
theorem impl_fits (a : ByteArray) (b : Int) (c : Bool) (d e : Int) (f : ByteArray) (k : Nat) : impl_Column_fits.f (k + 1) a b c d e f = some (cellCode b c d) := by
  unfold impl_Column_fits.f cellCode
  by_cases h : d = 0
  · subst h; cases c <;> simp [impl_Column_fits.j0]
  · simp [impl_Column_fits.j0, h]; split <;> rfl
theorem spec_cell (a : ByteArray) (b : Int) (c : Bool) (d e : Int) (f : ByteArray) (k : Nat) : spec_l09Cell.f (k + 1) a b c d e f = some (cellCode b c d) := by
  unfold spec_l09Cell.f cellCode
  by_cases h : d = 0
  · subst h; cases c <;> simp [spec_l09Cell.j0]
  · simp [spec_l09Cell.j0, h]; split <;> rfl
theorem row_loop (n0 : ByteArray) (C : List S72) (q : Int) (X : List S74) (R : List S41) (hR : R.length ≤ 1048576) (hL : R.length = C.length) (k : Nat) : ∀ d i, i + d = R.length →
    ∃ r, spec_l09Row.l0 (k + 1 + d + 1) R (i : Int) n0 C q X = some r ∧ impl_Table_rowCode.l0 (k + 1 + d + 1) R C (C.length : Int) (i : Int) = some r
  | 0, i, h => by rw [show k + 1 + 0 + 1 = (k + 1) + 1 from rfl, spec_l09Row.l0, impl_Table_rowCode.l0, if_neg (by omega), if_neg (by omega)]; exact ⟨_, rfl, rfl⟩
  | d + 1, i, h => by
    have hlt : i < R.length := by omega
    have hlc : i < C.length := by omega
    obtain ⟨r, e1, e2⟩ := row_loop n0 C q X R hR hL k d (i + 1) (by omega)
    rw [show k + 1 + (d + 1) + 1 = (k + 1 + d + 1) + 1 by omega, spec_l09Row.l0, impl_Table_rowCode.l0, if_pos (by omega), if_pos (by omega), if_pos (by omega), if_pos (by omega), if_pos (by omega), if_pos (by omega), if_pos (by omega),
      rdiValue_ R i hlt, rdiColumn_ C i hlc, show k + 1 + d + 1 = (k + 1 + d) + 1 from rfl, spec_cell, impl_fits, Option.bind_some, Option.bind_some, next64 i R.length hlt (by simp only [maxLen]; omega)]
    by_cases c : cellCode C[i].f1 C[i].f2 R[i].f0 = 0
    · rw [if_pos c, if_pos c]; exact ⟨r, e1, e2⟩
    · rw [if_neg c, if_neg c]; exact ⟨_, rfl, rfl⟩
theorem rowcode_same (n0 : ByteArray) (C : List S72) (q : Int) (X : List S74) (R : List S41) (hR : R.length ≤ 1048576) (k : Nat) (hk : R.length + 2 < k) :
    ∃ r, spec_l09Row.f k n0 C q X R = some r ∧ impl_Table_rowCode.f k n0 C q X R = some r := by
  unfold spec_l09Row.f impl_Table_rowCode.f
  by_cases h : R.length = C.length
  · rw [if_pos (by omega), if_pos (by omega)]
    have := row_loop n0 C q X R hR h (k - R.length - 2) R.length 0 (by omega)
    rw [show k - R.length - 2 + 1 + R.length + 1 = k by omega] at this
    exact this
  · rw [if_neg (by omega), if_neg (by omega)]; exact ⟨_, rfl, rfl⟩
theorem checkrow_same (n0 : ByteArray) (C : List S72) (q : Int) (X : List S74) (B : Nat) (hn : n0.size ≤ maxLen) (hS : SmallT B C X) (hC : C.length ≤ 1048576) (hX : X.length ≤ 1048576) (R : List S41) (hR : R.length ≤ 1048576)
    (k : Nat) (hk : B + n0.size + C.length + X.length + C.length + X.length + R.length + 600 < k) :
    ∃ r, spec_CheckRow.f k n0 C q X R = some r ∧ impl_CheckRow.f k n0 C q X R = some r := by
  unfold spec_CheckRow.f impl_CheckRow.f
  by_cases h : (R.length : Int) > 4096
  · rw [if_pos h, if_pos h]; exact ⟨_, rfl, rfl⟩
  rw [if_neg h, if_neg h]
  obtain ⟨t, f1, f2⟩ := table_same n0 C q X B hn hS hC hX k (by omega)
  obtain ⟨r, g1, g2⟩ := rowcode_same n0 C q X R hR k (by omega)
  rw [f1, f2, spec_row R hR k (by omega), impl_row, g1, g2]
  simp only [Option.bind_some]
  cases t
  · exact ⟨_, rfl, rfl⟩
  · cases rowok R
    · exact ⟨_, rfl, rfl⟩
    · exact ⟨_, rfl, rfl⟩
end Go.Proofs.YtfbclbbhomhfaaaDoor.Pure
end

section
/- Marks: what is written, and that it is held. -/
namespace Go.Proofs.YtfbclbbhomhfaaaDoor.Pure
open Go.RowKit Go.Proofs.YtfbclbbhomhfaaaDoor.X Go.Proofs.YtfbclbbhomhfaaaDoorW.PrintWords Go.Proofs.YtfbclbbhomhfaaaDoorW.PrintLast
theorem sn1 (a : Int) : (strOfNums [a]).size = 1 := by first | rfl | simp [strOfNums] | (unfold strOfNums; simp)
theorem markText_l0 : ∀ (d : Nat) (x : Int) (s : ByteArray), x < 10 ^ d → x ≤ 1000000000000000000 → s.size + d ≤ 1000 → ∃ t, ∀ k, laws_markText.l0 (k + d + 1) x s = some t
  | 0, x, s, h, _, hs => by
    have h : x < 1 := h
    exact ⟨(⟨#[109]⟩ : ByteArray) ++ s, fun k => by rw [show k + 0 + 1 = k + 1 from rfl, laws_markText.l0, if_neg (by omega), if_pos (by omega)]⟩
  | d + 1, x, s, h, hx, hs => by
    by_cases c : x > 0
    · have ht : Int.tdiv x 10 = x / 10 := Int.tdiv_eq_ediv_of_nonneg (by omega)
      have hp : (10 : Int) ^ (d + 1) = 10 ^ d * 10 := Int.pow_succ _ _
      rw [hp] at h
      have hq : x / 10 < 10 ^ d := by generalize (10 : Int) ^ d = p at h ⊢; omega
      obtain ⟨t, e⟩ := markText_l0 d (x / 10) ((strOfNums [(wrap64 (48 + (Int.tmod x 10))) % 256]) ++ s) hq (by omega) (by rw [ByteArray.size_append, sn1]; omega)
      refine ⟨t, fun k => ?_⟩
      rw [show k + (d + 1) + 1 = (k + d + 1) + 1 by omega, laws_markText.l0, if_pos c, Option.bind_some, if_pos (by rw [sn1]; omega), show wrap64 (Int.tdiv x 10) = x / 10 by rw [ht]; unfold wrap64; omega]
      exact e k
    · exact ⟨(⟨#[109]⟩ : ByteArray) ++ s, fun k => by rw [show k + (d + 1) + 1 = (k + d + 1) + 1 by omega, laws_markText.l0, if_neg c, if_pos (by omega)]⟩
theorem markText_is (x : Int) (hx : x ≤ 1000000000000000) : ∃ t, ∀ k, 20 < k → laws_markText.f k x = some t := by
  by_cases c : x ≤ 0
  · exact ⟨(⟨#[109, 48]⟩ : ByteArray), fun k _ => by unfold laws_markText.f; rw [if_pos c]⟩
  · obtain ⟨t, e⟩ := markText_l0 18 x (⟨#[]⟩ : ByteArray) (by have : (10 : Int) ^ 18 = 1000000000000000000 := rfl; omega) (by omega) (by decide)
    refine ⟨t, fun k hk => ?_⟩
    unfold laws_markText.f
    rw [if_neg c, show k = (k - 19) + 18 + 1 by omega]; exact e _
theorem mark_held : ∀ (d : Nat) (xs : List S41) (x1 : Int) (i : Nat), i + d = xs.length → xs.length ≤ 4194304 → 0 ≤ x1 → x1 + 3 * d ≤ 100000000000000 →
    ∃ (r : Int) (ys : List S41), r = x1 + 3 * d ∧ ys.length = xs.length ∧ (∀ j, j < i → ys[j]? = xs[j]?) ∧ ∀ k, 20 < k → laws_markValueS.l0 (k + d + 1) xs x1 (i : Int) = some (r, ys) ∧ laws_heldValueS.l0 (k + d + 1) ys x1 (i : Int) = some r
  | 0, xs, x1, i, hi, hx, h0, hb => by
    refine ⟨x1, xs, by omega, rfl, fun _ _ => rfl, fun k hk => ⟨?_, ?_⟩⟩
    · rw [show k + 0 + 1 = k + 1 from rfl, laws_markValueS.l0, if_neg (by omega)]
    · rw [show k + 0 + 1 = k + 1 from rfl, laws_heldValueS.l0, if_neg (by omega)]
  | d + 1, xs, x1, i, hi, hx, h0, hb => by
    obtain ⟨t, ht⟩ := markText_is (x1 + 2) (by omega)
    have w1 : wrap64 (x1 + 1) = x1 + 1 := by unfold wrap64; omega
    have w2 : wrap64 (x1 + 1 + 1) = x1 + 2 := by unfold wrap64; omega
    have w3 : wrap64 (x1 + 2 + 1) = x1 + 3 := by unfold wrap64; omega
    have wi : wrap64 ((i : Int) + 1) = ((i + 1 : Nat) : Int) := by unfold wrap64; omega
    have hrd : ∀ e : S41, rd_T41 (xs.set i e) (i : Int) = e := fun e => by
      unfold rd_T41; rw [List.getD_eq_getElem?_getD, Int.toNat_natCast, List.getElem?_set_self (by omega)]; rfl
    obtain ⟨r, ys, re, hl, hp, hh⟩ := mark_held d (xs.set i ⟨x1, x1 + 1, t⟩) (x1 + 3) (i + 1) (by rw [List.length_set]; omega) (by rw [List.length_set]; omega) (by omega) (by omega)
    rw [List.length_set] at hl
    refine ⟨r, ys, by omega, hl, fun j hj => by rw [hp j (by omega), List.getElem?_set_ne (by omega)], fun k hk => ⟨?_, ?_⟩⟩
    · rw [show k + (d + 1) + 1 = (k + d + 1) + 1 by omega, laws_markValueS.l0, if_pos (by omega), if_pos (by omega)]
      simp only [Option.bind_some, w1, w2, w3, wi, Int.toNat_natCast, List.set_set, hrd, ht (k + d + 1) (by omega)]
      exact (hh k hk).1
    · have hy : rd_T41 ys (i : Int) = ⟨x1, x1 + 1, t⟩ := by
        unfold rd_T41; rw [List.getD_eq_getElem?_getD, Int.toNat_natCast, hp i (by omega), List.getElem?_set_self (by omega)]; rfl
      rw [show k + (d + 1) + 1 = (k + d + 1) + 1 by omega, laws_heldValueS.l0, if_pos (by omega), if_pos (by omega), hy, if_pos rfl]
      simp only [w1, w2, w3, wi, if_true, ht (k + d + 1) (by omega), Option.bind_some]
      exact (hh k hk).2
theorem marks_held (xs : List S41) (x1 : Int) (hx : xs.length ≤ 4194304) (h0 : 0 ≤ x1) (hb : x1 ≤ 10000000000000) :
    ∃ (r : Int) (ys : List S41), 0 ≤ r ∧ r ≤ x1 + 3 * xs.length ∧ ys.length = xs.length ∧ ∀ k, xs.length + 21 < k → laws_markValueS.f k xs x1 = some (r, ys) ∧ laws_heldValueS.f k ys x1 = some r := by
  obtain ⟨r, ys, e, hl, _, h⟩ := mark_held xs.length xs x1 0 (by omega) hx h0 (by omega)
  refine ⟨r, ys, by omega, by omega, hl, fun k hk => ?_⟩
  have := h (k - xs.length - 1) (by omega)
  rw [show k - xs.length - 1 + xs.length + 1 = k by omega] at this
  exact this
theorem markInt_is : ∀ (d k : Nat) (xs : List Int) (x1 : Int) (i : Nat), i + d = xs.length → xs.length ≤ 4194304 → 0 ≤ x1 → x1 + d ≤ 100000000000000 → ∃ ys, laws_markIntS.l0 (k + d + 1) xs x1 (i : Int) = some (x1 + d, ys)
  | 0, k, xs, x1, i, hi, hx, h0, hb => by
    rw [show k + 0 + 1 = k + 1 from rfl, laws_markIntS.l0, if_neg (by omega)]; exact ⟨xs, by simp⟩
  | d + 1, k, xs, x1, i, hi, hx, h0, hb => by
    obtain ⟨ys, m⟩ := markInt_is d k (xs.set i x1) (x1 + 1) (i + 1) (by rw [List.length_set]; omega) (by rw [List.length_set]; omega) (by omega) (by omega)
    refine ⟨ys, ?_⟩
    rw [show k + (d + 1) + 1 = (k + d + 1) + 1 by omega, laws_markIntS.l0, if_pos (by omega), if_pos (by omega), show wrap64 (x1 + 1) = x1 + 1 by unfold wrap64; omega, show wrap64 ((i : Int) + 1) = ((i + 1 : Nat) : Int) by unfold wrap64; omega, Int.toNat_natCast, m, show x1 + 1 + (d : Int) = x1 + ((d + 1 : Nat) : Int) by omega]
theorem markColumn_is : ∀ (d k : Nat) (xs : List S72) (x1 : Int) (i : Nat), i + d = xs.length → xs.length ≤ 4194304 → 0 ≤ x1 → x1 + 3 * d ≤ 100000000000000 → 20 < k → ∃ ys, laws_markColumnS.l0 (k + d + 1) xs x1 (i : Int) = some (x1 + 3 * d, ys)
  | 0, k, xs, x1, i, hi, hx, h0, hb, hk => by
    rw [show k + 0 + 1 = k + 1 from rfl, laws_markColumnS.l0, if_neg (by omega)]; exact ⟨xs, by simp⟩
  | d + 1, k, xs, x1, i, hi, hx, h0, hb, hk => by
    obtain ⟨t, ht⟩ := markText_is x1 (by omega)
    have w1 : wrap64 (x1 + 1) = x1 + 1 := by unfold wrap64; omega
    have w2 : wrap64 (x1 + 1 + 1) = x1 + 2 := by unfold wrap64; omega
    have w3 : wrap64 (x1 + 2 + 1) = x1 + 3 := by unfold wrap64; omega
    have wi : wrap64 ((i : Int) + 1) = ((i + 1 : Nat) : Int) := by unfold wrap64; omega
    rw [show k + (d + 1) + 1 = (k + d + 1) + 1 by omega, laws_markColumnS.l0, if_pos (by omega), ht _ (by omega), Option.bind_some, if_pos (by omega)]
    simp only [Option.bind_some, w1, w2, w3, wi, Int.toNat_natCast, List.set_set]
    rw [show x1 + 3 * ((d + 1 : Nat) : Int) = (x1 + 3) + 3 * (d : Int) by omega]
    exact markColumn_is d k _ (x1 + 3) (i + 1) (by rw [List.length_set]; omega) (by rw [List.length_set]; omega) (by omega) (by omega) hk
theorem markIndex_is : ∀ (d k : Nat) (xs : List S74) (x1 : Int) (i : Nat), i + d = xs.length → xs.length ≤ 1048576 → (∀ x ∈ xs, x.f1.length ≤ 1048576) → 0 ≤ x1 → x1 + 1048577 * d ≤ 100000000000000 → 1048600 < k → ∃ r, laws_markIndexS.l0 (k + d + 1) xs x1 (i : Int) = some r ∧ x1 ≤ r ∧ r ≤ x1 + 1048577 * d
  | 0, k, xs, x1, i, hi, hx, hM, h0, hb, hk => by
    rw [show k + 0 + 1 = k + 1 from rfl, laws_markIndexS.l0, if_neg (by omega)]; exact ⟨x1, rfl, by omega, by omega⟩
  | d + 1, k, xs, x1, i, hi, hx, hM, h0, hb, hk => by
    have hlt : i < xs.length := by omega
    obtain ⟨t, ht⟩ := markText_is x1 (by omega)
    have hrd : rd_T74 xs (i : Int) = xs[i] := by unfold rd_T74; rw [List.getD_eq_getElem?_getD, Int.toNat_natCast, List.getElem?_eq_getElem hlt]; rfl
    have hm := hM xs[i] (List.getElem_mem hlt)
    obtain ⟨ys, m⟩ := markInt_is xs[i].f1.length (k + d - xs[i].f1.length) xs[i].f1 (x1 + 1) 0 (by omega) (by omega) (by omega) (by omega)
    rw [show k + d - xs[i].f1.length + xs[i].f1.length + 1 = k + d + 1 by omega] at m
    obtain ⟨r, e, g1, g2⟩ := markIndex_is d k xs (x1 + 1 + xs[i].f1.length) (i + 1) (by omega) hx hM (by omega) (by omega) hk
    refine ⟨r, ?_, by omega, by omega⟩
    rw [show k + (d + 1) + 1 = (k + d + 1) + 1 by omega, laws_markIndexS.l0, if_pos (by omega), if_pos (by omega), ht _ (by omega), Option.bind_some, hrd, show wrap64 (x1 + 1) = x1 + 1 by unfold wrap64; omega, laws_markIntS.f, show (0 : Int) = ((0 : Nat) : Int) from rfl, m, Option.bind_some, show wrap64 ((i : Int) + 1) = ((i + 1 : Nat) : Int) by unfold wrap64; omega]
    exact e
theorem markTable_is (n0 : ByteArray) (C : List S72) (q : Int) (X : List S74) (hC : C.length ≤ 1048576) (hX : X.length ≤ 1048576) (hM : ∀ x ∈ X, x.f1.length ≤ 1048576) (x1 : Int) (h0 : 0 ≤ x1) (hb : x1 ≤ 1000000000000) (k : Nat) (hk : C.length + X.length + 1048602 < k) :
    ∃ r, laws_markTable.f k n0 C q X x1 = some r ∧ 0 ≤ r ∧ r ≤ x1 + 1200000000000 := by
  obtain ⟨ys, g⟩ := markColumn_is C.length (k - C.length - 1) C x1 0 (by omega) (by omega) h0 (by omega) (by omega)
  rw [show k - C.length - 1 + C.length + 1 = k by omega] at g
  obtain ⟨r, e, a, b⟩ := markIndex_is X.length (k - X.length - 1) X (x1 + 3 * C.length) 0 (by omega) hX hM (by omega) (by omega) (by omega)
  rw [show k - X.length - 1 + X.length + 1 = k by omega] at e
  refine ⟨r, ?_, by omega, by omega⟩
  unfold laws_markTable.f
  rw [show laws_markColumnS.f k C x1 = some (x1 + 3 * C.length, ys) from g, Option.bind_some]
  exact e
end Go.Proofs.YtfbclbbhomhfaaaDoor.Pure
end

section
/-
  DERIVED. GIVEN WITH THE SEED: THE PROGRAM's TIES (one call each: nine closed facts by the kernel) AND EACH ROW's TIE, after the 31st guide's Derived/Test/Toyas{Tie, Card}.lean. No idea stands in it: it is a product of the set-up. Laid BY PROGRAM, IN A SANDBOX (cutbox-door.mjs). By AI agents, Wed Nov 11 2026. No macro, syntax, notation, axiom, sorry.
-/
namespace Go.Proofs.YtfbclbbhomhfaaaDoor
open Go
set_option maxRecDepth 100000
theorem seatTie1 : Tryd.prog.laidByTextLater [("unicode/utf8.acceptRanges", Rows.laid_unicode_utf8_acceptRanges)] [.data] true :=
  Program.laidByTextLater_by_one 19 8 33 (by kernel_rfl) (by kernel_rfl) (by kernel_rfl) (by kernel_rfl) (by kernel_rfl) (by kernel_rfl) (fun _ _ => by kernel_rfl)
theorem pin_laid_unicode_utf8_first : Tryd.pinned.checked.prog.pinnedFits "unicode/utf8.first" = true := by kernel_rfl
theorem noOwnUnsafe : Tryd.pinned.checked.prog.headLifts.contains "ownunsafe" = false := by kernel_rfl
theorem fits1 : Tryd.pinned.checked.prog.listedFits [("unicode/utf8.acceptRanges", Rows.laid_unicode_utf8_acceptRanges), ("unicode/utf8.first", Rows.laid_unicode_utf8_first)] = true := by
  unfold Program.listedFits
  rw [noOwnUnsafe]
  kernel_rfl
theorem tie : Tryd.prog.laidByTextLater [("unicode/utf8.acceptRanges", Rows.laid_unicode_utf8_acceptRanges)] [.data] true :=
  Program.laidByTextLater.sub seatTie1 ["unicode/utf8.acceptRanges"] (by kernel_rfl) (by kernel_rfl)
theorem fnExactWidenRow_row_tie : Rows.fnExactWidenRowRow.laidByTextAt .later Tryd.pinned [.data, .pinned] true :=
  OpenClaim.laidByTextAt_pinned rfl rfl tie rfl rfl rfl rfl (fun y hy _e => by
    simp only [Rows.fnExactWidenRowRow, List.zip_cons_cons, List.zip_nil_right, List.mem_cons, List.mem_nil_iff, or_false] at hy
    rcases hy with rfl | rfl
    · cases _e
    · exact ⟨pin_laid_unicode_utf8_first, by kernel_rfl⟩) fits1
theorem fnExactWidenRowUpto_row_tie : Rows.fnExactWidenRowUptoRow.laidByTextAt .later Tryd.pinned [.data, .pinned] true :=
  OpenClaim.laidByTextAt_pinned rfl rfl tie rfl rfl rfl rfl (fun y hy _e => by
    simp only [Rows.fnExactWidenRowUptoRow, List.zip_cons_cons, List.zip_nil_right, List.mem_cons, List.mem_nil_iff, or_false] at hy
    rcases hy with rfl | rfl
    · cases _e
    · exact ⟨pin_laid_unicode_utf8_first, by kernel_rfl⟩) fits1
end Go.Proofs.YtfbclbbhomhfaaaDoor
end

section
/-
  DERIVED. GIVEN WITH THE SEED: THE CARDS: each row of YtfbclbbhomhfaaaDoorRows.lean that lists a variable, with what it lists TIED to the program's text (the seventh form; the later family's looks); each row that meets fmt, with fmt's text TOLD by the authors' own Lean function (tested against real Go, not proved from fmt's source: count such statements apart). THE CARD IS WHAT COUNTS. Prove the row's statement (the work); the ties are given (YtfbclbbhomhfaaaDoorTie.lean); close each card by the builder's one call (the guide's Derived/Test/ToyasCard.lean, 'card_holds'). Laid BY PROGRAM, IN A SANDBOX (cutbox-door.mjs). By AI agents, Wed Nov 11 2026. No macro, syntax, notation, axiom, sorry.
-/
namespace Go.Proofs.YtfbclbbhomhfaaaDoor
namespace Rows

def fnExactWidenRowCard : Claim7 := { stood := { row := fnExactWidenRowRow, standIns := [], harness := (true, "d88f2faa21c6a88ad13b979ec6567539db5399c5d0c4eab25240442a77ba1503"), looks := false }, kinds := [], alts := [], laidByText := true, laidKinds := [.data, .pinned], laidTests := true, laidLooks := .later }
def FnExactWidenRowCardSaid : Prop := Claim7.holds Tryd.pinned (.plain (OpenSpec.ofChange fnExactWidenRowSpec)) fnExactWidenRowCard

def fnExactWidenRowUptoCard : Claim7 := { stood := { row := fnExactWidenRowUptoRow, standIns := [], harness := (true, "d88f2faa21c6a88ad13b979ec6567539db5399c5d0c4eab25240442a77ba1503"), looks := false }, kinds := [], alts := [], laidByText := true, laidKinds := [.data, .pinned], laidTests := true, laidLooks := .later }
def FnExactWidenRowUptoCardSaid : Prop := Claim7.holds Tryd.pinned (.plain (OpenSpec.upto fnExactWidenRowSpec)) fnExactWidenRowUptoCard
end Rows
end Go.Proofs.YtfbclbbhomhfaaaDoor
end
