/- Contracts of functions, and what is told of them. -/
import Derived.Test.YtlikagbdhjdggaaGreatDoorYFnExactIndexKey22
import Derived.Laws.BitsAllLaws
import Derived.Laws.Bits64
import Derived.Test.YtlikagbdhjdggaaGreatDoorRows
import Derived.LaidByTextLater
import Derived.SevenTiedAt
import Derived.LaidSub
import Derived.LaidOnce
import GoSem.ClaimSeven
set_option linter.unusedSimpArgs false
set_option linter.unusedVariables false
section
/- A table is right for both or for neither. -/
namespace Go.Proofs.YtlikagbdhjdggaaGreatDoor.Pure
open Go.RowKit Go.Proofs.YtlikagbdhjdggaaGreatDoor.X Go.Proofs.YtlikagbdhjdggaaGreatDoorW.PrintWords Go.Proofs.YtlikagbdhjdggaaGreatDoorW.PrintLast
def SmallT (B : Nat) (C : List S78) (X : List S58) : Prop :=
  (∀ x ∈ C, x.f0.size ≤ maxLen ∧ x.f0.size ≤ B) ∧ ∀ x ∈ X, x.f0.size ≤ maxLen ∧ x.f1.length ≤ 1048576 ∧ x.f0.size + x.f1.length + x.f1.length ≤ B
theorem idx_same (n0 : ByteArray) (C : List S78) (q : Int) (X : List S58) (B : Nat) (hS : SmallT B C X) (hC : C.length ≤ 1048576) (hX : X.length ≤ 1048576) (k : Nat) (hk : B + X.length + 200 < k) : ∀ d i, i + d = X.length →
    ∃ r, spec_TableOK.l1 (k + d + 1) (i : Int) n0 C q X = some r ∧ impl_TableOK.l1 (k + d + 1) X (X.length : Int) (i : Int) n0 C q X = some r
  | 0, i, h => by rw [show k + 0 + 1 = k + 1 from rfl, spec_TableOK.l1, impl_TableOK.l1, if_neg (show ¬ (i : Int) < (X.length : Int) by omega), if_neg (show ¬ (i : Int) < (X.length : Int) by omega)]; exact ⟨_, rfl, rfl⟩
  | d + 1, i, h => by
    have hlt : i < X.length := by omega
    have hx := hS.2 X[i] (List.getElem_mem hlt)
    obtain ⟨r, e1, e2⟩ := idx_same n0 C q X B hS hC hX k hk d (i + 1) (by omega)
    obtain ⟨t, f1, f2⟩ := index_same n0 C q X X[i] hx.1 hx.2.1 hC (k + d + 1) (by omega)
    have self := fIdx_self (fun x : S58 => x.f0.toList == X[i].f0.toList) X i hlt (by simp)
    rw [show k + (d + 1) + 1 = (k + d + 1) + 1 by omega, spec_TableOK.l1, impl_TableOK.l1, if_pos (show (i : Int) < (X.length : Int) by omega), if_pos (show (0 : Int) ≤ (i : Int) by omega), if_pos (show (i : Int) < (X.length : Int) by omega), if_pos (show (0 : Int) ≤ (i : Int) by omega), if_pos (show (i : Int) < (X.length : Int) by omega),
      rdiIndex_ X i hlt, f1, f2, Option.bind_some, Option.bind_some]
    cases t with
    | false => rw [if_neg (show ¬ false = true by decide), if_neg (show ¬ false = true by decide)]; exact ⟨_, rfl, rfl⟩
    | true =>
      rw [if_pos rfl, if_pos rfl, if_pos (show (i : Int) ≤ (X.length : Int) by omega), show (i : Int).toNat = i from rfl, findIndex_is (X.take i) _ (by rw [List.length_take]; omega) _ (by rw [List.length_take]; omega), next64 i X.length (by omega) (by simp only [maxLen]; omega), e1, e2]
      unfold impl_Table_index.f
      rw [Option.bind_some, Option.bind_some]
      by_cases c : fIdx (fun x : S58 => x.f0.toList == X[i].f0.toList) X = (i : Int)
      · rw [if_pos c, if_neg (show ¬ fIdx (fun x : S58 => x.f0.toList == X[i].f0.toList) (X.take i) ≥ 0 by have := self.1 c; omega)]; exact ⟨_, rfl, rfl⟩
      · rw [if_neg c, if_pos (show fIdx (fun x : S58 => x.f0.toList == X[i].f0.toList) (X.take i) ≥ 0 by have : ¬ _ := fun b => c (self.2 b); omega)]; exact ⟨_, rfl, rfl⟩
theorem cols_same (n0 : ByteArray) (C : List S78) (q : Int) (X : List S58) (B : Nat) (hS : SmallT B C X) (hC : C.length ≤ 1048576) (k : Nat) (hk : B + C.length + 200 < k)
    (H : ∃ r, spec_TableOK.l1 k 0 n0 C q X = some r ∧ impl_TableOK.l1 k X (X.length : Int) 0 n0 C q X = some r) : ∀ d i, i + d = C.length →
    ∃ r, spec_TableOK.l0 (k + d + 1) (i : Int) n0 C q X = some r ∧ impl_TableOK.l0 (k + d + 1) C (C.length : Int) (i : Int) n0 C q X = some r
  | 0, i, h => by rw [show k + 0 + 1 = k + 1 from rfl, spec_TableOK.l0, impl_TableOK.l0, if_neg (show ¬ (i : Int) < (C.length : Int) by omega), if_neg (show ¬ (i : Int) < (C.length : Int) by omega)]; exact H
  | d + 1, i, h => by
    have hlt : i < C.length := by omega
    have hx := hS.1 C[i] (List.getElem_mem hlt)
    obtain ⟨r, e1, e2⟩ := cols_same n0 C q X B hS hC k hk H d (i + 1) (by omega)
    have self := fIdx_self (fun x : S78 => x.f0.toList == C[i].f0.toList) C i hlt (by simp)
    rw [show k + (d + 1) + 1 = (k + d + 1) + 1 by omega, spec_TableOK.l0, impl_TableOK.l0, if_pos (show (i : Int) < (C.length : Int) by omega), if_pos (show (0 : Int) ≤ (i : Int) by omega), if_pos (show (i : Int) < (C.length : Int) by omega), if_pos (show (0 : Int) ≤ (i : Int) by omega), if_pos (show (i : Int) < (C.length : Int) by omega),
      rdiColumn_ C i hlt]
    unfold impl_columnOK.f impl_Table_column.f
    rw [impl_free C[i].f0 hx.1 _ (by omega), spec_free C[i].f0 hx.1 _ (by omega), impl_in, spec_in, show (i : Int).toNat = i from rfl, findColumn_is (C.take i) _ (by rw [List.length_take]; omega) _ (by rw [List.length_take]; omega), next64 i C.length (by omega) (by simp only [maxLen]; omega), e1, e2]
    simp only [Option.bind_some]
    cases free C[i].f0 with
    | false => simp
    | true =>
      cases (decide (1 ≤ C[i].f1) && decide (C[i].f1 ≤ 4)) with
      | false => simp
      | true =>
        by_cases c : fIdx (fun x : S78 => x.f0.toList == C[i].f0.toList) C = (i : Int)
        · have hn : ¬ fIdx (fun x : S78 => x.f0.toList == C[i].f0.toList) (C.take i) ≥ 0 := by have := self.1 c; omega
          by_cases hq : (i : Int) < q <;> cases C[i].f2 <;> simp [c, hn, hq, show (i : Int) ≤ (C.length : Int) by omega]
        · have hn : fIdx (fun x : S78 => x.f0.toList == C[i].f0.toList) (C.take i) ≥ 0 := by have : ¬ _ := fun b => c (self.2 b); omega
          by_cases hq : (i : Int) < q <;> cases C[i].f2 <;> simp [c, hn, hq, show (i : Int) ≤ (C.length : Int) by omega]
end Go.Proofs.YtlikagbdhjdggaaGreatDoor.Pure
end

section
/- A law's copies, likeness and sizes of tables. -/
namespace Go.Proofs.YtlikagbdhjdggaaGreatDoor.Pure
open Go.RowKit Go.Proofs.YtlikagbdhjdggaaGreatDoor.X Go.Proofs.YtlikagbdhjdggaaGreatDoorW.PrintWords Go.Proofs.YtlikagbdhjdggaaGreatDoorW.PrintLast
theorem bound_of (C : List S72) (X : List S74) (hC : ∀ x ∈ C, x.f0.size ≤ maxLen) (hX : ∀ x ∈ X, x.f0.size ≤ maxLen ∧ x.f1.length ≤ 1048576) : ∃ B, SmallT B (C.map cvColumn) (X.map cvIndex) := by
  have h1 : ∃ B, ∀ x ∈ C, x.f0.size ≤ B := by
    clear hC
    induction C with
    | nil => exact ⟨0, fun x h => by cases h⟩
    | cons y ys ih => obtain ⟨B, hB⟩ := ih; exact ⟨B + y.f0.size, fun x h => by rcases List.mem_cons.1 h with rfl | h; omega; have := hB x h; omega⟩
  have h2 : ∃ B, ∀ x ∈ X, x.f0.size ≤ B := by
    clear hX
    induction X with
    | nil => exact ⟨0, fun x h => by cases h⟩
    | cons y ys ih => obtain ⟨B, hB⟩ := ih; exact ⟨B + y.f0.size, fun x h => by rcases List.mem_cons.1 h with rfl | h; omega; have := hB x h; omega⟩
  obtain ⟨B1, h1⟩ := h1
  obtain ⟨B2, h2⟩ := h2
  refine ⟨B1 + B2 + 2097152, fun x h => ?_, fun x h => ?_⟩
  · obtain ⟨y, hy, rfl⟩ := List.mem_map.1 h
    exact ⟨hC y hy, by have := h1 y hy; show y.f0.size ≤ _; omega⟩
  · obtain ⟨y, hy, rfl⟩ := List.mem_map.1 h
    exact ⟨(hX y hy).1, (hX y hy).2, by have := h2 y hy; have := (hX y hy).2; show y.f0.size + y.f1.length + y.f1.length ≤ _; omega⟩
theorem bound_if (C : List S72) (X : List S74) (hC : ∀ x ∈ C, x.f0.size ≤ maxLen) (hX : ∀ x ∈ X, x.f0.size ≤ maxLen) : ∃ B, (∀ x ∈ X, x.f1.length ≤ 1048576) → SmallT B (C.map cvColumn) (X.map cvIndex) := by
  by_cases h : ∀ x ∈ X, x.f1.length ≤ 1048576
  · obtain ⟨B, hB⟩ := bound_of C X hC (fun x hx => ⟨hX x hx, h x hx⟩); exact ⟨B, fun _ => hB⟩
  · exact ⟨0, fun h2 => absurd h2 h⟩
theorem table_same (n0 : ByteArray) (C : List S78) (q : Int) (X : List S58) (B : Nat) (hn : n0.size ≤ maxLen) (hS : SmallT B C X) (hC : C.length ≤ 1048576) (hX : X.length ≤ 1048576) (k : Nat) (hk : B + n0.size + C.length + X.length + C.length + X.length + 600 < k) :
    ∃ r, spec_TableOK.f k n0 C q X = some r ∧ impl_TableOK.f k n0 C q X = some r := by
  unfold spec_TableOK.f impl_TableOK.f
  rw [impl_free n0 hn k (by omega), spec_free n0 hn k (by omega), impl_in, spec_in, impl_in, spec_in]
  simp only [Option.bind_some]
  obtain ⟨k, rfl⟩ : ∃ m, k = m + 1 := ⟨k - 1, by omega⟩
  have hT : ∃ r, spec_TableOK.j0 (k + 1) true n0 C q X = some r ∧ impl_TableOK.j0 (k + 1) true n0 C q X = some r := by
    rw [spec_TableOK.j0, impl_TableOK.j0, if_pos rfl, if_pos rfl]; exact ⟨_, rfl, rfl⟩
  have hF : ∃ r, spec_TableOK.j0 (k + 1) false n0 C q X = some r ∧ impl_TableOK.j0 (k + 1) false n0 C q X = some r := by
    rw [spec_TableOK.j0, impl_TableOK.j0, if_neg (show ¬ false = true by decide), if_neg (show ¬ false = true by decide)]
    have h1 := idx_same n0 C q X B hS hC hX (k - C.length - 1 - X.length - 1) (by omega) X.length 0 (by omega)
    rw [show k - C.length - 1 - X.length - 1 + X.length + 1 = k - C.length - 1 by omega] at h1
    have h2 := cols_same n0 C q X B hS hC (k - C.length - 1) (by omega) h1 C.length 0 (by omega)
    rw [show k - C.length - 1 + C.length + 1 = k by omega] at h2
    exact h2
  cases free n0 with
  | false => rw [if_neg (show ¬ false = true by decide), if_neg (show ¬ false = true by decide)]; exact hT
  | true =>
    rw [if_pos rfl, if_pos rfl]
    cases (decide (1 ≤ (C.length : Int)) && decide ((C.length : Int) ≤ 8)) with
    | false => rw [if_neg (show ¬ false = true by decide), if_neg (show ¬ false = true by decide)]; exact hT
    | true =>
      rw [if_pos rfl, if_pos rfl]
      cases (decide (1 ≤ q) && decide (q ≤ (C.length : Int))) with
      | false => rw [if_neg (show ¬ false = true by decide), if_neg (show ¬ false = true by decide)]; exact hT
      | true =>
        rw [if_pos rfl, if_pos rfl]
        cases decide ((X.length : Int) > 4) with
        | true => exact hT
        | false => exact hF
theorem szTable_is (n0 : ByteArray) (C : List S72) (q : Int) (X : List S74) (hn : n0.size ≤ maxLen) (hCl : C.length ≤ maxLen) (hC : ∀ x ∈ C, x.f0.size ≤ maxLen) (hXl : X.length ≤ maxLen) (hX : ∀ x ∈ X, x.f0.size ≤ maxLen ∧ x.f1.length ≤ maxLen)
    (m : Int) (hm : 0 ≤ m ∧ m ≤ 1048576) (k : Nat) (hk : C.length + X.length < k) :
    ∃ n, laws_szTable.f k n0 C q X m = some n ∧ -1 ≤ n ∧ n ≤ m ∧ (n < 0 ∨ (n0.size ≤ 1048576 ∧ C.length ≤ 1048576 ∧ X.length ≤ 1048576 ∧ ∀ x ∈ X, x.f1.length ≤ 1048576)) := by
  unfold laws_szTable.f
  have hn2 := hn
  simp only [maxLen] at hn2
  rw [wrap_in (m - (n0.size : Int)) (by omega)]
  by_cases c : m - (n0.size : Int) < 0
  · rw [if_pos c]; exact ⟨_, rfl, by omega⟩
  rw [if_neg c]
  obtain ⟨m1, e1, a1, b1, d1⟩ := szColumnS_is C hCl hC (m - (n0.size : Int)) (by omega) k (by omega)
  rw [e1, Option.bind_some]
  by_cases c1 : m1 < 0
  · rw [if_pos c1]; exact ⟨_, rfl, by omega⟩
  rw [if_neg c1]
  obtain ⟨m2, e2, a2, b2, d2⟩ := szIndexS_is X hXl hX m1 (by omega) k (by omega)
  rw [e2, Option.bind_some]
  by_cases c2 : m2 < 0
  · rw [if_pos c2]; exact ⟨_, rfl, by omega⟩
  rw [if_neg c2]
  exact ⟨_, rfl, by omega, by omega, .inr ⟨by omega, d1.resolve_left c1, (d2.resolve_left c2).1, (d2.resolve_left c2).2⟩⟩
theorem toTable_is (n0 : ByteArray) (C : List S72) (q : Int) (X : List S74) (hC : C.length ≤ 1048576) (hX : X.length ≤ 1048576) (hsm : ∀ x ∈ X, x.f1.length ≤ 1048576) (k : Nat) (hk : 2097152 < k) :
    laws_toTable.f k n0 C q X = some (n0, C.map cvColumn, q, X.map cvIndex) := by
  unfold laws_toTable.f
  rw [toColumnS_is C hC k (by omega), toIndexS_is X hX 1048576 (by omega) hsm k (by omega)]
  rfl
theorem eqTable_refl (n0 : ByteArray) (C : List S78) (q : Int) (X : List S58) (hC : C.length ≤ 1048576) (hX : X.length ≤ 1048576) (hsm : ∀ x ∈ X, x.f1.length ≤ 1048576) (k : Nat) (hk : 2097152 < k) :
    laws_eqTable.f k n0 C q X n0 C q X = some true := by
  unfold laws_eqTable.f
  simp only [if_true]
  rw [eqColumnS_refl C hC k (by omega), eqIndexS_refl X hX 1048576 (by omega) hsm k (by omega)]
  rfl
end Go.Proofs.YtlikagbdhjdggaaGreatDoor.Pure
end

section
/- A value's code in a column, a row's code in a table. -/
namespace Go.Proofs.YtlikagbdhjdggaaGreatDoor.Pure
open Go.RowKit Go.Proofs.YtlikagbdhjdggaaGreatDoor.X Go.Proofs.YtlikagbdhjdggaaGreatDoorW.PrintWords Go.Proofs.YtlikagbdhjdggaaGreatDoorW.PrintLast
def cellCode (ty : Int) (nl : Bool) (kd : Int) : Int := if kd = 0 then (if nl = true then 0 else 14) else if kd = ty then 0 else 10
theorem impl_fits (a : ByteArray) (b : Int) (c : Bool) (d e : Int) (f : ByteArray) (k : Nat) : impl_Column_fits.f (k + 1) a b c d e f = some (cellCode b c d) := by
  unfold impl_Column_fits.f cellCode
  by_cases h : d = 0
  · subst h; cases c <;> simp [impl_Column_fits.j0]
  · simp [impl_Column_fits.j0, h]; split <;> rfl
theorem spec_cell (a : ByteArray) (b : Int) (c : Bool) (d e : Int) (f : ByteArray) (k : Nat) : spec_l09Cell.f (k + 1) a b c d e f = some (cellCode b c d) := by
  unfold spec_l09Cell.f cellCode
  by_cases h : d = 0
  · subst h; cases c <;> simp [spec_l09Cell.j0]
  · simp [spec_l09Cell.j0, h]; split <;> rfl
theorem row_loop (n0 : ByteArray) (C : List S78) (q : Int) (X : List S58) (R : List S61) (hR : R.length ≤ 1048576) (hL : R.length = C.length) (k : Nat) : ∀ d i, i + d = R.length →
    ∃ r, spec_l09Row.l0 (k + 1 + d + 1) R (i : Int) n0 C q X = some r ∧ impl_Table_rowCode.l0 (k + 1 + d + 1) R C (C.length : Int) (i : Int) = some r
  | 0, i, h => by rw [show k + 1 + 0 + 1 = (k + 1) + 1 from rfl, spec_l09Row.l0, impl_Table_rowCode.l0, if_neg (by omega), if_neg (by omega)]; exact ⟨_, rfl, rfl⟩
  | d + 1, i, h => by
    have hlt : i < R.length := by omega
    have hlc : i < C.length := by omega
    obtain ⟨r, e1, e2⟩ := row_loop n0 C q X R hR hL k d (i + 1) (by omega)
    rw [show k + 1 + (d + 1) + 1 = (k + 1 + d + 1) + 1 by omega, spec_l09Row.l0, impl_Table_rowCode.l0, if_pos (by omega), if_pos (by omega), if_pos (by omega), if_pos (by omega), if_pos (by omega), if_pos (by omega), if_pos (by omega),
      rdiValue_ R i hlt, rdiColumn_ C i hlc, show k + 1 + d + 1 = (k + 1 + d) + 1 from rfl, spec_cell, impl_fits, Option.bind_some, Option.bind_some, next64 i R.length hlt (by simp only [maxLen]; omega)]
    by_cases c : cellCode C[i].f1 C[i].f2 R[i].f0 = 0
    · rw [if_pos c, if_pos c]; exact ⟨r, e1, e2⟩
    · rw [if_neg c, if_neg c]; exact ⟨_, rfl, rfl⟩
theorem rowcode_same (n0 : ByteArray) (C : List S78) (q : Int) (X : List S58) (R : List S61) (hR : R.length ≤ 1048576) (k : Nat) (hk : R.length + 2 < k) :
    ∃ r, spec_l09Row.f k n0 C q X R = some r ∧ impl_Table_rowCode.f k n0 C q X R = some r := by
  unfold spec_l09Row.f impl_Table_rowCode.f
  by_cases h : R.length = C.length
  · rw [if_pos (by omega), if_pos (by omega)]
    have := row_loop n0 C q X R hR h (k - R.length - 2) R.length 0 (by omega)
    rw [show k - R.length - 2 + 1 + R.length + 1 = k by omega] at this
    exact this
  · rw [if_neg (by omega), if_neg (by omega)]; exact ⟨_, rfl, rfl⟩
theorem checkrow_same (n0 : ByteArray) (C : List S78) (q : Int) (X : List S58) (B : Nat) (hn : n0.size ≤ maxLen) (hS : SmallT B C X) (hC : C.length ≤ 1048576) (hX : X.length ≤ 1048576) (R : List S61) (hR : R.length ≤ 1048576)
    (k : Nat) (hk : B + n0.size + C.length + X.length + C.length + X.length + R.length + 600 < k) :
    ∃ r, spec_CheckRow.f k n0 C q X R = some r ∧ impl_CheckRow.f k n0 C q X R = some r := by
  unfold spec_CheckRow.f impl_CheckRow.f
  by_cases h : (R.length : Int) > 4096
  · rw [if_pos h, if_pos h]; exact ⟨_, rfl, rfl⟩
  rw [if_neg h, if_neg h]
  obtain ⟨t, f1, f2⟩ := table_same n0 C q X B hn hS hC hX k (by omega)
  obtain ⟨r, g1, g2⟩ := rowcode_same n0 C q X R hR k (by omega)
  rw [f1, f2, spec_row R hR k (by omega), impl_row, g1, g2]
  simp only [Option.bind_some]
  cases t
  · exact ⟨_, rfl, rfl⟩
  · cases rowok R
    · exact ⟨_, rfl, rfl⟩
    · exact ⟨_, rfl, rfl⟩
end Go.Proofs.YtlikagbdhjdggaaGreatDoor.Pure
end

section
/- A right table's names and numbers are small. -/
namespace Go.Proofs.YtlikagbdhjdggaaGreatDoor.Pure
open Go.RowKit Go.Proofs.YtlikagbdhjdggaaGreatDoor.X Go.Proofs.YtlikagbdhjdggaaGreatDoorW.PrintWords Go.Proofs.YtlikagbdhjdggaaGreatDoorW.PrintLast
theorem free_le {x : ByteArray} (h : free x = true) : 1 ≤ x.size ∧ x.size ≤ 40 := by
  unfold free nameok at h
  simp only [Bool.and_eq_true, decide_eq_true_eq] at h
  have h1 := h.1.2.1
  have h2 := h.1.2.2
  omega
def gcol (c : S78) : Prop := c.f0.size ≤ 40 ∧ 1 ≤ c.f1 ∧ c.f1 ≤ 4
def gidx (n : Nat) (x : S58) : Prop := x.f0.size ≤ 40 ∧ x.f1.length ≤ n ∧ ∀ c ∈ x.f1, 0 ≤ c ∧ c < (n : Int)
theorem index_good (n0 : ByteArray) (C : List S78) (q : Int) (X : List S58) (x : S58) (hx : x.f0.size ≤ maxLen) (hL : x.f1.length ≤ 1048576) (k : Nat) (hk : x.f0.size + x.f1.length + x.f1.length + 100 < k)
    (h : impl_Table_indexOK.f k n0 C q X x.f0 x.f1 = some true) : gidx C.length x := by
  unfold impl_Table_indexOK.f at h
  rw [impl_free x.f0 hx k (by omega), Option.bind_some] at h
  cases hf : free x.f0 with
  | false => rw [hf] at h; simp at h
  | true =>
    rw [hf, if_pos rfl] at h
    by_cases h0 : (x.f1.length : Int) > 0
    case neg => rw [if_neg h0] at h; simp at h
    rw [if_pos h0, twice_is x.f1 hL k (by omega), Option.bind_some] at h
    cases ht : twF x.f1 x.f1.length 0 with
    | true => rw [ht, if_pos rfl] at h; simp at h
    | false =>
      rw [ht, if_neg (by decide)] at h
      have ha : ∀ c ∈ x.f1, 0 ≤ c ∧ c < (C.length : Int) := by
        have h := Option.some.inj h
        rw [Bool.not_eq_true', List.any_eq_false] at h
        intro c hc
        have h2 := h c hc
        simp only [Bool.not_eq_true, Bool.not_eq_false', Bool.and_eq_true, decide_eq_true_eq] at h2
        omega
      exact ⟨(free_le hf).2, pigeon _ _ (tw_nodup _ ht) ha, ha⟩
theorem idx_good (n0 : ByteArray) (C : List S78) (q : Int) (X : List S58) (B : Nat) (hS : SmallT B C X) (hX : X.length ≤ 1048576) (k : Nat) (hk : B + X.length + 200 < k) : ∀ d i, i + d = X.length →
    impl_TableOK.l1 (k + d + 1) X (X.length : Int) (i : Int) n0 C q X = some true → ∀ j (hj : j < X.length), i ≤ j → gidx C.length X[j]
  | 0, i, h, _ => fun j hj hij => by omega
  | d + 1, i, h, e => by
    have hlt : i < X.length := by omega
    have hx := hS.2 X[i] (List.getElem_mem hlt)
    rw [show k + (d + 1) + 1 = (k + d + 1) + 1 by omega, impl_TableOK.l1, if_pos (show (i : Int) < (X.length : Int) by omega), if_pos (show (0 : Int) ≤ (i : Int) by omega), if_pos (show (i : Int) < (X.length : Int) by omega), rdiIndex_ X i hlt] at e
    obtain ⟨t, ht, e⟩ := Option.bind_eq_some_iff.1 e
    cases t with
    | false => simp at e
    | true =>
      rw [if_pos rfl] at e
      obtain ⟨u, _, e⟩ := Option.bind_eq_some_iff.1 e
      by_cases c : u = (i : Int)
      · rw [if_pos c, next64 i X.length hlt (by simp only [maxLen]; omega)] at e
        intro j hj hij
        rcases Nat.eq_or_lt_of_le hij with rfl | hlt2
        · exact index_good n0 C q X X[i] hx.1 hx.2.1 (k + d + 1) (by omega) ht
        · exact idx_good n0 C q X B hS hX k hk d (i + 1) (by omega) e j hj hlt2
      · rw [if_neg c] at e; simp at e
theorem cols_good (n0 : ByteArray) (C : List S78) (q : Int) (X : List S58) (B : Nat) (hS : SmallT B C X) (hC : C.length ≤ 1048576) (k : Nat) (hk : B + C.length + 200 < k) : ∀ d i, i + d = C.length →
    impl_TableOK.l0 (k + d + 1) C (C.length : Int) (i : Int) n0 C q X = some true → (∀ j (hj : j < C.length), i ≤ j → gcol C[j]) ∧ impl_TableOK.l1 k X (X.length : Int) 0 n0 C q X = some true
  | 0, i, h, e => by
    rw [show k + 0 + 1 = k + 1 from rfl, impl_TableOK.l0, if_neg (show ¬ (i : Int) < (C.length : Int) by omega)] at e
    exact ⟨fun j hj hij => by omega, e⟩
  | d + 1, i, h, e => by
    have hlt : i < C.length := by omega
    have hx := hS.1 C[i] (List.getElem_mem hlt)
    rw [show k + (d + 1) + 1 = (k + d + 1) + 1 by omega, impl_TableOK.l0, if_pos (show (i : Int) < (C.length : Int) by omega), if_pos (show (0 : Int) ≤ (i : Int) by omega), if_pos (show (i : Int) < (C.length : Int) by omega), rdiColumn_ C i hlt] at e
    unfold impl_columnOK.f at e
    rw [impl_free C[i].f0 hx.1 _ (by omega), impl_in] at e
    simp only [Option.bind_some] at e
    cases hf : free C[i].f0 with
    | false => rw [hf] at e; simp at e
    | true =>
      rw [hf, if_pos rfl, Option.bind_some] at e
      cases hw : (decide (1 ≤ C[i].f1) && decide (C[i].f1 ≤ 4)) with
      | false => rw [hw] at e; simp at e
      | true =>
        rw [hw, if_pos rfl] at e
        obtain ⟨u, _, e⟩ := Option.bind_eq_some_iff.1 e
        have hg : gcol C[i] := by
          simp only [Bool.and_eq_true, decide_eq_true_eq] at hw
          exact ⟨(free_le hf).2, hw.1, hw.2⟩
        by_cases c : u = (i : Int)
        case neg => rw [if_neg c] at e; simp at e
        rw [if_pos c, next64 i C.length hlt (by simp only [maxLen]; omega)] at e
        have e2 : impl_TableOK.l0 (k + d + 1) C (C.length : Int) ((i + 1 : Nat) : Int) n0 C q X = some true := by
          by_cases hq : (i : Int) < q
          · rw [if_pos hq] at e
            by_cases hb : C[i].f2 = true
            · rw [if_pos hb] at e; simp at e
            · rw [if_neg hb] at e; exact e
          · rw [if_neg hq] at e; exact e
        obtain ⟨r1, r2⟩ := cols_good n0 C q X B hS hC k hk d (i + 1) (by omega) e2
        refine ⟨fun j hj hij => ?_, r2⟩
        rcases Nat.eq_or_lt_of_le hij with rfl | hlt2
        · exact hg
        · exact r1 j hj hlt2
structure Good (n0 : ByteArray) (C : List S78) (q : Int) (X : List S58) : Prop where
  name : n0.size ≤ 40
  many : C.length ≤ 8
  key : 1 ≤ q ∧ q ≤ (C.length : Int)
  cols : ∀ c ∈ C, gcol c
  some : X.length ≤ 4
  idxs : ∀ x ∈ X, gidx C.length x
theorem table_good (n0 : ByteArray) (C : List S78) (q : Int) (X : List S58) (B : Nat) (hn : n0.size ≤ maxLen) (hS : SmallT B C X) (hC : C.length ≤ 1048576) (hX : X.length ≤ 1048576) (k : Nat) (hk : B + n0.size + C.length + X.length + C.length + X.length + 600 < k)
    (h : impl_TableOK.f k n0 C q X = some true) : Good n0 C q X := by
  unfold impl_TableOK.f at h
  rw [impl_free n0 hn k (by omega), impl_in, impl_in] at h
  simp only [Option.bind_some] at h
  obtain ⟨k, rfl⟩ : ∃ m, k = m + 1 := ⟨k - 1, by omega⟩
  have hT : ¬ impl_TableOK.j0 (k + 1) true n0 C q X = some true := by
    rw [impl_TableOK.j0, if_pos rfl]; simp
  cases hf : free n0 with
  | false => rw [hf, if_neg (by decide)] at h; exact absurd h hT
  | true =>
    rw [hf, if_pos rfl] at h
    cases h1 : (decide (1 ≤ (C.length : Int)) && decide ((C.length : Int) ≤ 8)) with
    | false => rw [h1, if_neg (by decide)] at h; exact absurd h hT
    | true =>
      rw [h1, if_pos rfl] at h
      cases h2 : (decide (1 ≤ q) && decide (q ≤ (C.length : Int))) with
      | false => rw [h2, if_neg (by decide)] at h; exact absurd h hT
      | true =>
        rw [h2, if_pos rfl] at h
        cases h3 : decide ((X.length : Int) > 4) with
        | true => rw [h3] at h; exact absurd h hT
        | false =>
          rw [h3, impl_TableOK.j0, if_neg (by decide)] at h
          simp only [Bool.and_eq_true, decide_eq_true_eq, decide_eq_false_iff_not] at h1 h2 h3
          have a := cols_good n0 C q X B hS hC (k - C.length - 1) (by omega) C.length 0 (by omega) (by rw [show k - C.length - 1 + C.length + 1 = k by omega]; exact h)
          have b := idx_good n0 C q X B hS hX (k - C.length - 1 - X.length - 1) (by omega) X.length 0 (by omega) (by rw [show k - C.length - 1 - X.length - 1 + X.length + 1 = k - C.length - 1 by omega]; exact a.2)
          exact ⟨(free_le hf).2, by omega, h2, fun c hc => by obtain ⟨j, hj, rfl⟩ := List.getElem_of_mem hc; exact a.1 j hj (Nat.zero_le _), by omega, fun x hx => by obtain ⟨j, hj, rfl⟩ := List.getElem_of_mem hx; exact b j hj (Nat.zero_le _)⟩
end Go.Proofs.YtlikagbdhjdggaaGreatDoor.Pure
end

section
/- Marks: what is written. -/
namespace Go.Proofs.YtlikagbdhjdggaaGreatDoor.Pure
open Go.RowKit Go.Proofs.YtlikagbdhjdggaaGreatDoor.X Go.Proofs.YtlikagbdhjdggaaGreatDoorW.PrintWords Go.Proofs.YtlikagbdhjdggaaGreatDoorW.PrintLast
theorem sn1 (a : Int) : (strOfNums [a]).size = 1 := by first | rfl | simp [strOfNums] | (unfold strOfNums; simp)
theorem markText_l0 : ∀ (d : Nat) (x : Int) (s : ByteArray), x < 10 ^ d → x ≤ 1000000000000000000 → s.size + d ≤ 1000 → ∃ t, ∀ k, laws_markText.l0 (k + d + 1) x s = some t
  | 0, x, s, h, _, hs => by
    have h : x < 1 := h
    exact ⟨(⟨#[109]⟩ : ByteArray) ++ s, fun k => by rw [show k + 0 + 1 = k + 1 from rfl, laws_markText.l0, if_neg (by omega), if_pos (by omega)]⟩
  | d + 1, x, s, h, hx, hs => by
    by_cases c : x > 0
    · have ht : Int.tdiv x 10 = x / 10 := Int.tdiv_eq_ediv_of_nonneg (by omega)
      have hp : (10 : Int) ^ (d + 1) = 10 ^ d * 10 := Int.pow_succ _ _
      rw [hp] at h
      have hq : x / 10 < 10 ^ d := by generalize (10 : Int) ^ d = p at h ⊢; omega
      obtain ⟨t, e⟩ := markText_l0 d (x / 10) ((strOfNums [(wrap64 (48 + (Int.tmod x 10))) % 256]) ++ s) hq (by omega) (by rw [ByteArray.size_append, sn1]; omega)
      refine ⟨t, fun k => ?_⟩
      rw [show k + (d + 1) + 1 = (k + d + 1) + 1 by omega, laws_markText.l0, if_pos c, Option.bind_some, if_pos (by rw [sn1]; omega), show wrap64 (Int.tdiv x 10) = x / 10 by rw [ht]; unfold wrap64; omega]
      exact e k
    · exact ⟨(⟨#[109]⟩ : ByteArray) ++ s, fun k => by rw [show k + (d + 1) + 1 = (k + d + 1) + 1 by omega, laws_markText.l0, if_neg c, if_pos (by omega)]⟩
theorem markText_is (x : Int) (hx : x ≤ 1000000000000000) : ∃ t, ∀ k, 20 < k → laws_markText.f k x = some t := by
  by_cases c : x ≤ 0
  · exact ⟨(⟨#[109, 48]⟩ : ByteArray), fun k _ => by unfold laws_markText.f; rw [if_pos c]⟩
  · obtain ⟨t, e⟩ := markText_l0 18 x (⟨#[]⟩ : ByteArray) (by have : (10 : Int) ^ 18 = 1000000000000000000 := rfl; omega) (by omega) (by decide)
    refine ⟨t, fun k hk => ?_⟩
    unfold laws_markText.f
    rw [if_neg c, show k = (k - 19) + 18 + 1 by omega]; exact e _
theorem markValue_is : ∀ (d : Nat) (xs : List S61) (x1 : Int) (i : Nat), i + d = xs.length → xs.length ≤ 4194304 → 0 ≤ x1 → x1 + 3 * d ≤ 100000000000000 →
    ∃ ys : List S61, ys.length = xs.length ∧ ∀ k, 20 < k → laws_markValueS.l0 (k + d + 1) xs x1 (i : Int) = some (x1 + 3 * d, ys)
  | 0, xs, x1, i, hi, hx, h0, hb => ⟨xs, rfl, fun k hk => by rw [show k + 0 + 1 = k + 1 from rfl, laws_markValueS.l0, if_neg (by omega)]; simp⟩
  | d + 1, xs, x1, i, hi, hx, h0, hb => by
    obtain ⟨t, ht⟩ := markText_is (x1 + 2) (by omega)
    have w1 : wrap64 (x1 + 1) = x1 + 1 := by unfold wrap64; omega
    have w2 : wrap64 (x1 + 1 + 1) = x1 + 2 := by unfold wrap64; omega
    have w3 : wrap64 (x1 + 2 + 1) = x1 + 3 := by unfold wrap64; omega
    have wi : wrap64 ((i : Int) + 1) = ((i + 1 : Nat) : Int) := by unfold wrap64; omega
    have hrd : ∀ e : S61, rd_T61 (xs.set i e) (i : Int) = e := fun e => by
      unfold rd_T61; rw [List.getD_eq_getElem?_getD, Int.toNat_natCast, List.getElem?_set_self (by omega)]; rfl
    obtain ⟨ys, hl, hh⟩ := markValue_is d (xs.set i ⟨x1, x1 + 1, t⟩) (x1 + 3) (i + 1) (by rw [List.length_set]; omega) (by rw [List.length_set]; omega) (by omega) (by omega)
    rw [List.length_set] at hl
    refine ⟨ys, hl, fun k hk => ?_⟩
    rw [show k + (d + 1) + 1 = (k + d + 1) + 1 by omega, laws_markValueS.l0, if_pos (by omega), if_pos (by omega)]
    simp only [Option.bind_some, w1, w2, w3, wi, Int.toNat_natCast, List.set_set, hrd, ht (k + d + 1) (by omega)]
    rw [hh k hk, show x1 + 3 + 3 * (d : Int) = x1 + 3 * ((d + 1 : Nat) : Int) by omega]
theorem markValue_f (xs : List S61) (x1 : Int) (hx : xs.length ≤ 4194304) (h0 : 0 ≤ x1) (hb : x1 ≤ 10000000000000) : ∃ ys : List S61, ys.length = xs.length ∧ ∀ k, xs.length + 21 < k → laws_markValueS.f k xs x1 = some (x1 + 3 * xs.length, ys) := by
  obtain ⟨ys, hl, h⟩ := markValue_is xs.length xs x1 0 (by omega) hx h0 (by omega)
  refine ⟨ys, hl, fun k hk => ?_⟩
  have := h (k - xs.length - 1) (by omega)
  rw [show k - xs.length - 1 + xs.length + 1 = k by omega] at this
  exact this
theorem markInt_is : ∀ (d k : Nat) (xs : List Int) (x1 : Int) (i : Nat), i + d = xs.length → xs.length ≤ 4194304 → 0 ≤ x1 → x1 + d ≤ 100000000000000 → ∃ ys, laws_markIntS.l0 (k + d + 1) xs x1 (i : Int) = some (x1 + d, ys)
  | 0, k, xs, x1, i, hi, hx, h0, hb => by
    rw [show k + 0 + 1 = k + 1 from rfl, laws_markIntS.l0, if_neg (by omega)]; exact ⟨xs, by simp⟩
  | d + 1, k, xs, x1, i, hi, hx, h0, hb => by
    obtain ⟨ys, m⟩ := markInt_is d k (xs.set i x1) (x1 + 1) (i + 1) (by rw [List.length_set]; omega) (by rw [List.length_set]; omega) (by omega) (by omega)
    refine ⟨ys, ?_⟩
    rw [show k + (d + 1) + 1 = (k + d + 1) + 1 by omega, laws_markIntS.l0, if_pos (by omega), if_pos (by omega), show wrap64 (x1 + 1) = x1 + 1 by unfold wrap64; omega, show wrap64 ((i : Int) + 1) = ((i + 1 : Nat) : Int) by unfold wrap64; omega, Int.toNat_natCast, m, show x1 + 1 + (d : Int) = x1 + ((d + 1 : Nat) : Int) by omega]
theorem markColumn_is : ∀ (d k : Nat) (xs : List S78) (x1 : Int) (i : Nat), i + d = xs.length → xs.length ≤ 4194304 → 0 ≤ x1 → x1 + 3 * d ≤ 100000000000000 → 20 < k → ∃ ys, laws_markColumnS.l0 (k + d + 1) xs x1 (i : Int) = some (x1 + 3 * d, ys)
  | 0, k, xs, x1, i, hi, hx, h0, hb, hk => by
    rw [show k + 0 + 1 = k + 1 from rfl, laws_markColumnS.l0, if_neg (by omega)]; exact ⟨xs, by simp⟩
  | d + 1, k, xs, x1, i, hi, hx, h0, hb, hk => by
    obtain ⟨t, ht⟩ := markText_is x1 (by omega)
    have w1 : wrap64 (x1 + 1) = x1 + 1 := by unfold wrap64; omega
    have w2 : wrap64 (x1 + 1 + 1) = x1 + 2 := by unfold wrap64; omega
    have w3 : wrap64 (x1 + 2 + 1) = x1 + 3 := by unfold wrap64; omega
    have wi : wrap64 ((i : Int) + 1) = ((i + 1 : Nat) : Int) := by unfold wrap64; omega
    rw [show k + (d + 1) + 1 = (k + d + 1) + 1 by omega, laws_markColumnS.l0, if_pos (by omega), ht _ (by omega), Option.bind_some, if_pos (by omega)]
    simp only [Option.bind_some, w1, w2, w3, wi, Int.toNat_natCast, List.set_set]
    rw [show x1 + 3 * ((d + 1 : Nat) : Int) = (x1 + 3) + 3 * (d : Int) by omega]
    exact markColumn_is d k _ (x1 + 3) (i + 1) (by rw [List.length_set]; omega) (by rw [List.length_set]; omega) (by omega) (by omega) hk
theorem markIndex_is : ∀ (d k : Nat) (xs : List S58) (x1 : Int) (i : Nat), i + d = xs.length → xs.length ≤ 1048576 → (∀ x ∈ xs, x.f1.length ≤ 1048576) → 0 ≤ x1 → x1 + 1048577 * d ≤ 100000000000000 → 1048600 < k → ∃ r, laws_markIndexS.l0 (k + d + 1) xs x1 (i : Int) = some r ∧ x1 ≤ r ∧ r ≤ x1 + 1048577 * d
  | 0, k, xs, x1, i, hi, hx, hM, h0, hb, hk => by
    rw [show k + 0 + 1 = k + 1 from rfl, laws_markIndexS.l0, if_neg (by omega)]; exact ⟨x1, rfl, by omega, by omega⟩
  | d + 1, k, xs, x1, i, hi, hx, hM, h0, hb, hk => by
    have hlt : i < xs.length := by omega
    obtain ⟨t, ht⟩ := markText_is x1 (by omega)
    have hrd : rd_T58 xs (i : Int) = xs[i] := by unfold rd_T58; rw [List.getD_eq_getElem?_getD, Int.toNat_natCast, List.getElem?_eq_getElem hlt]; rfl
    have hm := hM xs[i] (List.getElem_mem hlt)
    obtain ⟨ys, m⟩ := markInt_is xs[i].f1.length (k + d - xs[i].f1.length) xs[i].f1 (x1 + 1) 0 (by omega) (by omega) (by omega) (by omega)
    rw [show k + d - xs[i].f1.length + xs[i].f1.length + 1 = k + d + 1 by omega] at m
    obtain ⟨r, e, g1, g2⟩ := markIndex_is d k xs (x1 + 1 + xs[i].f1.length) (i + 1) (by omega) hx hM (by omega) (by omega) hk
    refine ⟨r, ?_, by omega, by omega⟩
    rw [show k + (d + 1) + 1 = (k + d + 1) + 1 by omega, laws_markIndexS.l0, if_pos (by omega), if_pos (by omega), ht _ (by omega), Option.bind_some, hrd, show wrap64 (x1 + 1) = x1 + 1 by unfold wrap64; omega, laws_markIntS.f, show (0 : Int) = ((0 : Nat) : Int) from rfl, m, Option.bind_some, show wrap64 ((i : Int) + 1) = ((i + 1 : Nat) : Int) by unfold wrap64; omega]
    exact e
theorem markTable_is (n0 : ByteArray) (C : List S78) (q : Int) (X : List S58) (hC : C.length ≤ 1048576) (hX : X.length ≤ 1048576) (hM : ∀ x ∈ X, x.f1.length ≤ 1048576) (x1 : Int) (h0 : 0 ≤ x1) (hb : x1 ≤ 1000000000000) (k : Nat) (hk : C.length + X.length + 1048602 < k) :
    ∃ r, laws_markTable.f k n0 C q X x1 = some r ∧ 0 ≤ r ∧ r ≤ x1 + 1200000000000 := by
  obtain ⟨ys, g⟩ := markColumn_is C.length (k - C.length - 1) C x1 0 (by omega) (by omega) h0 (by omega) (by omega)
  rw [show k - C.length - 1 + C.length + 1 = k by omega] at g
  obtain ⟨r, e, a, b⟩ := markIndex_is X.length (k - X.length - 1) X (x1 + 3 * C.length) 0 (by omega) hX hM (by omega) (by omega) (by omega)
  rw [show k - X.length - 1 + X.length + 1 = k by omega] at e
  refine ⟨r, ?_, by omega, by omega⟩
  unfold laws_markTable.f
  rw [show laws_markColumnS.f k C x1 = some (x1 + 3 * C.length, ys) from g, Option.bind_some]
  exact e
end Go.Proofs.YtlikagbdhjdggaaGreatDoor.Pure
end

section
/- Bytes: alike to themselves; marks in them are held. -/
namespace Go.Proofs.YtlikagbdhjdggaaGreatDoor.Pure
open Go.RowKit Go.Proofs.YtlikagbdhjdggaaGreatDoor.X Go.Proofs.YtlikagbdhjdggaaGreatDoorW.PrintWords Go.Proofs.YtlikagbdhjdggaaGreatDoorW.PrintLast
theorem eqByte_l0 (V : List Int) (hV : V.length ≤ 1048576) : ∀ d k i, i + d = V.length → laws_eqByteS.l0 (k + d + 1) V V (i : Int) = some true
  | 0, k, i, h => by rw [laws_eqByteS.l0, if_neg (by omega)]
  | d + 1, k, i, h => by
    rw [show k + (d + 1) + 1 = (k + d + 1) + 1 by omega, laws_eqByteS.l0, if_pos (by omega), if_pos (by omega), if_pos (by omega), if_pos rfl, show wrap64 ((i : Int) + 1) = ((i + 1 : Nat) : Int) by unfold wrap64; omega]
    exact eqByte_l0 V hV d k (i + 1) (by omega)
theorem eqByteS_refl (V : List Int) (hV : V.length ≤ 1048576) (k : Nat) (hk : V.length < k) : laws_eqByteS.f k V V = some true := by
  unfold laws_eqByteS.f
  rw [if_pos rfl]
  have := eqByte_l0 V hV V.length (k - V.length - 1) 0 (by omega)
  rw [show k - V.length - 1 + V.length + 1 = k by omega] at this
  exact this
theorem bytes_l0 : ∀ (d : Nat) (xs : List Int) (x1 : Int) (i : Nat), i + d = xs.length → xs.length ≤ 4194304 → 0 ≤ x1 → x1 + d ≤ 100000000000000 →
    ∃ ys : List Int, ys.length = xs.length ∧ (∀ j, j < i → ys[j]? = xs[j]?) ∧ ∀ k, laws_markByteS.l0 (k + d + 1) xs x1 (i : Int) = some (x1 + d, ys) ∧ laws_heldByteS.l0 (k + d + 1) ys x1 (i : Int) = some (x1 + d)
  | 0, xs, x1, i, hi, hx, h0, hb => by
    refine ⟨xs, rfl, fun _ _ => rfl, fun k => ⟨?_, ?_⟩⟩
    · rw [show k + 0 + 1 = k + 1 from rfl, laws_markByteS.l0, if_neg (by omega)]; simp
    · rw [show k + 0 + 1 = k + 1 from rfl, laws_heldByteS.l0, if_neg (by omega)]; simp
  | d + 1, xs, x1, i, hi, hx, h0, hb => by
    have w1 : wrap64 (x1 + 1) = x1 + 1 := by unfold wrap64; omega
    have wi : wrap64 ((i : Int) + 1) = ((i + 1 : Nat) : Int) := by unfold wrap64; omega
    obtain ⟨ys, hl, hp, hh⟩ := bytes_l0 d (xs.set i (x1 % 256)) (x1 + 1) (i + 1) (by rw [List.length_set]; omega) (by rw [List.length_set]; omega) (by omega) (by omega)
    rw [List.length_set] at hl
    have e : x1 + 1 + (d : Int) = x1 + ((d + 1 : Nat) : Int) := by omega
    refine ⟨ys, hl, fun j hj => by rw [hp j (by omega), List.getElem?_set_ne (by omega)], fun k => ⟨?_, ?_⟩⟩
    · rw [show k + (d + 1) + 1 = (k + d + 1) + 1 by omega, laws_markByteS.l0, if_pos (by omega), if_pos (by omega), w1, wi, Int.toNat_natCast, ← e]
      exact (hh k).1
    · have hy : rd ys (i : Int) = x1 % 256 := by
        unfold rd; rw [List.getD_eq_getElem?_getD, Int.toNat_natCast, hp i (by omega), List.getElem?_set_self (by omega)]; rfl
      rw [show k + (d + 1) + 1 = (k + d + 1) + 1 by omega, laws_heldByteS.l0, if_pos (by omega), if_pos (by omega), hy, if_pos rfl, w1, wi, ← e]
      exact (hh k).2
theorem bytes_held (xs : List Int) (hx : xs.length ≤ 4194304) : ∃ (r : Int) (ys : List Int), 0 ≤ r ∧ ∀ k, xs.length + 1 < k → laws_markByteS.f k xs 1 = some (r, ys) ∧ laws_heldByteS.f k ys 1 = some r := by
  obtain ⟨ys, hl, _, h⟩ := bytes_l0 xs.length xs 1 0 (by omega) hx (by omega) (by omega)
  refine ⟨1 + xs.length, ys, by omega, fun k hk => ?_⟩
  have := h (k - xs.length - 1)
  rw [show k - xs.length - 1 + xs.length + 1 = k by omega] at this
  exact this
end Go.Proofs.YtlikagbdhjdggaaGreatDoor.Pure
end

section
/- Key bytes of right values: the program and the reference tell the same. -/
namespace Go.Proofs.YtlikagbdhjdggaaGreatDoor.Pure
open Go.RowKit Go.Proofs.YtlikagbdhjdggaaGreatDoor.X Go.Proofs.YtlikagbdhjdggaaGreatDoorW.PrintWords Go.Proofs.YtlikagbdhjdggaaGreatDoorW.PrintLast
theorem flip_top (n a : Nat) (h : a < 2 ^ (n + 1)) : a ^^^ 2 ^ n = (a + 2 ^ n) % 2 ^ (n + 1) := by
  have hm : (a ^^^ 2 ^ n) % 2 ^ n = a % 2 ^ n := by rw [Nat.xor_mod_two_pow, Nat.mod_self, Nat.xor_zero]
  have hd : (a ^^^ 2 ^ n) / 2 ^ n = (a / 2 ^ n) ^^^ 1 := by rw [Nat.xor_div_two_pow, Nat.div_self (Nat.two_pow_pos n)]
  have e := Nat.div_add_mod (a ^^^ 2 ^ n) (2 ^ n)
  have f := Nat.div_add_mod a (2 ^ n)
  rw [hm, hd] at e
  have hlt := Nat.mod_lt a (Nat.two_pow_pos n)
  rw [Nat.pow_succ] at h ⊢
  have hq : a / 2 ^ n < 2 := Nat.div_lt_of_lt_mul (by omega)
  generalize a % 2 ^ n = c at e f hlt
  generalize a ^^^ 2 ^ n = x at e
  rcases (show a / 2 ^ n = 0 ∨ a / 2 ^ n = 1 by generalize a / 2 ^ n = q at hq; omega) with q | q
  · rw [q] at e f
    rw [show (0 ^^^ 1 : Nat) = 1 from rfl] at e
    generalize 2 ^ n = p at *
    rw [Nat.mod_eq_of_lt (by omega)]; omega
  · rw [q] at e f
    rw [show (1 ^^^ 1 : Nat) = 0 from rfl] at e
    generalize 2 ^ n = p at *
    rw [show a + p = c + p * 2 by omega, Nat.add_mod_right, Nat.mod_eq_of_lt (by omega)]; omega
def eight (b : Int) : List Int := [(b / 72057594037927936 + 128) % 256, b / 281474976710656 % 256, b / 1099511627776 % 256, b / 4294967296 % 256, b / 16777216 % 256, b / 65536 % 256, b / 256 % 256, b / 1 % 256]
theorem high_is (k : Nat) (X : Int) : impl_highBytes.f (k + 9) X 8 = some [X / 72057594037927936 % 256, X / 281474976710656 % 256, X / 1099511627776 % 256, X / 4294967296 % 256, X / 16777216 % 256, X / 65536 % 256, X / 256 % 256, X / 1 % 256] := by kernel_rfl
theorem low_is (k : Nat) (b : Int) : spec_l01Eight.f (k + 9) b = some [Go.bits .xor .u8 (b / 72057594037927936 % 256) 128, b / 281474976710656 % 256, b / 1099511627776 % 256, b / 4294967296 % 256, b / 16777216 % 256, b / 65536 % 256, b / 256 % 256, b / 1 % 256] := by kernel_rfl
theorem signed_is (b : Int) (h : -9223372036854775808 ≤ b ∧ b ≤ 9223372036854775807) : Go.bits .xor .u64 (IntKind.u64.wrap b) 9223372036854775808 = b + 9223372036854775808 := by
  rw [IntKind.wrap_u64]
  obtain ⟨n, hn⟩ : ∃ n : Nat, b % 18446744073709551616 = (n : Int) := ⟨(b % 18446744073709551616).toNat, by omega⟩
  rw [hn, show (9223372036854775808 : Int) = ((9223372036854775808 : Nat) : Int) from rfl, bits_xor_u64_nat n 9223372036854775808 (by omega) (by omega)]
  have f := flip_top 63 n (by show n < 18446744073709551616; omega)
  rw [show (2 : Nat) ^ 63 = 9223372036854775808 from rfl, show (2 : Nat) ^ (63 + 1) = 18446744073709551616 from rfl] at f
  rw [f]
  omega
theorem top_is (c : Int) (h : 0 ≤ c ∧ c < 256) : Go.bits .xor .u8 c 128 = (c + 128) % 256 := by
  obtain ⟨n, rfl⟩ : ∃ n : Nat, c = (n : Int) := ⟨c.toNat, by omega⟩
  rw [show (128 : Int) = ((128 : Nat) : Int) from rfl, u8_xor_nat n 128 (by omega) (by omega)]
  have f := flip_top 7 n (by show n < 256; omega)
  rw [show (2 : Nat) ^ 7 = 128 from rfl, show (2 : Nat) ^ (7 + 1) = 256 from rfl] at f
  rw [f]
  omega
theorem high_eight (b : Int) (h : -9223372036854775808 ≤ b ∧ b ≤ 9223372036854775807) : Ev (fun k => impl_highBytes.f k (Go.bits .xor .u64 (IntKind.u64.wrap b) 9223372036854775808) 8) (eight b) := by
  rw [signed_is b h]
  refine ⟨9, fun k hk => ?_⟩
  obtain ⟨k, rfl⟩ : ∃ m, k = m + 9 := ⟨k - 9, by omega⟩
  show impl_highBytes.f (k + 9) (b + 9223372036854775808) 8 = some (eight b)
  rw [high_is]
  unfold eight
  congr 1
  refine congr (congrArg List.cons (by omega)) (congr (congrArg List.cons (by omega)) (congr (congrArg List.cons (by omega)) (congr (congrArg List.cons (by omega)) (congr (congrArg List.cons (by omega)) (congr (congrArg List.cons (by omega)) (congr (congrArg List.cons (by omega)) (congr (congrArg List.cons (by omega)) rfl)))))))
theorem low_eight (b : Int) : Ev (fun k => spec_l01Eight.f k b) (eight b) := by
  refine ⟨9, fun k hk => ?_⟩
  obtain ⟨k, rfl⟩ : ∃ m, k = m + 9 := ⟨k - 9, by omega⟩
  show spec_l01Eight.f (k + 9) b = some (eight b)
  rw [low_is, top_is _ (by omega)]
  unfold eight
  rw [show (b / 72057594037927936 % 256 + 128) % 256 = (b / 72057594037927936 + 128) % 256 by omega]
def esc : List UInt8 → List Int
  | [] => []
  | c :: l => if c.toNat = 0 then 0 :: 255 :: esc l else (c.toNat : Int) :: esc l
theorem esc_length : ∀ l, (esc l).length ≤ 2 * l.length
  | [] => by simp [esc]
  | c :: l => by
    have := esc_length l
    rw [esc]
    split <;> simp only [List.length_cons] <;> omega
theorem esc_rep : ∀ l : List UInt8, (repB 0 [0, 255] l).map (fun b => (b.toNat : Int)) = esc l
  | [] => rfl
  | c :: l => by
    have ih := esc_rep l
    rw [repB, esc]
    by_cases h : c = 0
    · subst h
      rw [if_pos (by rfl), if_pos (by rfl), List.map_append, ih]; rfl
    · have h2 : ¬ c.toNat = 0 := fun e => h (UInt8.toNat_inj.1 (by simpa using e))
      rw [if_neg (by simpa using h), if_neg h2, List.map_cons, ih]
theorem rep_is (t : ByteArray) (h : t.size ≤ 60) : ∃ u, strings_ReplaceAll.f t (⟨#[0]⟩ : ByteArray) (⟨#[0, 255]⟩ : ByteArray) = some u ∧ bytesOf u = esc t.data.toList ∧ u.size ≤ 120 := by
  refine ⟨⟨(repB 0 [0, 255] t.data.toList).toArray⟩, ?_, ?_, ?_⟩
  · unfold strings_ReplaceAll.f
    rw [if_pos ⟨rfl, by decide, by omega, by decide⟩]
    rfl
  · unfold bytesOf; exact esc_rep _
  · have e := congrArg List.length (esc_rep t.data.toList)
    rw [List.length_map] at e
    have := esc_length t.data.toList
    rw [data_length] at this
    show (repB 0 [0, 255] t.data.toList).toArray.size ≤ 120
    rw [List.size_toArray]; omega
def cellB (v : S61) : List Int := v.f0 % 256 :: (if v.f0 = 1 then [v.f1 % 256] else if v.f0 = 2 then eight v.f1 else if v.f0 = 3 ∨ v.f0 = 4 then esc v.f2.data.toList ++ [0, 1] else [])
def kb (V : List S61) : List Int := (V.map cellB).flatten
theorem kb_drop (V : List S61) (i : Nat) (h : i < V.length) : kb (V.drop i) = cellB V[i] ++ kb (V.drop (i + 1)) := by unfold kb; rw [List.drop_eq_getElem_cons h, List.map_cons, List.flatten_cons]
def gval (v : S61) : Prop := vok v.f0 v.f1 v.f2 = true ∧ (-9223372036854775808 ≤ v.f1 ∧ v.f1 ≤ 9223372036854775807)
theorem vok_kind (a b : Int) (t : ByteArray) (h : vok a b t = true) : (0 ≤ a ∧ a ≤ 4) ∧ (a = 3 ∨ a = 4 → t.size ≤ 60) := by
  unfold vok at h
  simp only [Bool.or_eq_true, Bool.and_eq_true, decide_eq_true_eq] at h
  omega
theorem cellB_length (v : S61) (h : gval v) : (cellB v).length ≤ 123 := by
  have hk := vok_kind _ _ _ h.1
  have he := esc_length v.f2.data.toList
  rw [data_length] at he
  unfold cellB
  by_cases h1 : v.f0 = 1
  · rw [if_pos h1]; simp
  by_cases h2 : v.f0 = 2
  · rw [if_neg h1, if_pos h2]; simp [eight]
  by_cases h3 : v.f0 = 3 ∨ v.f0 = 4
  · rw [if_neg h1, if_neg h2, if_pos h3]; simp; have := hk.2 h3; omega
  · rw [if_neg h1, if_neg h2, if_neg h3]; simp
theorem kb_length (V : List S61) (h : ∀ v ∈ V, gval v) : (kb V).length ≤ 123 * V.length := by
  unfold kb
  induction V with
  | nil => simp
  | cons v vs ih =>
    have a := cellB_length v (h v (List.mem_cons_self ..))
    have b := ih (fun x hx => h x (List.mem_cons_of_mem _ hx))
    rw [List.map_cons, List.flatten_cons, List.length_append, List.length_cons]; omega
theorem impl_key_l0 (V : List S61) (hV : V.length ≤ 1000) (hv : ∀ v ∈ V, gval v) : ∀ d i (acc : List Int), i + d = V.length → acc.length + 200 * d ≤ 1000000 →
    Ev (fun k => impl_keyBytes.l0 k acc V (V.length : Int) (i : Int)) (acc ++ kb (V.drop i))
  | 0, i, acc, h, hs => by
    rw [List.drop_of_length_le (by omega), show kb [] = [] from rfl, List.append_nil]
    exact Ev.step (f := fun _ => some acc) (fun k => by rw [impl_keyBytes.l0, if_neg (by omega)]) (Ev.now acc)
  | d + 1, i, acc, h, hs => by
    have hlt : i < V.length := by omega
    have hg := hv _ (List.getElem_mem hlt)
    have hk := vok_kind _ _ _ hg.1
    have hc := cellB_length _ hg
    have wi := next64 i V.length hlt (by simp only [maxLen]; omega)
    have ih := impl_key_l0 V hV hv d (i + 1) (acc ++ cellB V[i]) (by omega) (by rw [List.length_append]; omega)
    rw [kb_drop V i hlt, ← List.append_assoc]
    have c1 : (i : Int) < (V.length : Int) := by omega
    have c2 : (0 : Int) ≤ (i : Int) := by omega
    have c3 : acc.length < 140737488355328 := by omega
    have hb := hg.2
    generalize hx : V[i] = x at *
    obtain ⟨a, b, t⟩ := x
    have c4 : (acc ++ [a % 256]).length < 140737488355328 := by rw [List.length_append, List.length_singleton]; omega
    dsimp only at hk hb
    have H : ∀ k, impl_keyBytes.l0 (k + 1) acc V (V.length : Int) (i : Int) = (if a = 1 then impl_keyBytes.l0 k (acc ++ [a % 256] ++ [b % 256]) V (V.length : Int) ((i + 1 : Nat) : Int) else if a = 2 then (impl_highBytes.f k (Go.bits .xor .u64 (IntKind.u64.wrap b) 9223372036854775808) 8).bind (fun y => if (acc ++ [a % 256]).length + y.length < 140737488355328 then impl_keyBytes.l0 k (acc ++ [a % 256] ++ y) V (V.length : Int) ((i + 1 : Nat) : Int) else none) else
        (impl_hasText.f a).bind fun q => if q = true then (strings_ReplaceAll.f t (⟨#[0]⟩ : ByteArray) (⟨#[0, 255]⟩ : ByteArray)).bind fun u => (if (acc ++ [a % 256]).length + u.size < 140737488355328 then (if (acc ++ [a % 256] ++ bytesOf u).length + 2 < 140737488355328 then impl_keyBytes.l0 k (acc ++ [a % 256] ++ bytesOf u ++ [0, 1]) V (V.length : Int) ((i + 1 : Nat) : Int) else none) else none) else impl_keyBytes.l0 k (acc ++ [a % 256]) V (V.length : Int) ((i + 1 : Nat) : Int)) := fun k => by
      rw [impl_keyBytes.l0, if_pos c1, if_pos c2, if_pos c1, if_pos c3, rdiValue_ V i hlt, hx, Option.bind_some, wi]
      by_cases h1 : a = 1
      · rw [if_pos h1, if_pos h1, if_pos c4]
      · rw [if_neg h1, if_neg h1]
        by_cases h2 : a = 2
        · rw [if_pos h2, if_pos h2]
        · rw [if_neg h2, if_neg h2]; rfl
    by_cases h1 : a = 1
    · have e : cellB ⟨a, b, t⟩ = [a % 256] ++ [b % 256] := by unfold cellB; rw [if_pos h1]; rfl
      rw [e, ← List.append_assoc] at ih ⊢
      exact Ev.step (fun k => by rw [H, if_pos h1]) ih
    by_cases h2 : a = 2
    · have e : cellB ⟨a, b, t⟩ = [a % 256] ++ eight b := by unfold cellB; rw [if_neg h1, if_pos h2]; rfl
      rw [e, ← List.append_assoc] at ih ⊢
      refine Ev.step (fun k => by rw [H, if_neg h1, if_pos h2]) (Ev.bind (high_eight b hb) (Ev.congr (fun k => ?_) ih))
      rw [if_pos (by rw [List.length_append, List.length_singleton]; have : (eight b).length = 8 := rfl; omega)]
    by_cases h3 : a = 3 ∨ a = 4
    · have e : cellB ⟨a, b, t⟩ = [a % 256] ++ (esc t.data.toList ++ [0, 1]) := by unfold cellB; rw [if_neg h1, if_neg h2, if_pos h3]; rfl
      obtain ⟨u, u1, u2, u3⟩ := rep_is t (hk.2 h3)
      rw [e, ← u2, ← List.append_assoc, ← List.append_assoc] at ih ⊢
      have q : impl_hasText.f a = some true := by unfold impl_hasText.f; rcases h3 with rfl | rfl <;> rfl
      refine Ev.step (fun k => ?_) ih
      rw [H, if_neg h1, if_neg h2, q, Option.bind_some, if_pos rfl, u1, Option.bind_some, if_pos (by rw [List.length_append, List.length_singleton]; omega), if_pos (by rw [List.length_append, List.length_append, List.length_singleton, bytesOf_length]; omega)]
    · have e : cellB ⟨a, b, t⟩ = [a % 256] := by unfold cellB; rw [if_neg h1, if_neg h2, if_neg h3]
      have q : impl_hasText.f a = some false := by unfold impl_hasText.f; rw [if_neg (by omega), show (a == 4) = false by simp; omega]
      rw [e] at ih ⊢
      refine Ev.step (fun k => ?_) ih
      rw [H, if_neg h1, if_neg h2, q, Option.bind_some, if_neg (by decide)]
theorem impl_key (V : List S61) (hV : V.length ≤ 1000) (hv : ∀ v ∈ V, gval v) : Ev (fun k => impl_keyBytes.f k V) (kb V) := by
  have := impl_key_l0 V hV hv V.length 0 [] (by omega) (by simp; omega)
  rw [List.nil_append, List.drop_zero] at this
  exact this
theorem bt_is (t : ByteArray) (i : Nat) (h : i < t.data.toList.length) : bt t (i : Int) = ((t.data.toList[i]).toNat : Int) := by
  rw [← rd_bytesOf]
  unfold bytesOf rd
  rw [List.getD_eq_getElem?_getD, Int.toNat_natCast, List.getElem?_map, List.getElem?_eq_getElem h]; rfl
theorem spec_key_l1 (V : List S61) (x4 a b : Int) (t : ByteArray) (ht : t.size ≤ 60) (r : List Int) : ∀ d i (acc : List Int), i + d = t.size → acc.length + 2 * d ≤ 1000000 →
    Ev (fun k => spec_l01Key.l0 k V (acc ++ esc (t.data.toList.drop i) ++ [0, 1]) (wrap64 (x4 + 1))) r → Ev (fun k => spec_l01Key.l1 k V acc x4 (i : Int) a b t) r
  | 0, i, acc, h, hs, H => by
    rw [List.drop_of_length_le (by rw [data_length]; omega), show esc [] = [] from rfl, List.append_nil] at H
    refine Ev.step (fun k => ?_) H
    rw [spec_l01Key.l1, if_neg (by omega), Option.bind_some, if_pos (by show acc.length + 2 < _; omega)]
  | d + 1, i, acc, h, hs, H => by
    have hlt : i < t.data.toList.length := by rw [data_length]; omega
    have c1 : (i : Int) < (t.size : Int) := by omega
    have c2 : (0 : Int) ≤ (i : Int) := by omega
    have c3 : acc.length < 140737488355328 := by omega
    have c4 : (acc ++ [bt t (i : Int)]).length < 140737488355328 := by rw [List.length_append, List.length_singleton]; omega
    have wi : wrap64 ((i : Int) + 1) = ((i + 1 : Nat) : Int) := by unfold wrap64; omega
    rw [List.drop_eq_getElem_cons hlt, esc] at H
    have hb := bt_is t i hlt
    by_cases h0 : t.data.toList[i].toNat = 0
    · rw [if_pos h0] at H
      have ih := spec_key_l1 V x4 a b t ht r d (i + 1) (acc ++ [bt t (i : Int)] ++ [255]) (by omega) (by rw [List.length_append, List.length_append]; simp; omega) (by rw [hb, h0]; simpa using H)
      refine Ev.step (fun k => ?_) ih
      rw [spec_l01Key.l1, if_pos c1, if_pos c2, if_pos c3, Option.bind_some, if_pos (by rw [hb, h0]; rfl), if_pos c4, wi]
    · rw [if_neg h0] at H
      have ih := spec_key_l1 V x4 a b t ht r d (i + 1) (acc ++ [bt t (i : Int)]) (by omega) (by rw [List.length_append]; simp; omega) (by rw [hb]; simpa using H)
      refine Ev.step (fun k => ?_) ih
      rw [spec_l01Key.l1, if_pos c1, if_pos c2, if_pos c3, Option.bind_some, if_neg (by rw [hb]; omega), wi]
theorem spec_key_l0 (V : List S61) (hV : V.length ≤ 1000) (hv : ∀ v ∈ V, gval v) : ∀ d i (acc : List Int), i + d = V.length → acc.length + 200 * d ≤ 1000000 →
    Ev (fun k => spec_l01Key.l0 k V acc (i : Int)) (acc ++ kb (V.drop i))
  | 0, i, acc, h, hs => by
    rw [List.drop_of_length_le (by omega), show kb [] = [] from rfl, List.append_nil]
    exact Ev.step (f := fun _ => some acc) (fun k => by rw [spec_l01Key.l0, if_neg (by omega)]) (Ev.now acc)
  | d + 1, i, acc, h, hs => by
    have hlt : i < V.length := by omega
    have hg := hv _ (List.getElem_mem hlt)
    have hk := vok_kind _ _ _ hg.1
    have hc := cellB_length _ hg
    have wi := next64 i V.length hlt (by simp only [maxLen]; omega)
    have ih := spec_key_l0 V hV hv d (i + 1) (acc ++ cellB V[i]) (by omega) (by rw [List.length_append]; omega)
    rw [kb_drop V i hlt, ← List.append_assoc]
    have c1 : (i : Int) < (V.length : Int) := by omega
    have c2 : (0 : Int) ≤ (i : Int) := by omega
    have c3 : acc.length < 140737488355328 := by omega
    generalize hx : V[i] = x at *
    obtain ⟨a, b, t⟩ := x
    have c4 : (acc ++ [a % 256]).length < 140737488355328 := by rw [List.length_append, List.length_singleton]; omega
    dsimp only at hk
    have H : ∀ k, spec_l01Key.l0 (k + 1) V acc (i : Int) = (if a = 1 then spec_l01Key.l0 k V (acc ++ [a % 256] ++ [b % 256]) ((i + 1 : Nat) : Int) else if a = 2 then (spec_l01Eight.f k b).bind (fun y => if (acc ++ [a % 256]).length + y.length < 140737488355328 then spec_l01Key.l0 k V (acc ++ [a % 256] ++ y) ((i + 1 : Nat) : Int) else none) else if a = 3 then spec_l01Key.j1 k V (acc ++ [a % 256]) (i : Int) (a == 3) a b t else spec_l01Key.j1 k V (acc ++ [a % 256]) (i : Int) (a == 4) a b t) := fun k => by
      rw [spec_l01Key.l0, if_pos c1, if_pos c2, if_pos c3, rdiValue_ V i hlt, hx, Option.bind_some, wi]
      by_cases h1 : a = 1
      · rw [if_pos h1, if_pos h1, if_pos c4]
      · rw [if_neg h1, if_neg h1]
    by_cases h1 : a = 1
    · have e : cellB ⟨a, b, t⟩ = [a % 256] ++ [b % 256] := by unfold cellB; rw [if_pos h1]; rfl
      rw [e, ← List.append_assoc] at ih ⊢
      exact Ev.step (fun k => by rw [H, if_pos h1]) ih
    by_cases h2 : a = 2
    · have e : cellB ⟨a, b, t⟩ = [a % 256] ++ eight b := by unfold cellB; rw [if_neg h1, if_pos h2]; rfl
      rw [e, ← List.append_assoc] at ih ⊢
      refine Ev.step (fun k => by rw [H, if_neg h1, if_pos h2]) (Ev.bind (low_eight b) (Ev.congr (fun k => ?_) ih))
      rw [if_pos (by rw [List.length_append, List.length_singleton]; have : (eight b).length = 8 := rfl; omega)]
    by_cases h3 : a = 3 ∨ a = 4
    · have e : cellB ⟨a, b, t⟩ = [a % 256] ++ (esc t.data.toList ++ [0, 1]) := by unfold cellB; rw [if_neg h1, if_neg h2, if_pos h3]; rfl
      rw [e, ← List.append_assoc, ← List.append_assoc] at ih ⊢
      have ht := hk.2 h3
      have l1 := spec_key_l1 V (i : Int) a b t ht _ t.size 0 (acc ++ [a % 256]) (by omega) (by rw [List.length_append, List.length_singleton]; omega) (by rw [wi, List.drop_zero]; exact ih)
      refine Ev.step (f := fun k => spec_l01Key.j1 k V (acc ++ [a % 256]) (i : Int) true a b t) (fun k => ?_) (Ev.step (fun k => by rw [spec_l01Key.j1, if_pos rfl]; rfl) l1)
      rw [H, if_neg h1, if_neg h2]
      rcases h3 with rfl | rfl <;> rfl
    · have e : cellB ⟨a, b, t⟩ = [a % 256] := by unfold cellB; rw [if_neg h1, if_neg h2, if_neg h3]
      rw [e] at ih ⊢
      refine Ev.step (f := fun k => spec_l01Key.j1 k V (acc ++ [a % 256]) (i : Int) false a b t) (fun k => ?_) (Ev.step (fun k => by rw [spec_l01Key.j1, if_neg (by decide), wi]) ih)
      rw [H, if_neg h1, if_neg h2, if_neg (by omega), show (a == 4) = false by simp; omega]
theorem spec_key (V : List S61) (hV : V.length ≤ 1000) (hv : ∀ v ∈ V, gval v) : Ev (fun k => spec_l01Key.f k V) (kb V) := by
  have := spec_key_l0 V hV hv V.length 0 [] (by omega) (by simp; omega)
  rw [List.nil_append, List.drop_zero] at this
  exact this
end Go.Proofs.YtlikagbdhjdggaaGreatDoor.Pure
end

section
/-
  DERIVED. GIVEN WITH THE SEED: THE PROGRAM's TIES (one call each: nine closed facts by the kernel) AND EACH ROW's TIE, after the 31st guide's Derived/Test/Toyas{Tie, Card}.lean. No idea stands in it: it is a product of the set-up. Laid BY PROGRAM, IN A SANDBOX (cutbox-door.mjs). By AI agents, Wed Nov 11 2026. No macro, syntax, notation, axiom, sorry.
-/
namespace Go.Proofs.YtlikagbdhjdggaaGreatDoor
open Go
set_option maxRecDepth 100000
theorem seatTie1 : Tryz.prog.laidByTextLater [("unicode/utf8.acceptRanges", Rows.laid_unicode_utf8_acceptRanges)] [.data] true :=
  Program.laidByTextLater_by_one 19 8 33 (by kernel_rfl) (by kernel_rfl) (by kernel_rfl) (by kernel_rfl) (by kernel_rfl) (by kernel_rfl) (fun _ _ => by kernel_rfl)
theorem pin_laid_unicode_utf8_first : Tryz.pinned.checked.prog.pinnedFits "unicode/utf8.first" = true := by kernel_rfl
theorem noOwnUnsafe : Tryz.pinned.checked.prog.headLifts.contains "ownunsafe" = false := by kernel_rfl
theorem fits1 : Tryz.pinned.checked.prog.listedFits [("unicode/utf8.acceptRanges", Rows.laid_unicode_utf8_acceptRanges), ("unicode/utf8.first", Rows.laid_unicode_utf8_first)] = true := by
  unfold Program.listedFits
  rw [noOwnUnsafe]
  kernel_rfl
theorem tie : Tryz.prog.laidByTextLater [("unicode/utf8.acceptRanges", Rows.laid_unicode_utf8_acceptRanges)] [.data] true :=
  Program.laidByTextLater.sub seatTie1 ["unicode/utf8.acceptRanges"] (by kernel_rfl) (by kernel_rfl)
theorem fnExactIndexKey_row_tie : Rows.fnExactIndexKeyRow.laidByTextAt .later Tryz.pinned [.data, .pinned] true :=
  OpenClaim.laidByTextAt_pinned rfl rfl tie rfl rfl rfl rfl (fun y hy _e => by
    simp only [Rows.fnExactIndexKeyRow, List.zip_cons_cons, List.zip_nil_right, List.mem_cons, List.mem_nil_iff, or_false] at hy
    rcases hy with rfl | rfl
    · cases _e
    · exact ⟨pin_laid_unicode_utf8_first, by kernel_rfl⟩) fits1
theorem fnExactIndexKeyUpto_row_tie : Rows.fnExactIndexKeyUptoRow.laidByTextAt .later Tryz.pinned [.data, .pinned] true :=
  OpenClaim.laidByTextAt_pinned rfl rfl tie rfl rfl rfl rfl (fun y hy _e => by
    simp only [Rows.fnExactIndexKeyUptoRow, List.zip_cons_cons, List.zip_nil_right, List.mem_cons, List.mem_nil_iff, or_false] at hy
    rcases hy with rfl | rfl
    · cases _e
    · exact ⟨pin_laid_unicode_utf8_first, by kernel_rfl⟩) fits1
end Go.Proofs.YtlikagbdhjdggaaGreatDoor
end

section
/-
  DERIVED. GIVEN WITH THE SEED: THE CARDS: each row of YtlikagbdhjdggaaGreatDoorRows.lean that lists a variable, with what it lists TIED to the program's text (the seventh form; the later family's looks); each row that meets fmt, with fmt's text TOLD by the authors' own Lean function (tested against real Go, not proved from fmt's source: count such statements apart). THE CARD IS WHAT COUNTS. Prove the row's statement (the work); the ties are given (YtlikagbdhjdggaaGreatDoorTie.lean); close each card by the builder's one call (the guide's Derived/Test/ToyasCard.lean, 'card_holds'). Laid BY PROGRAM, IN A SANDBOX (cutbox-door.mjs). By AI agents, Wed Nov 11 2026. No macro, syntax, notation, axiom, sorry.
-/
namespace Go.Proofs.YtlikagbdhjdggaaGreatDoor
namespace Rows

def fnExactIndexKeyCard : Claim7 := { stood := { row := fnExactIndexKeyRow, standIns := [], harness := (true, "a11f9ed394e6e3cd8e88f926f3ff900a56bdc59f14c4c2224d963f31f1f5c8ac"), looks := false }, kinds := [], alts := [], laidByText := true, laidKinds := [.data, .pinned], laidTests := true, laidLooks := .later }
def FnExactIndexKeyCardSaid : Prop := Claim7.holds Tryz.pinned (.plain (OpenSpec.ofChange fnExactIndexKeySpec)) fnExactIndexKeyCard

def fnExactIndexKeyUptoCard : Claim7 := { stood := { row := fnExactIndexKeyUptoRow, standIns := [], harness := (true, "a11f9ed394e6e3cd8e88f926f3ff900a56bdc59f14c4c2224d963f31f1f5c8ac"), looks := false }, kinds := [], alts := [], laidByText := true, laidKinds := [.data, .pinned], laidTests := true, laidLooks := .later }
def FnExactIndexKeyUptoCardSaid : Prop := Claim7.holds Tryz.pinned (.plain (OpenSpec.upto fnExactIndexKeySpec)) fnExactIndexKeyUptoCard
end Rows
end Go.Proofs.YtlikagbdhjdggaaGreatDoor
end
