/- Contracts of functions, and what is told of them. -/
import Derived.Test.YtjknmljdnolilaaGreatDoorYFnExactTableText3
import Derived.Test.YtjknmljdnolilaaGreatDoorYFnExactTableText4
import Derived.Test.YtjknmljdnolilaaGreatDoorYFnExactTableText11
import Derived.Test.YtjknmljdnolilaaGreatDoorYFnExactTableText18
import Derived.Test.YtjknmljdnolilaaGreatDoorYFnExactTableText10
import Derived.Test.YtjknmljdnolilaaGreatDoorYFnExactTableText17
import Derived.Test.YtjknmljdnolilaaGreatDoorYFnExactTableText19
import Derived.OpenShut
import Derived.Test.YtjknmljdnolilaaGreatDoorYFnExactTableText5
import Derived.Test.YtjknmljdnolilaaGreatDoorYFnExactTableText6
import Derived.Test.YtjknmljdnolilaaGreatDoorYFnExactTableText12
import Derived.Test.YtjknmljdnolilaaGreatDoorYFnExactTableText13
import Derived.Test.YtjknmljdnolilaaGreatDoorYFnExactTableText7
import Derived.Test.YtjknmljdnolilaaGreatDoorYFnExactTableText14
set_option linter.unusedSimpArgs false
set_option linter.unusedVariables false
section
/- Copies and likeness of indexes. -/
namespace Go.Proofs.YtjknmljdnolilaaGreatDoor.Pure
open Go.RowKit Go.Proofs.YtjknmljdnolilaaGreatDoor.X Go.Proofs.YtjknmljdnolilaaGreatDoorW.PrintWords Go.Proofs.YtjknmljdnolilaaGreatDoorW.PrintLast
theorem rd_is (V : List Int) (i : Nat) (h : i < V.length) : rd V (i : Int) = V[i] := by simp [rd, h]
theorem toInt_l0 (L : List Int) (hV : L.length ≤ 1048576) (d : Nat) : ∀ k i (R : List Int), L.length - i = d → i ≤ L.length → R.length = L.length →
    laws_toIntS.l0 (k + d + 1) L R (i : Int) = some (R.take i ++ L.drop i) := by
  induction d with
  | zero =>
    intro k i R h1 h2 h3
    rw [laws_toIntS.l0, if_neg (by omega), List.take_of_length_le (by omega), List.drop_of_length_le (by omega), List.append_nil]
  | succ d ih =>
    intro k i R h1 h2 h3
    have hlt : i < L.length := by omega
    rw [show k + (d + 1) + 1 = (k + d + 1) + 1 by omega, laws_toIntS.l0, if_pos (by omega), if_pos (by omega), if_pos (by omega), rd_is L i hlt, next64 i L.length (by omega) (by simp only [maxLen]; omega), ih k (i + 1) _ (by omega) (by omega) (by rw [List.length_set]; exact h3)]
    congr 1
    rw [show (i : Int).toNat = i from rfl, List.drop_eq_getElem_cons hlt]
    rw [show List.take (i + 1) (R.set i L[i]) = List.take i R ++ [L[i]] from ?_, List.append_assoc]
    · rfl
    · rw [List.take_succ_eq_append_getElem (by rw [List.length_set]; omega), List.getElem_set_self]
      congr 1
      exact List.take_set_of_le (Nat.le_refl i)
theorem toInt_is (L : List Int) (hV : L.length ≤ 1048576) (k : Nat) (hk : L.length < k) : laws_toIntS.f k L = some L := by
  obtain ⟨k, rfl⟩ : ∃ m, k = m + L.length + 1 := ⟨k - L.length - 1, by omega⟩
  unfold laws_toIntS.f
  rw [if_pos (by omega), if_pos (by omega)]
  have := toInt_l0 L hV L.length k 0 (List.replicate ((L.length : Int)).toNat 0) (by omega) (by omega) (by simp)
  simpa using this
theorem eqInt_l0 (V : List Int) (hV : V.length ≤ 1048576) (d : Nat) : ∀ k i, V.length - i = d → i ≤ V.length → laws_eqIntS.l0 (k + d + 1) V V (i : Int) = some true := by
  induction d with
  | zero => intro k i h1 h2; rw [laws_eqIntS.l0, if_neg (by omega)]
  | succ d ih =>
    intro k i h1 h2
    rw [show k + (d + 1) + 1 = (k + d + 1) + 1 by omega, laws_eqIntS.l0, if_pos (by omega), if_pos (by omega), if_pos (by omega), if_pos rfl, next64 i V.length (by omega) (by simp only [maxLen]; omega)]
    exact ih k (i + 1) (by omega) (by omega)
theorem eqInt_refl (V : List Int) (hV : V.length ≤ 1048576) (k : Nat) (hk : V.length < k) : laws_eqIntS.f k V V = some true := by
  obtain ⟨k, rfl⟩ : ∃ m, k = m + V.length + 1 := ⟨k - V.length - 1, by omega⟩
  unfold laws_eqIntS.f
  rw [if_pos rfl]
  exact eqInt_l0 V hV V.length k 0 (by omega) (by omega)
def cvIndex (x : S78) : S84 := ⟨x.f0, x.f1⟩
theorem rdlIndex_ (V : List S78) (i : Nat) (h : i < V.length) : rd_T78 V (i : Int) = V[i] := by simp [rd_T78, h]
theorem rdiIndex_ (V : List S84) (i : Nat) (h : i < V.length) : rd_T84 V (i : Int) = V[i] := by simp [rd_T84, h]
theorem toIndex_is (x : S78) (M k : Nat) (hM : M ≤ 1048576) (hx : x.f1.length ≤ M) (hk : M < k) : laws_toIndex.f k x.f0 x.f1 = some (x.f0, x.f1) := by
  unfold laws_toIndex.f
  rw [toInt_is x.f1 (by omega) k (by omega)]; rfl
theorem toIndexS_l0 (L : List S78) (hV : L.length ≤ 1048576) (M : Nat) (hM : M ≤ 1048576) (hx : ∀ x ∈ L, x.f1.length ≤ M) (d : Nat) : ∀ k i (R : List S84), M ≤ k → L.length - i = d → i ≤ L.length → R.length = L.length →
    laws_toIndexS.l0 (k + d + 1) L R (i : Int) = some (R.take i ++ (L.drop i).map cvIndex) := by
  induction d with
  | zero =>
    intro k i R _ h1 h2 h3
    rw [laws_toIndexS.l0, if_neg (by omega), List.take_of_length_le (by omega), List.drop_of_length_le (by omega), List.map_nil, List.append_nil]
  | succ d ih =>
    intro k i R hk h1 h2 h3
    have hlt : i < L.length := by omega
    rw [show k + (d + 1) + 1 = (k + d + 1) + 1 by omega, laws_toIndexS.l0, if_pos (by omega), if_pos (by omega), rdlIndex_ L i hlt, toIndex_is L[i] M _ hM (hx _ (List.getElem_mem hlt)) (by omega),
      Option.bind_some, if_pos (by omega), next64 i L.length (by omega) (by simp only [maxLen]; omega), ih k (i + 1) _ hk (by omega) (by omega) (by rw [List.length_set]; exact h3)]
    congr 1
    rw [show (i : Int).toNat = i from rfl, List.drop_eq_getElem_cons hlt, List.map_cons]
    rw [show List.take (i + 1) (R.set i (⟨L[i].f0, L[i].f1⟩ : S84)) = List.take i R ++ [cvIndex L[i]] from ?_, List.append_assoc]
    · rfl
    · rw [List.take_succ_eq_append_getElem (by rw [List.length_set]; omega), List.getElem_set_self]
      congr 1
      exact List.take_set_of_le (Nat.le_refl i)
theorem toIndexS_is (L : List S78) (hV : L.length ≤ 1048576) (M : Nat) (hM : M ≤ 1048576) (hx : ∀ x ∈ L, x.f1.length ≤ M) (k : Nat) (hk : L.length + M < k) : laws_toIndexS.f k L = some (L.map cvIndex) := by
  obtain ⟨k, rfl⟩ : ∃ m, k = m + L.length + 1 := ⟨k - L.length - 1, by omega⟩
  unfold laws_toIndexS.f
  rw [if_pos (by omega), if_pos (by omega)]
  have := toIndexS_l0 L hV M hM hx L.length k 0 (List.replicate ((L.length : Int)).toNat z84) (by omega) (by omega) (by omega) (by simp)
  simpa using this
theorem eqIndex_refl (x : S84) (M k : Nat) (hM : M ≤ 1048576) (hx : x.f1.length ≤ M) (hk : M < k) : laws_eqIndex.f k x.f0 x.f1 x.f0 x.f1 = some true := by
  unfold laws_eqIndex.f
  rw [if_pos rfl, eqInt_refl x.f1 (by omega) k (by omega)]; rfl
theorem eqIndexS_l0 (V : List S84) (hV : V.length ≤ 1048576) (M : Nat) (hM : M ≤ 1048576) (hx : ∀ x ∈ V, x.f1.length ≤ M) (d : Nat) : ∀ k i, M ≤ k → V.length - i = d → i ≤ V.length → laws_eqIndexS.l0 (k + d + 1) V V (i : Int) = some true := by
  induction d with
  | zero => intro k i _ h1 h2; rw [laws_eqIndexS.l0, if_neg (by omega)]
  | succ d ih =>
    intro k i hk h1 h2
    have hlt : i < V.length := by omega
    rw [show k + (d + 1) + 1 = (k + d + 1) + 1 by omega, laws_eqIndexS.l0, if_pos (by omega), if_pos (by omega), if_pos (by omega), rdiIndex_ V i hlt, eqIndex_refl V[i] M _ hM (hx _ (List.getElem_mem hlt)) (by omega), Option.bind_some, if_pos rfl, next64 i V.length (by omega) (by simp only [maxLen]; omega)]
    exact ih k (i + 1) hk (by omega) (by omega)
theorem eqIndexS_refl (V : List S84) (hV : V.length ≤ 1048576) (M : Nat) (hM : M ≤ 1048576) (hx : ∀ x ∈ V, x.f1.length ≤ M) (k : Nat) (hk : V.length + M < k) : laws_eqIndexS.f k V V = some true := by
  obtain ⟨k, rfl⟩ : ∃ m, k = m + V.length + 1 := ⟨k - V.length - 1, by omega⟩
  unfold laws_eqIndexS.f
  rw [if_pos rfl]
  exact eqIndexS_l0 V hV M hM hx V.length k 0 (by omega) (by omega) (by omega)
theorem szIndex_is (x : S78) (m : Int) (hm : 0 ≤ m ∧ m ≤ 1048576) (hx : x.f0.size ≤ maxLen ∧ x.f1.length ≤ maxLen) :
    ∃ n, laws_szIndex.f x.f0 x.f1 m = some n ∧ -1 ≤ n ∧ n ≤ m ∧ (n < 0 ∨ x.f1.length ≤ 1048576) := by
  simp only [maxLen] at hx
  unfold laws_szIndex.f laws_szIntS.f
  rw [wrap_in (m - (x.f0.size : Int)) (by omega)]
  by_cases c : m - (x.f0.size : Int) < 0
  · rw [if_pos c]; exact ⟨_, rfl, by omega, by omega, .inl (by omega)⟩
  rw [if_neg c, wrap_in (m - (x.f0.size : Int) - (x.f1.length : Int)) (by omega)]
  by_cases c2 : m - (x.f0.size : Int) - (x.f1.length : Int) < 0
  · rw [if_pos c2, Option.bind_some, if_pos (by omega)]; exact ⟨_, rfl, by omega, by omega, .inl (by omega)⟩
  rw [if_neg c2, Option.bind_some, if_neg c2]
  exact ⟨_, rfl, by omega, by omega, .inr (by omega)⟩
theorem szIndexS_l0 (L : List S78) (hV : L.length ≤ 1048576) (hx : ∀ x ∈ L, x.f0.size ≤ maxLen ∧ x.f1.length ≤ maxLen) (d : Nat) : ∀ k i (m : Int), L.length - i = d → i ≤ L.length → 0 ≤ m ∧ m ≤ 1048576 →
    ∃ n, laws_szIndexS.l0 (k + d + 1) L m (i : Int) = some n ∧ -1 ≤ n ∧ n ≤ m ∧ (n < 0 ∨ ∀ x ∈ L.drop i, x.f1.length ≤ 1048576) := by
  induction d with
  | zero => intro k i m h1 h2 hm; exact ⟨_, by rw [laws_szIndexS.l0, if_neg (by omega)], by omega, by omega, .inr (by rw [List.drop_of_length_le (by omega)]; intro x hx; cases hx)⟩
  | succ d ih =>
    intro k i m h1 h2 hm
    have hlt : i < L.length := by omega
    rw [show k + (d + 1) + 1 = (k + d + 1) + 1 by omega, laws_szIndexS.l0, if_pos (by omega), if_pos (by omega), rdlIndex_ L i hlt]
    obtain ⟨n, e, h3, h4, h5⟩ := szIndex_is L[i] m hm (hx _ (List.getElem_mem hlt))
    rw [e, Option.bind_some]
    by_cases hn : n < 0
    · rw [if_pos hn]; exact ⟨_, rfl, by omega, by omega, .inl (by omega)⟩
    · rw [if_neg hn, next64 i L.length (by omega) (by simp only [maxLen]; omega)]
      obtain ⟨n2, e2, h6, h7, h8⟩ := ih k (i + 1) n (by omega) (by omega) (by omega)
      refine ⟨n2, e2, by omega, by omega, ?_⟩
      rcases h8 with h8 | h8
      · exact .inl h8
      · refine .inr fun x hx => ?_
        rw [List.drop_eq_getElem_cons hlt] at hx
        rcases List.mem_cons.1 hx with rfl | hx
        · exact h5.resolve_left hn
        · exact h8 x hx
theorem szIndexS_is (L : List S78) (hM : L.length ≤ maxLen) (hx : ∀ x ∈ L, x.f0.size ≤ maxLen ∧ x.f1.length ≤ maxLen) (m : Int) (hm : 0 ≤ m ∧ m ≤ 1048576) (k : Nat) (hk : L.length < k) :
    ∃ n, laws_szIndexS.f k L m = some n ∧ -1 ≤ n ∧ n ≤ m ∧ (n < 0 ∨ (L.length ≤ 1048576 ∧ ∀ x ∈ L, x.f1.length ≤ 1048576)) := by
  simp only [maxLen] at hM
  unfold laws_szIndexS.f
  rw [wrap_in (m - (L.length : Int)) (by omega)]
  by_cases c : m - (L.length : Int) < 0
  · rw [if_pos c]; exact ⟨_, rfl, by omega, by omega, .inl (by omega)⟩
  rw [if_neg c]
  obtain ⟨k, rfl⟩ : ∃ q, k = q + L.length + 1 := ⟨k - L.length - 1, by omega⟩
  obtain ⟨n, e, h1, h2, h3⟩ := szIndexS_l0 L (by omega) hx L.length k 0 (m - (L.length : Int)) (by omega) (by omega) (by omega)
  rw [List.drop_zero] at h3
  exact ⟨n, e, by omega, by omega, h3.imp id fun h => ⟨by omega, h⟩⟩
end Go.Proofs.YtjknmljdnolilaaGreatDoor.Pure
end

section
/- The first place of what is looked for. -/
namespace Go.Proofs.YtjknmljdnolilaaGreatDoor.Pure
open Go.RowKit Go.Proofs.YtjknmljdnolilaaGreatDoor.X Go.Proofs.YtjknmljdnolilaaGreatDoorW.PrintWords Go.Proofs.YtjknmljdnolilaaGreatDoorW.PrintLast
theorem fIdx_nil {α : Type} (p : α → Bool) : fIdx p [] = -1 := rfl
theorem fIdx_cons {α : Type} (p : α → Bool) (x : α) (xs : List α) : fIdx p (x :: xs) = if p x = true then 0 else if fIdx p xs < 0 then -1 else fIdx p xs + 1 := by
  unfold fIdx
  rw [List.findIdx?_cons]
  by_cases h : p x = true
  · rw [if_pos h, h]; rfl
  · rw [if_neg h, if_neg h]
    cases xs.findIdx? p with
    | none => rfl
    | some j => show ((j + 1 : Nat) : Int) = _; rw [if_neg (show ¬ ((j : Nat) : Int) < 0 by omega)]; rfl
theorem fIdx_ge {α : Type} (p : α → Bool) (l : List α) : -1 ≤ fIdx p l := by
  unfold fIdx
  cases l.findIdx? p with
  | none => exact Int.le_refl _
  | some j => show (-1 : Int) ≤ ((j : Nat) : Int); omega
theorem fIdx_self {α : Type} (p : α → Bool) : ∀ (l : List α) (i : Nat) (h : i < l.length), p l[i] = true → (fIdx p l = (i : Int) ↔ fIdx p (l.take i) < 0)
  | [], i, h, _ => by simp at h
  | x :: xs, 0, _, hp => by
    have hx : p x = true := hp
    rw [fIdx_cons, if_pos hx, List.take_zero, fIdx_nil]; simp
  | x :: xs, i + 1, h, hp => by
    rw [List.take_succ_cons, fIdx_cons, fIdx_cons]
    by_cases hx : p x = true
    · rw [if_pos hx, if_pos hx]
      constructor
      · intro e; omega
      · intro e; omega
    · rw [if_neg hx, if_neg hx]
      have ih := fIdx_self p xs i (by simpa using h) hp
      have g1 := fIdx_ge p xs
      have g2 := fIdx_ge p (xs.take i)
      by_cases a : fIdx p xs < 0
      · rw [if_pos a]
        have : ¬ fIdx p (xs.take i) < 0 := fun b => by have := ih.2 b; omega
        rw [if_neg this]
        constructor <;> intro e <;> omega
      · rw [if_neg a]
        by_cases b : fIdx p (xs.take i) < 0
        · rw [if_pos b]; have := ih.2 b; constructor <;> intro e <;> omega
        · rw [if_neg b]
          have : fIdx p xs ≠ (i : Int) := fun e => b (ih.1 e)
          constructor <;> intro e <;> omega
end Go.Proofs.YtjknmljdnolilaaGreatDoor.Pure
end

section
/- Columns and indexes by their names. -/
namespace Go.Proofs.YtjknmljdnolilaaGreatDoor.Pure
open Go.RowKit Go.Proofs.YtjknmljdnolilaaGreatDoor.X Go.Proofs.YtjknmljdnolilaaGreatDoorW.PrintWords Go.Proofs.YtjknmljdnolilaaGreatDoorW.PrintLast
theorem findColumn_l0 (V : List S81) (t : ByteArray) (hV : V.length ≤ 1048576) (d : Nat) : ∀ k i, V.length - i = d → i ≤ V.length →
    spec_l09Column.l0 (k + d + 1) V t (i : Int) = some (if fIdx (fun x => x.f0.toList == t.toList) (V.drop i) < 0 then -1 else (i : Int) + fIdx (fun x => x.f0.toList == t.toList) (V.drop i)) := by
  induction d with
  | zero => intro k i h1 h2; rw [spec_l09Column.l0, if_neg (by omega), List.drop_of_length_le (by omega), fIdx_nil]; rfl
  | succ d ih =>
    intro k i h1 h2
    have hlt : i < V.length := by omega
    rw [show k + (d + 1) + 1 = (k + d + 1) + 1 by omega, spec_l09Column.l0, if_pos (by omega), if_pos (by omega), rdiColumn_ V i hlt, next64 i V.length (by omega) (by simp only [maxLen]; omega), ih k (i + 1) (by omega) (by omega), List.drop_eq_getElem_cons hlt, fIdx_cons]
    by_cases c : V[i].f0.toList = t.toList
    · rw [if_pos c, if_pos (show (V[i].f0.toList == t.toList) = true by rw [c]; simp)]; simp
    · rw [if_neg c, if_neg (show ¬ (V[i].f0.toList == t.toList) = true by simpa using c)]
      have g := fIdx_ge (fun x : S81 => x.f0.toList == t.toList) (V.drop (i + 1))
      by_cases a : fIdx (fun x : S81 => x.f0.toList == t.toList) (V.drop (i + 1)) < 0
      · rw [if_pos a, if_pos a, if_pos (by decide)]
      · rw [if_neg a, if_neg a, if_neg (by omega)]; congr 1; omega
theorem findColumn_is (V : List S81) (t : ByteArray) (hV : V.length ≤ 1048576) (k : Nat) (hk : V.length < k) : spec_l09Column.f k V t = some (fIdx (fun x => x.f0.toList == t.toList) V) := by
  obtain ⟨k, rfl⟩ : ∃ m, k = m + V.length + 1 := ⟨k - V.length - 1, by omega⟩
  unfold spec_l09Column.f
  have e := findColumn_l0 V t hV V.length k 0 (by omega) (by omega)
  rw [show ((0 : Nat) : Int) = 0 from rfl, List.drop_zero] at e
  rw [e]
  have g := fIdx_ge (fun x : S81 => x.f0.toList == t.toList) V
  split
  · congr 1; omega
  · congr 1; omega
theorem findIndex_l0 (V : List S84) (t : ByteArray) (hV : V.length ≤ 1048576) (d : Nat) : ∀ k i, V.length - i = d → i ≤ V.length →
    spec_l09Index.l0 (k + d + 1) V t (i : Int) = some (if fIdx (fun x => x.f0.toList == t.toList) (V.drop i) < 0 then -1 else (i : Int) + fIdx (fun x => x.f0.toList == t.toList) (V.drop i)) := by
  induction d with
  | zero => intro k i h1 h2; rw [spec_l09Index.l0, if_neg (by omega), List.drop_of_length_le (by omega), fIdx_nil]; rfl
  | succ d ih =>
    intro k i h1 h2
    have hlt : i < V.length := by omega
    rw [show k + (d + 1) + 1 = (k + d + 1) + 1 by omega, spec_l09Index.l0, if_pos (by omega), if_pos (by omega), rdiIndex_ V i hlt, next64 i V.length (by omega) (by simp only [maxLen]; omega), ih k (i + 1) (by omega) (by omega), List.drop_eq_getElem_cons hlt, fIdx_cons]
    by_cases c : V[i].f0.toList = t.toList
    · rw [if_pos c, if_pos (show (V[i].f0.toList == t.toList) = true by rw [c]; simp)]; simp
    · rw [if_neg c, if_neg (show ¬ (V[i].f0.toList == t.toList) = true by simpa using c)]
      have g := fIdx_ge (fun x : S84 => x.f0.toList == t.toList) (V.drop (i + 1))
      by_cases a : fIdx (fun x : S84 => x.f0.toList == t.toList) (V.drop (i + 1)) < 0
      · rw [if_pos a, if_pos a, if_pos (by decide)]
      · rw [if_neg a, if_neg a, if_neg (by omega)]; congr 1; omega
theorem findIndex_is (V : List S84) (t : ByteArray) (hV : V.length ≤ 1048576) (k : Nat) (hk : V.length < k) : spec_l09Index.f k V t = some (fIdx (fun x => x.f0.toList == t.toList) V) := by
  obtain ⟨k, rfl⟩ : ∃ m, k = m + V.length + 1 := ⟨k - V.length - 1, by omega⟩
  unfold spec_l09Index.f
  have e := findIndex_l0 V t hV V.length k 0 (by omega) (by omega)
  rw [show ((0 : Nat) : Int) = 0 from rfl, List.drop_zero] at e
  rw [e]
  have g := fIdx_ge (fun x : S84 => x.f0.toList == t.toList) V
  split
  · congr 1; omega
  · congr 1; omega
end Go.Proofs.YtjknmljdnolilaaGreatDoor.Pure
end

section
/- Right indexes. -/
namespace Go.Proofs.YtjknmljdnolilaaGreatDoor.Pure
open Go.RowKit Go.Proofs.YtjknmljdnolilaaGreatDoor.X Go.Proofs.YtjknmljdnolilaaGreatDoorW.PrintWords Go.Proofs.YtjknmljdnolilaaGreatDoorW.PrintLast
theorem has_l0 (V : List Int) (t : Int) (hV : V.length ≤ 1048576) (d : Nat) : ∀ k i, V.length - i = d → i ≤ V.length → spec_l03Has.l0 (k + d + 1) V t (i : Int) = some ((V.drop i).contains t) := by
  induction d with
  | zero => intro k i h1 h2; rw [spec_l03Has.l0, if_neg (by omega), List.drop_of_length_le (by omega)]; rfl
  | succ d ih =>
    intro k i h1 h2
    have hlt : i < V.length := by omega
    rw [show k + (d + 1) + 1 = (k + d + 1) + 1 by omega, spec_l03Has.l0, if_pos (by omega), if_pos (by omega), rd_is V i hlt, next64 i V.length (by omega) (by simp only [maxLen]; omega), ih k (i + 1) (by omega) (by omega), List.drop_eq_getElem_cons hlt, List.contains_cons]
    by_cases c : V[i] = t
    · rw [if_pos c, c]; simp
    · rw [if_neg c, show (t == V[i]) = false by simpa using fun e => c e.symm]; simp
theorem has_is (V : List Int) (t : Int) (hV : V.length ≤ 1048576) (k : Nat) (hk : V.length < k) : spec_l03Has.f k V t = some (V.contains t) := by
  obtain ⟨k, rfl⟩ : ∃ m, k = m + V.length + 1 := ⟨k - V.length - 1, by omega⟩
  have e := has_l0 V t hV V.length k 0 (by omega) (by omega)
  rw [List.drop_zero] at e
  exact e
theorem index_int_l0 (V : List Int) (t : Int) (hV : V.length ≤ 1048576) (d : Nat) : ∀ k i, V.length - i = d → i ≤ V.length →
    ∃ r, slices_Index_int_int.l0 (k + d + 1) V t (V.length : Int) (i : Int) = some r ∧ (0 ≤ r ↔ (V.drop i).contains t = true) := by
  induction d with
  | zero => intro k i h1 h2; exact ⟨-1, by rw [slices_Index_int_int.l0, if_neg (by omega)], by rw [List.drop_of_length_le (by omega)]; simp⟩
  | succ d ih =>
    intro k i h1 h2
    have hlt : i < V.length := by omega
    rw [show k + (d + 1) + 1 = (k + d + 1) + 1 by omega, slices_Index_int_int.l0, if_pos (by omega), if_pos (by omega), if_pos (by omega), rd_is V i hlt, next64 i V.length (by omega) (by simp only [maxLen]; omega), List.drop_eq_getElem_cons hlt, List.contains_cons]
    by_cases c : t = V[i]
    · rw [if_pos c]; exact ⟨_, rfl, by rw [show (t == V[i]) = true by simpa using c]; simp⟩
    · rw [if_neg c, show (t == V[i]) = false by simpa using c, Bool.false_or]; exact ih k (i + 1) (by omega) (by omega)
theorem contains_int (V : List Int) (t : Int) (hV : V.length ≤ 1048576) (k : Nat) (hk : V.length < k) : slices_Contains_int_int.f k V t = some (V.contains t) := by
  obtain ⟨k, rfl⟩ : ∃ m, k = m + V.length + 1 := ⟨k - V.length - 1, by omega⟩
  unfold slices_Contains_int_int.f slices_Index_int_int.f
  obtain ⟨r, e, h⟩ := index_int_l0 V t hV V.length k 0 (by omega) (by omega)
  rw [List.drop_zero] at h
  rw [show ((0 : Nat) : Int) = 0 from rfl] at e
  rw [e, Option.bind_some]
  congr 1
  rw [Bool.eq_iff_iff, decide_eq_true_eq]
  exact h
/-- Whether a number stands twice, told from a place on. -/
def twF (L : List Int) : Nat → Nat → Bool
  | 0, _ => false
  | d + 1, i => (L.take i).contains (rd L (i : Int)) || twF L d (i + 1)
theorem twice_l0 (L : List Int) (hV : L.length ≤ 1048576) : ∀ d k i, i + d = L.length → L.length ≤ k → impl_isTwice.l0 (k + d + 1) L L (L.length : Int) (i : Int) = some (twF L d i)
  | 0, k, i, h, hk => by rw [show k + 0 + 1 = k + 1 from rfl, impl_isTwice.l0, if_neg (by omega)]; rfl
  | d + 1, k, i, h, hk => by
    rw [show k + (d + 1) + 1 = (k + d + 1) + 1 by omega, impl_isTwice.l0, if_pos (by omega), if_pos (by omega), if_pos (by omega), if_pos (by omega), show (i : Int).toNat = i from rfl,
      contains_int (L.take i) _ (by rw [List.length_take]; omega) _ (by rw [List.length_take]; omega), Option.bind_some, next64 i L.length (by omega) (by simp only [maxLen]; omega), twice_l0 L hV d k (i + 1) (by omega) hk, twF]
    cases (L.take i).contains (rd L (i : Int)) <;> simp
theorem twice_is (L : List Int) (hV : L.length ≤ 1048576) (k : Nat) (hk : L.length + L.length < k) : impl_isTwice.f k L = some (twF L L.length 0) := by
  obtain ⟨k, rfl⟩ : ∃ m, k = m + L.length + 1 := ⟨k - L.length - 1, by omega⟩
  exact twice_l0 L hV L.length k 0 (by omega) (by omega)
def inr (n : Int) (x : Int) : Bool := decide (0 ≤ x) && decide (x ≤ n - 1)
theorem spec_index_l0 (n0 : ByteArray) (C : List S81) (q : Int) (X : List S84) (nm : ByteArray) (L : List Int) (hV : L.length ≤ 1048576) (hC : C.length ≤ 1048576) : ∀ d k i, i + d = L.length → L.length ≤ k →
    spec_l09IndexOK.l0 (k + d + 1) (i : Int) n0 C q X nm L = some ((L.drop i).all (inr (C.length : Int)) && !(twF L d i))
  | 0, k, i, h, hk => by rw [show k + 0 + 1 = k + 1 from rfl, spec_l09IndexOK.l0, if_neg (by omega), List.drop_of_length_le (by omega)]; rfl
  | d + 1, k, i, h, hk => by
    have hlt : i < L.length := by omega
    rw [show k + (d + 1) + 1 = (k + d + 1) + 1 by omega, spec_l09IndexOK.l0, if_pos (by omega), if_pos (by omega), if_pos (by omega), show (i : Int).toNat = i from rfl, wrap_in ((C.length : Int) - 1) (by omega), spec_in,
      has_is (L.take i) _ (by rw [List.length_take]; omega) _ (by rw [List.length_take]; omega), Option.bind_some, Option.bind_some, next64 i L.length (by omega) (by simp only [maxLen]; omega), spec_index_l0 n0 C q X nm L hV hC d k (i + 1) (by omega) hk, twF, List.drop_eq_getElem_cons hlt, List.all_cons, rd_is L i hlt]
    show (if inr (C.length : Int) L[i] = true then _ else _) = _
    cases inr (C.length : Int) L[i] <;> cases (L.take i).contains L[i] <;> simp
end Go.Proofs.YtjknmljdnolilaaGreatDoor.Pure
end

section
/- An index is right for both or for neither. -/
namespace Go.Proofs.YtjknmljdnolilaaGreatDoor.Pure
open Go.RowKit Go.Proofs.YtjknmljdnolilaaGreatDoor.X Go.Proofs.YtjknmljdnolilaaGreatDoorW.PrintWords Go.Proofs.YtjknmljdnolilaaGreatDoorW.PrintLast
theorem pigeon : ∀ (n : Nat) (L : List Int), L.Nodup → (∀ x ∈ L, 0 ≤ x ∧ x < (n : Int)) → L.length ≤ n
  | 0, L, _, h => by
    cases L with
    | nil => simp
    | cons x xs => have := h x (.head _); omega
  | n + 1, L, hn, h => by
    by_cases c : (n : Int) ∈ L
    · have h2 := pigeon n (L.erase (n : Int)) (hn.erase _) (fun x hx => by
        have hm := (hn.mem_erase_iff).1 hx
        have := h x hm.2
        have : x ≠ (n : Int) := hm.1
        omega)
      rw [List.length_erase_of_mem c] at h2
      omega
    · have := pigeon n L hn (fun x hx => by
        have := h x hx
        have : x ≠ (n : Int) := fun e => c (e ▸ hx)
        omega)
      omega
theorem tw_at (L : List Int) : ∀ d i, i + d = L.length → twF L d i = false → ∀ j, i ≤ j → (hj : j < L.length) → L[j] ∉ L.take j
  | 0, i, h, _, j, h1, h2 => by omega
  | d + 1, i, h, ht, j, h1, h2 => by
    rw [twF, Bool.or_eq_false_iff] at ht
    by_cases e : j = i
    · subst e
      have := ht.1
      rw [rd_is L j h2] at this
      simpa using this
    · exact tw_at L d (i + 1) (by omega) ht.2 j (by omega) h2
theorem tw_nodup (L : List Int) (h : twF L L.length 0 = false) : L.Nodup := by
  rw [List.Nodup, List.pairwise_iff_getElem]
  intro i j hi hj hij e
  have := tw_at L L.length 0 (by omega) h j (by omega) hj
  apply this
  rw [← e]
  exact List.mem_take_iff_getElem.2 ⟨i, by omega, rfl⟩
theorem index_same (n0 : ByteArray) (C : List S81) (q : Int) (X : List S84) (x : S84) (hx : x.f0.size ≤ maxLen) (hL : x.f1.length ≤ 1048576) (hC : C.length ≤ 1048576) (k : Nat) (hk : x.f0.size + x.f1.length + x.f1.length + 100 < k) :
    ∃ r, impl_Table_indexOK.f k n0 C q X x.f0 x.f1 = some r ∧ spec_l09IndexOK.f k n0 C q X x.f0 x.f1 = some r := by
  unfold impl_Table_indexOK.f spec_l09IndexOK.f
  rw [impl_free x.f0 hx k (by omega), spec_free x.f0 hx k (by omega), Option.bind_some, Option.bind_some]
  obtain ⟨k, rfl⟩ : ∃ m, k = m + x.f1.length + 2 := ⟨k - x.f1.length - 2, by omega⟩
  have hT : spec_l09IndexOK.j0 (k + x.f1.length + 2) true n0 C q X x.f0 x.f1 = some false := by rw [spec_l09IndexOK.j0, if_pos rfl]
  cases free x.f0 with
  | false => rw [if_neg (by decide), if_neg (by decide), hT]; exact ⟨_, rfl, rfl⟩
  | true =>
    rw [if_pos rfl, if_pos rfl]
    by_cases h0 : (x.f1.length : Int) = 0
    · rw [if_pos h0, if_neg (show ¬ (x.f1.length : Int) > 0 by omega), hT]; exact ⟨_, rfl, rfl⟩
    rw [if_neg h0, if_pos (show (x.f1.length : Int) > 0 by omega), twice_is x.f1 hL _ (by omega), Option.bind_some]
    have e := spec_index_l0 n0 C q X x.f0 x.f1 hL hC x.f1.length k 0 (by omega) (by omega)
    rw [show ((0 : Nat) : Int) = 0 from rfl, List.drop_zero] at e
    have hF : spec_l09IndexOK.j0 (k + x.f1.length + 2) false n0 C q X x.f0 x.f1 = some (x.f1.all (inr (C.length : Int)) && !(twF x.f1 x.f1.length 0)) := by
      rw [spec_l09IndexOK.j0, if_neg (by decide)]; exact e
    have hany : (x.f1.any fun c => !(decide (0 ≤ c) && decide (c ≤ (C.length : Int) - 1))) = !(x.f1.all (inr (C.length : Int))) := by
      rw [List.not_all_eq_any_not]; rfl
    rw [hany, Bool.not_not]
    cases ht : twF x.f1 x.f1.length 0 with
    | true =>
      rw [if_pos rfl]
      rw [ht] at hF
      cases decide ((x.f1.length : Int) > (C.length : Int)) with
      | true => rw [hT]; exact ⟨_, rfl, rfl⟩
      | false => rw [hF]; exact ⟨_, rfl, by simp⟩
    | false =>
      rw [if_neg (by decide)]
      rw [ht] at hF
      cases hl : decide ((x.f1.length : Int) > (C.length : Int)) with
      | false => rw [hF]; exact ⟨_, rfl, by simp⟩
      | true =>
        rw [hT]
        refine ⟨_, rfl, ?_⟩
        have hl2 : (x.f1.length : Int) > (C.length : Int) := of_decide_eq_true hl
        cases ha : x.f1.all (inr (C.length : Int)) with
        | false => rfl
        | true =>
          exfalso
          have := pigeon C.length x.f1 (tw_nodup _ ht) (fun y hy => by
            have := List.all_eq_true.1 ha y hy
            unfold inr at this
            rw [Bool.and_eq_true, decide_eq_true_eq, decide_eq_true_eq] at this
            omega)
          omega
end Go.Proofs.YtjknmljdnolilaaGreatDoor.Pure
end

section
/- A table is right for both or for neither. -/
namespace Go.Proofs.YtjknmljdnolilaaGreatDoor.Pure
open Go.RowKit Go.Proofs.YtjknmljdnolilaaGreatDoor.X Go.Proofs.YtjknmljdnolilaaGreatDoorW.PrintWords Go.Proofs.YtjknmljdnolilaaGreatDoorW.PrintLast
def SmallT (B : Nat) (C : List S81) (X : List S84) : Prop :=
  (∀ x ∈ C, x.f0.size ≤ maxLen ∧ x.f0.size ≤ B) ∧ ∀ x ∈ X, x.f0.size ≤ maxLen ∧ x.f1.length ≤ 1048576 ∧ x.f0.size + x.f1.length + x.f1.length ≤ B
theorem idx_same (n0 : ByteArray) (C : List S81) (q : Int) (X : List S84) (B : Nat) (hS : SmallT B C X) (hC : C.length ≤ 1048576) (hX : X.length ≤ 1048576) (k : Nat) (hk : B + X.length + 200 < k) : ∀ d i, i + d = X.length →
    ∃ r, spec_TableOK.l1 (k + d + 1) (i : Int) n0 C q X = some r ∧ impl_TableOK.l1 (k + d + 1) X (X.length : Int) (i : Int) n0 C q X = some r
  | 0, i, h => by rw [show k + 0 + 1 = k + 1 from rfl, spec_TableOK.l1, impl_TableOK.l1, if_neg (show ¬ (i : Int) < (X.length : Int) by omega), if_neg (show ¬ (i : Int) < (X.length : Int) by omega)]; exact ⟨_, rfl, rfl⟩
  | d + 1, i, h => by
    have hlt : i < X.length := by omega
    have hx := hS.2 X[i] (List.getElem_mem hlt)
    obtain ⟨r, e1, e2⟩ := idx_same n0 C q X B hS hC hX k hk d (i + 1) (by omega)
    obtain ⟨t, f1, f2⟩ := index_same n0 C q X X[i] hx.1 hx.2.1 hC (k + d + 1) (by omega)
    have self := fIdx_self (fun x : S84 => x.f0.toList == X[i].f0.toList) X i hlt (by simp)
    rw [show k + (d + 1) + 1 = (k + d + 1) + 1 by omega, spec_TableOK.l1, impl_TableOK.l1, if_pos (show (i : Int) < (X.length : Int) by omega), if_pos (show (0 : Int) ≤ (i : Int) by omega), if_pos (show (i : Int) < (X.length : Int) by omega), if_pos (show (0 : Int) ≤ (i : Int) by omega), if_pos (show (i : Int) < (X.length : Int) by omega),
      rdiIndex_ X i hlt, f1, f2, Option.bind_some, Option.bind_some]
    cases t with
    | false => rw [if_neg (show ¬ false = true by decide), if_neg (show ¬ false = true by decide)]; exact ⟨_, rfl, rfl⟩
    | true =>
      rw [if_pos rfl, if_pos rfl, if_pos (show (i : Int) ≤ (X.length : Int) by omega), show (i : Int).toNat = i from rfl, findIndex_is (X.take i) _ (by rw [List.length_take]; omega) _ (by rw [List.length_take]; omega), next64 i X.length (by omega) (by simp only [maxLen]; omega), e1, e2]
      unfold impl_Table_index.f
      rw [Option.bind_some, Option.bind_some]
      by_cases c : fIdx (fun x : S84 => x.f0.toList == X[i].f0.toList) X = (i : Int)
      · rw [if_pos c, if_neg (show ¬ fIdx (fun x : S84 => x.f0.toList == X[i].f0.toList) (X.take i) ≥ 0 by have := self.1 c; omega)]; exact ⟨_, rfl, rfl⟩
      · rw [if_neg c, if_pos (show fIdx (fun x : S84 => x.f0.toList == X[i].f0.toList) (X.take i) ≥ 0 by have : ¬ _ := fun b => c (self.2 b); omega)]; exact ⟨_, rfl, rfl⟩
theorem cols_same (n0 : ByteArray) (C : List S81) (q : Int) (X : List S84) (B : Nat) (hS : SmallT B C X) (hC : C.length ≤ 1048576) (k : Nat) (hk : B + C.length + 200 < k)
    (H : ∃ r, spec_TableOK.l1 k 0 n0 C q X = some r ∧ impl_TableOK.l1 k X (X.length : Int) 0 n0 C q X = some r) : ∀ d i, i + d = C.length →
    ∃ r, spec_TableOK.l0 (k + d + 1) (i : Int) n0 C q X = some r ∧ impl_TableOK.l0 (k + d + 1) C (C.length : Int) (i : Int) n0 C q X = some r
  | 0, i, h => by rw [show k + 0 + 1 = k + 1 from rfl, spec_TableOK.l0, impl_TableOK.l0, if_neg (show ¬ (i : Int) < (C.length : Int) by omega), if_neg (show ¬ (i : Int) < (C.length : Int) by omega)]; exact H
  | d + 1, i, h => by
    have hlt : i < C.length := by omega
    have hx := hS.1 C[i] (List.getElem_mem hlt)
    obtain ⟨r, e1, e2⟩ := cols_same n0 C q X B hS hC k hk H d (i + 1) (by omega)
    have self := fIdx_self (fun x : S81 => x.f0.toList == C[i].f0.toList) C i hlt (by simp)
    rw [show k + (d + 1) + 1 = (k + d + 1) + 1 by omega, spec_TableOK.l0, impl_TableOK.l0, if_pos (show (i : Int) < (C.length : Int) by omega), if_pos (show (0 : Int) ≤ (i : Int) by omega), if_pos (show (i : Int) < (C.length : Int) by omega), if_pos (show (0 : Int) ≤ (i : Int) by omega), if_pos (show (i : Int) < (C.length : Int) by omega),
      rdiColumn_ C i hlt]
    unfold impl_columnOK.f impl_Table_column.f
    rw [impl_free C[i].f0 hx.1 _ (by omega), spec_free C[i].f0 hx.1 _ (by omega), impl_in, spec_in, show (i : Int).toNat = i from rfl, findColumn_is (C.take i) _ (by rw [List.length_take]; omega) _ (by rw [List.length_take]; omega), next64 i C.length (by omega) (by simp only [maxLen]; omega), e1, e2]
    simp only [Option.bind_some]
    cases free C[i].f0 with
    | false => simp
    | true =>
      cases (decide (1 ≤ C[i].f1) && decide (C[i].f1 ≤ 4)) with
      | false => simp
      | true =>
        by_cases c : fIdx (fun x : S81 => x.f0.toList == C[i].f0.toList) C = (i : Int)
        · have hn : ¬ fIdx (fun x : S81 => x.f0.toList == C[i].f0.toList) (C.take i) ≥ 0 := by have := self.1 c; omega
          by_cases hq : (i : Int) < q <;> cases C[i].f2 <;> simp [c, hn, hq, show (i : Int) ≤ (C.length : Int) by omega]
        · have hn : fIdx (fun x : S81 => x.f0.toList == C[i].f0.toList) (C.take i) ≥ 0 := by have : ¬ _ := fun b => c (self.2 b); omega
          by_cases hq : (i : Int) < q <;> cases C[i].f2 <;> simp [c, hn, hq, show (i : Int) ≤ (C.length : Int) by omega]
end Go.Proofs.YtjknmljdnolilaaGreatDoor.Pure
end

section
/- A law's copies, likeness and sizes of tables. -/
namespace Go.Proofs.YtjknmljdnolilaaGreatDoor.Pure
open Go.RowKit Go.Proofs.YtjknmljdnolilaaGreatDoor.X Go.Proofs.YtjknmljdnolilaaGreatDoorW.PrintWords Go.Proofs.YtjknmljdnolilaaGreatDoorW.PrintLast
theorem bound_of (C : List S74) (X : List S78) (hC : ∀ x ∈ C, x.f0.size ≤ maxLen) (hX : ∀ x ∈ X, x.f0.size ≤ maxLen ∧ x.f1.length ≤ 1048576) : ∃ B, SmallT B (C.map cvColumn) (X.map cvIndex) := by
  have h1 : ∃ B, ∀ x ∈ C, x.f0.size ≤ B := by
    clear hC
    induction C with
    | nil => exact ⟨0, fun x h => by cases h⟩
    | cons y ys ih => obtain ⟨B, hB⟩ := ih; exact ⟨B + y.f0.size, fun x h => by rcases List.mem_cons.1 h with rfl | h; omega; have := hB x h; omega⟩
  have h2 : ∃ B, ∀ x ∈ X, x.f0.size ≤ B := by
    clear hX
    induction X with
    | nil => exact ⟨0, fun x h => by cases h⟩
    | cons y ys ih => obtain ⟨B, hB⟩ := ih; exact ⟨B + y.f0.size, fun x h => by rcases List.mem_cons.1 h with rfl | h; omega; have := hB x h; omega⟩
  obtain ⟨B1, h1⟩ := h1
  obtain ⟨B2, h2⟩ := h2
  refine ⟨B1 + B2 + 2097152, fun x h => ?_, fun x h => ?_⟩
  · obtain ⟨y, hy, rfl⟩ := List.mem_map.1 h
    exact ⟨hC y hy, by have := h1 y hy; show y.f0.size ≤ _; omega⟩
  · obtain ⟨y, hy, rfl⟩ := List.mem_map.1 h
    exact ⟨(hX y hy).1, (hX y hy).2, by have := h2 y hy; have := (hX y hy).2; show y.f0.size + y.f1.length + y.f1.length ≤ _; omega⟩
theorem bound_if (C : List S74) (X : List S78) (hC : ∀ x ∈ C, x.f0.size ≤ maxLen) (hX : ∀ x ∈ X, x.f0.size ≤ maxLen) : ∃ B, (∀ x ∈ X, x.f1.length ≤ 1048576) → SmallT B (C.map cvColumn) (X.map cvIndex) := by
  by_cases h : ∀ x ∈ X, x.f1.length ≤ 1048576
  · obtain ⟨B, hB⟩ := bound_of C X hC (fun x hx => ⟨hX x hx, h x hx⟩); exact ⟨B, fun _ => hB⟩
  · exact ⟨0, fun h2 => absurd h2 h⟩
theorem table_same (n0 : ByteArray) (C : List S81) (q : Int) (X : List S84) (B : Nat) (hn : n0.size ≤ maxLen) (hS : SmallT B C X) (hC : C.length ≤ 1048576) (hX : X.length ≤ 1048576) (k : Nat) (hk : B + n0.size + C.length + X.length + C.length + X.length + 600 < k) :
    ∃ r, spec_TableOK.f k n0 C q X = some r ∧ impl_TableOK.f k n0 C q X = some r := by
  unfold spec_TableOK.f impl_TableOK.f
  rw [impl_free n0 hn k (by omega), spec_free n0 hn k (by omega), impl_in, spec_in, impl_in, spec_in]
  simp only [Option.bind_some]
  obtain ⟨k, rfl⟩ : ∃ m, k = m + 1 := ⟨k - 1, by omega⟩
  have hT : ∃ r, spec_TableOK.j0 (k + 1) true n0 C q X = some r ∧ impl_TableOK.j0 (k + 1) true n0 C q X = some r := by
    rw [spec_TableOK.j0, impl_TableOK.j0, if_pos rfl, if_pos rfl]; exact ⟨_, rfl, rfl⟩
  have hF : ∃ r, spec_TableOK.j0 (k + 1) false n0 C q X = some r ∧ impl_TableOK.j0 (k + 1) false n0 C q X = some r := by
    rw [spec_TableOK.j0, impl_TableOK.j0, if_neg (show ¬ false = true by decide), if_neg (show ¬ false = true by decide)]
    have h1 := idx_same n0 C q X B hS hC hX (k - C.length - 1 - X.length - 1) (by omega) X.length 0 (by omega)
    rw [show k - C.length - 1 - X.length - 1 + X.length + 1 = k - C.length - 1 by omega] at h1
    have h2 := cols_same n0 C q X B hS hC (k - C.length - 1) (by omega) h1 C.length 0 (by omega)
    rw [show k - C.length - 1 + C.length + 1 = k by omega] at h2
    exact h2
  cases free n0 with
  | false => rw [if_neg (show ¬ false = true by decide), if_neg (show ¬ false = true by decide)]; exact hT
  | true =>
    rw [if_pos rfl, if_pos rfl]
    cases (decide (1 ≤ (C.length : Int)) && decide ((C.length : Int) ≤ 8)) with
    | false => rw [if_neg (show ¬ false = true by decide), if_neg (show ¬ false = true by decide)]; exact hT
    | true =>
      rw [if_pos rfl, if_pos rfl]
      cases (decide (1 ≤ q) && decide (q ≤ (C.length : Int))) with
      | false => rw [if_neg (show ¬ false = true by decide), if_neg (show ¬ false = true by decide)]; exact hT
      | true =>
        rw [if_pos rfl, if_pos rfl]
        cases decide ((X.length : Int) > 4) with
        | true => exact hT
        | false => exact hF
theorem szTable_is (n0 : ByteArray) (C : List S74) (q : Int) (X : List S78) (hn : n0.size ≤ maxLen) (hCl : C.length ≤ maxLen) (hC : ∀ x ∈ C, x.f0.size ≤ maxLen) (hXl : X.length ≤ maxLen) (hX : ∀ x ∈ X, x.f0.size ≤ maxLen ∧ x.f1.length ≤ maxLen)
    (m : Int) (hm : 0 ≤ m ∧ m ≤ 1048576) (k : Nat) (hk : C.length + X.length < k) :
    ∃ n, laws_szTable.f k n0 C q X m = some n ∧ -1 ≤ n ∧ n ≤ m ∧ (n < 0 ∨ (n0.size ≤ 1048576 ∧ C.length ≤ 1048576 ∧ X.length ≤ 1048576 ∧ ∀ x ∈ X, x.f1.length ≤ 1048576)) := by
  unfold laws_szTable.f
  have hn2 := hn
  simp only [maxLen] at hn2
  rw [wrap_in (m - (n0.size : Int)) (by omega)]
  by_cases c : m - (n0.size : Int) < 0
  · rw [if_pos c]; exact ⟨_, rfl, by omega⟩
  rw [if_neg c]
  obtain ⟨m1, e1, a1, b1, d1⟩ := szColumnS_is C hCl hC (m - (n0.size : Int)) (by omega) k (by omega)
  rw [e1, Option.bind_some]
  by_cases c1 : m1 < 0
  · rw [if_pos c1]; exact ⟨_, rfl, by omega⟩
  rw [if_neg c1]
  obtain ⟨m2, e2, a2, b2, d2⟩ := szIndexS_is X hXl hX m1 (by omega) k (by omega)
  rw [e2, Option.bind_some]
  by_cases c2 : m2 < 0
  · rw [if_pos c2]; exact ⟨_, rfl, by omega⟩
  rw [if_neg c2]
  exact ⟨_, rfl, by omega, by omega, .inr ⟨by omega, d1.resolve_left c1, (d2.resolve_left c2).1, (d2.resolve_left c2).2⟩⟩
theorem toTable_is (n0 : ByteArray) (C : List S74) (q : Int) (X : List S78) (hC : C.length ≤ 1048576) (hX : X.length ≤ 1048576) (hsm : ∀ x ∈ X, x.f1.length ≤ 1048576) (k : Nat) (hk : 2097152 < k) :
    laws_toTable.f k n0 C q X = some (n0, C.map cvColumn, q, X.map cvIndex) := by
  unfold laws_toTable.f
  rw [toColumnS_is C hC k (by omega), toIndexS_is X hX 1048576 (by omega) hsm k (by omega)]
  rfl
theorem eqTable_refl (n0 : ByteArray) (C : List S81) (q : Int) (X : List S84) (hC : C.length ≤ 1048576) (hX : X.length ≤ 1048576) (hsm : ∀ x ∈ X, x.f1.length ≤ 1048576) (k : Nat) (hk : 2097152 < k) :
    laws_eqTable.f k n0 C q X n0 C q X = some true := by
  unfold laws_eqTable.f
  simp only [if_true]
  rw [eqColumnS_refl C hC k (by omega), eqIndexS_refl X hX 1048576 (by omega) hsm k (by omega)]
  rfl
end Go.Proofs.YtjknmljdnolilaaGreatDoor.Pure
end

section
/- A right table's names and numbers are small. -/
namespace Go.Proofs.YtjknmljdnolilaaGreatDoor.Pure
open Go.RowKit Go.Proofs.YtjknmljdnolilaaGreatDoor.X Go.Proofs.YtjknmljdnolilaaGreatDoorW.PrintWords Go.Proofs.YtjknmljdnolilaaGreatDoorW.PrintLast
theorem free_le {x : ByteArray} (h : free x = true) : 1 ≤ x.size ∧ x.size ≤ 40 := by
  unfold free nameok at h
  simp only [Bool.and_eq_true, decide_eq_true_eq] at h
  have h1 := h.1.2.1
  have h2 := h.1.2.2
  omega
def gcol (c : S81) : Prop := c.f0.size ≤ 40 ∧ 1 ≤ c.f1 ∧ c.f1 ≤ 4
def gidx (n : Nat) (x : S84) : Prop := x.f0.size ≤ 40 ∧ x.f1.length ≤ n ∧ ∀ c ∈ x.f1, 0 ≤ c ∧ c < (n : Int)
theorem index_good (n0 : ByteArray) (C : List S81) (q : Int) (X : List S84) (x : S84) (hx : x.f0.size ≤ maxLen) (hL : x.f1.length ≤ 1048576) (k : Nat) (hk : x.f0.size + x.f1.length + x.f1.length + 100 < k)
    (h : impl_Table_indexOK.f k n0 C q X x.f0 x.f1 = some true) : gidx C.length x := by
  unfold impl_Table_indexOK.f at h
  rw [impl_free x.f0 hx k (by omega), Option.bind_some] at h
  cases hf : free x.f0 with
  | false => rw [hf] at h; simp at h
  | true =>
    rw [hf, if_pos rfl] at h
    by_cases h0 : (x.f1.length : Int) > 0
    case neg => rw [if_neg h0] at h; simp at h
    rw [if_pos h0, twice_is x.f1 hL k (by omega), Option.bind_some] at h
    cases ht : twF x.f1 x.f1.length 0 with
    | true => rw [ht, if_pos rfl] at h; simp at h
    | false =>
      rw [ht, if_neg (by decide)] at h
      have ha : ∀ c ∈ x.f1, 0 ≤ c ∧ c < (C.length : Int) := by
        have h := Option.some.inj h
        rw [Bool.not_eq_true', List.any_eq_false] at h
        intro c hc
        have h2 := h c hc
        simp only [Bool.not_eq_true, Bool.not_eq_false', Bool.and_eq_true, decide_eq_true_eq] at h2
        omega
      exact ⟨(free_le hf).2, pigeon _ _ (tw_nodup _ ht) ha, ha⟩
theorem idx_good (n0 : ByteArray) (C : List S81) (q : Int) (X : List S84) (B : Nat) (hS : SmallT B C X) (hX : X.length ≤ 1048576) (k : Nat) (hk : B + X.length + 200 < k) : ∀ d i, i + d = X.length →
    impl_TableOK.l1 (k + d + 1) X (X.length : Int) (i : Int) n0 C q X = some true → ∀ j (hj : j < X.length), i ≤ j → gidx C.length X[j]
  | 0, i, h, _ => fun j hj hij => by omega
  | d + 1, i, h, e => by
    have hlt : i < X.length := by omega
    have hx := hS.2 X[i] (List.getElem_mem hlt)
    rw [show k + (d + 1) + 1 = (k + d + 1) + 1 by omega, impl_TableOK.l1, if_pos (show (i : Int) < (X.length : Int) by omega), if_pos (show (0 : Int) ≤ (i : Int) by omega), if_pos (show (i : Int) < (X.length : Int) by omega), rdiIndex_ X i hlt] at e
    obtain ⟨t, ht, e⟩ := Option.bind_eq_some_iff.1 e
    cases t with
    | false => simp at e
    | true =>
      rw [if_pos rfl] at e
      obtain ⟨u, _, e⟩ := Option.bind_eq_some_iff.1 e
      by_cases c : u = (i : Int)
      · rw [if_pos c, next64 i X.length hlt (by simp only [maxLen]; omega)] at e
        intro j hj hij
        rcases Nat.eq_or_lt_of_le hij with rfl | hlt2
        · exact index_good n0 C q X X[i] hx.1 hx.2.1 (k + d + 1) (by omega) ht
        · exact idx_good n0 C q X B hS hX k hk d (i + 1) (by omega) e j hj hlt2
      · rw [if_neg c] at e; simp at e
theorem cols_good (n0 : ByteArray) (C : List S81) (q : Int) (X : List S84) (B : Nat) (hS : SmallT B C X) (hC : C.length ≤ 1048576) (k : Nat) (hk : B + C.length + 200 < k) : ∀ d i, i + d = C.length →
    impl_TableOK.l0 (k + d + 1) C (C.length : Int) (i : Int) n0 C q X = some true → (∀ j (hj : j < C.length), i ≤ j → gcol C[j]) ∧ impl_TableOK.l1 k X (X.length : Int) 0 n0 C q X = some true
  | 0, i, h, e => by
    rw [show k + 0 + 1 = k + 1 from rfl, impl_TableOK.l0, if_neg (show ¬ (i : Int) < (C.length : Int) by omega)] at e
    exact ⟨fun j hj hij => by omega, e⟩
  | d + 1, i, h, e => by
    have hlt : i < C.length := by omega
    have hx := hS.1 C[i] (List.getElem_mem hlt)
    rw [show k + (d + 1) + 1 = (k + d + 1) + 1 by omega, impl_TableOK.l0, if_pos (show (i : Int) < (C.length : Int) by omega), if_pos (show (0 : Int) ≤ (i : Int) by omega), if_pos (show (i : Int) < (C.length : Int) by omega), rdiColumn_ C i hlt] at e
    unfold impl_columnOK.f at e
    rw [impl_free C[i].f0 hx.1 _ (by omega), impl_in] at e
    simp only [Option.bind_some] at e
    cases hf : free C[i].f0 with
    | false => rw [hf] at e; simp at e
    | true =>
      rw [hf, if_pos rfl, Option.bind_some] at e
      cases hw : (decide (1 ≤ C[i].f1) && decide (C[i].f1 ≤ 4)) with
      | false => rw [hw] at e; simp at e
      | true =>
        rw [hw, if_pos rfl] at e
        obtain ⟨u, _, e⟩ := Option.bind_eq_some_iff.1 e
        have hg : gcol C[i] := by
          simp only [Bool.and_eq_true, decide_eq_true_eq] at hw
          exact ⟨(free_le hf).2, hw.1, hw.2⟩
        by_cases c : u = (i : Int)
        case neg => rw [if_neg c] at e; simp at e
        rw [if_pos c, next64 i C.length hlt (by simp only [maxLen]; omega)] at e
        have e2 : impl_TableOK.l0 (k + d + 1) C (C.length : Int) ((i + 1 : Nat) : Int) n0 C q X = some true := by
          by_cases hq : (i : Int) < q
          · rw [if_pos hq] at e
            by_cases hb : C[i].f2 = true
            · rw [if_pos hb] at e; simp at e
            · rw [if_neg hb] at e; exact e
          · rw [if_neg hq] at e; exact e
        obtain ⟨r1, r2⟩ := cols_good n0 C q X B hS hC k hk d (i + 1) (by omega) e2
        refine ⟨fun j hj hij => ?_, r2⟩
        rcases Nat.eq_or_lt_of_le hij with rfl | hlt2
        · exact hg
        · exact r1 j hj hlt2
structure Good (n0 : ByteArray) (C : List S81) (q : Int) (X : List S84) : Prop where
  name : n0.size ≤ 40
  many : C.length ≤ 8
  key : 1 ≤ q ∧ q ≤ (C.length : Int)
  cols : ∀ c ∈ C, gcol c
  some : X.length ≤ 4
  idxs : ∀ x ∈ X, gidx C.length x
theorem table_good (n0 : ByteArray) (C : List S81) (q : Int) (X : List S84) (B : Nat) (hn : n0.size ≤ maxLen) (hS : SmallT B C X) (hC : C.length ≤ 1048576) (hX : X.length ≤ 1048576) (k : Nat) (hk : B + n0.size + C.length + X.length + C.length + X.length + 600 < k)
    (h : impl_TableOK.f k n0 C q X = some true) : Good n0 C q X := by
  unfold impl_TableOK.f at h
  rw [impl_free n0 hn k (by omega), impl_in, impl_in] at h
  simp only [Option.bind_some] at h
  obtain ⟨k, rfl⟩ : ∃ m, k = m + 1 := ⟨k - 1, by omega⟩
  have hT : ¬ impl_TableOK.j0 (k + 1) true n0 C q X = some true := by
    rw [impl_TableOK.j0, if_pos rfl]; simp
  cases hf : free n0 with
  | false => rw [hf, if_neg (by decide)] at h; exact absurd h hT
  | true =>
    rw [hf, if_pos rfl] at h
    cases h1 : (decide (1 ≤ (C.length : Int)) && decide ((C.length : Int) ≤ 8)) with
    | false => rw [h1, if_neg (by decide)] at h; exact absurd h hT
    | true =>
      rw [h1, if_pos rfl] at h
      cases h2 : (decide (1 ≤ q) && decide (q ≤ (C.length : Int))) with
      | false => rw [h2, if_neg (by decide)] at h; exact absurd h hT
      | true =>
        rw [h2, if_pos rfl] at h
        cases h3 : decide ((X.length : Int) > 4) with
        | true => rw [h3] at h; exact absurd h hT
        | false =>
          rw [h3, impl_TableOK.j0, if_neg (by decide)] at h
          simp only [Bool.and_eq_true, decide_eq_true_eq, decide_eq_false_iff_not] at h1 h2 h3
          have a := cols_good n0 C q X B hS hC (k - C.length - 1) (by omega) C.length 0 (by omega) (by rw [show k - C.length - 1 + C.length + 1 = k by omega]; exact h)
          have b := idx_good n0 C q X B hS hX (k - C.length - 1 - X.length - 1) (by omega) X.length 0 (by omega) (by rw [show k - C.length - 1 - X.length - 1 + X.length + 1 = k - C.length - 1 by omega]; exact a.2)
          exact ⟨(free_le hf).2, by omega, h2, fun c hc => by obtain ⟨j, hj, rfl⟩ := List.getElem_of_mem hc; exact a.1 j hj (Nat.zero_le _), by omega, fun x hx => by obtain ⟨j, hj, rfl⟩ := List.getElem_of_mem hx; exact b j hj (Nat.zero_le _)⟩
end Go.Proofs.YtjknmljdnolilaaGreatDoor.Pure
end
