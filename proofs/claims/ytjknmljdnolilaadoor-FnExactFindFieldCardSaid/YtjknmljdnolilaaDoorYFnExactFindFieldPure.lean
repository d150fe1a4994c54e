/- The field that the program finds by its name is the one that the reference finds. -/
import Derived.Test.YtjknmljdnolilaaDoorYFnExactFindField0
import Derived.Test.YtjknmljdnolilaaDoorYFnExactFindField2
import Derived.Test.YtjknmljdnolilaaDoorYFnExactFindField4
import Derived.Test.YtjknmljdnolilaaDoorYFnExactFindField5
import Derived.Test.YtjknmljdnolilaaDoorYFnExactFindField1
import Derived.Test.YtjknmljdnolilaaDoorYFnExactFindField3
import Derived.OpenShut
namespace Go.Proofs.YtjknmljdnolilaaDoor.Pure
open Go.RowKit Go.Proofs.YtjknmljdnolilaaDoor.X Go.Proofs.YtjknmljdnolilaaDoorW.PrintWords Go.Proofs.YtjknmljdnolilaaDoorW.PrintLast
set_option linter.unusedVariables false
set_option linter.unusedSimpArgs false
theorem rd61 (V : List S61) (i : Nat) (h : i < V.length) : rd_T61 V (i : Int) = V[i] := by simp [rd_T61, h]
theorem rd59 (V : List S59) (i : Nat) (h : i < V.length) : rd_T59 V (i : Int) = V[i] := by simp [rd_T59, h]
def cv (x : S59) : S61 := ⟨x.f0, x.f1, x.f2⟩
theorem eqf_refl (a b : ByteArray) (t : Int) : laws_eqField.f a b t a b t = some true := by unfold laws_eqField.f; simp
theorem eqs_refl (V : List S61) (hV : V.length ≤ 1048576) (d : Nat) : ∀ k i, V.length - i = d → i ≤ V.length → laws_eqFieldS.l0 (k + d + 1) V V (i : Int) = some true := by
  induction d with
  | zero => intro k i h1 h2; rw [laws_eqFieldS.l0, if_neg (by omega)]
  | succ d ih =>
    intro k i h1 h2
    rw [show k + (d + 1) + 1 = (k + d + 1) + 1 by omega, laws_eqFieldS.l0, if_pos (by omega), if_pos (by omega), if_pos (by omega), eqf_refl, Option.bind_some, if_pos rfl, next64 i V.length (by omega) (by simp only [maxLen]; omega)]
    exact ih k (i + 1) (by omega) (by omega)
theorem tov (L : List S59) (hV : L.length ≤ 1048576) (d : Nat) : ∀ k i (R : List S61), L.length - i = d → i ≤ L.length → R.length = L.length →
    laws_toFieldS.l0 (k + d + 1) L R (i : Int) = some (R.take i ++ (L.drop i).map cv) := by
  induction d with
  | zero =>
    intro k i R h1 h2 h3
    rw [laws_toFieldS.l0, if_neg (by omega), List.take_of_length_le (by omega), List.drop_of_length_le (by omega), List.map_nil, List.append_nil]
  | succ d ih =>
    intro k i R h1 h2 h3
    have hlt : i < L.length := by omega
    rw [show k + (d + 1) + 1 = (k + d + 1) + 1 by omega, laws_toFieldS.l0, if_pos (by omega), if_pos (by omega), rd59 L i hlt]
    unfold laws_toField.f
    rw [Option.bind_some, if_pos (by omega), next64 i L.length (by omega) (by simp only [maxLen]; omega), ih k (i + 1) _ (by omega) (by omega) (by rw [List.length_set]; exact h3)]
    congr 1
    rw [show (i : Int).toNat = i from rfl, List.drop_eq_getElem_cons hlt, List.map_cons]
    rw [show List.take (i + 1) (R.set i (⟨L[i].f0, L[i].f1, L[i].f2⟩ : S61)) = List.take i R ++ [cv L[i]] from ?_, List.append_assoc]
    · rfl
    · rw [List.take_succ_eq_append_getElem (by rw [List.length_set]; omega), List.getElem_set_self]
      congr 1
      exact List.take_set_of_le (Nat.le_refl i)
theorem tov_all (L : List S59) (hV : L.length ≤ 1048576) (k : Nat) (hk : L.length < k) : laws_toFieldS.f k L = some (L.map cv) := by
  obtain ⟨k, rfl⟩ : ∃ m, k = m + L.length + 1 := ⟨k - L.length - 1, by omega⟩
  unfold laws_toFieldS.f
  rw [if_pos (by omega), if_pos (by omega)]
  have := tov L hV L.length k 0 (List.replicate ((L.length : Int)).toNat z61) (by omega) (by omega) (by simp)
  simpa using this
theorem sz_some (L : List S59) (hV : L.length ≤ 1048576) (d : Nat) : ∀ k i m, L.length - i = d → i ≤ L.length → ∃ n, laws_szFieldS.l0 (k + d + 1) L m (i : Int) = some n := by
  induction d with
  | zero => intro k i m h1 h2; exact ⟨_, by rw [laws_szFieldS.l0, if_neg (by omega)]⟩
  | succ d ih =>
    intro k i m h1 h2
    rw [show k + (d + 1) + 1 = (k + d + 1) + 1 by omega, laws_szFieldS.l0, if_pos (by omega), if_pos (by omega)]
    obtain ⟨n, e⟩ : ∃ n, laws_szField.f (rd_T59 L (i : Int)).f0 (rd_T59 L (i : Int)).f1 (rd_T59 L (i : Int)).f2 m = some n := by
      unfold laws_szField.f
      split
      · exact ⟨_, rfl⟩
      · split <;> exact ⟨_, rfl⟩
    rw [e, Option.bind_some]
    by_cases hn : n < 0
    · rw [if_pos hn]; exact ⟨_, rfl⟩
    · rw [if_neg hn, next64 i L.length (by omega) (by simp only [maxLen]; omega)]; exact ih k (i + 1) n (by omega) (by omega)
def okF (x : S61) : Bool := free x.f1 && ((x.f0.toList == ([] : List UInt8)) || free x.f0) && (decide (0 ≤ x.f2) && decide (x.f2 ≤ 4))
def Small (B : Nat) (V : List S61) : Prop := ∀ x ∈ V, x.f0.size ≤ maxLen ∧ x.f1.size ≤ maxLen ∧ x.f0.size ≤ B ∧ x.f1.size ≤ B
theorem closure_is (x : S61) (B k : Nat) (h : x.f0.size ≤ maxLen ∧ x.f1.size ≤ maxLen ∧ x.f0.size ≤ B ∧ x.f1.size ≤ B) (hk : B + 40 < k) : impl_areFields_1.f k x.f0 x.f1 x.f2 = some (!(okF x)) := by
  unfold impl_areFields_1.f okF
  rw [impl_free x.f1 h.2.1 k (by omega), impl_free x.f0 h.1 k (by omega), impl_in]
  simp only [Option.bind_some]
  cases free x.f1 with
  | false => rw [if_neg (by decide)]; simp
  | true =>
    rw [if_pos rfl]
    by_cases c : x.f0.toList = []
    · rw [if_pos c, show (x.f0.toList == ([] : List UInt8)) = true by rw [c]; rfl]; simp
    · rw [if_neg c, show (x.f0.toList == ([] : List UInt8)) = false by simpa using c]
      cases free x.f0 <;> simp
theorem impl_fields (V : List S61) (B k : Nat) (h : Small B V) (hk : B + 40 < k) : impl_areFields.f k V = some (decide (V.length ≤ 16) && V.all okF) := by
  unfold impl_areFields.f
  have hany : impl_areFields_1_any.f k V = some (!(V.all okF)) := by
    unfold impl_areFields_1_any.f anyO
    have hall : ∀ x ∈ V, impl_areFields_1.f k x.f0 x.f1 x.f2 = some (!(okF x)) := fun x hx => closure_is x B k (h x hx) hk
    rw [if_pos (List.all_eq_true.2 fun x hx => by show (impl_areFields_1.f k x.f0 x.f1 x.f2).isSome = true; rw [hall x hx]; rfl)]
    congr 1
    clear h
    induction V with
    | nil => rfl
    | cons x xs ih =>
      rw [List.any_cons, List.all_cons, Bool.not_and, ih (fun y hy => hall y (.tail _ hy))]
      show ((impl_areFields_1.f k x.f0 x.f1 x.f2).getD false || _) = _
      rw [hall x (.head _)]; rfl
  by_cases c : (V.length : Int) ≤ 16
  · rw [if_pos c, hany, show decide (V.length ≤ 16) = true by simp; omega]; simp
  · rw [if_neg c, show decide (V.length ≤ 16) = false by simp; omega]; rfl
theorem spec_fields_l0 (V : List S61) (B k : Nat) (h : Small B V) (hk : B + 40 < k) (hV : V.length ≤ 16) (d : Nat) : ∀ i, V.length - i = d → i ≤ V.length → spec_l11ScopeOK.l0 (k + d + 1) V (i : Int) = some ((V.drop i).all okF) := by
  induction d with
  | zero => intro i h1 h2; rw [spec_l11ScopeOK.l0, if_neg (by omega), List.drop_of_length_le (by omega)]; rfl
  | succ d ih =>
    intro i h1 h2
    have hlt : i < V.length := by omega
    have hx := h V[i] (List.getElem_mem hlt)
    rw [show k + (d + 1) + 1 = (k + d + 1) + 1 by omega, spec_l11ScopeOK.l0, if_pos (by omega), if_pos (by omega), rd61 V i hlt, spec_free _ hx.2.1 _ (by omega), spec_free _ hx.1 _ (by omega), spec_in, next64 i 16 (by omega) (by simp only [maxLen]; omega), ih (i + 1) (by omega) (by omega), List.drop_eq_getElem_cons hlt, List.all_cons, okF]
    simp only [Option.bind_some]
    cases free V[i].f1 with
    | false => rw [if_neg (by decide)]; simp
    | true =>
      rw [if_pos rfl]
      by_cases c : V[i].f0.toList = []
      · rw [if_pos c, show (V[i].f0.toList == ([] : List UInt8)) = true by rw [c]; rfl]
        cases (decide (0 ≤ V[i].f2) && decide (V[i].f2 ≤ 4)) <;> simp
      · rw [if_neg c, show (V[i].f0.toList == ([] : List UInt8)) = false by simpa using c]
        cases free V[i].f0 <;> cases (decide (0 ≤ V[i].f2) && decide (V[i].f2 ≤ 4)) <;> simp
theorem spec_fields (V : List S61) (B k : Nat) (h : Small B V) (hk : B + 100 < k) : spec_l11ScopeOK.f k V = some (decide (V.length ≤ 16) && V.all okF) := by
  unfold spec_l11ScopeOK.f
  by_cases c : (V.length : Int) > 16
  · rw [if_pos c, show decide (V.length ≤ 16) = false by simp; omega]; rfl
  · rw [if_neg c, show decide (V.length ≤ 16) = true by simp; omega]
    have e := spec_fields_l0 V B (k - V.length - 1) h (by omega) (by omega) V.length 0 (by omega) (by omega)
    rw [show k - V.length - 1 + V.length + 1 = k by omega, List.drop_zero] at e
    rw [show (0 : Int) = ((0 : Nat) : Int) from rfl, e]; rfl
theorem find_same (V : List S61) (a b : ByteArray) (hV : V.length ≤ 16) (d : Nat) : ∀ k i m, V.length - i = d → i ≤ V.length →
    ∃ r, spec_l11Find.l0 (k + 2 * d + 1) V a b m (i : Int) = some r ∧ impl_findField.l0 (k + 2 * d + 1) a b m V (V.length : Int) (i : Int) = some r := by
  induction d with
  | zero =>
    intro k i m h1 h2
    rw [spec_l11Find.l0, if_neg (show ¬ (i : Int) < (V.length : Int) by omega), impl_findField.l0, if_neg (show ¬ (i : Int) < (V.length : Int) by omega)]
    split <;> exact ⟨_, rfl, rfl⟩
  | succ d ih =>
    intro k i m h1 h2
    have hlt : i < V.length := by omega
    have hj : ∀ c, ∃ r, spec_l11Find.j1 (k + 2 * d + 2) V a b m (i : Int) c = some r ∧ impl_findField.j1 (k + 2 * d + 2) a b m (i : Int) V (V.length : Int) (i : Int) c = some r := by
      intro c
      rw [spec_l11Find.j1, impl_findField.j1, next64 i 16 (by omega) (by simp only [maxLen]; omega)]
      cases c with
      | true => rw [if_pos rfl, if_pos rfl]; exact ih k (i + 1) m (by omega) (by omega)
      | false =>
        rw [if_neg (show ¬ false = true by decide), if_neg (show ¬ false = true by decide)]
        by_cases hm : m ≥ 0
        · rw [if_pos hm, if_pos hm]; exact ⟨_, rfl, rfl⟩
        · rw [if_neg hm, if_neg hm]; exact ih k (i + 1) (i : Int) (by omega) (by omega)
    rw [show k + 2 * (d + 1) + 1 = (k + 2 * d + 2) + 1 by omega, spec_l11Find.l0, impl_findField.l0, if_pos (show (i : Int) < (V.length : Int) by omega), if_pos (show (0 : Int) ≤ (i : Int) by omega), if_pos (show (i : Int) < (V.length : Int) by omega), if_pos (show (0 : Int) ≤ (i : Int) by omega), if_pos (show (i : Int) < (V.length : Int) by omega)]
    by_cases c1 : (rd_T61 V (i : Int)).f1.toList = b.toList
    · rw [if_pos c1, if_pos c1]
      by_cases c2 : a.toList = []
      · rw [if_pos c2, if_pos c2]; exact hj _
      · rw [if_neg c2, if_neg c2]; exact hj _
    · rw [if_neg c1, if_neg c1]; exact hj _
theorem field_same (V : List S61) (a b : ByteArray) (B k : Nat) (h : Small B V) (hk : B + 200 < k) : ∃ r, spec_FindField.f k V a b = some r ∧ impl_FindField.f k V a b = some r := by
  obtain ⟨k, rfl⟩ : ∃ m, k = m + 1 := ⟨k - 1, by omega⟩
  unfold spec_FindField.f impl_FindField.f impl_areLong.f
  simp only [Option.bind_some, List.any_cons, List.any_nil, Bool.or_false]
  by_cases h1 : (V.length : Int) > 4096
  · rw [if_pos h1, if_pos h1, spec_FindField.j0, impl_FindField.j0, if_pos rfl, if_pos rfl]; exact ⟨_, rfl, rfl⟩
  rw [if_neg h1, if_neg h1]
  have long : ∀ t : ByteArray, decide (65536 < (t.size : Int)) = decide ((t.size : Int) > 65536) := fun t => rfl
  have hj : ∃ r, spec_FindField.j0 (k + 1) V a b false = some r ∧ impl_FindField.j0 (k + 1) V a b false = some r := by
    rw [spec_FindField.j0, impl_FindField.j0, if_neg (by decide), if_neg (by decide), impl_fields V B k h (by omega), spec_fields V B k h (by omega), Option.bind_some, Option.bind_some]
    cases hc : (decide (V.length ≤ 16) && V.all okF) with
    | false => rw [if_neg (by decide), if_neg (by decide)]; exact ⟨_, rfl, rfl⟩
    | true =>
      have hV : V.length ≤ 16 := by rw [Bool.and_eq_true] at hc; simpa using hc.1
      obtain ⟨r, e1, e2⟩ := find_same V a b hV V.length (k - 2 * V.length - 1) 0 (-1) (by omega) (by omega)
      rw [show k - 2 * V.length - 1 + 2 * V.length + 1 = k by omega, show ((0 : Nat) : Int) = 0 from rfl] at e1 e2
      unfold spec_l11Find.f impl_findField.f
      rw [if_pos rfl, if_pos rfl, e1, e2]; exact ⟨_, rfl, rfl⟩
  have hl : ∃ r, spec_FindField.j0 (k + 1) V a b true = some r ∧ impl_FindField.j0 (k + 1) V a b true = some r := by
    rw [spec_FindField.j0, impl_FindField.j0, if_pos rfl, if_pos rfl]; exact ⟨_, rfl, rfl⟩
  by_cases h2 : (a.size : Int) > 65536
  · rw [if_pos h2, long a, decide_eq_true h2, Bool.true_or]; exact hl
  rw [if_neg h2, long a, long b, decide_eq_false h2, Bool.false_or]
  cases decide ((b.size : Int) > 65536) with
  | true => exact hl
  | false => exact hj
theorem small_of (L : List S59) (h : ∀ x ∈ L, Q59 x) : ∃ B, Small B (L.map cv) := by
  induction L with
  | nil => exact ⟨0, fun x hx => by cases hx⟩
  | cons y ys ih =>
    obtain ⟨B, hB⟩ := ih (fun x hx => h x (.tail _ hx))
    have hy := h y (.head _)
    refine ⟨B + y.f0.size + y.f1.size, fun x hx => ?_⟩
    rw [List.map_cons] at hx
    rcases List.mem_cons.1 hx with rfl | hx
    · exact ⟨hy.1, hy.2.1, by show y.f0.size ≤ _; omega, by show y.f1.size ≤ _; omega⟩
    · obtain ⟨a, b, c, d⟩ := hB x hx
      exact ⟨a, b, by omega, by omega⟩
theorem FnExactFindField : laws_FnExactFindField.Need := by
  rintro L a b ⟨hM, hQ⟩ _ _
  obtain ⟨B, hB⟩ := small_of L hQ
  refine ⟨B + L.length + 300, ?_⟩
  generalize hK : B + L.length + 300 = K
  unfold laws_FnExactFindField.f laws_szFieldS.f
  by_cases h1 : (a.size : Int) > 1048576
  · rw [if_pos h1]
  rw [if_neg h1]
  by_cases h2 : (b.size : Int) > 1048576
  · rw [if_pos h2]
  rw [if_neg h2]
  by_cases hL : ¬ L.length ≤ 1048576
  · rw [wrap_in (1048576 - (L.length : Int)) (by simp only [maxLen] at hM; omega), if_pos (show 1048576 - (L.length : Int) < 0 by omega)]; rfl
  replace hL := Classical.not_not.1 hL
  rw [wrap_in (1048576 - (L.length : Int)) (by omega), if_neg (show ¬ 1048576 - (L.length : Int) < 0 by omega)]
  obtain ⟨n, e⟩ := sz_some L hL L.length (K - L.length - 1) 0 (1048576 - (L.length : Int)) (by omega) (by omega)
  rw [show K - L.length - 1 + L.length + 1 = K by omega, show ((0 : Nat) : Int) = 0 from rfl] at e
  rw [e, Option.bind_some]
  by_cases hn : n < 0
  · rw [if_pos hn]
  rw [if_neg hn, tov_all L hL K (by omega)]
  simp only [Option.bind_some]
  obtain ⟨r, e1, e2⟩ := field_same (L.map cv) a b B K hB (by omega)
  rw [e1, e2, Option.bind_some, Option.bind_some, if_pos rfl]
  obtain ⟨K, rfl⟩ : ∃ m, K = m + 1 := ⟨K - 1, by omega⟩
  rw [laws_FnExactFindField.j0, if_neg (by simp), tov_all L hL K (by omega), Option.bind_some]
  have e3 := eqs_refl (L.map cv) (by rw [List.length_map]; exact hL) L.length (K - L.length - 1) 0 (by rw [List.length_map]; omega) (by omega)
  rw [show K - L.length - 1 + L.length + 1 = K by omega, show ((0 : Nat) : Int) = 0 from rfl] at e3
  unfold laws_eqFieldS.f
  rw [if_pos rfl, e3, Option.bind_some, if_pos rfl]
end Go.Proofs.YtjknmljdnolilaaDoor.Pure
