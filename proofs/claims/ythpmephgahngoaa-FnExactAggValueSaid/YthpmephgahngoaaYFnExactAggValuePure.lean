/- The program's answer of an aggregate over values is the reference's answer. -/
import Derived.Test.YthpmephgahngoaaYFnExactAggValue0
import Derived.Test.YthpmephgahngoaaYFnExactAggValue4
import Derived.Test.YthpmephgahngoaaYFnExactAggValue3
import Derived.Test.YthpmephgahngoaaYFnExactAggValue7
import Derived.Test.YthpmephgahngoaaYFnExactAggValue8
import Derived.Test.YthpmephgahngoaaYFnExactAggValue9
import Derived.Test.YthpmephgahngoaaYFnExactAggValue2
import Derived.Test.YthpmephgahngoaaYFnExactAggValue6
import Derived.Test.YthpmephgahngoaaYFnExactAggValue1
import Derived.Test.YthpmephgahngoaaYFnExactAggValue10
import Derived.OpenShut
namespace Go.Proofs.Ythpmephgahngoaa.Pure
open Go.RowKit Go.Proofs.Ythpmephgahngoaa.X Go.Proofs.YthpmephgahngoaaW.PrintWords Go.Proofs.YthpmephgahngoaaW.PrintLast
set_option linter.unusedVariables false
set_option linter.unusedSimpArgs false
theorem eqv_refl (a b : Int) (t : ByteArray) : laws_eqValue.f a b t a b t = some true := by unfold laws_eqValue.f; simp
theorem wrap_next (i : Nat) (h : i < 9223372036854775806) : wrap64 ((i : Int) + 1) = ((i + 1 : Nat) : Int) := by unfold wrap64; omega
theorem rd25 (V : List S25) (i : Nat) (h : i < V.length) : rd_T25 V (i : Int) = V[i] := by simp [rd_T25, h]
theorem rd39 (V : List S39) (i : Nat) (h : i < V.length) : rd_T39 V (i : Int) = V[i] := by simp [rd_T39, h]
theorem eqs_refl (V : List S25) (hV : V.length ≤ 1048576) (d : Nat) : ∀ k i, V.length - i = d → i ≤ V.length → laws_eqValueS.l0 (k + d + 1) V V (i : Int) = some true := by
  induction d with
  | zero => intro k i h1 h2; rw [laws_eqValueS.l0, if_neg (by omega)]
  | succ d ih =>
    intro k i h1 h2
    rw [show k + (d + 1) + 1 = (k + d + 1) + 1 by omega, laws_eqValueS.l0, if_pos (by omega), if_pos (by omega), if_pos (by omega), eqv_refl, Option.bind_some, if_pos rfl, wrap_next i (by omega)]
    exact ih k (i + 1) (by omega) (by omega)
def cv (x : S39) : S25 := ⟨x.f0, x.f1, x.f2⟩
theorem tov (L : List S39) (hV : L.length ≤ 1048576) (d : Nat) : ∀ k i (R : List S25), L.length - i = d → i ≤ L.length → R.length = L.length →
    laws_toValueS.l0 (k + d + 1) L R (i : Int) = some (R.take i ++ (L.drop i).map cv) := by
  induction d with
  | zero =>
    intro k i R h1 h2 h3
    rw [laws_toValueS.l0, if_neg (by omega), List.take_of_length_le (by omega), List.drop_of_length_le (by omega), List.map_nil, List.append_nil]
  | succ d ih =>
    intro k i R h1 h2 h3
    have hlt : i < L.length := by omega
    rw [show k + (d + 1) + 1 = (k + d + 1) + 1 by omega, laws_toValueS.l0, if_pos (by omega), if_pos (by omega), rd39 L i hlt]
    unfold laws_toValue.f
    rw [Option.bind_some, if_pos (by omega), wrap_next i (by omega), ih k (i + 1) _ (by omega) (by omega) (by rw [List.length_set]; exact h3)]
    congr 1
    rw [show (i : Int).toNat = i from rfl, List.drop_eq_getElem_cons hlt, List.map_cons]
    rw [show List.take (i + 1) (R.set i (⟨L[i].f0, L[i].f1, L[i].f2⟩ : S25)) = List.take i R ++ [cv L[i]] from ?_, List.append_assoc]
    · rfl
    · rw [List.take_succ_eq_append_getElem (by rw [List.length_set]; omega), List.getElem_set_self]
      congr 1
      exact List.take_set_of_le (Nat.le_refl i)
theorem tov_all (L : List S39) (hV : L.length ≤ 1048576) (k : Nat) (hk : L.length < k) : laws_toValueS.f k L = some (L.map cv) := by
  obtain ⟨k, rfl⟩ : ∃ m, k = m + L.length + 1 := ⟨k - L.length - 1, by omega⟩
  unfold laws_toValueS.f
  rw [if_pos (by omega), if_pos (by omega)]
  have := tov L hV L.length k 0 (List.replicate ((L.length : Int)).toNat z25) (by omega) (by omega) (by simp)
  simpa using this
theorem sz_some (L : List S39) (hV : L.length ≤ 1048576) (d : Nat) : ∀ k i m, L.length - i = d → i ≤ L.length → ∃ n, laws_szValueS.l0 (k + d + 1) L m (i : Int) = some n := by
  induction d with
  | zero => intro k i m h1 h2; exact ⟨_, by rw [laws_szValueS.l0, if_neg (by omega)]⟩
  | succ d ih =>
    intro k i m h1 h2
    rw [show k + (d + 1) + 1 = (k + d + 1) + 1 by omega, laws_szValueS.l0, if_pos (by omega), if_pos (by omega)]
    obtain ⟨n, e⟩ : ∃ n, laws_szValue.f (rd_T39 L (i : Int)).f0 (rd_T39 L (i : Int)).f1 (rd_T39 L (i : Int)).f2 m = some n := by
      unfold laws_szValue.f; split <;> exact ⟨_, rfl⟩
    rw [e, Option.bind_some]
    by_cases hn : n < 0
    · rw [if_pos hn]; exact ⟨_, rfl⟩
    · rw [if_neg hn, wrap_next i (by omega)]; exact ih k (i + 1) n (by omega) (by omega)
def okv (x : S25) : Bool := vok x.f0 x.f1 x.f2
theorem spec_l0 (s : ByteArray) (V : List S25) (hV : V.length ≤ 1048576) (d : Nat) : ∀ k i, V.length - i = d → i ≤ V.length →
    spec_AggValue.l0 (k + d + 1) s V (i : Int) = if (V.drop i).all okv = true then spec_AggValue.l1 k s V 0 else some (0, 0, (⟨#[]⟩ : ByteArray), 1) := by
  induction d with
  | zero => intro k i h1 h2; rw [spec_AggValue.l0, if_neg (by omega), List.drop_of_length_le (by omega)]; rfl
  | succ d ih =>
    intro k i h1 h2
    have hlt : i < V.length := by omega
    rw [show k + (d + 1) + 1 = (k + d + 1) + 1 by omega, spec_AggValue.l0, if_pos (by omega), if_pos (by omega), rd25 V i hlt, spec_vok, Option.bind_some, List.drop_eq_getElem_cons hlt, List.all_cons, wrap_next i (by omega), ih k (i + 1) (by omega) (by omega)]
    show (if okv V[i] = true then _ else _) = _
    cases okv V[i] <;> simp
def two (x : S25) : Bool := decide (x.f0 = 0 ∨ x.f0 = 2)
theorem spec_l1 (s : ByteArray) (V : List S25) (hV : V.length ≤ 1048576) (d : Nat) : ∀ k i, V.length - i = d → i ≤ V.length →
    spec_AggValue.l1 (k + d + 1) s V (i : Int) = if s.toList = [115, 117, 109] ∧ (V.drop i).all two = false then some (0, 0, (⟨#[]⟩ : ByteArray), 10) else spec_l12Agg.f k s V := by
  induction d with
  | zero =>
    intro k i h1 h2
    rw [spec_AggValue.l1, if_neg (by omega), List.drop_of_length_le (by omega), if_neg (by simp)]
    cases spec_l12Agg.f k s V <;> rfl
  | succ d ih =>
    intro k i h1 h2
    have hlt : i < V.length := by omega
    rw [show k + (d + 1) + 1 = (k + d + 1) + 1 by omega, spec_AggValue.l1, if_pos (by omega), rd25 V i hlt, List.drop_eq_getElem_cons hlt, List.all_cons, wrap_next i (by omega), ih k (i + 1) (by omega) (by omega)]
    by_cases hs : s.toList = [115, 117, 109]
    · rw [if_pos hs, if_pos (show (0 : Int) ≤ (i : Int) by omega)]
      by_cases h0 : V[i].f0 = 0
      · rw [if_pos h0, show two V[i] = true by simp [two, h0], Bool.true_and]
      · rw [if_neg h0]
        by_cases h2 : V[i].f0 = 2
        · rw [if_pos h2, show two V[i] = true by simp [two, h2], Bool.true_and]
        · rw [if_neg h2, show two V[i] = false by simp [two, h0, h2], Bool.false_and, if_pos ⟨hs, rfl⟩]
    · rw [if_neg hs, if_neg (fun h => hs h.1), if_neg (fun h => hs h.1)]
/-- The fold over the values, in plain words. -/
def aggS (s : List UInt8) : List S25 → Int → S25 → Int × Int × ByteArray × Int
  | [], c, m => if s = [99, 111, 117, 110, 116] then (2, c, (⟨#[]⟩ : ByteArray), 0) else (m.f0, m.f1, m.f2, 0)
  | x :: xs, c, m =>
    if x.f0 = 0 then aggS s xs c m
    else if s = [115, 117, 109] then
      if m.f0 = 0 then aggS s xs (c + 1) x
      else if -9223372036854775808 ≤ m.f1 + x.f1 ∧ m.f1 + x.f1 ≤ 9223372036854775807 then aggS s xs (c + 1) ⟨m.f0, m.f1 + x.f1, m.f2⟩ else (0, 0, (⟨#[]⟩ : ByteArray), 4)
    else if s = [109, 105, 110] then
      if m.f0 = 0 then aggS s xs (c + 1) x else if cmpVal (x.f0, x.f1, x.f2) (m.f0, m.f1, m.f2) < 0 then aggS s xs (c + 1) x else aggS s xs (c + 1) m
    else if s = [109, 97, 120] then
      if m.f0 = 0 then aggS s xs (c + 1) x else if cmpVal (x.f0, x.f1, x.f2) (m.f0, m.f1, m.f2) > 0 then aggS s xs (c + 1) x else aggS s xs (c + 1) m
    else aggS s xs (c + 1) m
theorem l12_add (a b : Int) (ha : -9223372036854775808 ≤ a ∧ a ≤ 9223372036854775807) (hb : -9223372036854775808 ≤ b ∧ b ≤ 9223372036854775807) :
    spec_l12Add.f a b = some (wrap64 (a + b), decide (-9223372036854775808 ≤ a + b ∧ a + b ≤ 9223372036854775807)) := by
  have h := wrap_sum a b ha hb
  unfold spec_l12Add.f
  generalize wrap64 (a + b) = c at h ⊢
  have e : ∀ p q : Bool, p = q → some (c, p) = some (c, q) := fun p q h => by rw [h]
  by_cases c1 : a > 0 <;> by_cases c2 : b > 0 <;> by_cases c3 : c < 0 <;> by_cases c4 : a < 0 <;> by_cases c5 : b < 0 <;>
    first | (exfalso; omega) | (simp only [c1, c2, c3, c4, c5, if_true, if_false]; apply e; first | (simp; omega) | (rw [Bool.eq_iff_iff]; simp; omega))
theorem spec_agg (s : ByteArray) (V : List S25) (hV : V.length ≤ 1048576) (hR : ∀ x ∈ V, -9223372036854775808 ≤ x.f1 ∧ x.f1 ≤ 9223372036854775807) (d : Nat) :
    ∀ k i (c : Int) (m : S25), V.length - i = d → i ≤ V.length → 0 ≤ c → c + d ≤ 9000000000 → (-9223372036854775808 ≤ m.f1 ∧ m.f1 ≤ 9223372036854775807) →
    spec_l12Agg.l0 (k + d + 1) s V c (i : Int) m.f0 m.f1 m.f2 = some (aggS s.toList (V.drop i) c m) := by
  induction d with
  | zero =>
    intro k i c m h1 h2 h3 h4 hm
    rw [spec_l12Agg.l0, if_neg (by omega), List.drop_of_length_le (by omega), aggS]
    by_cases hc : s.toList = [99, 111, 117, 110, 116]
    · rw [if_pos hc, if_pos hc]; rfl
    · rw [if_neg hc, if_neg hc]
  | succ d ih =>
    intro k i c m h1 h2 h3 h4 hm
    have hlt : i < V.length := by omega
    have hx := hR V[i] (List.getElem_mem hlt)
    rw [show k + (d + 1) + 1 = (k + d + 1) + 1 by omega, spec_l12Agg.l0, if_pos (by omega), if_pos (by omega), rd25 V i hlt, List.drop_eq_getElem_cons hlt, wrap_next i (by omega), wrap_in (c + 1) (by omega), aggS]
    have stay := fun c' h h' => ih k (i + 1) c' m (by omega) (by omega) h h' hm
    have take := ih k (i + 1) (c + 1) V[i] (by omega) (by omega) (by omega) (by omega) hx
    have next := stay (c + 1) (by omega) (by omega)
    rw [stay c h3 (by omega), take, next, spec_cmp, Option.bind_some]
    by_cases h0 : V[i].f0 = 0
    · rw [if_pos h0, if_pos h0]
    rw [if_neg h0, if_neg h0]
    by_cases hs : s.toList = [115, 117, 109]
    · rw [if_pos hs, if_pos hs]
      by_cases hm0 : m.f0 = 0
      · rw [if_pos hm0, if_pos hm0]
      rw [if_neg hm0, if_neg hm0, l12_add _ _ hm hx, Option.bind_some]
      by_cases hr : -9223372036854775808 ≤ m.f1 + V[i].f1 ∧ m.f1 + V[i].f1 ≤ 9223372036854775807
      · rw [if_pos hr, if_pos (by simpa using hr), wrap_in _ hr]
        exact ih k (i + 1) (c + 1) ⟨m.f0, m.f1 + V[i].f1, m.f2⟩ (by omega) (by omega) (by omega) (by omega) hr
      · rw [if_neg hr, if_neg (by simpa using hr)]
    rw [if_neg hs, if_neg hs]
    by_cases hs : s.toList = [109, 105, 110]
    · rw [if_pos hs, if_pos hs]
      by_cases hm0 : m.f0 = 0
      · rw [if_pos hm0, if_pos hm0]
      rw [if_neg hm0, if_neg hm0]
      split <;> rfl
    rw [if_neg hs, if_neg hs]
    by_cases hs : s.toList = [109, 97, 120]
    · rw [if_pos hs, if_pos hs]
      by_cases hm0 : m.f0 = 0
      · rw [if_pos hm0, if_pos hm0]
      rw [if_neg hm0, if_neg hm0, Option.bind_some]
      split <;> rfl
    rw [if_neg hs, if_neg hs]
def own (V : List S25) : List S25 := V.filter fun x => decide (x.f0 ≠ 0)
theorem own_cons (x : S25) (xs : List S25) : own (x :: xs) = if x.f0 = 0 then own xs else x :: own xs := by
  by_cases h : x.f0 = 0 <;> simp [own, h]
theorem agg_count : ∀ (V : List S25) (c : Int) (m : S25), aggS [99, 111, 117, 110, 116] V c m = (2, c + ((own V).length : Int), (⟨#[]⟩ : ByteArray), 0)
  | [], c, m => by simp [aggS, own]
  | x :: xs, c, m => by
    rw [aggS, own_cons]
    by_cases h : x.f0 = 0
    · rw [if_pos h, if_pos h, agg_count xs]
    · rw [if_neg h, if_neg h, if_neg (by decide), if_neg (by decide), if_neg (by decide), agg_count xs, List.length_cons]
      congr 2; omega
def lessO (x m : S25) : Bool := decide (cmpVal (x.f0, x.f1, x.f2) (m.f0, m.f1, m.f2) < 0)
def moreO (x m : S25) : Bool := decide (cmpVal (x.f0, x.f1, x.f2) (m.f0, m.f1, m.f2) > 0)
def ans (x : S25) : Int × Int × ByteArray × Int := (x.f0, x.f1, x.f2, 0)
theorem agg_min : ∀ (V : List S25) (c : Int) (m : S25), aggS [109, 105, 110] V c m = if m.f0 = 0 then (match own V with | [] => ans m | x :: xs => ans (pickO lessO x xs)) else ans (pickO lessO m (own V))
  | [], c, m => by
    rw [aggS, if_neg (by decide)]
    split <;> rfl
  | x :: xs, c, m => by
    rw [aggS, own_cons]
    by_cases h : x.f0 = 0
    · rw [if_pos h, if_pos h, agg_min xs]
    · rw [if_neg h, if_neg h, if_neg (by decide), if_pos rfl]
      by_cases hm : m.f0 = 0
      · rw [if_pos hm, if_pos hm, agg_min xs, if_neg h]
      · rw [if_neg hm, if_neg hm, agg_min xs, agg_min xs, if_neg h, if_neg hm, pickO]
        show _ = ans (pickO lessO (if (decide _) = true then x else m) (own xs))
        by_cases hc : cmpVal (x.f0, x.f1, x.f2) (m.f0, m.f1, m.f2) < 0
        · rw [if_pos hc, if_pos (by simpa using hc)]
        · rw [if_neg hc, if_neg (by simpa using hc)]
theorem agg_max : ∀ (V : List S25) (c : Int) (m : S25), aggS [109, 97, 120] V c m = if m.f0 = 0 then (match own V with | [] => ans m | x :: xs => ans (pickO moreO x xs)) else ans (pickO moreO m (own V))
  | [], c, m => by
    rw [aggS, if_neg (by decide)]
    split <;> rfl
  | x :: xs, c, m => by
    rw [aggS, own_cons]
    by_cases h : x.f0 = 0
    · rw [if_pos h, if_pos h, agg_max xs]
    · rw [if_neg h, if_neg h, if_neg (by decide), if_neg (by decide), if_pos rfl]
      by_cases hm : m.f0 = 0
      · rw [if_pos hm, if_pos hm, agg_max xs, if_neg h]
      · rw [if_neg hm, if_neg hm, agg_max xs, agg_max xs, if_neg h, if_neg hm, pickO]
        show _ = ans (pickO moreO (if (decide _) = true then x else m) (own xs))
        by_cases hc : cmpVal (x.f0, x.f1, x.f2) (m.f0, m.f1, m.f2) > 0
        · rw [if_pos hc, if_pos (by simpa using hc)]
        · rw [if_neg hc, if_neg (by simpa using hc)]
def sumO : Int → List S25 → Int × Int × ByteArray × Int
  | a, [] => (2, a, (⟨#[]⟩ : ByteArray), 0)
  | a, x :: xs => if -9223372036854775808 ≤ a + x.f1 ∧ a + x.f1 ≤ 9223372036854775807 then sumO (a + x.f1) xs else (0, 0, (⟨#[]⟩ : ByteArray), 4)
theorem agg_sum2 : ∀ (V : List S25) (c : Int) (a : Int), aggS [115, 117, 109] V c ⟨2, a, (⟨#[]⟩ : ByteArray)⟩ = sumO a (own V)
  | [], c, a => by rw [aggS, if_neg (by decide)]; rfl
  | x :: xs, c, a => by
    rw [aggS, own_cons]
    by_cases h : x.f0 = 0
    · rw [if_pos h, if_pos h, agg_sum2 xs]
    · rw [if_neg h, if_neg h, if_pos rfl, if_neg (show ¬ (2 : Int) = 0 by decide), sumO, agg_sum2 xs]
theorem agg_sum : ∀ (V : List S25) (c : Int), (∀ x ∈ V, okv x = true) → (V.all two = true) → (∀ x ∈ V, -9223372036854775808 ≤ x.f1 ∧ x.f1 ≤ 9223372036854775807) →
    aggS [115, 117, 109] V c ⟨0, 0, (⟨#[]⟩ : ByteArray)⟩ = if own V = [] then (0, 0, (⟨#[]⟩ : ByteArray), 0) else sumO 0 (own V)
  | [], c, _, _, _ => by rw [aggS, if_neg (by decide)]; rfl
  | x :: xs, c, ho, ht, hr => by
    rw [List.all_cons, Bool.and_eq_true] at ht
    rw [aggS, own_cons]
    by_cases h : x.f0 = 0
    · rw [if_pos h, if_pos h]
      exact agg_sum xs c (fun y hy => ho y (.tail _ hy)) ht.2 (fun y hy => hr y (.tail _ hy))
    · rw [if_neg h, if_neg h, if_pos rfl, if_pos rfl, if_neg (by simp), sumO]
      have h2 : x.f0 = 2 := by have := ht.1; simp [two, h] at this; exact this
      have hs : x.f2 = (⟨#[]⟩ : ByteArray) := by
        have := ho x (.head _)
        unfold okv vok at this
        rw [h2] at this
        simp at this
        exact this
      have hx := hr x (.head _)
      rw [if_pos (by omega), show x = ⟨2, x.f1, (⟨#[]⟩ : ByteArray)⟩ from by cases x; simp_all, agg_sum2, Int.zero_add]
theorem impl_l0 (s : ByteArray) (V : List S25) (hV : V.length ≤ 1048576) (d : Nat) : ∀ k i (A : List S25), V.length - i = d → i ≤ V.length → A.length + d ≤ 1048576 →
    impl_aggValue.l0 (k + d + 1) s A V (V.length : Int) (i : Int) = impl_aggValue.l0 (k + 1) s (A ++ own (V.drop i)) V (V.length : Int) (V.length : Int) := by
  induction d with
  | zero => intro k i A h1 h2 h3; rw [show i = V.length by omega, List.drop_length, show own [] = [] from rfl, List.append_nil]
  | succ d ih =>
    intro k i A h1 h2 h3
    have hlt : i < V.length := by omega
    rw [show k + (d + 1) + 1 = (k + d + 1) + 1 by omega, impl_aggValue.l0, if_pos (by omega), if_pos (by omega), if_pos (by omega), rd25 V i hlt, List.drop_eq_getElem_cons hlt, own_cons, wrap_next i (by omega)]
    by_cases h0 : V[i].f0 = 0
    · rw [if_pos h0, if_pos h0]; exact ih k (i + 1) A (by omega) (by omega) (by omega)
    · rw [if_neg h0, if_neg h0, if_pos (by omega), ih k (i + 1) _ (by omega) (by omega) (by rw [List.length_append]; simp; omega), List.append_assoc]; rfl
theorem impl_l1 (O : List S25) (hV : O.length ≤ 1048576) (hR : ∀ x ∈ O, -9223372036854775808 ≤ x.f1 ∧ x.f1 ≤ 9223372036854775807) (d : Nat) : ∀ k i a, O.length - i = d → i ≤ O.length → (-9223372036854775808 ≤ a ∧ a ≤ 9223372036854775807) →
    impl_aggValue.l1 (k + d + 1) a O (O.length : Int) (i : Int) = some (sumO a (O.drop i)) := by
  induction d with
  | zero => intro k i a h1 h2 h3; rw [impl_aggValue.l1, if_neg (by omega), List.drop_of_length_le (by omega)]; rfl
  | succ d ih =>
    intro k i a h1 h2 h3
    have hlt : i < O.length := by omega
    have hx := hR O[i] (List.getElem_mem hlt)
    rw [show k + (d + 1) + 1 = (k + d + 1) + 1 by omega, impl_aggValue.l1, if_pos (by omega), if_pos (by omega), if_pos (by omega), rd25 O i hlt, List.drop_eq_getElem_cons hlt, sumO, wrap_next i (by omega), impl_add _ _ h3 hx]
    by_cases hr : -9223372036854775808 ≤ a + O[i].f1 ∧ a + O[i].f1 ≤ 9223372036854775807
    · rw [if_pos hr, if_pos hr, Option.bind_some, if_pos rfl]; exact ih k (i + 1) _ (by omega) (by omega) hr
    · rw [if_neg hr, if_neg hr, Option.bind_some, if_neg (by decide)]
theorem own_mem {V : List S25} {x : S25} (h : x ∈ own V) : x ∈ V := (List.mem_filter.1 h).1
theorem two_own (V : List S25) : ((own V).any fun x => x.f0 != 2) = !(V.all two) := by
  induction V with
  | nil => rfl
  | cons x xs ih =>
    rw [own_cons, List.all_cons]
    by_cases h : x.f0 = 0
    · rw [if_pos h, ih, show two x = true by simp [two, h], Bool.true_and]
    · rw [if_neg h, List.any_cons, ih]
      by_cases h2 : x.f0 = 2
      · rw [show two x = true by simp [two, h2], h2]; simp
      · rw [show two x = false by simp [two, h, h2], show (x.f0 != 2) = true by simp [h2]]; simp
theorem agg_same (s : ByteArray) (V : List S25) (hV : V.length ≤ 1048576) (hR : ∀ x ∈ V, -9223372036854775808 ≤ x.f1 ∧ x.f1 ≤ 9223372036854775807) (k : Nat) :
    ∃ r, spec_AggValue.f (k + V.length + V.length + V.length + 20) s V = some r ∧ impl_AggValue.f (k + V.length + V.length + V.length + 20) s V = some r := by
  unfold spec_AggValue.f impl_AggValue.f impl_areLong.f
  simp only [Option.bind_some, List.any_cons, List.any_nil, Bool.or_false, decide_eq_true_eq]
  by_cases hs : (s.size : Int) > 65536
  · rw [if_pos hs, if_pos (show 65536 < (s.size : Int) by omega), impl_AggValue.j0, if_pos rfl]; exact ⟨_, rfl, rfl⟩
  rw [if_neg hs, if_neg (show ¬ 65536 < (s.size : Int) by omega)]
  by_cases hl : (V.length : Int) > 4096
  · rw [if_pos hl, impl_AggValue.j0, if_pos (show decide ((V.length : Int) > 4096) = true by simpa using hl)]; exact ⟨_, rfl, rfl⟩
  rw [if_neg hl, impl_AggValue.j0, if_neg (show ¬ decide ((V.length : Int) > 4096) = true by simpa using hl)]
  unfold impl_aggregates.f
  rw [Option.bind_some, contains_is _ s (by decide) _ (by simp), Option.bind_some]
  have hany : impl_AggValue_1_any.f V = some (!(V.all okv)) := by
    unfold impl_AggValue_1_any.f anyO impl_AggValue_1.f
    simp only [impl_vok, Option.bind_some, Option.isSome_some, Option.getD_some]
    rw [if_pos (by simp)]
    congr 1
    induction V with
    | nil => rfl
    | cons x xs ih => rw [List.any_cons, List.all_cons, Bool.not_and]; rw [← ih (by simp at hV; omega) (fun y hy => hR y (.tail _ hy)) (by simp at hl ⊢; omega)]; rfl
  have hany2 : impl_aggValue_1_any.f (own V) = some (!(V.all two)) := by
    unfold impl_aggValue_1_any.f anyO impl_aggValue_1.f
    simp only [Option.isSome_some, Option.getD_some]
    rw [if_pos (by simp), two_own]
  have hol : (own V).length ≤ V.length := List.length_filter_le _ _
  rw [hany]
  by_cases hk : ¬ (s.toList = [99, 111, 117, 110, 116] ∨ s.toList = [115, 117, 109] ∨ s.toList = [109, 105, 110] ∨ s.toList = [109, 97, 120])
  · have c1 : s.toList ≠ [99, 111, 117, 110, 116] := fun h => hk (.inl h)
    have c2 : s.toList ≠ [115, 117, 109] := fun h => hk (.inr (.inl h))
    have c3 : s.toList ≠ [109, 105, 110] := fun h => hk (.inr (.inr (.inl h)))
    have c4 : s.toList ≠ [109, 97, 120] := fun h => hk (.inr (.inr (.inr h)))
    rw [if_neg c1, if_neg c2, if_neg c3, spec_AggValue.j0, if_pos (show (s.toList != ([109, 97, 120] : List UInt8)) = true by simpa using c4), if_neg (by simp [toList_mk, c1, c2, c3, c4])]
    exact ⟨_, rfl, rfl⟩
  replace hk := Classical.not_not.1 hk
  rw [show (if s.toList = [99, 111, 117, 110, 116] then spec_AggValue.j0 (k + V.length + V.length + V.length + 20) s V false
      else if s.toList = [115, 117, 109] then spec_AggValue.j0 (k + V.length + V.length + V.length + 20) s V false
      else if s.toList = [109, 105, 110] then spec_AggValue.j0 (k + V.length + V.length + V.length + 20) s V false
      else spec_AggValue.j0 (k + V.length + V.length + V.length + 20) s V (s.toList != [109, 97, 120])) = spec_AggValue.j0 (k + V.length + V.length + V.length + 20) s V false from by
    rcases hk with h | h | h | h <;> rw [h] <;> rfl]
  rw [if_pos (show _ = true by rcases hk with h | h | h | h <;> simp [toList_mk, h]), spec_AggValue.j0, if_neg (by decide)]
  have e0 := spec_l0 s V hV V.length (k + V.length + V.length + 18) 0 (by omega) (by omega)
  rw [show k + V.length + V.length + 18 + V.length + 1 = k + V.length + V.length + V.length + 19 by omega, List.drop_zero] at e0
  rw [show ((0 : Nat) : Int) = 0 from rfl] at e0
  rw [e0, Option.bind_some]
  cases ha : V.all okv with
  | false => rw [if_neg (by decide), if_pos (show (!false) = true from rfl)]; exact ⟨_, rfl, rfl⟩
  | true =>
    rw [if_pos rfl, if_neg (show ¬ (!true) = true by decide)]
    have e1 := spec_l1 s V hV V.length (k + V.length + 17) 0 (by omega) (by omega)
    rw [show k + V.length + 17 + V.length + 1 = k + V.length + V.length + 18 by omega, List.drop_zero, show ((0 : Nat) : Int) = 0 from rfl] at e1
    have e2 : spec_l12Agg.f (k + V.length + 17) s V = some (aggS s.toList V 0 ⟨0, 0, (⟨#[]⟩ : ByteArray)⟩) := by
      have := spec_agg s V hV hR V.length (k + 16) 0 0 ⟨0, 0, (⟨#[]⟩ : ByteArray)⟩ (by omega) (by omega) (by omega) (by omega) ⟨by show (-9223372036854775808 : Int) ≤ 0; decide, by show (0 : Int) ≤ 9223372036854775807; decide⟩
      rw [show k + 16 + V.length + 1 = k + V.length + 17 by omega, List.drop_zero] at this
      exact this
    rw [e1, e2]
    unfold impl_aggValue.f
    have e3 := impl_l0 s V hV V.length (k + V.length + V.length + 18) 0 [] (by omega) (by omega) (by simp; omega)
    rw [show k + V.length + V.length + 18 + V.length + 1 = k + V.length + V.length + V.length + 19 by omega, List.drop_zero, show ((0 : Nat) : Int) = 0 from rfl, List.nil_append] at e3
    rw [e3, impl_aggValue.l0, if_neg (show ¬ (V.length : Int) < (V.length : Int) by omega), hany2, Option.bind_some, show k + V.length + V.length + 18 = (k + V.length + V.length + 17) + 1 by omega, impl_aggValue.j1, impl_aggValue.j1]
    have e4 := impl_l1 (own V) (by omega) (fun x hx => hR x (own_mem hx)) (own V).length (k + V.length + V.length + 16 - (own V).length) 0 0 (by omega) (by omega) (by omega)
    rw [show k + V.length + V.length + 16 - (own V).length + (own V).length + 1 = k + V.length + V.length + 17 by omega, List.drop_zero, show ((0 : Nat) : Int) = 0 from rfl] at e4
    rw [e4]
    rcases hk with h | h | h | h <;> rw [h]
    · rw [if_neg (by simp), if_pos rfl, agg_count]; exact ⟨_, rfl, by rw [Int.zero_add]; rfl⟩
    · rw [if_neg (show ¬ ([115, 117, 109] : List UInt8) = [99, 111, 117, 110, 116] by decide), if_pos (show ([115, 117, 109] : List UInt8) = [115, 117, 109] from rfl)]
      cases ht : V.all two with
      | false => rw [if_pos ⟨rfl, rfl⟩, if_pos (show (!false) = true from rfl)]; exact ⟨_, rfl, rfl⟩
      | true =>
        rw [if_neg (by simp), if_neg (show ¬ (!true) = true by decide), if_neg (show ¬ ([115, 117, 109] : List UInt8) = [109, 105, 110] by decide), if_neg (show ¬ ([115, 117, 109] : List UInt8) = [109, 97, 120] by decide),
          agg_sum V 0 (fun x hx => List.all_eq_true.1 ha x hx) ht hR]
        by_cases hO : own V = []
        · rw [if_pos hO, hO]; exact ⟨_, rfl, rfl⟩
        · rw [if_neg hO, if_neg (show ¬ ((own V).length : Int) = 0 by have := List.length_pos_iff.2 hO; omega)]; exact ⟨_, rfl, rfl⟩
    · rw [if_neg (show ¬ (([109, 105, 110] : List UInt8) = [115, 117, 109] ∧ _) from fun h => absurd h.1 (by decide)), if_neg (show ¬ ([109, 105, 110] : List UInt8) = [99, 111, 117, 110, 116] by decide),
        if_neg (show ¬ ([109, 105, 110] : List UInt8) = [115, 117, 109] by decide), if_neg (show ¬ false = true by decide), if_pos (show ([109, 105, 110] : List UInt8) = [109, 105, 110] from rfl), agg_min, if_pos rfl]
      cases hO : own V with
      | nil => exact ⟨_, rfl, rfl⟩
      | cons x xs => rw [if_neg (by simp; omega)]; exact ⟨_, rfl, rfl⟩
    · rw [if_neg (show ¬ (([109, 97, 120] : List UInt8) = [115, 117, 109] ∧ _) from fun h => absurd h.1 (by decide)), if_neg (show ¬ ([109, 97, 120] : List UInt8) = [99, 111, 117, 110, 116] by decide),
        if_neg (show ¬ ([109, 97, 120] : List UInt8) = [115, 117, 109] by decide), if_neg (show ¬ false = true by decide), if_neg (show ¬ ([109, 97, 120] : List UInt8) = [109, 105, 110] by decide), if_pos (show ([109, 97, 120] : List UInt8) = [109, 97, 120] from rfl), agg_max, if_pos rfl]
      cases hO : own V with
      | nil => exact ⟨_, rfl, rfl⟩
      | cons x xs => rw [if_neg (by simp; omega)]; exact ⟨_, rfl, rfl⟩
theorem FnExactAggValue : laws_FnExactAggValue.Need := by
  rintro s L _ ⟨hM, hQ⟩
  refine ⟨L.length + L.length + L.length + L.length + 30, ?_⟩
  generalize hK : L.length + L.length + L.length + L.length + 30 = K
  unfold laws_FnExactAggValue.f laws_szValueS.f
  by_cases hs : (s.size : Int) > 1048576
  · rw [if_pos hs]
  rw [if_neg hs]
  by_cases hL : ¬ L.length ≤ 1048576
  · rw [wrap_in (1048576 - (L.length : Int)) (by simp only [maxLen] at hM; omega), if_pos (show 1048576 - (L.length : Int) < 0 by omega)]; rfl
  replace hL := Classical.not_not.1 hL
  rw [wrap_in (1048576 - (L.length : Int)) (by omega), if_neg (show ¬ 1048576 - (L.length : Int) < 0 by omega)]
  obtain ⟨n, e⟩ := sz_some L hL L.length (L.length + L.length + L.length + 29) 0 (1048576 - (L.length : Int)) (by omega) (by omega)
  rw [show L.length + L.length + L.length + 29 + L.length + 1 = K by omega, show ((0 : Nat) : Int) = 0 from rfl] at e
  rw [e, Option.bind_some]
  by_cases hn : n < 0
  · rw [if_pos hn]
  rw [if_neg hn, tov_all L hL K (by omega)]
  simp only [Option.bind_some]
  obtain ⟨r, e1, e2⟩ := agg_same s (L.map cv) (by rw [List.length_map]; exact hL) (by
    intro x hx
    obtain ⟨y, hy, rfl⟩ := List.mem_map.1 hx
    exact i64_of (hQ y hy).2.1) (L.length + 10)
  rw [List.length_map, show L.length + 10 + L.length + L.length + L.length + 20 = K by omega] at e1 e2
  rw [e1, e2, Option.bind_some, Option.bind_some, eqv_refl, Option.bind_some, if_pos rfl]
  obtain ⟨K, rfl⟩ : ∃ m, K = m + 1 := ⟨K - 1, by omega⟩
  rw [laws_FnExactAggValue.j0, if_neg (by simp), tov_all L hL K (by omega), Option.bind_some]
  have e3 := eqs_refl (L.map cv) (by rw [List.length_map]; exact hL) L.length (K - L.length - 1) 0 (by rw [List.length_map]; omega) (by omega)
  rw [show K - L.length - 1 + L.length + 1 = K by omega, show ((0 : Nat) : Int) = 0 from rfl] at e3
  unfold laws_eqValueS.f
  rw [if_pos rfl, e3, Option.bind_some, if_pos rfl]
end Go.Proofs.Ythpmephgahngoaa.Pure
