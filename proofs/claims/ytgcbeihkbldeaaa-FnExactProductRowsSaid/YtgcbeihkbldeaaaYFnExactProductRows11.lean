/- Contracts of functions, and what is told of them. -/
import Derived.Test.YtgcbeihkbldeaaaYFnExactProductRows10
import Derived.OpenShut
import Derived.Laws.Strings
set_option linter.unusedSimpArgs false
set_option linter.unusedVariables false
section
namespace Go.Proofs.Ytgcbeihkbldeaaa.X
open Go.RowKit Go.Proofs.YtgcbeihkbldeaaaW.PrintWords Go.Proofs.YtgcbeihkbldeaaaW.PrintLast Go.Proofs.YtgcbeihkbldeaaaW.PrintMore
attribute [local go_sem] max2_int min2_int max_two min_two max_three min_three max_four min_four   -- for this text's walks alone

section
/-- THE ONE PURE STATEMENT of laws_FnExactProductRows. -/
def laws_FnExactProductRows.Need : Prop := ∀ (l0 : List (List (S108))) (l1 : List (List (S108))), (l0.length ≤ maxLen ∧ ∀ x0_ ∈ l0, (x0_.length ≤ maxLen ∧ ∀ x1_ ∈ x0_, Q108 x1_)) → (l1.length ≤ maxLen ∧ ∀ x0_ ∈ l1, (x0_.length ≤ maxLen ∧ ∀ x1_ ∈ x0_, Q108 x1_)) → ∃ k, laws_FnExactProductRows.f k l0 l1 = some true
end

end Go.Proofs.Ytgcbeihkbldeaaa.X
end

section
/- Small facts on numbers and texts. -/
namespace Go.Proofs.Ytgcbeihkbldeaaa.Pure
open Go.RowKit Go.Proofs.Ytgcbeihkbldeaaa.X Go.Proofs.YtgcbeihkbldeaaaW.PrintWords Go.Proofs.YtgcbeihkbldeaaaW.PrintLast
theorem wrap_in (a : Int) (ha : -9223372036854775808 ≤ a ∧ a ≤ 9223372036854775807) : wrap64 a = a := by unfold wrap64; omega
theorem wrap_range (a : Int) : -9223372036854775808 ≤ wrap64 a ∧ wrap64 a ≤ 9223372036854775807 := by unfold wrap64; omega
theorem i64_of {n : Int} (h : (Lit.int .i64 n).wf = true) : -9223372036854775808 ≤ n ∧ n ≤ 9223372036854775807 := bounds_i64 h
theorem u8_of {n : Int} (h : (Lit.int .u8 n).wf = true) : 0 ≤ n ∧ n ≤ 255 := bounds_u8 h
theorem toList_eq (s : ByteArray) : s.toList = s.data.toList := ByteArray.toList_eq s
theorem toList_inj {s t : ByteArray} (h : s.toList = t.toList) : s = t := by
  rw [toList_eq, toList_eq] at h
  have := Array.ext' h
  cases s; cases t; simp_all
theorem toList_iff {s t : ByteArray} : s.toList = t.toList ↔ s = t := ⟨toList_inj, fun h => by rw [h]⟩
theorem toList_mk (l : List UInt8) : (⟨⟨l⟩⟩ : ByteArray).toList = l := by rw [toList_eq]
theorem length_toList (s : ByteArray) : s.toList.length = s.size := by rw [toList_eq]; rfl
theorem empty_iff {s : ByteArray} : s.toList = [] ↔ s = (⟨#[]⟩ : ByteArray) := by
  rw [← toList_iff, show (⟨#[]⟩ : ByteArray).toList = [] from toList_mk []]
theorem next64 (i n : Nat) (h : i < n) (hn : n ≤ maxLen) : wrap64 ((i : Int) + 1) = ((i + 1 : Nat) : Int) := by simp only [maxLen] at hn; unfold wrap64; omega
end Go.Proofs.Ytgcbeihkbldeaaa.Pure
end

section
/- Right values: the program and the reference tell the same. -/
namespace Go.Proofs.Ytgcbeihkbldeaaa.Pure
open Go.RowKit Go.Proofs.Ytgcbeihkbldeaaa.X Go.Proofs.YtgcbeihkbldeaaaW.PrintWords Go.Proofs.YtgcbeihkbldeaaaW.PrintLast
def vok (a b : Int) (t : ByteArray) : Bool :=
  (decide (a = 0) && decide (b = 0) && decide (t.size = 0)) || (decide (a = 1) && decide (0 ≤ b ∧ b ≤ 1) && decide (t.size = 0)) || (decide (a = 2) && decide (t.size = 0)) ||
    (decide (a = 3 ∨ a = 4) && decide (b = 0) && decide (t.size ≤ 60))
theorem nil_iff (t : ByteArray) : (t.toList == ([] : List UInt8)) = decide (t.size = 0) := by
  rw [← length_toList]
  cases t.toList <;> simp
theorem size_le (t : ByteArray) : decide ((t.size : Int) ≤ 60) = decide (t.size ≤ 60) := by rw [decide_eq_decide]; omega
theorem spec_vok (a b : Int) (t : ByteArray) : spec_ValueOK.f a b t = some (vok a b t) := by
  unfold spec_ValueOK.f spec_l01In.f
  simp only [nil_iff, size_le]
  unfold vok
  by_cases c0 : a = 0
  · subst c0; by_cases cb : b = 0 <;> simp [cb]
  by_cases c1 : a = 1
  · subst c1; by_cases cb : 0 ≤ b <;> by_cases cc : b ≤ 1 <;> simp [cb, cc]
  by_cases c2 : a = 2
  · subst c2; simp
  by_cases c3 : a = 3
  · subst c3; by_cases cb : b = 0 <;> simp [cb]
  by_cases c4 : a = 4
  · subst c4; by_cases cb : b = 0 <;> simp [cb]
  simp [c0, c1, c2, c3, c4]
theorem impl_vok (a b : Int) (t : ByteArray) : impl_ValueOK.f a b t = some (vok a b t) := by
  unfold impl_ValueOK.f impl_within.f impl_hasText.f
  simp only [nil_iff, size_le]
  unfold vok
  by_cases c0 : a = 0
  · subst c0; by_cases cb : b = 0 <;> simp [cb]
  by_cases c1 : a = 1
  · subst c1; by_cases cb : 0 ≤ b <;> by_cases cc : b ≤ 1 <;> simp [cb, cc]
  by_cases c2 : a = 2
  · subst c2; simp
  by_cases c3 : a = 3
  · subst c3; by_cases cb : b = 0 <;> simp [cb]
  by_cases c4 : a = 4
  · subst c4; by_cases cb : b = 0 <;> simp [cb]
  simp [c0, c1, c2, c3, c4]
theorem size_zero {t : ByteArray} (h : t.size = 0) : t = (⟨#[]⟩ : ByteArray) := by
  rw [← empty_iff]
  have := length_toList t
  rw [h] at this
  exact List.eq_nil_of_length_eq_zero this
theorem vok_null {b : Int} {t : ByteArray} (h : vok 0 b t = true) : b = 0 ∧ t = (⟨#[]⟩ : ByteArray) := by
  have h2 : b = 0 ∧ t.size = 0 := by
    unfold vok at h
    by_cases c : b = 0 ∧ t.size = 0
    · exact c
    · exfalso
      rcases Classical.not_and_iff_not_or_not.1 c with c | c <;> simp [c] at h
  exact ⟨h2.1, size_zero h2.2⟩
end Go.Proofs.Ytgcbeihkbldeaaa.Pure
end

section
/- Marks: texts and values are written. -/
namespace Go.Proofs.Ytgcbeihkbldeaaa.Pure
open Go.RowKit Go.Proofs.Ytgcbeihkbldeaaa.X Go.Proofs.YtgcbeihkbldeaaaW.PrintWords Go.Proofs.YtgcbeihkbldeaaaW.PrintLast
theorem sn1 (a : Int) : (strOfNums [a]).size = 1 := by first | rfl | simp [strOfNums] | (unfold strOfNums; simp)
theorem markText_l0 : ∀ (d : Nat) (x : Int) (s : ByteArray), x < 10 ^ d → x ≤ 1000000000000000000 → s.size + d ≤ 1000 → ∃ t, ∀ k, laws_markText.l0 (k + d + 1) x s = some t
  | 0, x, s, h, _, hs => by
    have h : x < 1 := h
    exact ⟨(⟨#[109]⟩ : ByteArray) ++ s, fun k => by rw [show k + 0 + 1 = k + 1 from rfl, laws_markText.l0, if_neg (by omega), if_pos (by omega)]⟩
  | d + 1, x, s, h, hx, hs => by
    by_cases c : x > 0
    · have ht : Int.tdiv x 10 = x / 10 := Int.tdiv_eq_ediv_of_nonneg (by omega)
      have hp : (10 : Int) ^ (d + 1) = 10 ^ d * 10 := Int.pow_succ _ _
      rw [hp] at h
      have hq : x / 10 < 10 ^ d := by generalize (10 : Int) ^ d = p at h ⊢; omega
      obtain ⟨t, e⟩ := markText_l0 d (x / 10) ((strOfNums [(wrap64 (48 + (Int.tmod x 10))) % 256]) ++ s) hq (by omega) (by rw [ByteArray.size_append, sn1]; omega)
      refine ⟨t, fun k => ?_⟩
      rw [show k + (d + 1) + 1 = (k + d + 1) + 1 by omega, laws_markText.l0, if_pos c, Option.bind_some, if_pos (by rw [sn1]; omega), show wrap64 (Int.tdiv x 10) = x / 10 by rw [ht]; unfold wrap64; omega]
      exact e k
    · exact ⟨(⟨#[109]⟩ : ByteArray) ++ s, fun k => by rw [show k + (d + 1) + 1 = (k + d + 1) + 1 by omega, laws_markText.l0, if_neg c, if_pos (by omega)]⟩
theorem markText_is (x : Int) (hx : x ≤ 1000000000000000) : ∃ t, ∀ k, 20 < k → laws_markText.f k x = some t := by
  by_cases c : x ≤ 0
  · exact ⟨(⟨#[109, 48]⟩ : ByteArray), fun k _ => by unfold laws_markText.f; rw [if_pos c]⟩
  · obtain ⟨t, e⟩ := markText_l0 18 x (⟨#[]⟩ : ByteArray) (by have : (10 : Int) ^ 18 = 1000000000000000000 := rfl; omega) (by omega) (by decide)
    refine ⟨t, fun k hk => ?_⟩
    unfold laws_markText.f
    rw [if_neg c, show k = (k - 19) + 18 + 1 by omega]; exact e _
theorem markValue_is : ∀ (d : Nat) (xs : List S110) (x1 : Int) (i : Nat), i + d = xs.length → xs.length ≤ 4194304 → 0 ≤ x1 → x1 + 3 * d ≤ 100000000000000 →
    ∃ ys : List S110, ys.length = xs.length ∧ ∀ k, 20 < k → laws_markValueS.l0 (k + d + 1) xs x1 (i : Int) = some (x1 + 3 * d, ys)
  | 0, xs, x1, i, hi, hx, h0, hb => ⟨xs, rfl, fun k hk => by rw [show k + 0 + 1 = k + 1 from rfl, laws_markValueS.l0, if_neg (by omega)]; simp⟩
  | d + 1, xs, x1, i, hi, hx, h0, hb => by
    obtain ⟨t, ht⟩ := markText_is (x1 + 2) (by omega)
    have w1 : wrap64 (x1 + 1) = x1 + 1 := by unfold wrap64; omega
    have w2 : wrap64 (x1 + 1 + 1) = x1 + 2 := by unfold wrap64; omega
    have w3 : wrap64 (x1 + 2 + 1) = x1 + 3 := by unfold wrap64; omega
    have wi : wrap64 ((i : Int) + 1) = ((i + 1 : Nat) : Int) := by unfold wrap64; omega
    have hrd : ∀ e : S110, rd_T110 (xs.set i e) (i : Int) = e := fun e => by
      unfold rd_T110; rw [List.getD_eq_getElem?_getD, Int.toNat_natCast, List.getElem?_set_self (by omega)]; rfl
    obtain ⟨ys, hl, hh⟩ := markValue_is d (xs.set i ⟨x1, x1 + 1, t⟩) (x1 + 3) (i + 1) (by rw [List.length_set]; omega) (by rw [List.length_set]; omega) (by omega) (by omega)
    rw [List.length_set] at hl
    refine ⟨ys, hl, fun k hk => ?_⟩
    rw [show k + (d + 1) + 1 = (k + d + 1) + 1 by omega, laws_markValueS.l0, if_pos (by omega), if_pos (by omega)]
    simp only [Option.bind_some, w1, w2, w3, wi, Int.toNat_natCast, List.set_set, hrd, ht (k + d + 1) (by omega)]
    rw [hh k hk, show x1 + 3 + 3 * (d : Int) = x1 + 3 * ((d + 1 : Nat) : Int) by omega]
theorem markValue_f (xs : List S110) (x1 : Int) (hx : xs.length ≤ 4194304) (h0 : 0 ≤ x1) (hb : x1 ≤ 10000000000000) : ∃ ys : List S110, ys.length = xs.length ∧ ∀ k, xs.length + 21 < k → laws_markValueS.f k xs x1 = some (x1 + 3 * xs.length, ys) := by
  obtain ⟨ys, hl, h⟩ := markValue_is xs.length xs x1 0 (by omega) hx h0 (by omega)
  refine ⟨ys, hl, fun k hk => ?_⟩
  have := h (k - xs.length - 1) (by omega)
  rw [show k - xs.length - 1 + xs.length + 1 = k by omega] at this
  exact this
end Go.Proofs.Ytgcbeihkbldeaaa.Pure
end

section
/- Marks of values are held. -/
namespace Go.Proofs.Ytgcbeihkbldeaaa.Pure
open Go.RowKit Go.Proofs.Ytgcbeihkbldeaaa.X Go.Proofs.YtgcbeihkbldeaaaW.PrintWords Go.Proofs.YtgcbeihkbldeaaaW.PrintLast
theorem mark_held : ∀ (d : Nat) (xs : List S110) (x1 : Int) (i : Nat), i + d = xs.length → xs.length ≤ 4194304 → 0 ≤ x1 → x1 + 3 * d ≤ 100000000000000 →
    ∃ (r : Int) (ys : List S110), r = x1 + 3 * d ∧ ys.length = xs.length ∧ (∀ j, j < i → ys[j]? = xs[j]?) ∧ ∀ k, 20 < k → laws_markValueS.l0 (k + d + 1) xs x1 (i : Int) = some (r, ys) ∧ laws_heldValueS.l0 (k + d + 1) ys x1 (i : Int) = some r
  | 0, xs, x1, i, hi, hx, h0, hb => by
    refine ⟨x1, xs, by omega, rfl, fun _ _ => rfl, fun k hk => ⟨?_, ?_⟩⟩
    · rw [show k + 0 + 1 = k + 1 from rfl, laws_markValueS.l0, if_neg (by omega)]
    · rw [show k + 0 + 1 = k + 1 from rfl, laws_heldValueS.l0, if_neg (by omega)]
  | d + 1, xs, x1, i, hi, hx, h0, hb => by
    obtain ⟨t, ht⟩ := markText_is (x1 + 2) (by omega)
    have w1 : wrap64 (x1 + 1) = x1 + 1 := by unfold wrap64; omega
    have w2 : wrap64 (x1 + 1 + 1) = x1 + 2 := by unfold wrap64; omega
    have w3 : wrap64 (x1 + 2 + 1) = x1 + 3 := by unfold wrap64; omega
    have wi : wrap64 ((i : Int) + 1) = ((i + 1 : Nat) : Int) := by unfold wrap64; omega
    have hrd : ∀ e : S110, rd_T110 (xs.set i e) (i : Int) = e := fun e => by
      unfold rd_T110; rw [List.getD_eq_getElem?_getD, Int.toNat_natCast, List.getElem?_set_self (by omega)]; rfl
    obtain ⟨r, ys, re, hl, hp, hh⟩ := mark_held d (xs.set i ⟨x1, x1 + 1, t⟩) (x1 + 3) (i + 1) (by rw [List.length_set]; omega) (by rw [List.length_set]; omega) (by omega) (by omega)
    rw [List.length_set] at hl
    refine ⟨r, ys, by omega, hl, fun j hj => by rw [hp j (by omega), List.getElem?_set_ne (by omega)], fun k hk => ⟨?_, ?_⟩⟩
    · rw [show k + (d + 1) + 1 = (k + d + 1) + 1 by omega, laws_markValueS.l0, if_pos (by omega), if_pos (by omega)]
      simp only [Option.bind_some, w1, w2, w3, wi, Int.toNat_natCast, List.set_set, hrd, ht (k + d + 1) (by omega)]
      exact (hh k hk).1
    · have hy : rd_T110 ys (i : Int) = ⟨x1, x1 + 1, t⟩ := by
        unfold rd_T110; rw [List.getD_eq_getElem?_getD, Int.toNat_natCast, hp i (by omega), List.getElem?_set_self (by omega)]; rfl
      rw [show k + (d + 1) + 1 = (k + d + 1) + 1 by omega, laws_heldValueS.l0, if_pos (by omega), if_pos (by omega), hy, if_pos rfl]
      simp only [w1, w2, w3, wi, if_true, ht (k + d + 1) (by omega), Option.bind_some]
      exact (hh k hk).2
theorem marks_held (xs : List S110) (x1 : Int) (hx : xs.length ≤ 4194304) (h0 : 0 ≤ x1) (hb : x1 ≤ 10000000000000) :
    ∃ (r : Int) (ys : List S110), 0 ≤ r ∧ r ≤ x1 + 3 * xs.length ∧ ys.length = xs.length ∧ ∀ k, xs.length + 21 < k → laws_markValueS.f k xs x1 = some (r, ys) ∧ laws_heldValueS.f k ys x1 = some r := by
  obtain ⟨r, ys, e, hl, _, h⟩ := mark_held xs.length xs x1 0 (by omega) hx h0 (by omega)
  refine ⟨r, ys, by omega, by omega, hl, fun k hk => ?_⟩
  have := h (k - xs.length - 1) (by omega)
  rw [show k - xs.length - 1 + xs.length + 1 = k by omega] at this
  exact this
end Go.Proofs.Ytgcbeihkbldeaaa.Pure
end

section
/- Rows of rows of values: copies, likeness, sizes, marks. -/
namespace Go.Proofs.Ytgcbeihkbldeaaa.Pure
open Go.RowKit Go.Proofs.Ytgcbeihkbldeaaa.X Go.Proofs.YtgcbeihkbldeaaaW.PrintWords Go.Proofs.YtgcbeihkbldeaaaW.PrintLast
theorem rdlValue_ (V : List S108) (i : Nat) (h : i < V.length) : rd_T108 V (i : Int) = V[i] := by simp [rd_T108, h]
theorem rdiValue_ (V : List S110) (i : Nat) (h : i < V.length) : rd_T110 V (i : Int) = V[i] := by simp [rd_T110, h]
def cvValue (x : S108) : S110 := ⟨x.f0, x.f1, x.f2⟩
theorem eqValue_refl (x : S110) : laws_eqValue.f x.f0 x.f1 x.f2 x.f0 x.f1 x.f2 = some true := by unfold laws_eqValue.f; simp
theorem eqValueS_l0 (V : List S110) (hV : V.length ≤ 1048576) (d : Nat) : ∀ k i, V.length - i = d → i ≤ V.length → laws_eqValueS.l0 (k + d + 1) V V (i : Int) = some true := by
  induction d with
  | zero => intro k i h1 h2; rw [laws_eqValueS.l0, if_neg (by omega)]
  | succ d ih =>
    intro k i h1 h2
    rw [show k + (d + 1) + 1 = (k + d + 1) + 1 by omega, laws_eqValueS.l0, if_pos (by omega), if_pos (by omega), if_pos (by omega), eqValue_refl, Option.bind_some, if_pos rfl, next64 i V.length (by omega) (by simp only [maxLen]; omega)]
    exact ih k (i + 1) (by omega) (by omega)
theorem eqValueS_refl (V : List S110) (hV : V.length ≤ 1048576) (k : Nat) (hk : V.length < k) : laws_eqValueS.f k V V = some true := by
  obtain ⟨k, rfl⟩ : ∃ m, k = m + V.length + 1 := ⟨k - V.length - 1, by omega⟩
  unfold laws_eqValueS.f
  rw [if_pos rfl]
  exact eqValueS_l0 V hV V.length k 0 (by omega) (by omega)
theorem toValueS_l0 (L : List S108) (hV : L.length ≤ 1048576) (d : Nat) : ∀ k i (R : List S110), L.length - i = d → i ≤ L.length → R.length = L.length →
    laws_toValueS.l0 (k + d + 1) L R (i : Int) = some (R.take i ++ (L.drop i).map cvValue) := by
  induction d with
  | zero =>
    intro k i R h1 h2 h3
    rw [laws_toValueS.l0, if_neg (by omega), List.take_of_length_le (by omega), List.drop_of_length_le (by omega), List.map_nil, List.append_nil]
  | succ d ih =>
    intro k i R h1 h2 h3
    have hlt : i < L.length := by omega
    rw [show k + (d + 1) + 1 = (k + d + 1) + 1 by omega, laws_toValueS.l0, if_pos (by omega), if_pos (by omega), rdlValue_ L i hlt]
    unfold laws_toValue.f
    rw [Option.bind_some, if_pos (by omega), next64 i L.length (by omega) (by simp only [maxLen]; omega), ih k (i + 1) _ (by omega) (by omega) (by rw [List.length_set]; exact h3)]
    congr 1
    rw [show (i : Int).toNat = i from rfl, List.drop_eq_getElem_cons hlt, List.map_cons]
    rw [show List.take (i + 1) (R.set i (⟨L[i].f0, L[i].f1, L[i].f2⟩ : S110)) = List.take i R ++ [cvValue L[i]] from ?_, List.append_assoc]
    · rfl
    · rw [List.take_succ_eq_append_getElem (by rw [List.length_set]; omega), List.getElem_set_self]
      congr 1
      exact List.take_set_of_le (Nat.le_refl i)
theorem toValueS_is (L : List S108) (hV : L.length ≤ 1048576) (k : Nat) (hk : L.length < k) : laws_toValueS.f k L = some (L.map cvValue) := by
  obtain ⟨k, rfl⟩ : ∃ m, k = m + L.length + 1 := ⟨k - L.length - 1, by omega⟩
  unfold laws_toValueS.f
  rw [if_pos (by omega), if_pos (by omega)]
  have := toValueS_l0 L hV L.length k 0 (List.replicate ((L.length : Int)).toNat z110) (by omega) (by omega) (by simp)
  simpa using this
theorem szValue_is (x : S108) (m : Int) (hm : 0 ≤ m ∧ m ≤ 1048576) (hx : x.f2.size ≤ maxLen) : ∃ n, laws_szValue.f x.f0 x.f1 x.f2 m = some n ∧ -1 ≤ n ∧ n ≤ m := by
  simp only [maxLen] at hx
  unfold laws_szValue.f
  rw [wrap_in (m - (x.f2.size : Int)) (by omega)]
  by_cases c0 : m - (x.f2.size : Int) < 0
  · rw [if_pos c0]; exact ⟨_, rfl, by omega⟩
  rw [if_neg c0]
  exact ⟨_, rfl, by omega⟩
theorem szValueS_l0 (L : List S108) (hV : L.length ≤ 1048576) (hx : ∀ x ∈ L, x.f2.size ≤ maxLen) (d : Nat) : ∀ k i (m : Int), L.length - i = d → i ≤ L.length → 0 ≤ m ∧ m ≤ 1048576 → ∃ n, laws_szValueS.l0 (k + d + 1) L m (i : Int) = some n ∧ -1 ≤ n ∧ n ≤ m := by
  induction d with
  | zero => intro k i m h1 h2 hm; exact ⟨_, by rw [laws_szValueS.l0, if_neg (by omega)], by omega⟩
  | succ d ih =>
    intro k i m h1 h2 hm
    have hlt : i < L.length := by omega
    rw [show k + (d + 1) + 1 = (k + d + 1) + 1 by omega, laws_szValueS.l0, if_pos (by omega), if_pos (by omega), rdlValue_ L i hlt]
    obtain ⟨n, e, h3, h4⟩ := szValue_is L[i] m hm (hx _ (List.getElem_mem hlt))
    rw [e, Option.bind_some]
    by_cases hn : n < 0
    · rw [if_pos hn]; exact ⟨_, rfl, by omega⟩
    · rw [if_neg hn, next64 i L.length (by omega) (by simp only [maxLen]; omega)]
      obtain ⟨n2, e2, h5, h6⟩ := ih k (i + 1) n (by omega) (by omega) (by omega)
      exact ⟨n2, e2, by omega⟩
theorem szValueS_is (L : List S108) (hM : L.length ≤ maxLen) (hx : ∀ x ∈ L, x.f2.size ≤ maxLen) (m : Int) (hm : 0 ≤ m ∧ m ≤ 1048576) (k : Nat) (hk : L.length < k) : ∃ n, laws_szValueS.f k L m = some n ∧ -1 ≤ n ∧ n ≤ m ∧ (n < 0 ∨ L.length ≤ 1048576) := by
  simp only [maxLen] at hM
  unfold laws_szValueS.f
  rw [wrap_in (m - (L.length : Int)) (by omega)]
  by_cases c : m - (L.length : Int) < 0
  · rw [if_pos c]; exact ⟨_, rfl, by omega⟩
  rw [if_neg c]
  obtain ⟨k, rfl⟩ : ∃ q, k = q + L.length + 1 := ⟨k - L.length - 1, by omega⟩
  obtain ⟨n, e, h1, h2⟩ := szValueS_l0 L (by omega) hx L.length k 0 (m - (L.length : Int)) (by omega) (by omega) (by omega)
  exact ⟨n, e, by omega, by omega, .inr (by omega)⟩

theorem rdR_ (V : List (List S110)) (i : Nat) (h : i < V.length) : rd_L5 V (i : Int) = V[i] := by simp [rd_L5, h]
theorem rdQ_ (V : List (List S108)) (i : Nat) (h : i < V.length) : rd_L3 V (i : Int) = V[i] := by simp [rd_L3, h]
def cvR (V : List (List S108)) : List (List S110) := V.map fun r => r.map cvValue
def SmR {α : Type} (V : List (List α)) : Prop := V.length ≤ 1048576 ∧ ∀ r ∈ V, r.length ≤ 1048576
theorem cvR_sm {V : List (List S108)} (h : SmR V) : SmR (cvR V) := by
  refine ⟨by unfold cvR; rw [List.length_map]; exact h.1, fun r hr => ?_⟩
  obtain ⟨y, hy, rfl⟩ := List.mem_map.1 hr
  rw [List.length_map]; exact h.2 y hy
theorem szR_l0 (V : List (List S108)) (hV : V.length ≤ 1048576) (hM : ∀ r ∈ V, r.length ≤ maxLen) (hx : ∀ r ∈ V, ∀ x ∈ r, x.f2.size ≤ maxLen) : ∀ d i (m : Int), i + d = V.length → 0 ≤ m ∧ m ≤ 1048576 →
    ∃ n, Ev (fun k => laws_szValueSS.l0 k V m (i : Int)) n ∧ -1 ≤ n ∧ n ≤ m ∧ (n < 0 ∨ ∀ r ∈ V.drop i, r.length ≤ 1048576)
  | 0, i, m, h, hm => ⟨m, Ev.step (f := fun _ => some m) (fun k => by rw [laws_szValueSS.l0, if_neg (by omega)]) (Ev.now m), by omega, by omega, .inr (by rw [List.drop_of_length_le (by omega)]; intro r hr; cases hr)⟩
  | d + 1, i, m, h, hm => by
    have hlt : i < V.length := by omega
    have hr := List.getElem_mem hlt
    obtain ⟨n, e, h1, h2, h3⟩ := szValueS_is V[i] (hM _ hr) (hx _ hr) m hm _ (Nat.lt_succ_self _)
    have e := Ev.of (g := fun k => laws_szValueS.f k V[i] m) (fun k => laws_szValueS.mono V[i] m k) e
    have S : ∀ k, laws_szValueSS.l0 (k + 1) V m (i : Int) = (laws_szValueS.f k V[i] m).bind fun t => if t < 0 then some (-1) else laws_szValueSS.l0 k V t ((i + 1 : Nat) : Int) := fun k => by
      rw [laws_szValueSS.l0, if_pos (by omega), if_pos (by omega), rdQ_ V i hlt, next64 i V.length hlt (by simp only [maxLen]; omega)]
    by_cases c : n < 0
    · exact ⟨-1, Ev.step S (Ev.bind e (Ev.congr (f := fun _ => some (-1)) (fun k => by rw [if_pos c]) (Ev.now _))), by omega, by omega, .inl (by omega)⟩
    · obtain ⟨n2, e2, g1, g2, g3⟩ := szR_l0 V hV hM hx d (i + 1) n (by omega) (by omega)
      refine ⟨n2, Ev.step S (Ev.bind e (Ev.congr (fun k => by rw [if_neg c]) e2)), by omega, by omega, ?_⟩
      rcases g3 with g3 | g3
      · exact .inl g3
      · refine .inr (fun r hr2 => ?_)
        rw [List.drop_eq_getElem_cons hlt] at hr2
        rcases List.mem_cons.1 hr2 with rfl | hr2
        · exact h3.resolve_left c
        · exact g3 r hr2
theorem szR_is (V : List (List S108)) (hL : V.length ≤ maxLen) (hM : ∀ r ∈ V, r.length ≤ maxLen) (hx : ∀ r ∈ V, ∀ x ∈ r, x.f2.size ≤ maxLen) (m : Int) (hm : 0 ≤ m ∧ m ≤ 1048576) :
    ∃ n, Ev (fun k => laws_szValueSS.f k V m) n ∧ -1 ≤ n ∧ n ≤ m ∧ (n < 0 ∨ SmR V) := by
  simp only [maxLen] at hL
  have w := wrap_in (m - (V.length : Int)) (by omega)
  by_cases c : m - (V.length : Int) < 0
  · exact ⟨-1, Ev.congr (f := fun _ => some (-1)) (fun k => by unfold laws_szValueSS.f; rw [w, if_pos c]) (Ev.now _), by omega, by omega, .inl (by omega)⟩
  · obtain ⟨n, e, h1, h2, h3⟩ := szR_l0 V (by omega) hM hx V.length 0 (m - (V.length : Int)) (by omega) (by omega)
    refine ⟨n, Ev.congr (fun k => by unfold laws_szValueSS.f; rw [w, if_neg c]; rfl) e, h1, by omega, ?_⟩
    rcases h3 with h3 | h3
    · exact .inl h3
    · exact .inr ⟨by omega, h3⟩
theorem toR_l0 (V : List (List S108)) (h : SmR V) : ∀ d i (R : List (List S110)), i + d = V.length → R.length = V.length →
    Ev (fun k => laws_toValueSS.l0 k V R (i : Int)) (R.take i ++ cvR (V.drop i))
  | 0, i, R, hi, hR => by
    rw [List.take_of_length_le (by omega), List.drop_of_length_le (by omega), show cvR [] = [] from rfl, List.append_nil]
    exact Ev.step (f := fun _ => some R) (fun k => by rw [laws_toValueSS.l0, if_neg (by omega)]) (Ev.now R)
  | d + 1, i, R, hi, hR => by
    have hlt : i < V.length := by omega
    have hV := h.1
    have e := Ev.of (g := fun k => laws_toValueS.f k V[i]) (fun k => laws_toValueS.mono V[i] k) (toValueS_is V[i] (h.2 _ (List.getElem_mem hlt)) _ (Nat.lt_succ_self _))
    have ih := toR_l0 V h d (i + 1) (R.set i (V[i].map cvValue)) (by omega) (by rw [List.length_set]; exact hR)
    have E : List.take (i + 1) (R.set i (V[i].map cvValue)) ++ cvR (V.drop (i + 1)) = R.take i ++ cvR (V.drop i) := by
      rw [List.take_succ_eq_append_getElem (by rw [List.length_set]; omega), List.getElem_set_self, List.take_set_of_le (Nat.le_refl i), List.drop_eq_getElem_cons hlt, List.append_assoc]; rfl
    rw [E] at ih
    refine Ev.step (f := fun k => (laws_toValueS.f k V[i]).bind fun t => laws_toValueSS.l0 k V (R.set i t) ((i + 1 : Nat) : Int)) (fun k => ?_) (Ev.bind e ih)
    rw [laws_toValueSS.l0, if_pos (by omega), if_pos (by omega), rdQ_ V i hlt, next64 i V.length hlt (by simp only [maxLen]; omega)]
    simp only [if_pos (show (i : Int) < (R.length : Int) by omega), Int.toNat_natCast]
theorem toR_is (V : List (List S108)) (h : SmR V) : Ev (fun k => laws_toValueSS.f k V) (cvR V) := by
  have hV := h.1
  have := toR_l0 V h V.length 0 (List.replicate ((V.length : Int)).toNat []) (by omega) (by simp)
  rw [List.take_zero, List.nil_append, List.drop_zero] at this
  exact Ev.congr (fun k => by unfold laws_toValueSS.f; rw [if_pos (by omega), if_pos (by omega)]; rfl) this
theorem eqR_l0 (V : List (List S110)) (h : SmR V) : ∀ d i, i + d = V.length → Ev (fun k => laws_eqValueSS.l0 k V V (i : Int)) true
  | 0, i, hi => Ev.step (f := fun _ => some true) (fun k => by rw [laws_eqValueSS.l0, if_neg (by omega)]) (Ev.now true)
  | d + 1, i, hi => by
    have hlt : i < V.length := by omega
    have hV := h.1
    have e := Ev.of (g := fun k => laws_eqValueS.f k V[i] V[i]) (fun k => laws_eqValueS.mono V[i] V[i] k) (eqValueS_refl V[i] (h.2 _ (List.getElem_mem hlt)) _ (Nat.lt_succ_self _))
    refine Ev.step (f := fun k => (laws_eqValueS.f k V[i] V[i]).bind fun t => if t = true then laws_eqValueSS.l0 k V V ((i + 1 : Nat) : Int) else some false) (fun k => ?_) (Ev.bind e (Ev.congr (fun k => by rw [if_pos rfl]) (eqR_l0 V h d (i + 1) (by omega))))
    rw [laws_eqValueSS.l0, if_pos (by omega), if_pos (by omega), if_pos (by omega), rdR_ V i hlt, next64 i V.length hlt (by simp only [maxLen]; omega)]
theorem eqR_refl (V : List (List S110)) (h : SmR V) : Ev (fun k => laws_eqValueSS.f k V V) true :=
  Ev.congr (fun k => by unfold laws_eqValueSS.f; rw [if_pos rfl]; rfl) (eqR_l0 V h V.length 0 (by omega))
theorem markR_l0 : ∀ (d : Nat) (V : List (List S110)) (x1 : Int) (i : Nat), SmR V → i + d = V.length → 0 ≤ x1 → x1 + 3145728 * d ≤ 10000000000000 →
    ∃ (r : Int) (W : List (List S110)), x1 ≤ r ∧ r ≤ x1 + 3145728 * d ∧ W.length = V.length ∧ (∀ j, j < i → W[j]? = V[j]?) ∧ Ev (fun k => laws_markValueSS.l0 k V x1 (i : Int)) (r, W) ∧ Ev (fun k => laws_heldValueSS.l0 k W x1 (i : Int)) r
  | 0, V, x1, i, h, hi, h0, hb => by
    refine ⟨x1, V, by omega, by omega, rfl, fun _ _ => rfl, Ev.step (f := fun _ => some (x1, V)) (fun k => by rw [laws_markValueSS.l0, if_neg (by omega)]) (Ev.now _), Ev.step (f := fun _ => some x1) (fun k => by rw [laws_heldValueSS.l0, if_neg (by omega)]) (Ev.now _)⟩
  | d + 1, V, x1, i, h, hi, h0, hb => by
    have hlt : i < V.length := by omega
    have hV := h.1
    have hr := h.2 _ (List.getElem_mem hlt)
    obtain ⟨u, ys, g1, g2, g3, g4⟩ := marks_held V[i] x1 (by omega) h0 (by omega)
    have gm := Ev.of (g := fun k => laws_markValueS.f k V[i] x1) (fun k => laws_markValueS.mono V[i] x1 k) (g4 _ (Nat.lt_succ_self _)).1
    have gh := Ev.of (g := fun k => laws_heldValueS.f k ys x1) (fun k => laws_heldValueS.mono ys x1 k) (g4 _ (Nat.lt_succ_self _)).2
    have hu : x1 ≤ u := by
      obtain ⟨r', ys', e', _, _, h'⟩ := mark_held V[i].length V[i] x1 0 (by omega) (by omega) h0 (by omega)
      have a := (h' 21 (by omega)).1
      obtain ⟨K, hK⟩ := gm
      have b := hK (K + 21 + V[i].length + 1) (by omega)
      have c := at_rounds (g := fun k => laws_markValueS.f k V[i] x1) (fun k => laws_markValueS.mono V[i] x1 k) (show 21 + V[i].length + 1 ≤ K + 21 + V[i].length + 1 by omega) a
      have := (Prod.mk.inj (Option.some.inj (c.symm.trans b))).1
      omega
    obtain ⟨r, W, a1, a2, a3, a4, a5, a6⟩ := markR_l0 d (V.set i ys) u (i + 1) ⟨by rw [List.length_set]; exact hV, fun x hx => by
      rcases List.mem_or_eq_of_mem_set hx with hx | rfl
      · exact h.2 x hx
      · omega⟩ (by rw [List.length_set]; omega) (by omega) (by omega)
    rw [List.length_set] at a3
    have gd : V.getD (i : Int).toNat [] = V[i] := by simp [hlt]
    have wi := next64 i V.length hlt (by simp only [maxLen]; omega)
    refine ⟨r, W, by omega, by omega, a3, fun j hj => by rw [a4 j (by omega), List.getElem?_set_ne (by omega)], ?_, ?_⟩
    · refine Ev.step (f := fun k => (laws_markValueS.f k V[i] x1).bind fun p => laws_markValueSS.l0 k (V.set i p.2) p.1 ((i + 1 : Nat) : Int)) (fun k => ?_) (Ev.bind gm a5)
      rw [laws_markValueSS.l0, if_pos (by omega), if_pos (by omega), gd, wi, Int.toNat_natCast]
    · have hw : i < W.length := by omega
      have hwi : W[i] = ys := by
        have := a4 i (by omega)
        rw [List.getElem?_set_self (by omega), List.getElem?_eq_getElem hw] at this
        exact Option.some.inj this
      refine Ev.step (f := fun k => (laws_heldValueS.f k ys x1).bind fun t => if t < 0 then some (-1) else laws_heldValueSS.l0 k W t ((i + 1 : Nat) : Int)) (fun k => ?_) (Ev.bind gh (Ev.congr (fun k => by rw [if_neg (show ¬ u < 0 by omega)]) a6))
      rw [laws_heldValueSS.l0, if_pos (by omega), if_pos (by omega), rdR_ W i hw, hwi, wi]
theorem markR_is (V : List (List S110)) (h : SmR V) (x1 : Int) (h0 : 0 ≤ x1) (hb : x1 ≤ 4000000000000) :
    ∃ (r : Int) (W : List (List S110)), 0 ≤ r ∧ r ≤ x1 + 3298534883328 ∧ Ev (fun k => laws_markValueSS.f k V x1) (r, W) ∧ Ev (fun k => laws_heldValueSS.f k W x1) r := by
  have hV := h.1
  obtain ⟨r, W, a1, a2, a3, a4, a5, a6⟩ := markR_l0 V.length V x1 0 h (by omega) h0 (by omega)
  exact ⟨r, W, by omega, by omega, a5, a6⟩
end Go.Proofs.Ytgcbeihkbldeaaa.Pure
end
