/- Contracts of functions, and what is told of them. -/
import Derived.Test.YtfbclbbhomhfaaaYFnAggs8
import Derived.OpenShut
import Derived.Laws.Strings
set_option linter.unusedSimpArgs false
set_option linter.unusedVariables false
section
namespace Go.Proofs.Ytfbclbbhomhfaaa.X
open Go.RowKit Go.Proofs.YtfbclbbhomhfaaaW.PrintWords Go.Proofs.YtfbclbbhomhfaaaW.PrintLast Go.Proofs.YtfbclbbhomhfaaaW.PrintMore
attribute [local go_sem] max2_int min2_int max_two min_two max_three min_three max_four min_four

section
/-- THE ONE PURE STATEMENT of laws_FnAggs. -/
def laws_FnAggs.Need : Prop := ∀ (l0 : List Int) (l1 : List Int), (l0.length ≤ maxLen ∧ ∀ x0_ ∈ l0, (Lit.int .u8 x0_).wf = true) → (l1.length ≤ maxLen ∧ ∀ x0_ ∈ l1, (Lit.int .u8 x0_).wf = true) → ∃ k, laws_FnAggs.f k l0 l1 = some true
end

end Go.Proofs.Ytfbclbbhomhfaaa.X
end

section
/- Small facts on numbers and texts. -/
namespace Go.Proofs.Ytfbclbbhomhfaaa.Pure
open Go.RowKit Go.Proofs.Ytfbclbbhomhfaaa.X Go.Proofs.YtfbclbbhomhfaaaW.PrintWords Go.Proofs.YtfbclbbhomhfaaaW.PrintLast
theorem wrap_in (a : Int) (ha : -9223372036854775808 ≤ a ∧ a ≤ 9223372036854775807) : wrap64 a = a := by unfold wrap64; omega
theorem wrap_range (a : Int) : -9223372036854775808 ≤ wrap64 a ∧ wrap64 a ≤ 9223372036854775807 := by unfold wrap64; omega
theorem i64_of {n : Int} (h : (Lit.int .i64 n).wf = true) : -9223372036854775808 ≤ n ∧ n ≤ 9223372036854775807 := bounds_i64 h
theorem u8_of {n : Int} (h : (Lit.int .u8 n).wf = true) : 0 ≤ n ∧ n ≤ 255 := bounds_u8 h
theorem toList_eq (s : ByteArray) : s.toList = s.data.toList := ByteArray.toList_eq s
theorem toList_inj {s t : ByteArray} (h : s.toList = t.toList) : s = t := by
  rw [toList_eq, toList_eq] at h
  have := Array.ext' h
  cases s; cases t; simp_all
theorem toList_iff {s t : ByteArray} : s.toList = t.toList ↔ s = t := ⟨toList_inj, fun h => by rw [h]⟩
theorem toList_mk (l : List UInt8) : (⟨⟨l⟩⟩ : ByteArray).toList = l := by rw [toList_eq]
theorem length_toList (s : ByteArray) : s.toList.length = s.size := by rw [toList_eq]; rfl
theorem empty_iff {s : ByteArray} : s.toList = [] ↔ s = (⟨#[]⟩ : ByteArray) := by
  rw [← toList_iff, show (⟨#[]⟩ : ByteArray).toList = [] from toList_mk []]
end Go.Proofs.Ytfbclbbhomhfaaa.Pure
end

section
/- What Contains and Index over texts tell. -/
namespace Go.Proofs.Ytfbclbbhomhfaaa.Pure
open Go.RowKit Go.Proofs.Ytfbclbbhomhfaaa.X Go.Proofs.YtfbclbbhomhfaaaW.PrintWords Go.Proofs.YtfbclbbhomhfaaaW.PrintLast
theorem index_loop (l : List ByteArray) (x : ByteArray) (hl : l.length ≤ 9223372036854775807) (d : Nat) : ∀ (k i : Nat), l.length - i = d → i ≤ l.length → d < k →
    slices_Index_string_string.l0 k l x (l.length : Int) (i : Int) = some (match (l.drop i).findIdx? (fun y => x.toList == y.toList) with | some j => ((i + j : Nat) : Int) | none => -1) := by
  induction d with
  | zero =>
    intro k i hd hi hk
    obtain ⟨k, rfl⟩ : ∃ m, k = m + 1 := ⟨k - 1, by omega⟩
    simp only [slices_Index_string_string.l0]
    rw [if_neg (by omega), List.drop_of_length_le (by omega)]
    rfl
  | succ d ih =>
    intro k i hd hi hk
    obtain ⟨k, rfl⟩ : ∃ m, k = m + 1 := ⟨k - 1, by omega⟩
    have hlt : i < l.length := by omega
    simp only [slices_Index_string_string.l0]
    rw [if_pos (by omega), if_pos (by omega), if_pos (by omega), List.drop_eq_getElem_cons hlt, List.findIdx?_cons]
    have hr : rdOf ByteArray.empty l (i : Int) = l[i] := by simp [rdOf, hlt]
    rw [hr]
    by_cases c : x.toList = l[i].toList
    · have : (x.toList == l[i].toList) = true := by rw [c]; simp
      rw [if_pos c, this]; simp
    · have : (x.toList == l[i].toList) = false := by simpa using c
      rw [if_neg c, this, show wrap64 ((i : Int) + 1) = ((i + 1 : Nat) : Int) from by unfold wrap64; omega, ih k (i + 1) (by omega) (by omega) (by omega)]
      cases (l.drop (i + 1)).findIdx? (fun y => x.toList == y.toList) with
      | none => rfl
      | some j => show some (((i + 1 + j : Nat)) : Int) = some (((i + (j + 1) : Nat)) : Int); rw [show i + 1 + j = i + (j + 1) by omega]
theorem contains_is (l : List ByteArray) (x : ByteArray) (hl : l.length ≤ 9223372036854775807) (k : Nat) (hk : l.length < k) :
    slices_Contains_string_string.f k l x = some (l.any fun y => x.toList == y.toList) := by
  unfold slices_Contains_string_string.f slices_Index_string_string.f
  rw [show (0 : Int) = ((0 : Nat) : Int) from rfl, index_loop l x hl l.length k 0 (by omega) (by omega) hk, List.drop_zero]
  simp only [Option.bind_some, Option.some.injEq]
  have := fIdx_any (fun y => x.toList == y.toList) l
  unfold fIdx at this
  rw [← this]
  cases l.findIdx? (fun y => x.toList == y.toList) <;> simp
end Go.Proofs.Ytfbclbbhomhfaaa.Pure
end

section
/- Right values: the program and the reference tell the same. -/
namespace Go.Proofs.Ytfbclbbhomhfaaa.Pure
open Go.RowKit Go.Proofs.Ytfbclbbhomhfaaa.X Go.Proofs.YtfbclbbhomhfaaaW.PrintWords Go.Proofs.YtfbclbbhomhfaaaW.PrintLast
def vok (a b : Int) (t : ByteArray) : Bool :=
  (decide (a = 0) && decide (b = 0) && decide (t.size = 0)) || (decide (a = 1) && decide (0 ≤ b ∧ b ≤ 1) && decide (t.size = 0)) || (decide (a = 2) && decide (t.size = 0)) ||
    (decide (a = 3 ∨ a = 4) && decide (b = 0) && decide (t.size ≤ 60))
theorem nil_iff (t : ByteArray) : (t.toList == ([] : List UInt8)) = decide (t.size = 0) := by
  rw [← length_toList]
  cases t.toList <;> simp
theorem size_le (t : ByteArray) : decide ((t.size : Int) ≤ 60) = decide (t.size ≤ 60) := by rw [decide_eq_decide]; omega
theorem spec_vok (a b : Int) (t : ByteArray) : spec_ValueOK.f a b t = some (vok a b t) := by
  unfold spec_ValueOK.f spec_l01In.f
  simp only [nil_iff, size_le]
  unfold vok
  by_cases c0 : a = 0
  · subst c0; by_cases cb : b = 0 <;> simp [cb]
  by_cases c1 : a = 1
  · subst c1; by_cases cb : 0 ≤ b <;> by_cases cc : b ≤ 1 <;> simp [cb, cc]
  by_cases c2 : a = 2
  · subst c2; simp
  by_cases c3 : a = 3
  · subst c3; by_cases cb : b = 0 <;> simp [cb]
  by_cases c4 : a = 4
  · subst c4; by_cases cb : b = 0 <;> simp [cb]
  simp [c0, c1, c2, c3, c4]
theorem impl_vok (a b : Int) (t : ByteArray) : impl_ValueOK.f a b t = some (vok a b t) := by
  unfold impl_ValueOK.f impl_within.f impl_hasText.f
  simp only [nil_iff, size_le]
  unfold vok
  by_cases c0 : a = 0
  · subst c0; by_cases cb : b = 0 <;> simp [cb]
  by_cases c1 : a = 1
  · subst c1; by_cases cb : 0 ≤ b <;> by_cases cc : b ≤ 1 <;> simp [cb, cc]
  by_cases c2 : a = 2
  · subst c2; simp
  by_cases c3 : a = 3
  · subst c3; by_cases cb : b = 0 <;> simp [cb]
  by_cases c4 : a = 4
  · subst c4; by_cases cb : b = 0 <;> simp [cb]
  simp [c0, c1, c2, c3, c4]
theorem size_zero {t : ByteArray} (h : t.size = 0) : t = (⟨#[]⟩ : ByteArray) := by
  rw [← empty_iff]
  have := length_toList t
  rw [h] at this
  exact List.eq_nil_of_length_eq_zero this
theorem vok_null {b : Int} {t : ByteArray} (h : vok 0 b t = true) : b = 0 ∧ t = (⟨#[]⟩ : ByteArray) := by
  have h2 : b = 0 ∧ t.size = 0 := by
    unfold vok at h
    by_cases c : b = 0 ∧ t.size = 0
    · exact c
    · exfalso
      rcases Classical.not_and_iff_not_or_not.1 c with c | c <;> simp [c] at h
  exact ⟨h2.1, size_zero h2.2⟩
end Go.Proofs.Ytfbclbbhomhfaaa.Pure
end

section
/- What a source of choices gives. -/
namespace Go.Proofs.Ytfbclbbhomhfaaa.Pure
open Go.RowKit Go.Proofs.Ytfbclbbhomhfaaa.X Go.Proofs.YtfbclbbhomhfaaaW.PrintWords Go.Proofs.YtfbclbbhomhfaaaW.PrintLast
def Src (c : List Int) (a s B : Int) : Prop := (∀ x ∈ c, 0 ≤ x ∧ x ≤ 255) ∧ 0 ≤ a ∧ a ≤ B ∧ 0 ≤ s ∧ s < 2147483648
theorem Src.up {c : List Int} {a s B B' : Int} (h : Src c a s B) (hb : B ≤ B') : Src c a s B' := ⟨h.1, h.2.1, by have := h.2.2.1; omega, h.2.2.2⟩
theorem src_new {c : List Int} (h : ∀ x ∈ c, (Lit.int .u8 x).wf = true) : Src c 0 ((c.length : Int) % 1000) 0 := ⟨fun x hx => u8_of (h x hx), by omega, by omega, by omega, by omega⟩
theorem src_byte {c : List Int} {a s B : Int} (h : Src c a s B) (hB : B ≤ 4611686018427387904) :
    ∃ r a' s', spec_l00Src_byte.f c a s = some (r, a', s') ∧ 0 ≤ r ∧ r ≤ 255 ∧ Src c a' s' (B + 1) := by
  obtain ⟨hc, h0, h1, h2, h3⟩ := h
  unfold spec_l00Src_byte.f
  rw [if_pos (by omega)]
  by_cases hlt : a < (c.length : Int)
  · have hm : rd c a ∈ c := by
      have : a.toNat < c.length := by omega
      simp only [rd, List.getD_eq_getElem?_getD, List.getElem?_eq_getElem this, Option.getD_some]
      exact List.getElem_mem this
    have hr := hc _ hm
    rw [if_pos hlt, if_pos hr]
    exact ⟨_, _, _, rfl, hr.1, hr.2, hc, by omega, by omega, by omega, by omega⟩
  · rw [if_neg hlt]
    split
    · exact ⟨_, _, _, rfl, by omega, by omega, hc, by omega, by omega, by omega, by omega⟩
    · exact ⟨_, _, _, rfl, by omega, by omega, hc, by omega, by omega, by omega, by omega⟩
theorem tmod_range (x m : Int) (hx : 0 ≤ x) (hm : 2 ≤ m) : 0 ≤ Int.tmod x m ∧ Int.tmod x m < m := by
  rw [Int.tmod_eq_emod_of_nonneg hx]
  exact ⟨Int.emod_nonneg _ (by omega), Int.emod_lt_of_pos _ (by omega)⟩
theorem src_next {c : List Int} {a s B : Int} (h : Src c a s B) (hB : B + 3 ≤ 4611686018427387904) (m : Int) :
    ∃ r a' s', spec_l00Src_next.f c a s m = some (r, a', s') ∧ 0 ≤ r ∧ (r < m ∨ r = 0) ∧ Src c a' s' (B + 3) := by
  unfold spec_l00Src_next.f
  by_cases h1 : m ≤ 1
  · rw [if_pos h1]; exact ⟨_, _, _, rfl, by omega, .inr rfl, h.up (by omega)⟩
  rw [if_neg h1]
  by_cases h2 : m ≤ 256
  · rw [if_pos h2]
    obtain ⟨r, a', s', e, r0, r1, hs⟩ := src_byte h (by omega)
    rw [e]
    simp only [Option.bind_some]
    rw [if_neg (by omega)]
    have := tmod_range r m r0 (by omega)
    exact ⟨_, _, _, rfl, this.1, .inl this.2, hs.up (by omega)⟩
  · rw [if_neg h2]
    obtain ⟨r, a', s', e, r0, r1, hs⟩ := src_byte h (by omega)
    rw [e]
    simp only [Option.bind_some]
    obtain ⟨q, a', s', e, q0, q1, hs⟩ := src_byte hs (by omega)
    rw [e]
    simp only [Option.bind_some]
    obtain ⟨p, a', s', e, p0, p1, hs⟩ := src_byte hs (by omega)
    rw [e]
    simp only [Option.bind_some]
    rw [if_neg (by omega)]
    have hw : 0 ≤ wrap64 (wrap64 (wrap64 (r * 65536) + wrap64 (q * 256)) + p) := by
      rw [wrap_in (r * 65536) (by omega), wrap_in (q * 256) (by omega), wrap_in (r * 65536 + q * 256) (by omega), wrap_in (r * 65536 + q * 256 + p) (by omega)]; omega
    have := tmod_range _ m hw (by omega)
    exact ⟨_, _, _, rfl, this.1, .inl this.2, hs.up (by omega)⟩
theorem rd_mem {l : List Int} {i : Int} (h0 : 0 ≤ i) (h1 : i < l.length) : rd l i ∈ l := by
  have : i.toNat < l.length := by omega
  simp only [rd, List.getD_eq_getElem?_getD, List.getElem?_eq_getElem this, Option.getD_some]
  exact List.getElem_mem this
theorem rdOf_mem {α : Type} {d : α} {l : List α} {i : Int} (h0 : 0 ≤ i) (h1 : i < l.length) : rdOf d l i ∈ l := by
  have : i.toNat < l.length := by omega
  simp only [rdOf, List.getD_eq_getElem?_getD, List.getElem?_eq_getElem this, Option.getD_some]
  exact List.getElem_mem this
theorem src_pick {c : List Int} {a s B : Int} (h : Src c a s B) (hB : B + 3 ≤ 4611686018427387904) (l : List ByteArray) (hl : l ≠ []) :
    ∃ r a' s', spec_l00Src_pick.f c a s l = some (r, a', s') ∧ r ∈ l ∧ Src c a' s' (B + 3) := by
  unfold spec_l00Src_pick.f
  have hp : 0 < l.length := List.length_pos_iff.2 hl
  rw [if_neg (by omega)]
  obtain ⟨r, a', s', e, r0, r1, hs⟩ := src_next h hB (l.length : Int)
  rw [e]
  simp only [Option.bind_some]
  rw [if_pos r0, if_pos (by omega)]
  exact ⟨_, _, _, rfl, rdOf_mem r0 (by omega), hs⟩
end Go.Proofs.Ytfbclbbhomhfaaa.Pure
end

section
/- What a value of a source is. -/
namespace Go.Proofs.Ytfbclbbhomhfaaa.Pure
open Go.RowKit Go.Proofs.Ytfbclbbhomhfaaa.X Go.Proofs.YtfbclbbhomhfaaaW.PrintWords Go.Proofs.YtfbclbbhomhfaaaW.PrintLast
theorem src_odd {c : List Int} {a s B : Int} (h : Src c a s B) (hB : B + 3 ≤ 4611686018427387904) :
    ∃ r a' s', spec_l00Src_odd.f c a s = some (r, a', s') ∧ (-9223372036854775808 ≤ r ∧ r ≤ 9223372036854775807) ∧ Src c a' s' (B + 3) := by
  unfold spec_l00Src_odd.f
  obtain ⟨r, a', s', e, r0, r1, hs⟩ := src_next h hB 12
  simp only [Option.bind_some]
  rw [e]
  simp only [Option.bind_some]
  have hl : (([0, (-1), 1, 2, 63, 64, 65, 4096, 4097, 9223372036854775807, (-9223372036854775808), 30] : List Int).length : Int) = 12 := rfl
  rw [if_pos r0, if_pos (by rw [hl]; omega)]
  refine ⟨_, _, _, rfl, ?_, hs⟩
  have hm := rd_mem (l := [0, (-1), 1, 2, 63, 64, 65, 4096, 4097, 9223372036854775807, (-9223372036854775808), 30]) r0 (by rw [hl]; omega)
  revert hm
  generalize rd _ r = x
  intro hm
  simp only [List.mem_cons, List.not_mem_nil, or_false] at hm
  omega
theorem src_word {c : List Int} {a s B : Int} (h : Src c a s B) (hB : B + 3 ≤ 4611686018427387904) :
    ∃ r a' s', spec_l00Src_word.f c a s = some (r, a', s') ∧ r.size ≤ 4 ∧ Src c a' s' (B + 3) := by
  unfold spec_l00Src_word.f
  obtain ⟨r, a', s', e, hm, hs⟩ := src_pick h hB _ (List.cons_ne_nil (⟨#[]⟩ : ByteArray) [(⟨#[97]⟩ : ByteArray), (⟨#[98]⟩ : ByteArray), (⟨#[111, 112, 101, 110]⟩ : ByteArray), (⟨#[97, 110, 110]⟩ : ByteArray), (⟨#[105, 116, 39, 115]⟩ : ByteArray), (⟨#[0]⟩ : ByteArray), (⟨#[97, 0, 98]⟩ : ByteArray), (⟨#[255]⟩ : ByteArray), (⟨#[100, 111, 110, 101]⟩ : ByteArray)])
  rw [e]
  refine ⟨r, a', s', rfl, ?_, hs⟩
  simp only [List.mem_cons, List.not_mem_nil, or_false] at hm
  rcases hm with rfl | rfl | rfl | rfl | rfl | rfl | rfl | rfl | rfl | rfl <;> decide
theorem src_value {c : List Int} {a s B : Int} (h : Src c a s B) (hB : B + 20 ≤ 4611686018427387904) (k : Nat) :
    ∃ x y t a' s', spec_l00Src_value.f (k + 1) c a s = some (x, y, t, a', s') ∧ vok x y t = true ∧ (-9223372036854775808 ≤ y ∧ y ≤ 9223372036854775807) ∧ 0 ≤ x ∧ x ≤ 4 ∧ t.size ≤ 4 ∧ Src c a' s' (B + 15) := by
  unfold spec_l00Src_value.f
  obtain ⟨r, a', s', e, r0, r1, hs⟩ := src_next h (by omega) 6
  rw [e]
  simp only [Option.bind_some]
  by_cases c0 : r = 0
  · rw [if_pos c0]; exact ⟨_, _, _, _, _, rfl, by decide, by omega, by omega, by omega, by decide, hs.up (by omega)⟩
  rw [if_neg c0]
  by_cases c1 : r = 1
  · rw [if_pos c1]
    obtain ⟨q, a', s', e, q0, q1, hs⟩ := src_next hs (by omega) 2
    rw [e]
    simp only [Option.bind_some]
    refine ⟨_, _, _, _, _, rfl, ?_, by omega, by omega, by omega, by decide, hs.up (by omega)⟩
    rcases (show q = 0 ∨ q = 1 by omega) with rfl | rfl <;> decide
  rw [if_neg c1]
  have hj : ∀ b : Bool, (b = true ↔ (r = 2 ∨ r = 3)) → ∃ x y t a'' s'', spec_l00Src_value.j0 (k + 1) r b c a' s' = some (x, y, t, a'', s'') ∧ vok x y t = true ∧ (-9223372036854775808 ≤ y ∧ y ≤ 9223372036854775807) ∧ 0 ≤ x ∧ x ≤ 4 ∧ t.size ≤ 4 ∧ Src c a'' s'' (B + 15) := by
    intro b hb
    simp only [spec_l00Src_value.j0]
    cases b with
    | true =>
      rw [if_pos rfl]
      obtain ⟨x1, a1, s1, e1, _, _, hs⟩ := src_next hs (by omega) 10
      rw [e1]; simp only [Option.bind_some]
      obtain ⟨x2, a2, s2, e2, _, _, hs⟩ := src_next hs (by omega) 10
      rw [e2]; simp only [Option.bind_some]
      obtain ⟨x3, a3, s3, e3, _, hs⟩ := src_odd hs (by omega)
      rw [e3]; simp only [Option.bind_some]
      obtain ⟨x4, a4, s4, e4, _, _, hs⟩ := src_next hs (by omega) 3
      rw [e4]; simp only [Option.bind_some]
      rw [if_pos (by assumption), if_pos (by simp only [List.length_cons, List.length_nil]; omega)]
      refine ⟨_, _, _, _, _, rfl, by simp [vok]; rfl, ?_, by omega, by omega, by decide, hs.up (by omega)⟩
      have hm := rd_mem (l := [x1, wrap64 (x2 - 5), x3]) (i := x4) (by assumption) (by simp only [List.length_cons, List.length_nil]; omega)
      generalize rd _ x4 = z at hm
      have hw := wrap_range (x2 - 5)
      simp only [List.mem_cons, List.not_mem_nil, or_false] at hm
      rcases hm with rfl | rfl | rfl <;> omega
    | false =>
      rw [if_neg (by decide)]
      obtain ⟨t, a1, s1, e1, ht, hs⟩ := src_word hs (by omega)
      rw [e1]
      have h60 : decide (t.size ≤ 60) = true := by simp; omega
      by_cases c4 : r = 4
      · rw [if_pos c4]; exact ⟨_, _, _, _, _, rfl, by simp [vok, h60], by omega, by omega, by omega, ht, hs.up (by omega)⟩
      · rw [if_neg c4]; exact ⟨_, _, _, _, _, rfl, by simp [vok, h60], by omega, by omega, by omega, ht, hs.up (by omega)⟩
  by_cases c2 : r = 2
  · rw [if_pos c2]; exact hj _ (by simp [c2])
  · rw [if_neg c2]; exact hj _ (by simp [c2])
end Go.Proofs.Ytfbclbbhomhfaaa.Pure
end

section
/- A place out of bytes. -/
namespace Go.Proofs.Ytfbclbbhomhfaaa.Pure
open Go.RowKit Go.Proofs.Ytfbclbbhomhfaaa.X Go.Proofs.YtfbclbbhomhfaaaW.PrintWords Go.Proofs.YtfbclbbhomhfaaaW.PrintLast
theorem rd_memz {c : List Int} {i : Int} (h0 : 0 ≤ i) (h1 : i < (c.length : Int)) : rd c i ∈ c := by
  have : i.toNat < c.length := by omega
  simp only [rd, List.getD_eq_getElem?_getD, List.getElem?_eq_getElem this, Option.getD_some]
  exact List.getElem_mem this
theorem at_some {l : List Int} (h : ∀ x ∈ l, (Lit.int .u8 x).wf = true) (i m : Int) (hi : 0 ≤ i) (hi2 : i ≤ 1000) (hm : 2 ≤ m) (hm2 : m ≤ 1000000) :
    ∃ r, laws_at.f l i m = some r ∧ 0 ≤ r ∧ r < m := by
  unfold laws_at.f
  rw [if_neg (show ¬ m ≤ 1 by omega)]
  by_cases h0 : (l.length : Int) = 0
  · rw [if_pos h0, if_neg (show ¬ m = 0 by omega), wrap_in (i * 7) (by omega)]
    exact ⟨_, rfl, tmod_range _ m (by omega) hm⟩
  have hp : (0 : Int) < (l.length : Int) := by omega
  rw [if_neg h0, wrap_in (i + 1) (by omega), Int.tmod_eq_emod_of_nonneg hi, Int.tmod_eq_emod_of_nonneg (show 0 ≤ i + 1 by omega)]
  have a0 := Int.emod_nonneg i h0
  have a1 := Int.emod_lt_of_pos i hp
  have b0 := Int.emod_nonneg (i + 1) h0
  have b1 := Int.emod_lt_of_pos (i + 1) hp
  rw [if_pos a0, if_pos a1, if_pos b0, if_pos b1, if_neg (show ¬ m = 0 by omega)]
  have ra := u8_of (h _ (rd_memz a0 a1))
  have rb := u8_of (h _ (rd_memz b0 b1))
  generalize rd l (i % (l.length : Int)) = p at ra
  generalize rd l ((i + 1) % (l.length : Int)) = q at rb
  have q0 : 0 ≤ Int.tdiv i (l.length : Int) := Int.tdiv_nonneg hi (by omega)
  have q1 : Int.tdiv i (l.length : Int) ≤ i := by
    rw [Int.tdiv_eq_ediv_of_nonneg hi]
    exact Int.ediv_le_self _ hi
  generalize Int.tdiv i (l.length : Int) = z at q0 q1
  rw [wrap_in p (by omega), wrap_in q (by omega), wrap_in z (by omega), wrap_in (p * 31) (by omega), wrap_in (p * 31 + q) (by omega), wrap_in (p * 31 + q + z) (by omega)]
  exact ⟨_, rfl, tmod_range _ m (by omega) hm⟩
end Go.Proofs.Ytfbclbbhomhfaaa.Pure
end

section
/- AddInts of the program. -/
namespace Go.Proofs.Ytfbclbbhomhfaaa.Pure
open Go.RowKit Go.Proofs.Ytfbclbbhomhfaaa.X Go.Proofs.YtfbclbbhomhfaaaW.PrintWords Go.Proofs.YtfbclbbhomhfaaaW.PrintLast
theorem wrap_sum (a b : Int) (ha : -9223372036854775808 ≤ a ∧ a ≤ 9223372036854775807) (hb : -9223372036854775808 ≤ b ∧ b ≤ 9223372036854775807) :
    (a + b > 9223372036854775807 ∧ wrap64 (a + b) = a + b - 18446744073709551616) ∨ (a + b < -9223372036854775808 ∧ wrap64 (a + b) = a + b + 18446744073709551616) ∨
    (-9223372036854775808 ≤ a + b ∧ a + b ≤ 9223372036854775807 ∧ wrap64 (a + b) = a + b) := by
  unfold wrap64; omega
theorem impl_add (a b : Int) (ha : -9223372036854775808 ≤ a ∧ a ≤ 9223372036854775807) (hb : -9223372036854775808 ≤ b ∧ b ≤ 9223372036854775807) :
    impl_AddInts.f a b = if -9223372036854775808 ≤ a + b ∧ a + b ≤ 9223372036854775807 then some (a + b, 0) else some (0, 4) := by
  have h := wrap_sum a b ha hb
  unfold impl_AddInts.f
  rcases h with ⟨h1, h2⟩ | ⟨h1, h2⟩ | ⟨h1, h2, h3⟩
  · rw [h2, if_neg (show ¬ (-9223372036854775808 ≤ a + b ∧ a + b ≤ 9223372036854775807) by omega), if_neg]
    rw [decide_eq_false (show ¬ (a + b - 18446744073709551616 > a) by omega), decide_eq_true (show b > 0 by omega)]; decide
  · rw [h2, if_neg (show ¬ (-9223372036854775808 ≤ a + b ∧ a + b ≤ 9223372036854775807) by omega), if_neg]
    rw [decide_eq_true (show (a + b + 18446744073709551616 > a) by omega), decide_eq_false (show ¬ b > 0 by omega)]; decide
  · rw [h3, if_pos (show -9223372036854775808 ≤ a + b ∧ a + b ≤ 9223372036854775807 by omega), if_pos]
    rw [beq_iff_eq, decide_eq_decide]; omega
end Go.Proofs.Ytfbclbbhomhfaaa.Pure
end

section
/- The order of two values. -/
namespace Go.Proofs.Ytfbclbbhomhfaaa.Pure
open Go.RowKit Go.Proofs.Ytfbclbbhomhfaaa.X Go.Proofs.YtfbclbbhomhfaaaW.PrintWords Go.Proofs.YtfbclbbhomhfaaaW.PrintLast
theorem cmp_int_is (a b : Int) : cmp_Compare_int.f a b = some (cmpInt a b) := by
  unfold cmp_Compare_int.f cmp_isNaN_int.f cmpInt
  simp only [bne_self_eq_false, Option.bind_some, Bool.false_eq_true, if_false]
  split
  · rfl
  · split <;> rfl
theorem cmp_str_is (a b : ByteArray) : cmp_Compare_string.f a b = some (cmpStr a b) := by
  unfold cmp_Compare_string.f cmp_isNaN_string.f cmpStr
  simp only [bne_self_eq_false, Option.bind_some, Bool.false_eq_true, if_false]
  split
  · rfl
  · split <;> rfl
theorem or_three (k : Nat) (a b c : Int) : cmp_Or_int.f (k + 4) [a, b, c] = some (if a ≠ 0 then a else if b ≠ 0 then b else c) := by
  have h3 : (([a, b, c] : List Int).length : Int) = 3 := rfl
  have r0 : rd [a, b, c] 0 = a := rfl
  have r1 : rd [a, b, c] 1 = b := rfl
  have r2 : rd [a, b, c] 2 = c := rfl
  have w1 : wrap64 (0 + 1) = 1 := wrap_in _ (by omega)
  have w2 : wrap64 (1 + 1) = 2 := wrap_in _ (by omega)
  have w3 : wrap64 (2 + 1) = 3 := wrap_in _ (by omega)
  unfold cmp_Or_int.f
  rw [h3]
  show cmp_Or_int.l0 (k + 3 + 1) 0 [a, b, c] 3 0 = _
  rw [cmp_Or_int.l0, if_pos (by decide), if_pos (by decide), h3, if_pos (by decide), r0, w1]
  by_cases ha : a = 0
  · rw [if_pos ha, if_neg (by simpa using ha), cmp_Or_int.l0, if_pos (by decide), if_pos (by decide), h3, if_pos (by decide), r1, w2]
    by_cases hb : b = 0
    · rw [if_pos hb, if_neg (by simpa using hb), cmp_Or_int.l0, if_pos (by decide), if_pos (by decide), h3, if_pos (by decide), r2, w3]
      by_cases hc : c = 0
      · rw [if_pos hc, cmp_Or_int.l0, if_neg (by decide), hc]
      · rw [if_neg hc]
    · rw [if_neg hb, if_pos hb]
  · rw [if_neg ha, if_pos ha]
theorem impl_cmp (k : Nat) (hk : 4 ≤ k) (a b : Int) (c : ByteArray) (x y : Int) (z : ByteArray) :
    impl_compareValues.f k a b c x y z = some (cmpVal (a, b, c) (x, y, z)) := by
  obtain ⟨k, rfl⟩ : ∃ m, k = m + 4 := ⟨k - 4, by omega⟩
  unfold impl_compareValues.f
  rw [cmp_int_is, cmp_int_is, cmp_str_is]
  simp only [Option.bind_some]
  rw [or_three]
  rfl
theorem sign_int (a b : Int) (h : a ≠ b) : spec_l01Sign.f (decide (a < b)) false = some (cmpInt a b) := by
  unfold spec_l01Sign.f cmpInt
  by_cases c : a < b
  · rw [if_pos (by simpa using c), if_pos c]
  · rw [if_neg (by simpa using c), if_neg c, if_neg (by decide), if_pos (by omega)]
theorem sign_str (a b : ByteArray) : spec_l01Sign.f (Op.bytesLess a.toList b.toList) (a.toList == b.toList) = some (cmpStr a b) := by
  unfold spec_l01Sign.f cmpStr
  rw [← lt_turn a.toList b.toList]
  cases Op.bytesLess a.toList b.toList <;> cases (a.toList == b.toList) <;> rfl
theorem spec_cmp (a b : Int) (c : ByteArray) (x y : Int) (z : ByteArray) :
    spec_l01Compare.f a b c x y z = some (cmpVal (a, b, c) (x, y, z)) := by
  unfold spec_l01Compare.f cmpVal
  have h0 : ∀ n : Int, cmpInt n n = 0 := fun n => by unfold cmpInt; rw [if_neg (by omega), if_neg (by omega)]
  have h1 : ∀ n m : Int, n ≠ m → cmpInt n m ≠ 0 := fun n m h => by
    unfold cmpInt
    by_cases c : n < m
    · rw [if_pos c]; decide
    · rw [if_neg c, if_pos (by omega)]; decide
  by_cases e1 : a = x
  · subst e1
    by_cases e2 : b = y
    · subst e2
      simp [h0, sign_str]
    · simp [h0, e2, h1 _ _ e2, sign_int _ _ e2]
  · simp [e1, h1 _ _ e1, sign_int _ _ e1]
end Go.Proofs.Ytfbclbbhomhfaaa.Pure
end

section
/- Aggregates of values: the program's and the reference's are one fold. -/
namespace Go.Proofs.Ytfbclbbhomhfaaa.Pure
open Go.RowKit Go.Proofs.Ytfbclbbhomhfaaa.X Go.Proofs.YtfbclbbhomhfaaaW.PrintWords Go.Proofs.YtfbclbbhomhfaaaW.PrintLast
theorem wrap_next (i : Nat) (h : i < 9223372036854775806) : wrap64 ((i : Int) + 1) = ((i + 1 : Nat) : Int) := by unfold wrap64; omega
theorem rd25 (V : List S24) (i : Nat) (h : i < V.length) : rd_T24 V (i : Int) = V[i] := by simp [rd_T24, h]
def okv (x : S24) : Bool := vok x.f0 x.f1 x.f2
theorem spec_l0 (s : ByteArray) (V : List S24) (hV : V.length ≤ 1048576) (d : Nat) : ∀ k i, V.length - i = d → i ≤ V.length →
    spec_AggValue.l0 (k + d + 1) s V (i : Int) = if (V.drop i).all okv = true then spec_AggValue.l1 k s V 0 else some (0, 0, (⟨#[]⟩ : ByteArray), 1) := by
  induction d with
  | zero => intro k i h1 h2; rw [spec_AggValue.l0, if_neg (by omega), List.drop_of_length_le (by omega)]; rfl
  | succ d ih =>
    intro k i h1 h2
    have hlt : i < V.length := by omega
    rw [show k + (d + 1) + 1 = (k + d + 1) + 1 by omega, spec_AggValue.l0, if_pos (by omega), if_pos (by omega), rd25 V i hlt, spec_vok, Option.bind_some, List.drop_eq_getElem_cons hlt, List.all_cons, wrap_next i (by omega), ih k (i + 1) (by omega) (by omega)]
    show (if okv V[i] = true then _ else _) = _
    cases okv V[i] <;> simp
def two (x : S24) : Bool := decide (x.f0 = 0 ∨ x.f0 = 2)
theorem spec_l1 (s : ByteArray) (V : List S24) (hV : V.length ≤ 1048576) (d : Nat) : ∀ k i, V.length - i = d → i ≤ V.length →
    spec_AggValue.l1 (k + d + 1) s V (i : Int) = if s.toList = [115, 117, 109] ∧ (V.drop i).all two = false then some (0, 0, (⟨#[]⟩ : ByteArray), 10) else spec_l12Agg.f k s V := by
  induction d with
  | zero =>
    intro k i h1 h2
    rw [spec_AggValue.l1, if_neg (by omega), List.drop_of_length_le (by omega), if_neg (by simp)]
    cases spec_l12Agg.f k s V <;> rfl
  | succ d ih =>
    intro k i h1 h2
    have hlt : i < V.length := by omega
    rw [show k + (d + 1) + 1 = (k + d + 1) + 1 by omega, spec_AggValue.l1, if_pos (by omega), rd25 V i hlt, List.drop_eq_getElem_cons hlt, List.all_cons, wrap_next i (by omega), ih k (i + 1) (by omega) (by omega)]
    by_cases hs : s.toList = [115, 117, 109]
    · rw [if_pos hs, if_pos (show (0 : Int) ≤ (i : Int) by omega)]
      by_cases h0 : V[i].f0 = 0
      · rw [if_pos h0, show two V[i] = true by simp [two, h0], Bool.true_and]
      · rw [if_neg h0]
        by_cases h2 : V[i].f0 = 2
        · rw [if_pos h2, show two V[i] = true by simp [two, h2], Bool.true_and]
        · rw [if_neg h2, show two V[i] = false by simp [two, h0, h2], Bool.false_and, if_pos ⟨hs, rfl⟩]
    · rw [if_neg hs, if_neg (fun h => hs h.1), if_neg (fun h => hs h.1)]
/-- The fold over the values, in plain words. -/
def aggS (s : List UInt8) : List S24 → Int → S24 → Int × Int × ByteArray × Int
  | [], c, m => if s = [99, 111, 117, 110, 116] then (2, c, (⟨#[]⟩ : ByteArray), 0) else (m.f0, m.f1, m.f2, 0)
  | x :: xs, c, m =>
    if x.f0 = 0 then aggS s xs c m
    else if s = [115, 117, 109] then
      if m.f0 = 0 then aggS s xs (c + 1) x
      else if -9223372036854775808 ≤ m.f1 + x.f1 ∧ m.f1 + x.f1 ≤ 9223372036854775807 then aggS s xs (c + 1) ⟨m.f0, m.f1 + x.f1, m.f2⟩ else (0, 0, (⟨#[]⟩ : ByteArray), 4)
    else if s = [109, 105, 110] then
      if m.f0 = 0 then aggS s xs (c + 1) x else if cmpVal (x.f0, x.f1, x.f2) (m.f0, m.f1, m.f2) < 0 then aggS s xs (c + 1) x else aggS s xs (c + 1) m
    else if s = [109, 97, 120] then
      if m.f0 = 0 then aggS s xs (c + 1) x else if cmpVal (x.f0, x.f1, x.f2) (m.f0, m.f1, m.f2) > 0 then aggS s xs (c + 1) x else aggS s xs (c + 1) m
    else aggS s xs (c + 1) m
theorem l12_add (a b : Int) (ha : -9223372036854775808 ≤ a ∧ a ≤ 9223372036854775807) (hb : -9223372036854775808 ≤ b ∧ b ≤ 9223372036854775807) :
    spec_l12Add.f a b = some (wrap64 (a + b), decide (-9223372036854775808 ≤ a + b ∧ a + b ≤ 9223372036854775807)) := by
  have h := wrap_sum a b ha hb
  unfold spec_l12Add.f
  generalize wrap64 (a + b) = c at h ⊢
  have e : ∀ p q : Bool, p = q → some (c, p) = some (c, q) := fun p q h => by rw [h]
  by_cases c1 : a > 0 <;> by_cases c2 : b > 0 <;> by_cases c3 : c < 0 <;> by_cases c4 : a < 0 <;> by_cases c5 : b < 0 <;>
    first | (exfalso; omega) | (simp only [c1, c2, c3, c4, c5, if_true, if_false]; apply e; first | (simp; omega) | (rw [Bool.eq_iff_iff]; simp; omega))
theorem spec_agg (s : ByteArray) (V : List S24) (hV : V.length ≤ 1048576) (hR : ∀ x ∈ V, -9223372036854775808 ≤ x.f1 ∧ x.f1 ≤ 9223372036854775807) (d : Nat) :
    ∀ k i (c : Int) (m : S24), V.length - i = d → i ≤ V.length → 0 ≤ c → c + d ≤ 9000000000 → (-9223372036854775808 ≤ m.f1 ∧ m.f1 ≤ 9223372036854775807) →
    spec_l12Agg.l0 (k + d + 1) s V c (i : Int) m.f0 m.f1 m.f2 = some (aggS s.toList (V.drop i) c m) := by
  induction d with
  | zero =>
    intro k i c m h1 h2 h3 h4 hm
    rw [spec_l12Agg.l0, if_neg (by omega), List.drop_of_length_le (by omega), aggS]
    by_cases hc : s.toList = [99, 111, 117, 110, 116]
    · rw [if_pos hc, if_pos hc]; rfl
    · rw [if_neg hc, if_neg hc]
  | succ d ih =>
    intro k i c m h1 h2 h3 h4 hm
    have hlt : i < V.length := by omega
    have hx := hR V[i] (List.getElem_mem hlt)
    rw [show k + (d + 1) + 1 = (k + d + 1) + 1 by omega, spec_l12Agg.l0, if_pos (by omega), if_pos (by omega), rd25 V i hlt, List.drop_eq_getElem_cons hlt, wrap_next i (by omega), wrap_in (c + 1) (by omega), aggS]
    have stay := fun c' h h' => ih k (i + 1) c' m (by omega) (by omega) h h' hm
    have take := ih k (i + 1) (c + 1) V[i] (by omega) (by omega) (by omega) (by omega) hx
    have next := stay (c + 1) (by omega) (by omega)
    rw [stay c h3 (by omega), take, next, spec_cmp, Option.bind_some]
    by_cases h0 : V[i].f0 = 0
    · rw [if_pos h0, if_pos h0]
    rw [if_neg h0, if_neg h0]
    by_cases hs : s.toList = [115, 117, 109]
    · rw [if_pos hs, if_pos hs]
      by_cases hm0 : m.f0 = 0
      · rw [if_pos hm0, if_pos hm0]
      rw [if_neg hm0, if_neg hm0, l12_add _ _ hm hx, Option.bind_some]
      by_cases hr : -9223372036854775808 ≤ m.f1 + V[i].f1 ∧ m.f1 + V[i].f1 ≤ 9223372036854775807
      · rw [if_pos hr, if_pos (by simpa using hr), wrap_in _ hr]
        exact ih k (i + 1) (c + 1) ⟨m.f0, m.f1 + V[i].f1, m.f2⟩ (by omega) (by omega) (by omega) (by omega) hr
      · rw [if_neg hr, if_neg (by simpa using hr)]
    rw [if_neg hs, if_neg hs]
    by_cases hs : s.toList = [109, 105, 110]
    · rw [if_pos hs, if_pos hs]
      by_cases hm0 : m.f0 = 0
      · rw [if_pos hm0, if_pos hm0]
      rw [if_neg hm0, if_neg hm0]
      split <;> rfl
    rw [if_neg hs, if_neg hs]
    by_cases hs : s.toList = [109, 97, 120]
    · rw [if_pos hs, if_pos hs]
      by_cases hm0 : m.f0 = 0
      · rw [if_pos hm0, if_pos hm0]
      rw [if_neg hm0, if_neg hm0, Option.bind_some]
      split <;> rfl
    rw [if_neg hs, if_neg hs]
def own (V : List S24) : List S24 := V.filter fun x => decide (x.f0 ≠ 0)
theorem own_cons (x : S24) (xs : List S24) : own (x :: xs) = if x.f0 = 0 then own xs else x :: own xs := by
  by_cases h : x.f0 = 0 <;> simp [own, h]
theorem agg_count : ∀ (V : List S24) (c : Int) (m : S24), aggS [99, 111, 117, 110, 116] V c m = (2, c + ((own V).length : Int), (⟨#[]⟩ : ByteArray), 0)
  | [], c, m => by simp [aggS, own]
  | x :: xs, c, m => by
    rw [aggS, own_cons]
    by_cases h : x.f0 = 0
    · rw [if_pos h, if_pos h, agg_count xs]
    · rw [if_neg h, if_neg h, if_neg (by decide), if_neg (by decide), if_neg (by decide), agg_count xs, List.length_cons]
      congr 2; omega
def lessO (x m : S24) : Bool := decide (cmpVal (x.f0, x.f1, x.f2) (m.f0, m.f1, m.f2) < 0)
def moreO (x m : S24) : Bool := decide (cmpVal (x.f0, x.f1, x.f2) (m.f0, m.f1, m.f2) > 0)
def ans (x : S24) : Int × Int × ByteArray × Int := (x.f0, x.f1, x.f2, 0)
theorem agg_min : ∀ (V : List S24) (c : Int) (m : S24), aggS [109, 105, 110] V c m = if m.f0 = 0 then (match own V with | [] => ans m | x :: xs => ans (pickO lessO x xs)) else ans (pickO lessO m (own V))
  | [], c, m => by
    rw [aggS, if_neg (by decide)]
    split <;> rfl
  | x :: xs, c, m => by
    rw [aggS, own_cons]
    by_cases h : x.f0 = 0
    · rw [if_pos h, if_pos h, agg_min xs]
    · rw [if_neg h, if_neg h, if_neg (by decide), if_pos rfl]
      by_cases hm : m.f0 = 0
      · rw [if_pos hm, if_pos hm, agg_min xs, if_neg h]
      · rw [if_neg hm, if_neg hm, agg_min xs, agg_min xs, if_neg h, if_neg hm, pickO]
        show _ = ans (pickO lessO (if (decide _) = true then x else m) (own xs))
        by_cases hc : cmpVal (x.f0, x.f1, x.f2) (m.f0, m.f1, m.f2) < 0
        · rw [if_pos hc, if_pos (by simpa using hc)]
        · rw [if_neg hc, if_neg (by simpa using hc)]
theorem agg_max : ∀ (V : List S24) (c : Int) (m : S24), aggS [109, 97, 120] V c m = if m.f0 = 0 then (match own V with | [] => ans m | x :: xs => ans (pickO moreO x xs)) else ans (pickO moreO m (own V))
  | [], c, m => by
    rw [aggS, if_neg (by decide)]
    split <;> rfl
  | x :: xs, c, m => by
    rw [aggS, own_cons]
    by_cases h : x.f0 = 0
    · rw [if_pos h, if_pos h, agg_max xs]
    · rw [if_neg h, if_neg h, if_neg (by decide), if_neg (by decide), if_pos rfl]
      by_cases hm : m.f0 = 0
      · rw [if_pos hm, if_pos hm, agg_max xs, if_neg h]
      · rw [if_neg hm, if_neg hm, agg_max xs, agg_max xs, if_neg h, if_neg hm, pickO]
        show _ = ans (pickO moreO (if (decide _) = true then x else m) (own xs))
        by_cases hc : cmpVal (x.f0, x.f1, x.f2) (m.f0, m.f1, m.f2) > 0
        · rw [if_pos hc, if_pos (by simpa using hc)]
        · rw [if_neg hc, if_neg (by simpa using hc)]
def sumO : Int → List S24 → Int × Int × ByteArray × Int
  | a, [] => (2, a, (⟨#[]⟩ : ByteArray), 0)
  | a, x :: xs => if -9223372036854775808 ≤ a + x.f1 ∧ a + x.f1 ≤ 9223372036854775807 then sumO (a + x.f1) xs else (0, 0, (⟨#[]⟩ : ByteArray), 4)
theorem agg_sum2 : ∀ (V : List S24) (c : Int) (a : Int), aggS [115, 117, 109] V c ⟨2, a, (⟨#[]⟩ : ByteArray)⟩ = sumO a (own V)
  | [], c, a => by rw [aggS, if_neg (by decide)]; rfl
  | x :: xs, c, a => by
    rw [aggS, own_cons]
    by_cases h : x.f0 = 0
    · rw [if_pos h, if_pos h, agg_sum2 xs]
    · rw [if_neg h, if_neg h, if_pos rfl, if_neg (show ¬ (2 : Int) = 0 by decide), sumO, agg_sum2 xs]
theorem agg_sum : ∀ (V : List S24) (c : Int), (∀ x ∈ V, okv x = true) → (V.all two = true) → (∀ x ∈ V, -9223372036854775808 ≤ x.f1 ∧ x.f1 ≤ 9223372036854775807) →
    aggS [115, 117, 109] V c ⟨0, 0, (⟨#[]⟩ : ByteArray)⟩ = if own V = [] then (0, 0, (⟨#[]⟩ : ByteArray), 0) else sumO 0 (own V)
  | [], c, _, _, _ => by rw [aggS, if_neg (by decide)]; rfl
  | x :: xs, c, ho, ht, hr => by
    rw [List.all_cons, Bool.and_eq_true] at ht
    rw [aggS, own_cons]
    by_cases h : x.f0 = 0
    · rw [if_pos h, if_pos h]
      exact agg_sum xs c (fun y hy => ho y (.tail _ hy)) ht.2 (fun y hy => hr y (.tail _ hy))
    · rw [if_neg h, if_neg h, if_pos rfl, if_pos rfl, if_neg (by simp), sumO]
      have h2 : x.f0 = 2 := by have := ht.1; simp [two, h] at this; exact this
      have hs : x.f2 = (⟨#[]⟩ : ByteArray) := by
        have := ho x (.head _)
        unfold okv vok at this
        rw [h2] at this
        simp at this
        exact this
      have hx := hr x (.head _)
      rw [if_pos (by omega), show x = ⟨2, x.f1, (⟨#[]⟩ : ByteArray)⟩ from by cases x; simp_all, agg_sum2, Int.zero_add]
theorem impl_l0 (s : ByteArray) (V : List S24) (hV : V.length ≤ 1048576) (d : Nat) : ∀ k i (A : List S24), V.length - i = d → i ≤ V.length → A.length + d ≤ 1048576 →
    impl_aggValue.l0 (k + d + 1) s A V (V.length : Int) (i : Int) = impl_aggValue.l0 (k + 1) s (A ++ own (V.drop i)) V (V.length : Int) (V.length : Int) := by
  induction d with
  | zero => intro k i A h1 h2 h3; rw [show i = V.length by omega, List.drop_length, show own [] = [] from rfl, List.append_nil]
  | succ d ih =>
    intro k i A h1 h2 h3
    have hlt : i < V.length := by omega
    rw [show k + (d + 1) + 1 = (k + d + 1) + 1 by omega, impl_aggValue.l0, if_pos (by omega), if_pos (by omega), if_pos (by omega), rd25 V i hlt, List.drop_eq_getElem_cons hlt, own_cons, wrap_next i (by omega)]
    by_cases h0 : V[i].f0 = 0
    · rw [if_pos h0, if_pos h0]; exact ih k (i + 1) A (by omega) (by omega) (by omega)
    · rw [if_neg h0, if_neg h0, if_pos (by omega), ih k (i + 1) _ (by omega) (by omega) (by rw [List.length_append]; simp; omega), List.append_assoc]; rfl
theorem impl_l1 (O : List S24) (hV : O.length ≤ 1048576) (hR : ∀ x ∈ O, -9223372036854775808 ≤ x.f1 ∧ x.f1 ≤ 9223372036854775807) (d : Nat) : ∀ k i a, O.length - i = d → i ≤ O.length → (-9223372036854775808 ≤ a ∧ a ≤ 9223372036854775807) →
    impl_aggValue.l1 (k + d + 1) a O (O.length : Int) (i : Int) = some (sumO a (O.drop i)) := by
  induction d with
  | zero => intro k i a h1 h2 h3; rw [impl_aggValue.l1, if_neg (by omega), List.drop_of_length_le (by omega)]; rfl
  | succ d ih =>
    intro k i a h1 h2 h3
    have hlt : i < O.length := by omega
    have hx := hR O[i] (List.getElem_mem hlt)
    rw [show k + (d + 1) + 1 = (k + d + 1) + 1 by omega, impl_aggValue.l1, if_pos (by omega), if_pos (by omega), if_pos (by omega), rd25 O i hlt, List.drop_eq_getElem_cons hlt, sumO, wrap_next i (by omega), impl_add _ _ h3 hx]
    by_cases hr : -9223372036854775808 ≤ a + O[i].f1 ∧ a + O[i].f1 ≤ 9223372036854775807
    · rw [if_pos hr, if_pos hr, Option.bind_some, if_pos rfl]; exact ih k (i + 1) _ (by omega) (by omega) hr
    · rw [if_neg hr, if_neg hr, Option.bind_some, if_neg (by decide)]
theorem own_mem {V : List S24} {x : S24} (h : x ∈ own V) : x ∈ V := (List.mem_filter.1 h).1
theorem two_own (V : List S24) : ((own V).any fun x => x.f0 != 2) = !(V.all two) := by
  induction V with
  | nil => rfl
  | cons x xs ih =>
    rw [own_cons, List.all_cons]
    by_cases h : x.f0 = 0
    · rw [if_pos h, ih, show two x = true by simp [two, h], Bool.true_and]
    · rw [if_neg h, List.any_cons, ih]
      by_cases h2 : x.f0 = 2
      · rw [show two x = true by simp [two, h2], h2]; simp
      · rw [show two x = false by simp [two, h, h2], show (x.f0 != 2) = true by simp [h2]]; simp
theorem agg_same (s : ByteArray) (V : List S24) (hV : V.length ≤ 1048576) (hR : ∀ x ∈ V, -9223372036854775808 ≤ x.f1 ∧ x.f1 ≤ 9223372036854775807) (k : Nat) :
    ∃ r, spec_AggValue.f (k + V.length + V.length + V.length + 20) s V = some r ∧ impl_AggValue.f (k + V.length + V.length + V.length + 20) s V = some r := by
  unfold spec_AggValue.f impl_AggValue.f impl_areLong.f
  simp only [Option.bind_some, List.any_cons, List.any_nil, Bool.or_false, decide_eq_true_eq]
  by_cases hs : (s.size : Int) > 65536
  · rw [if_pos hs, if_pos (show 65536 < (s.size : Int) by omega), impl_AggValue.j0, if_pos rfl]; exact ⟨_, rfl, rfl⟩
  rw [if_neg hs, if_neg (show ¬ 65536 < (s.size : Int) by omega)]
  by_cases hl : (V.length : Int) > 4096
  · rw [if_pos hl, impl_AggValue.j0, if_pos (show decide ((V.length : Int) > 4096) = true by simpa using hl)]; exact ⟨_, rfl, rfl⟩
  rw [if_neg hl, impl_AggValue.j0, if_neg (show ¬ decide ((V.length : Int) > 4096) = true by simpa using hl)]
  unfold impl_aggregates.f
  rw [Option.bind_some, contains_is _ s (by decide) _ (by simp), Option.bind_some]
  have hany : impl_AggValue_1_any.f V = some (!(V.all okv)) := by
    unfold impl_AggValue_1_any.f anyO impl_AggValue_1.f
    simp only [impl_vok, Option.bind_some, Option.isSome_some, Option.getD_some]
    rw [if_pos (by simp)]
    congr 1
    induction V with
    | nil => rfl
    | cons x xs ih => rw [List.any_cons, List.all_cons, Bool.not_and]; rw [← ih (by simp at hV; omega) (fun y hy => hR y (.tail _ hy)) (by simp at hl ⊢; omega)]; rfl
  have hany2 : impl_aggValue_1_any.f (own V) = some (!(V.all two)) := by
    unfold impl_aggValue_1_any.f anyO impl_aggValue_1.f
    simp only [Option.isSome_some, Option.getD_some]
    rw [if_pos (by simp), two_own]
  have hol : (own V).length ≤ V.length := List.length_filter_le _ _
  rw [hany]
  by_cases hk : ¬ (s.toList = [99, 111, 117, 110, 116] ∨ s.toList = [115, 117, 109] ∨ s.toList = [109, 105, 110] ∨ s.toList = [109, 97, 120])
  · have c1 : s.toList ≠ [99, 111, 117, 110, 116] := fun h => hk (.inl h)
    have c2 : s.toList ≠ [115, 117, 109] := fun h => hk (.inr (.inl h))
    have c3 : s.toList ≠ [109, 105, 110] := fun h => hk (.inr (.inr (.inl h)))
    have c4 : s.toList ≠ [109, 97, 120] := fun h => hk (.inr (.inr (.inr h)))
    rw [if_neg c1, if_neg c2, if_neg c3, spec_AggValue.j0, if_pos (show (s.toList != ([109, 97, 120] : List UInt8)) = true by simpa using c4), if_neg (by simp [toList_mk, c1, c2, c3, c4])]
    exact ⟨_, rfl, rfl⟩
  replace hk := Classical.not_not.1 hk
  rw [show (if s.toList = [99, 111, 117, 110, 116] then spec_AggValue.j0 (k + V.length + V.length + V.length + 20) s V false
      else if s.toList = [115, 117, 109] then spec_AggValue.j0 (k + V.length + V.length + V.length + 20) s V false
      else if s.toList = [109, 105, 110] then spec_AggValue.j0 (k + V.length + V.length + V.length + 20) s V false
      else spec_AggValue.j0 (k + V.length + V.length + V.length + 20) s V (s.toList != [109, 97, 120])) = spec_AggValue.j0 (k + V.length + V.length + V.length + 20) s V false from by
    rcases hk with h | h | h | h <;> rw [h] <;> rfl]
  rw [if_pos (show _ = true by rcases hk with h | h | h | h <;> simp [toList_mk, h]), spec_AggValue.j0, if_neg (by decide)]
  have e0 := spec_l0 s V hV V.length (k + V.length + V.length + 18) 0 (by omega) (by omega)
  rw [show k + V.length + V.length + 18 + V.length + 1 = k + V.length + V.length + V.length + 19 by omega, List.drop_zero] at e0
  rw [show ((0 : Nat) : Int) = 0 from rfl] at e0
  rw [e0, Option.bind_some]
  cases ha : V.all okv with
  | false => rw [if_neg (by decide), if_pos (show (!false) = true from rfl)]; exact ⟨_, rfl, rfl⟩
  | true =>
    rw [if_pos rfl, if_neg (show ¬ (!true) = true by decide)]
    have e1 := spec_l1 s V hV V.length (k + V.length + 17) 0 (by omega) (by omega)
    rw [show k + V.length + 17 + V.length + 1 = k + V.length + V.length + 18 by omega, List.drop_zero, show ((0 : Nat) : Int) = 0 from rfl] at e1
    have e2 : spec_l12Agg.f (k + V.length + 17) s V = some (aggS s.toList V 0 ⟨0, 0, (⟨#[]⟩ : ByteArray)⟩) := by
      have := spec_agg s V hV hR V.length (k + 16) 0 0 ⟨0, 0, (⟨#[]⟩ : ByteArray)⟩ (by omega) (by omega) (by omega) (by omega) ⟨by show (-9223372036854775808 : Int) ≤ 0; decide, by show (0 : Int) ≤ 9223372036854775807; decide⟩
      rw [show k + 16 + V.length + 1 = k + V.length + 17 by omega, List.drop_zero] at this
      exact this
    rw [e1, e2]
    unfold impl_aggValue.f
    have e3 := impl_l0 s V hV V.length (k + V.length + V.length + 18) 0 [] (by omega) (by omega) (by simp; omega)
    rw [show k + V.length + V.length + 18 + V.length + 1 = k + V.length + V.length + V.length + 19 by omega, List.drop_zero, show ((0 : Nat) : Int) = 0 from rfl, List.nil_append] at e3
    rw [e3, impl_aggValue.l0, if_neg (show ¬ (V.length : Int) < (V.length : Int) by omega), hany2, Option.bind_some, show k + V.length + V.length + 18 = (k + V.length + V.length + 17) + 1 by omega, impl_aggValue.j1, impl_aggValue.j1]
    have e4 := impl_l1 (own V) (by omega) (fun x hx => hR x (own_mem hx)) (own V).length (k + V.length + V.length + 16 - (own V).length) 0 0 (by omega) (by omega) (by omega)
    rw [show k + V.length + V.length + 16 - (own V).length + (own V).length + 1 = k + V.length + V.length + 17 by omega, List.drop_zero, show ((0 : Nat) : Int) = 0 from rfl] at e4
    rw [e4]
    rcases hk with h | h | h | h <;> rw [h]
    · rw [if_neg (by simp), if_pos rfl, agg_count]; exact ⟨_, rfl, by rw [Int.zero_add]; rfl⟩
    · rw [if_neg (show ¬ ([115, 117, 109] : List UInt8) = [99, 111, 117, 110, 116] by decide), if_pos (show ([115, 117, 109] : List UInt8) = [115, 117, 109] from rfl)]
      cases ht : V.all two with
      | false => rw [if_pos ⟨rfl, rfl⟩, if_pos (show (!false) = true from rfl)]; exact ⟨_, rfl, rfl⟩
      | true =>
        rw [if_neg (by simp), if_neg (show ¬ (!true) = true by decide), if_neg (show ¬ ([115, 117, 109] : List UInt8) = [109, 105, 110] by decide), if_neg (show ¬ ([115, 117, 109] : List UInt8) = [109, 97, 120] by decide),
          agg_sum V 0 (fun x hx => List.all_eq_true.1 ha x hx) ht hR]
        by_cases hO : own V = []
        · rw [if_pos hO, hO]; exact ⟨_, rfl, rfl⟩
        · rw [if_neg hO, if_neg (show ¬ ((own V).length : Int) = 0 by have := List.length_pos_iff.2 hO; omega)]; exact ⟨_, rfl, rfl⟩
    · rw [if_neg (show ¬ (([109, 105, 110] : List UInt8) = [115, 117, 109] ∧ _) from fun h => absurd h.1 (by decide)), if_neg (show ¬ ([109, 105, 110] : List UInt8) = [99, 111, 117, 110, 116] by decide),
        if_neg (show ¬ ([109, 105, 110] : List UInt8) = [115, 117, 109] by decide), if_neg (show ¬ false = true by decide), if_pos (show ([109, 105, 110] : List UInt8) = [109, 105, 110] from rfl), agg_min, if_pos rfl]
      cases hO : own V with
      | nil => exact ⟨_, rfl, rfl⟩
      | cons x xs => rw [if_neg (by simp; omega)]; exact ⟨_, rfl, rfl⟩
    · rw [if_neg (show ¬ (([109, 97, 120] : List UInt8) = [115, 117, 109] ∧ _) from fun h => absurd h.1 (by decide)), if_neg (show ¬ ([109, 97, 120] : List UInt8) = [99, 111, 117, 110, 116] by decide),
        if_neg (show ¬ ([109, 97, 120] : List UInt8) = [115, 117, 109] by decide), if_neg (show ¬ false = true by decide), if_neg (show ¬ ([109, 97, 120] : List UInt8) = [109, 105, 110] by decide), if_pos (show ([109, 97, 120] : List UInt8) = [109, 97, 120] from rfl), agg_max, if_pos rfl]
      cases hO : own V with
      | nil => exact ⟨_, rfl, rfl⟩
      | cons x xs => rw [if_neg (by simp; omega)]; exact ⟨_, rfl, rfl⟩
end Go.Proofs.Ytfbclbbhomhfaaa.Pure
end
