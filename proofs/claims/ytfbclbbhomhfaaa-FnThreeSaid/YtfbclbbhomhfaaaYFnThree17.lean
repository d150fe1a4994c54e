/- Contracts of functions, and what is told of them. -/
import Derived.Test.YtfbclbbhomhfaaaYFnThree3
import Derived.Test.YtfbclbbhomhfaaaYFnThree16
import Derived.OpenShut
import Derived.Laws.Strings
import Derived.Test.YtfbclbbhomhfaaaYFnThree8
import Derived.Test.YtfbclbbhomhfaaaYFnThree14
import Derived.Test.YtfbclbbhomhfaaaYFnThree13
import Derived.Test.YtfbclbbhomhfaaaYFnThree15
import Derived.Test.YtfbclbbhomhfaaaYFnThree10
import Derived.Test.YtfbclbbhomhfaaaYFnThree6
import Derived.Laws.Bits64b
import Derived.Test.YtfbclbbhomhfaaaYFnThree5
import Derived.Test.YtfbclbbhomhfaaaYFnThree4
import Derived.Test.YtfbclbbhomhfaaaYFnThree9
import Derived.Test.YtfbclbbhomhfaaaYFnThree7
import Derived.Test.YtfbclbbhomhfaaaYFnThree11
import Derived.Test.YtfbclbbhomhfaaaYFnThree12
set_option linter.unusedSimpArgs false
set_option linter.unusedVariables false
section
namespace Go.Proofs.Ytfbclbbhomhfaaa.X
open Go.RowKit Go.Proofs.YtfbclbbhomhfaaaW.PrintWords Go.Proofs.YtfbclbbhomhfaaaW.PrintLast Go.Proofs.YtfbclbbhomhfaaaW.PrintMore
attribute [local go_sem] max2_int min2_int max_two min_two max_three min_three max_four min_four   -- for this text's walks alone

section
/-- THE ONE PURE STATEMENT of laws_FnThree. -/
def laws_FnThree.Need : Prop := ∀ (l0 : List Int) (l1 : List Int), (l0.length ≤ maxLen ∧ ∀ x0_ ∈ l0, (Lit.int .u8 x0_).wf = true) → (l1.length ≤ maxLen ∧ ∀ x0_ ∈ l1, (Lit.int .u8 x0_).wf = true) → ∃ k, laws_FnThree.f k l0 l1 = some true
end

section
/-- The first of the best: the one that stays. -/
def pickO {α : Type} (better : α → α → Bool) : α → List α → α
  | m, [] => m
  | m, x :: xs => pickO better (if better x m then x else m) xs
def cmpInt (a b : Int) : Int := if a < b then -1 else if a > b then 1 else 0
def cmpStr (a b : ByteArray) : Int := if Op.bytesLess a.toList b.toList = true then -1 else if Op.bytesLess b.toList a.toList = true then 1 else 0
/-- The order of values. -/
def cmpVal (x y : Int × Int × ByteArray) : Int :=
  if cmpInt x.1 y.1 ≠ 0 then cmpInt x.1 y.1 else if cmpInt x.2.1 y.2.1 ≠ 0 then cmpInt x.2.1 y.2.1 else cmpStr x.2.2 y.2.2
end

end Go.Proofs.Ytfbclbbhomhfaaa.X
end

section
/- Small facts on numbers and texts. -/
namespace Go.Proofs.Ytfbclbbhomhfaaa.Pure
open Go.RowKit Go.Proofs.Ytfbclbbhomhfaaa.X Go.Proofs.YtfbclbbhomhfaaaW.PrintWords Go.Proofs.YtfbclbbhomhfaaaW.PrintLast
theorem wrap_in (a : Int) (ha : -9223372036854775808 ≤ a ∧ a ≤ 9223372036854775807) : wrap64 a = a := by unfold wrap64; omega
theorem wrap_range (a : Int) : -9223372036854775808 ≤ wrap64 a ∧ wrap64 a ≤ 9223372036854775807 := by unfold wrap64; omega
theorem i64_of {n : Int} (h : (Lit.int .i64 n).wf = true) : -9223372036854775808 ≤ n ∧ n ≤ 9223372036854775807 := bounds_i64 h
theorem u8_of {n : Int} (h : (Lit.int .u8 n).wf = true) : 0 ≤ n ∧ n ≤ 255 := bounds_u8 h
theorem toList_eq (s : ByteArray) : s.toList = s.data.toList := ByteArray.toList_eq s
theorem toList_inj {s t : ByteArray} (h : s.toList = t.toList) : s = t := by
  rw [toList_eq, toList_eq] at h
  have := Array.ext' h
  cases s; cases t; simp_all
theorem toList_iff {s t : ByteArray} : s.toList = t.toList ↔ s = t := ⟨toList_inj, fun h => by rw [h]⟩
theorem toList_mk (l : List UInt8) : (⟨⟨l⟩⟩ : ByteArray).toList = l := by rw [toList_eq]
theorem length_toList (s : ByteArray) : s.toList.length = s.size := by rw [toList_eq]; rfl
theorem empty_iff {s : ByteArray} : s.toList = [] ↔ s = (⟨#[]⟩ : ByteArray) := by
  rw [← toList_iff, show (⟨#[]⟩ : ByteArray).toList = [] from toList_mk []]
end Go.Proofs.Ytfbclbbhomhfaaa.Pure
end

section
/- What Contains and Index over texts tell. -/
namespace Go.Proofs.Ytfbclbbhomhfaaa.Pure
open Go.RowKit Go.Proofs.Ytfbclbbhomhfaaa.X Go.Proofs.YtfbclbbhomhfaaaW.PrintWords Go.Proofs.YtfbclbbhomhfaaaW.PrintLast
theorem index_loop (l : List ByteArray) (x : ByteArray) (hl : l.length ≤ 9223372036854775807) (d : Nat) : ∀ (k i : Nat), l.length - i = d → i ≤ l.length → d < k →
    slices_Index_string_string.l0 k l x (l.length : Int) (i : Int) = some (match (l.drop i).findIdx? (fun y => x.toList == y.toList) with | some j => ((i + j : Nat) : Int) | none => -1) := by
  induction d with
  | zero =>
    intro k i hd hi hk
    obtain ⟨k, rfl⟩ : ∃ m, k = m + 1 := ⟨k - 1, by omega⟩
    simp only [slices_Index_string_string.l0]
    rw [if_neg (by omega), List.drop_of_length_le (by omega)]
    rfl
  | succ d ih =>
    intro k i hd hi hk
    obtain ⟨k, rfl⟩ : ∃ m, k = m + 1 := ⟨k - 1, by omega⟩
    have hlt : i < l.length := by omega
    simp only [slices_Index_string_string.l0]
    rw [if_pos (by omega), if_pos (by omega), if_pos (by omega), List.drop_eq_getElem_cons hlt, List.findIdx?_cons]
    have hr : rdOf ByteArray.empty l (i : Int) = l[i] := by simp [rdOf, hlt]
    rw [hr]
    by_cases c : x.toList = l[i].toList
    · have : (x.toList == l[i].toList) = true := by rw [c]; simp
      rw [if_pos c, this]; simp
    · have : (x.toList == l[i].toList) = false := by simpa using c
      rw [if_neg c, this, show wrap64 ((i : Int) + 1) = ((i + 1 : Nat) : Int) from by unfold wrap64; omega, ih k (i + 1) (by omega) (by omega) (by omega)]
      cases (l.drop (i + 1)).findIdx? (fun y => x.toList == y.toList) with
      | none => rfl
      | some j => show some (((i + 1 + j : Nat)) : Int) = some (((i + (j + 1) : Nat)) : Int); rw [show i + 1 + j = i + (j + 1) by omega]
theorem contains_is (l : List ByteArray) (x : ByteArray) (hl : l.length ≤ 9223372036854775807) (k : Nat) (hk : l.length < k) :
    slices_Contains_string_string.f k l x = some (l.any fun y => x.toList == y.toList) := by
  unfold slices_Contains_string_string.f slices_Index_string_string.f
  rw [show (0 : Int) = ((0 : Nat) : Int) from rfl, index_loop l x hl l.length k 0 (by omega) (by omega) hk, List.drop_zero]
  simp only [Option.bind_some, Option.some.injEq]
  have := fIdx_any (fun y => x.toList == y.toList) l
  unfold fIdx at this
  rw [← this]
  cases l.findIdx? (fun y => x.toList == y.toList) <;> simp
end Go.Proofs.Ytfbclbbhomhfaaa.Pure
end

section
/- Right values: the program and the reference tell the same. -/
namespace Go.Proofs.Ytfbclbbhomhfaaa.Pure
open Go.RowKit Go.Proofs.Ytfbclbbhomhfaaa.X Go.Proofs.YtfbclbbhomhfaaaW.PrintWords Go.Proofs.YtfbclbbhomhfaaaW.PrintLast
def vok (a b : Int) (t : ByteArray) : Bool :=
  (decide (a = 0) && decide (b = 0) && decide (t.size = 0)) || (decide (a = 1) && decide (0 ≤ b ∧ b ≤ 1) && decide (t.size = 0)) || (decide (a = 2) && decide (t.size = 0)) ||
    (decide (a = 3 ∨ a = 4) && decide (b = 0) && decide (t.size ≤ 60))
theorem nil_iff (t : ByteArray) : (t.toList == ([] : List UInt8)) = decide (t.size = 0) := by
  rw [← length_toList]
  cases t.toList <;> simp
theorem size_le (t : ByteArray) : decide ((t.size : Int) ≤ 60) = decide (t.size ≤ 60) := by rw [decide_eq_decide]; omega
theorem spec_vok (a b : Int) (t : ByteArray) : spec_ValueOK.f a b t = some (vok a b t) := by
  unfold spec_ValueOK.f spec_l01In.f
  simp only [nil_iff, size_le]
  unfold vok
  by_cases c0 : a = 0
  · subst c0; by_cases cb : b = 0 <;> simp [cb]
  by_cases c1 : a = 1
  · subst c1; by_cases cb : 0 ≤ b <;> by_cases cc : b ≤ 1 <;> simp [cb, cc]
  by_cases c2 : a = 2
  · subst c2; simp
  by_cases c3 : a = 3
  · subst c3; by_cases cb : b = 0 <;> simp [cb]
  by_cases c4 : a = 4
  · subst c4; by_cases cb : b = 0 <;> simp [cb]
  simp [c0, c1, c2, c3, c4]
theorem impl_vok (a b : Int) (t : ByteArray) : impl_ValueOK.f a b t = some (vok a b t) := by
  unfold impl_ValueOK.f impl_within.f impl_hasText.f
  simp only [nil_iff, size_le]
  unfold vok
  by_cases c0 : a = 0
  · subst c0; by_cases cb : b = 0 <;> simp [cb]
  by_cases c1 : a = 1
  · subst c1; by_cases cb : 0 ≤ b <;> by_cases cc : b ≤ 1 <;> simp [cb, cc]
  by_cases c2 : a = 2
  · subst c2; simp
  by_cases c3 : a = 3
  · subst c3; by_cases cb : b = 0 <;> simp [cb]
  by_cases c4 : a = 4
  · subst c4; by_cases cb : b = 0 <;> simp [cb]
  simp [c0, c1, c2, c3, c4]
theorem size_zero {t : ByteArray} (h : t.size = 0) : t = (⟨#[]⟩ : ByteArray) := by
  rw [← empty_iff]
  have := length_toList t
  rw [h] at this
  exact List.eq_nil_of_length_eq_zero this
theorem vok_null {b : Int} {t : ByteArray} (h : vok 0 b t = true) : b = 0 ∧ t = (⟨#[]⟩ : ByteArray) := by
  have h2 : b = 0 ∧ t.size = 0 := by
    unfold vok at h
    by_cases c : b = 0 ∧ t.size = 0
    · exact c
    · exfalso
      rcases Classical.not_and_iff_not_or_not.1 c with c | c <;> simp [c] at h
  exact ⟨h2.1, size_zero h2.2⟩
end Go.Proofs.Ytfbclbbhomhfaaa.Pure
end

section
/- What a source of choices gives. -/
namespace Go.Proofs.Ytfbclbbhomhfaaa.Pure
open Go.RowKit Go.Proofs.Ytfbclbbhomhfaaa.X Go.Proofs.YtfbclbbhomhfaaaW.PrintWords Go.Proofs.YtfbclbbhomhfaaaW.PrintLast
def Src (c : List Int) (a s B : Int) : Prop := (∀ x ∈ c, 0 ≤ x ∧ x ≤ 255) ∧ 0 ≤ a ∧ a ≤ B ∧ 0 ≤ s ∧ s < 2147483648
theorem Src.up {c : List Int} {a s B B' : Int} (h : Src c a s B) (hb : B ≤ B') : Src c a s B' := ⟨h.1, h.2.1, by have := h.2.2.1; omega, h.2.2.2⟩
theorem src_new {c : List Int} (h : ∀ x ∈ c, (Lit.int .u8 x).wf = true) : Src c 0 ((c.length : Int) % 1000) 0 := ⟨fun x hx => u8_of (h x hx), by omega, by omega, by omega, by omega⟩
theorem src_byte {c : List Int} {a s B : Int} (h : Src c a s B) (hB : B ≤ 4611686018427387904) :
    ∃ r a' s', spec_l00Src_byte.f c a s = some (r, a', s') ∧ 0 ≤ r ∧ r ≤ 255 ∧ Src c a' s' (B + 1) := by
  obtain ⟨hc, h0, h1, h2, h3⟩ := h
  unfold spec_l00Src_byte.f
  rw [if_pos (by omega)]
  by_cases hlt : a < (c.length : Int)
  · have hm : rd c a ∈ c := by
      have : a.toNat < c.length := by omega
      simp only [rd, List.getD_eq_getElem?_getD, List.getElem?_eq_getElem this, Option.getD_some]
      exact List.getElem_mem this
    have hr := hc _ hm
    rw [if_pos hlt, if_pos hr]
    exact ⟨_, _, _, rfl, hr.1, hr.2, hc, by omega, by omega, by omega, by omega⟩
  · rw [if_neg hlt]
    split
    · exact ⟨_, _, _, rfl, by omega, by omega, hc, by omega, by omega, by omega, by omega⟩
    · exact ⟨_, _, _, rfl, by omega, by omega, hc, by omega, by omega, by omega, by omega⟩
theorem tmod_range (x m : Int) (hx : 0 ≤ x) (hm : 2 ≤ m) : 0 ≤ Int.tmod x m ∧ Int.tmod x m < m := by
  rw [Int.tmod_eq_emod_of_nonneg hx]
  exact ⟨Int.emod_nonneg _ (by omega), Int.emod_lt_of_pos _ (by omega)⟩
theorem src_next {c : List Int} {a s B : Int} (h : Src c a s B) (hB : B + 3 ≤ 4611686018427387904) (m : Int) :
    ∃ r a' s', spec_l00Src_next.f c a s m = some (r, a', s') ∧ 0 ≤ r ∧ (r < m ∨ r = 0) ∧ Src c a' s' (B + 3) := by
  unfold spec_l00Src_next.f
  by_cases h1 : m ≤ 1
  · rw [if_pos h1]; exact ⟨_, _, _, rfl, by omega, .inr rfl, h.up (by omega)⟩
  rw [if_neg h1]
  by_cases h2 : m ≤ 256
  · rw [if_pos h2]
    obtain ⟨r, a', s', e, r0, r1, hs⟩ := src_byte h (by omega)
    rw [e]
    simp only [Option.bind_some]
    rw [if_neg (by omega)]
    have := tmod_range r m r0 (by omega)
    exact ⟨_, _, _, rfl, this.1, .inl this.2, hs.up (by omega)⟩
  · rw [if_neg h2]
    obtain ⟨r, a', s', e, r0, r1, hs⟩ := src_byte h (by omega)
    rw [e]
    simp only [Option.bind_some]
    obtain ⟨q, a', s', e, q0, q1, hs⟩ := src_byte hs (by omega)
    rw [e]
    simp only [Option.bind_some]
    obtain ⟨p, a', s', e, p0, p1, hs⟩ := src_byte hs (by omega)
    rw [e]
    simp only [Option.bind_some]
    rw [if_neg (by omega)]
    have hw : 0 ≤ wrap64 (wrap64 (wrap64 (r * 65536) + wrap64 (q * 256)) + p) := by
      rw [wrap_in (r * 65536) (by omega), wrap_in (q * 256) (by omega), wrap_in (r * 65536 + q * 256) (by omega), wrap_in (r * 65536 + q * 256 + p) (by omega)]; omega
    have := tmod_range _ m hw (by omega)
    exact ⟨_, _, _, rfl, this.1, .inl this.2, hs.up (by omega)⟩
theorem rd_mem {l : List Int} {i : Int} (h0 : 0 ≤ i) (h1 : i < l.length) : rd l i ∈ l := by
  have : i.toNat < l.length := by omega
  simp only [rd, List.getD_eq_getElem?_getD, List.getElem?_eq_getElem this, Option.getD_some]
  exact List.getElem_mem this
theorem rdOf_mem {α : Type} {d : α} {l : List α} {i : Int} (h0 : 0 ≤ i) (h1 : i < l.length) : rdOf d l i ∈ l := by
  have : i.toNat < l.length := by omega
  simp only [rdOf, List.getD_eq_getElem?_getD, List.getElem?_eq_getElem this, Option.getD_some]
  exact List.getElem_mem this
theorem src_pick {c : List Int} {a s B : Int} (h : Src c a s B) (hB : B + 3 ≤ 4611686018427387904) (l : List ByteArray) (hl : l ≠ []) :
    ∃ r a' s', spec_l00Src_pick.f c a s l = some (r, a', s') ∧ r ∈ l ∧ Src c a' s' (B + 3) := by
  unfold spec_l00Src_pick.f
  have hp : 0 < l.length := List.length_pos_iff.2 hl
  rw [if_neg (by omega)]
  obtain ⟨r, a', s', e, r0, r1, hs⟩ := src_next h hB (l.length : Int)
  rw [e]
  simp only [Option.bind_some]
  rw [if_pos r0, if_pos (by omega)]
  exact ⟨_, _, _, rfl, rdOf_mem r0 (by omega), hs⟩
end Go.Proofs.Ytfbclbbhomhfaaa.Pure
end

section
/- What value, word and odd of a source give. -/
namespace Go.Proofs.Ytfbclbbhomhfaaa.Pure
open Go.RowKit Go.Proofs.Ytfbclbbhomhfaaa.X Go.Proofs.YtfbclbbhomhfaaaW.PrintWords Go.Proofs.YtfbclbbhomhfaaaW.PrintLast
theorem src_odd {c : List Int} {a s B : Int} (h : Src c a s B) (hB : B + 3 ≤ 4611686018427387904) :
    ∃ r a' s', spec_l00Src_odd.f c a s = some (r, a', s') ∧ (-9223372036854775808 ≤ r ∧ r ≤ 9223372036854775807) ∧ Src c a' s' (B + 3) := by
  unfold spec_l00Src_odd.f
  obtain ⟨r, a', s', e, r0, r1, hs⟩ := src_next h hB 12
  simp only [Option.bind_some]
  rw [e]
  simp only [Option.bind_some]
  have hl : (([0, (-1), 1, 2, 63, 64, 65, 4096, 4097, 9223372036854775807, (-9223372036854775808), 30] : List Int).length : Int) = 12 := rfl
  rw [if_pos r0, if_pos (by rw [hl]; omega)]
  refine ⟨_, _, _, rfl, ?_, hs⟩
  have hm := rd_mem (l := [0, (-1), 1, 2, 63, 64, 65, 4096, 4097, 9223372036854775807, (-9223372036854775808), 30]) r0 (by rw [hl]; omega)
  revert hm
  generalize rd _ r = x
  intro hm
  simp only [List.mem_cons, List.not_mem_nil, or_false] at hm
  omega
theorem src_word {c : List Int} {a s B : Int} (h : Src c a s B) (hB : B + 3 ≤ 4611686018427387904) :
    ∃ r a' s', spec_l00Src_word.f c a s = some (r, a', s') ∧ r.size ≤ 4 ∧ Src c a' s' (B + 3) := by
  unfold spec_l00Src_word.f
  obtain ⟨r, a', s', e, hm, hs⟩ := src_pick h hB _ (List.cons_ne_nil (⟨#[]⟩ : ByteArray) [(⟨#[97]⟩ : ByteArray), (⟨#[98]⟩ : ByteArray), (⟨#[111, 112, 101, 110]⟩ : ByteArray), (⟨#[97, 110, 110]⟩ : ByteArray), (⟨#[105, 116, 39, 115]⟩ : ByteArray), (⟨#[0]⟩ : ByteArray), (⟨#[97, 0, 98]⟩ : ByteArray), (⟨#[255]⟩ : ByteArray), (⟨#[100, 111, 110, 101]⟩ : ByteArray)])
  rw [e]
  refine ⟨r, a', s', rfl, ?_, hs⟩
  simp only [List.mem_cons, List.not_mem_nil, or_false] at hm
  rcases hm with rfl | rfl | rfl | rfl | rfl | rfl | rfl | rfl | rfl | rfl <;> decide
theorem src_value {c : List Int} {a s B : Int} (h : Src c a s B) (hB : B + 20 ≤ 4611686018427387904) (k : Nat) :
    ∃ x y t a' s', spec_l00Src_value.f (k + 1) c a s = some (x, y, t, a', s') ∧ vok x y t = true ∧ (-9223372036854775808 ≤ y ∧ y ≤ 9223372036854775807) ∧ 0 ≤ x ∧ x ≤ 4 ∧ t.size ≤ 4 ∧ Src c a' s' (B + 15) := by
  unfold spec_l00Src_value.f
  obtain ⟨r, a', s', e, r0, r1, hs⟩ := src_next h (by omega) 6
  rw [e]
  simp only [Option.bind_some]
  by_cases c0 : r = 0
  · rw [if_pos c0]; exact ⟨_, _, _, _, _, rfl, by decide, by omega, by omega, by omega, by decide, hs.up (by omega)⟩
  rw [if_neg c0]
  by_cases c1 : r = 1
  · rw [if_pos c1]
    obtain ⟨q, a', s', e, q0, q1, hs⟩ := src_next hs (by omega) 2
    rw [e]
    simp only [Option.bind_some]
    refine ⟨_, _, _, _, _, rfl, ?_, by omega, by omega, by omega, by decide, hs.up (by omega)⟩
    rcases (show q = 0 ∨ q = 1 by omega) with rfl | rfl <;> decide
  rw [if_neg c1]
  have hj : ∀ b : Bool, (b = true ↔ (r = 2 ∨ r = 3)) → ∃ x y t a'' s'', spec_l00Src_value.j0 (k + 1) r b c a' s' = some (x, y, t, a'', s'') ∧ vok x y t = true ∧ (-9223372036854775808 ≤ y ∧ y ≤ 9223372036854775807) ∧ 0 ≤ x ∧ x ≤ 4 ∧ t.size ≤ 4 ∧ Src c a'' s'' (B + 15) := by
    intro b hb
    simp only [spec_l00Src_value.j0]
    cases b with
    | true =>
      rw [if_pos rfl]
      obtain ⟨x1, a1, s1, e1, _, _, hs⟩ := src_next hs (by omega) 10
      rw [e1]; simp only [Option.bind_some]
      obtain ⟨x2, a2, s2, e2, _, _, hs⟩ := src_next hs (by omega) 10
      rw [e2]; simp only [Option.bind_some]
      obtain ⟨x3, a3, s3, e3, _, hs⟩ := src_odd hs (by omega)
      rw [e3]; simp only [Option.bind_some]
      obtain ⟨x4, a4, s4, e4, _, _, hs⟩ := src_next hs (by omega) 3
      rw [e4]; simp only [Option.bind_some]
      rw [if_pos (by assumption), if_pos (by simp only [List.length_cons, List.length_nil]; omega)]
      refine ⟨_, _, _, _, _, rfl, by simp [vok]; rfl, ?_, by omega, by omega, by decide, hs.up (by omega)⟩
      have hm := rd_mem (l := [x1, wrap64 (x2 - 5), x3]) (i := x4) (by assumption) (by simp only [List.length_cons, List.length_nil]; omega)
      generalize rd _ x4 = z at hm
      have hw := wrap_range (x2 - 5)
      simp only [List.mem_cons, List.not_mem_nil, or_false] at hm
      rcases hm with rfl | rfl | rfl <;> omega
    | false =>
      rw [if_neg (by decide)]
      obtain ⟨t, a1, s1, e1, ht, hs⟩ := src_word hs (by omega)
      rw [e1]
      have h60 : decide (t.size ≤ 60) = true := by simp; omega
      by_cases c4 : r = 4
      · rw [if_pos c4]; exact ⟨_, _, _, _, _, rfl, by simp [vok, h60], by omega, by omega, by omega, ht, hs.up (by omega)⟩
      · rw [if_neg c4]; exact ⟨_, _, _, _, _, rfl, by simp [vok, h60], by omega, by omega, by omega, ht, hs.up (by omega)⟩
  by_cases c2 : r = 2
  · rw [if_pos c2]; exact hj _ (by simp [c2])
  · rw [if_neg c2]; exact hj _ (by simp [c2])
theorem value_of {c : List Int} (h : ∀ x ∈ c, (Lit.int .u8 x).wf = true) (k : Nat) :
    ∃ x y t, spec_ValueOf.f (k + 1) c = some (x, y, t) ∧ vok x y t = true ∧ (-9223372036854775808 ≤ y ∧ y ≤ 9223372036854775807) ∧ t.size ≤ 4 := by
  have e2 : spec_ValueOf.f (k + 1) c = (spec_l00Src_value.f (k + 1) c 0 ((c.length : Int) % 1000)).bind fun b => some (b.1, b.2.1, b.2.2.1) := by
    unfold spec_ValueOf.f
    rw [show spec_l00Source.f c = some (c, 0, (c.length : Int) % 1000) from by unfold spec_l00Source.f; exact Eq.refl _]
    exact Option.bind_some _ _
  obtain ⟨x, y, t, a', s', e, hv, hy, _, _, ht, _⟩ := src_value (src_new h) (by decide) k
  rw [e2, e]
  exact ⟨x, y, t, rfl, hv, hy, ht⟩
end Go.Proofs.Ytfbclbbhomhfaaa.Pure
end

section
/- A place out of bytes. -/
namespace Go.Proofs.Ytfbclbbhomhfaaa.Pure
open Go.RowKit Go.Proofs.Ytfbclbbhomhfaaa.X Go.Proofs.YtfbclbbhomhfaaaW.PrintWords Go.Proofs.YtfbclbbhomhfaaaW.PrintLast
theorem rd_memz {c : List Int} {i : Int} (h0 : 0 ≤ i) (h1 : i < (c.length : Int)) : rd c i ∈ c := by
  have : i.toNat < c.length := by omega
  simp only [rd, List.getD_eq_getElem?_getD, List.getElem?_eq_getElem this, Option.getD_some]
  exact List.getElem_mem this
theorem at_some {l : List Int} (h : ∀ x ∈ l, (Lit.int .u8 x).wf = true) (i m : Int) (hi : 0 ≤ i) (hi2 : i ≤ 1000) (hm : 2 ≤ m) (hm2 : m ≤ 1000000) :
    ∃ r, laws_at.f l i m = some r ∧ 0 ≤ r ∧ r < m := by
  unfold laws_at.f
  rw [if_neg (show ¬ m ≤ 1 by omega)]
  by_cases h0 : (l.length : Int) = 0
  · rw [if_pos h0, if_neg (show ¬ m = 0 by omega), wrap_in (i * 7) (by omega)]
    exact ⟨_, rfl, tmod_range _ m (by omega) hm⟩
  have hp : (0 : Int) < (l.length : Int) := by omega
  rw [if_neg h0, wrap_in (i + 1) (by omega), Int.tmod_eq_emod_of_nonneg hi, Int.tmod_eq_emod_of_nonneg (show 0 ≤ i + 1 by omega)]
  have a0 := Int.emod_nonneg i h0
  have a1 := Int.emod_lt_of_pos i hp
  have b0 := Int.emod_nonneg (i + 1) h0
  have b1 := Int.emod_lt_of_pos (i + 1) hp
  rw [if_pos a0, if_pos a1, if_pos b0, if_pos b1, if_neg (show ¬ m = 0 by omega)]
  have ra := u8_of (h _ (rd_memz a0 a1))
  have rb := u8_of (h _ (rd_memz b0 b1))
  generalize rd l (i % (l.length : Int)) = p at ra
  generalize rd l ((i + 1) % (l.length : Int)) = q at rb
  have q0 : 0 ≤ Int.tdiv i (l.length : Int) := Int.tdiv_nonneg hi (by omega)
  have q1 : Int.tdiv i (l.length : Int) ≤ i := by
    rw [Int.tdiv_eq_ediv_of_nonneg hi]
    exact Int.ediv_le_self _ hi
  generalize Int.tdiv i (l.length : Int) = z at q0 q1
  rw [wrap_in p (by omega), wrap_in q (by omega), wrap_in z (by omega), wrap_in (p * 31) (by omega), wrap_in (p * 31 + q) (by omega), wrap_in (p * 31 + q + z) (by omega)]
  exact ⟨_, rfl, tmod_range _ m (by omega) hm⟩
end Go.Proofs.Ytfbclbbhomhfaaa.Pure
end

section
/- AddInts of both. -/
namespace Go.Proofs.Ytfbclbbhomhfaaa.Pure
open Go.RowKit Go.Proofs.Ytfbclbbhomhfaaa.X Go.Proofs.YtfbclbbhomhfaaaW.PrintWords Go.Proofs.YtfbclbbhomhfaaaW.PrintLast
theorem wrap_sum (a b : Int) (ha : -9223372036854775808 ≤ a ∧ a ≤ 9223372036854775807) (hb : -9223372036854775808 ≤ b ∧ b ≤ 9223372036854775807) :
    (a + b > 9223372036854775807 ∧ wrap64 (a + b) = a + b - 18446744073709551616) ∨ (a + b < -9223372036854775808 ∧ wrap64 (a + b) = a + b + 18446744073709551616) ∨
    (-9223372036854775808 ≤ a + b ∧ a + b ≤ 9223372036854775807 ∧ wrap64 (a + b) = a + b) := by
  unfold wrap64; omega
theorem spec_add (a b : Int) (ha : -9223372036854775808 ≤ a ∧ a ≤ 9223372036854775807) (hb : -9223372036854775808 ≤ b ∧ b ≤ 9223372036854775807) :
    spec_AddInts.f a b = if -9223372036854775808 ≤ a + b ∧ a + b ≤ 9223372036854775807 then some (a + b, 0) else some (0, 4) := by
  have h := wrap_sum a b ha hb
  unfold spec_AddInts.f spec_l12Add.f
  rcases h with ⟨h1, h2⟩ | ⟨h1, h2⟩ | ⟨h1, h2, h3⟩
  · rw [h2, if_neg (show ¬ (-9223372036854775808 ≤ a + b ∧ a + b ≤ 9223372036854775807) by omega), if_pos (show a > 0 by omega), if_pos (show b > 0 by omega), if_pos (by omega)]; rfl
  · rw [h2, if_neg (show ¬ (-9223372036854775808 ≤ a + b ∧ a + b ≤ 9223372036854775807) by omega), if_neg (show ¬ a > 0 by omega), if_pos (show a < 0 by omega), if_pos (show b < 0 by omega)]
    have : decide (a + b + 18446744073709551616 ≥ 0) = true := by simp; omega
    simp [this]
  · rw [h3, if_pos (show -9223372036854775808 ≤ a + b ∧ a + b ≤ 9223372036854775807 by omega)]
    by_cases c1 : a > 0
    · rw [if_pos c1]
      by_cases c2 : b > 0
      · rw [if_pos c2, if_neg (by omega), if_neg (by omega)]; rfl
      · rw [if_neg c2, if_neg (by omega)]; rfl
    · rw [if_neg c1]
      by_cases c3 : a < 0
      · rw [if_pos c3]
        by_cases c4 : b < 0
        · rw [if_pos c4]
          have : decide (a + b ≥ 0) = false := by simp; omega
          simp [this]
        · rw [if_neg c4]; rfl
      · rw [if_neg c3]; rfl
theorem impl_add (a b : Int) (ha : -9223372036854775808 ≤ a ∧ a ≤ 9223372036854775807) (hb : -9223372036854775808 ≤ b ∧ b ≤ 9223372036854775807) :
    impl_AddInts.f a b = if -9223372036854775808 ≤ a + b ∧ a + b ≤ 9223372036854775807 then some (a + b, 0) else some (0, 4) := by
  have h := wrap_sum a b ha hb
  unfold impl_AddInts.f
  rcases h with ⟨h1, h2⟩ | ⟨h1, h2⟩ | ⟨h1, h2, h3⟩
  · rw [h2, if_neg (show ¬ (-9223372036854775808 ≤ a + b ∧ a + b ≤ 9223372036854775807) by omega), if_neg]
    rw [decide_eq_false (show ¬ (a + b - 18446744073709551616 > a) by omega), decide_eq_true (show b > 0 by omega)]; decide
  · rw [h2, if_neg (show ¬ (-9223372036854775808 ≤ a + b ∧ a + b ≤ 9223372036854775807) by omega), if_neg]
    rw [decide_eq_true (show (a + b + 18446744073709551616 > a) by omega), decide_eq_false (show ¬ b > 0 by omega)]; decide
  · rw [h3, if_pos (show -9223372036854775808 ≤ a + b ∧ a + b ≤ 9223372036854775807 by omega), if_pos]
    rw [beq_iff_eq, decide_eq_decide]; omega
end Go.Proofs.Ytfbclbbhomhfaaa.Pure
end

section
/- MulInts of both. -/
namespace Go.Proofs.Ytfbclbbhomhfaaa.Pure
open Go.RowKit Go.Proofs.Ytfbclbbhomhfaaa.X Go.Proofs.YtfbclbbhomhfaaaW.PrintWords Go.Proofs.YtfbclbbhomhfaaaW.PrintLast
/-! The reference. -/
theorem spec_mul (a b : Int) (ha : -9223372036854775808 ≤ a ∧ a ≤ 9223372036854775807) (hb : -9223372036854775808 ≤ b ∧ b ≤ 9223372036854775807) :
    spec_MulInts.f a b = if -9223372036854775808 ≤ a * b ∧ a * b ≤ 9223372036854775807 then some (a * b, 0) else some (0, 4) := by
  unfold spec_MulInts.f spec_l12Mul.f
  by_cases ha0 : a = 0
  · subst ha0; simp
  by_cases hb0 : b = 0
  · subst hb0; simp
  rw [if_neg (show ¬ (a = 0 ∨ b = 0) by omega)]
  by_cases hin : -9223372036854775808 ≤ a * b ∧ a * b ≤ 9223372036854775807
  · rw [if_pos hin, wrap_in _ hin, Int.mul_tdiv_cancel _ hb0, wrap_in _ ha]
    have h1 : ¬ (a = -1 ∧ b = -9223372036854775808) := by rintro ⟨rfl, rfl⟩; omega
    have h2 : ¬ (b = -1 ∧ a = -9223372036854775808) := by rintro ⟨rfl, rfl⟩; omega
    rw [if_pos ⟨rfl, h1, h2⟩]; rfl
  · rw [if_neg hin]
    have hneg : ¬ (wrap64 (Int.tdiv (wrap64 (a * b)) b) = a ∧ ¬ (a = -1 ∧ b = -9223372036854775808) ∧ ¬ (b = -1 ∧ a = -9223372036854775808)) := by
      by_cases hb1 : b = -1
      · subst hb1
        have hA : a = -9223372036854775808 := by omega
        subst hA
        simp
      · have hw := wrap_range (a * b)
        generalize wrap64 (a * b) = n at hw
        rintro ⟨he, -⟩
        have hn : (Int.tdiv n b).natAbs = n.natAbs / b.natAbs := Int.natAbs_tdiv n b
        have hle : n.natAbs / b.natAbs ≤ n.natAbs := Nat.div_le_self _ _
        have hr : -9223372036854775808 ≤ Int.tdiv n b ∧ Int.tdiv n b ≤ 9223372036854775807 := by
          by_cases hb2 : b = 1
          · subst hb2; rw [Int.tdiv_one]; exact hw
          · have h2 : n.natAbs / b.natAbs ≤ n.natAbs / 2 := Nat.div_le_div_left (by omega) (by decide)
            omega
        rw [wrap_in _ hr] at he
        have hm : Int.tmod n b = n - b * Int.tdiv n b := Int.tmod_def n b
        rw [he, Int.mul_comm b a] at hm
        have h3 : (Int.tmod n b).natAbs ≤ n.natAbs := by rw [Int.natAbs_tmod]; exact Nat.mod_le _ _
        have h4 : 0 ≤ n → 0 ≤ Int.tmod n b := fun h => Int.tmod_nonneg b h
        have h5 : n ≤ 0 → Int.tmod n b ≤ 0 := fun h => by
          have := Int.tmod_nonneg b (a := -n) (by omega)
          rw [Int.neg_tmod] at this; omega
        omega
    rw [if_neg hneg]; rfl

/-! The program. -/
theorem mul64 (x y : Int) (hx : 0 ≤ x ∧ x ≤ 9223372036854775808) (hy : 0 ≤ y ∧ y ≤ 9223372036854775808) :
    bits_Mul64.f x y = some (x * y / 18446744073709551616, x * y % 18446744073709551616) := by
  have hmask : ∀ z : Int, 0 ≤ z → z < 18446744073709551616 → Go.bits .and .u64 z 4294967295 = z % 4294967296 := by
    intro z h0 h1
    obtain ⟨n, rfl⟩ := Int.eq_ofNat_of_zero_le h0
    have := bits_and_u64_nat n 4294967295 (by omega) (by decide)
    rw [show ((4294967295 : Nat) : Int) = 4294967295 from rfl] at this
    rw [this, show (4294967295 : Nat) = 2 ^ 32 - 1 from rfl, Nat.and_two_pow_sub_one_eq_mod]
    omega
  have hA0 : 0 ≤ x / 4294967296 ∧ x / 4294967296 ≤ 2147483648 := by omega
  have hB0 : 0 ≤ y / 4294967296 ∧ y / 4294967296 ≤ 2147483648 := by omega
  have hC0 : 0 ≤ x % 4294967296 ∧ x % 4294967296 ≤ 4294967295 := by omega
  have hD0 : 0 ≤ y % 4294967296 ∧ y % 4294967296 ≤ 4294967295 := by omega
  have hprod : x * y = (x / 4294967296) * (y / 4294967296) * 18446744073709551616 + ((x / 4294967296) * (y % 4294967296) + (x % 4294967296) * (y / 4294967296)) * 4294967296 + (x % 4294967296) * (y % 4294967296) := by
    have hx' : x = 4294967296 * (x / 4294967296) + x % 4294967296 := by omega
    have hy' : y = 4294967296 * (y / 4294967296) + y % 4294967296 := by omega
    generalize x / 4294967296 = p at *
    generalize x % 4294967296 = q at *
    generalize y / 4294967296 = r at *
    generalize y % 4294967296 = s at *
    subst hx' hy'
    grind
  have bound : ∀ (u v U V : Int), 0 ≤ u → u ≤ U → 0 ≤ v → v ≤ V → 0 ≤ u * v ∧ u * v ≤ U * V := fun u v U V h1 h2 h3 h4 =>
    ⟨Int.mul_nonneg h1 h3, Int.mul_le_mul h2 h4 h3 (by omega)⟩
  have bA := bound _ _ _ _ hA0.1 hA0.2 hB0.1 hB0.2
  have bB := bound _ _ _ _ hA0.1 hA0.2 hD0.1 hD0.2
  have bC := bound _ _ _ _ hC0.1 hC0.2 hB0.1 hB0.2
  have bD := bound _ _ _ _ hC0.1 hC0.2 hD0.1 hD0.2
  unfold bits_Mul64.f
  rw [hmask x hx.1 (by omega), hmask y hy.1 (by omega), hprod]
  generalize (x / 4294967296) * (y / 4294967296) = A at *
  generalize (x / 4294967296) * (y % 4294967296) = B at *
  generalize (x % 4294967296) * (y / 4294967296) = C at *
  generalize (x % 4294967296) * (y % 4294967296) = D at *
  simp only [IntKind.wrap_u64]
  rw [hmask _ (by omega) (by omega)]
  congr 2
  omega
theorem size_is (a : Int) (ha : -9223372036854775808 ≤ a ∧ a ≤ 9223372036854775807) : impl_size.f a = some (if a < 0 then -a else a) := by
  unfold impl_size.f
  simp only [IntKind.wrap_u64]
  split
  · congr 1; omega
  · congr 1; omega
theorem impl_mul (a b : Int) (ha : -9223372036854775808 ≤ a ∧ a ≤ 9223372036854775807) (hb : -9223372036854775808 ≤ b ∧ b ≤ 9223372036854775807) :
    impl_MulInts.f a b = if -9223372036854775808 ≤ a * b ∧ a * b ≤ 9223372036854775807 then some (a * b, 0) else some (0, 4) := by
  have hx : 0 ≤ (if a < 0 then -a else a) ∧ (if a < 0 then -a else a) ≤ 9223372036854775808 := by split <;> omega
  have hy : 0 ≤ (if b < 0 then -b else b) ∧ (if b < 0 then -b else b) ≤ 9223372036854775808 := by split <;> omega
  have hs : ((decide (a < 0)) == (decide (b < 0))) = true ∧ a * b = (if a < 0 then -a else a) * (if b < 0 then -b else b) ∨
      ((decide (a < 0)) == (decide (b < 0))) = false ∧ a * b = -((if a < 0 then -a else a) * (if b < 0 then -b else b)) := by
    by_cases c1 : a < 0 <;> by_cases c2 : b < 0 <;> simp [c1, c2, Int.neg_mul, Int.mul_neg]
  unfold impl_MulInts.f
  rw [size_is a ha, size_is b hb]
  simp only [Option.bind_some]
  rw [mul64 _ _ hx hy]
  have hP := Int.mul_nonneg hx.1 hy.1
  generalize (if a < 0 then -a else a) * (if b < 0 then -b else b) = p at *
  simp only [Option.bind_some]
  generalize ((decide (a < 0)) == (decide (b < 0))) = s at *
  rcases hs with ⟨rfl, e⟩ | ⟨rfl, e⟩
  · rw [e]
    by_cases h0 : p / 18446744073709551616 = 0
    · rw [if_pos h0]
      by_cases h1 : p % 18446744073709551616 > 9223372036854775808
      · rw [if_pos h1, if_neg (by omega)]
      · rw [if_neg h1]
        by_cases h2 : p % 18446744073709551616 = 9223372036854775808
        · rw [if_pos h2, if_pos rfl, if_neg (by omega)]
        · rw [if_neg h2, if_pos (by omega), wrap_in _ (by omega)]
    · rw [if_neg h0, if_neg (by omega)]
  · rw [e]
    by_cases h0 : p / 18446744073709551616 = 0
    · rw [if_pos h0]
      by_cases h1 : p % 18446744073709551616 > 9223372036854775808
      · rw [if_pos h1, if_neg (by omega)]
      · rw [if_neg h1]
        by_cases h2 : p % 18446744073709551616 = 9223372036854775808
        · rw [if_pos h2, if_neg (by decide), if_pos (by omega), wrap_in _ (by omega)]
        · rw [if_neg h2, if_pos (by omega), wrap_in _ (by omega)]
    · rw [if_neg h0, if_neg (by omega)]
end Go.Proofs.Ytfbclbbhomhfaaa.Pure
end

section
/- DivInts of both. -/
namespace Go.Proofs.Ytfbclbbhomhfaaa.Pure
open Go.RowKit Go.Proofs.Ytfbclbbhomhfaaa.X Go.Proofs.YtfbclbbhomhfaaaW.PrintWords Go.Proofs.YtfbclbbhomhfaaaW.PrintLast
theorem tdiv_range (a b : Int) (ha : -9223372036854775808 ≤ a ∧ a ≤ 9223372036854775807) (h0 : b ≠ 0) (h1 : ¬ (a = -9223372036854775808 ∧ b = -1)) :
    -9223372036854775808 ≤ Int.tdiv a b ∧ Int.tdiv a b ≤ 9223372036854775807 := by
  have hn : (Int.tdiv a b).natAbs = a.natAbs / b.natAbs := Int.natAbs_tdiv a b
  by_cases hb1 : b = -1
  · subst hb1
    have : Int.tdiv a (-1) = -a := by rw [Int.tdiv_neg, Int.tdiv_one]
    rw [this]; omega
  · by_cases hb2 : b = 1
    · subst hb2; rw [Int.tdiv_one]; exact ha
    · have h2 : a.natAbs / b.natAbs ≤ a.natAbs / 2 := Nat.div_le_div_left (by omega) (by decide)
      omega
theorem spec_div (a b : Int) (ha : -9223372036854775808 ≤ a ∧ a ≤ 9223372036854775807) (hb : -9223372036854775808 ≤ b ∧ b ≤ 9223372036854775807) (h0 : b ≠ 0) (h1 : ¬ (a = -9223372036854775808 ∧ b = -1)) :
    spec_DivInts.f a b = some (Int.tdiv a b, Int.tmod a b, 0) := by
  have hr := tdiv_range a b ha h0 h1
  have hm : Int.tmod a b = a - Int.tdiv a b * b := by rw [Int.tmod_def, Int.mul_comm]
  have hprod : wrap64 (Int.tdiv a b * b) = Int.tdiv a b * b ∧ wrap64 (a - Int.tdiv a b * b) = Int.tmod a b := by
    have h3 : (Int.tmod a b).natAbs ≤ a.natAbs := by
      rw [Int.natAbs_tmod]; exact Nat.mod_le _ _
    have h4 : 0 ≤ a → 0 ≤ Int.tmod a b := fun h => Int.tmod_nonneg b h
    have h5 : a ≤ 0 → Int.tmod a b ≤ 0 := fun h => by
      have := Int.tmod_nonneg b (a := -a) (by omega)
      rw [Int.neg_tmod] at this; omega
    have h6 : Int.tdiv a b * b = a - Int.tmod a b := by omega
    rw [h6]
    refine ⟨wrap_in _ (by omega), ?_⟩
    rw [show a - (a - Int.tmod a b) = Int.tmod a b by omega]; exact wrap_in _ (by omega)
  unfold spec_DivInts.f spec_l12Least.f
  rw [if_neg h0, wrap_in _ hr, hprod.1, hprod.2]
  by_cases h2 : b = -1
  · rw [if_pos h2]; simp only [Option.bind_some]; rw [if_neg (by omega)]
  · rw [if_neg h2]
theorem impl_div (a b : Int) (ha : -9223372036854775808 ≤ a ∧ a ≤ 9223372036854775807) (hb : -9223372036854775808 ≤ b ∧ b ≤ 9223372036854775807) (h0 : b ≠ 0) (h1 : ¬ (a = -9223372036854775808 ∧ b = -1)) :
    impl_DivInts.f a b = some (Int.tdiv a b, Int.tmod a b, 0) := by
  have hr := tdiv_range a b ha h0 h1
  unfold impl_DivInts.f
  rw [if_neg h0, wrap_in _ hr]
  by_cases h2 : a = -9223372036854775808
  · rw [if_pos h2, if_neg (by omega)]
  · rw [if_neg h2]
end Go.Proofs.Ytfbclbbhomhfaaa.Pure
end

section
/- The order of two values and the level of a sign. -/
namespace Go.Proofs.Ytfbclbbhomhfaaa.Pure
open Go.RowKit Go.Proofs.Ytfbclbbhomhfaaa.X Go.Proofs.YtfbclbbhomhfaaaW.PrintWords Go.Proofs.YtfbclbbhomhfaaaW.PrintLast
theorem cmp_int_is (a b : Int) : cmp_Compare_int.f a b = some (cmpInt a b) := by
  unfold cmp_Compare_int.f cmp_isNaN_int.f cmpInt
  simp only [bne_self_eq_false, Option.bind_some, Bool.false_eq_true, if_false]
  split
  · rfl
  · split <;> rfl
theorem cmp_str_is (a b : ByteArray) : cmp_Compare_string.f a b = some (cmpStr a b) := by
  unfold cmp_Compare_string.f cmp_isNaN_string.f cmpStr
  simp only [bne_self_eq_false, Option.bind_some, Bool.false_eq_true, if_false]
  split
  · rfl
  · split <;> rfl
theorem or_three (k : Nat) (a b c : Int) : cmp_Or_int.f (k + 4) [a, b, c] = some (if a ≠ 0 then a else if b ≠ 0 then b else c) := by
  have h3 : (([a, b, c] : List Int).length : Int) = 3 := rfl
  have r0 : rd [a, b, c] 0 = a := rfl
  have r1 : rd [a, b, c] 1 = b := rfl
  have r2 : rd [a, b, c] 2 = c := rfl
  have w1 : wrap64 (0 + 1) = 1 := wrap_in _ (by omega)
  have w2 : wrap64 (1 + 1) = 2 := wrap_in _ (by omega)
  have w3 : wrap64 (2 + 1) = 3 := wrap_in _ (by omega)
  unfold cmp_Or_int.f
  rw [h3]
  show cmp_Or_int.l0 (k + 3 + 1) 0 [a, b, c] 3 0 = _
  rw [cmp_Or_int.l0, if_pos (by decide), if_pos (by decide), h3, if_pos (by decide), r0, w1]
  by_cases ha : a = 0
  · rw [if_pos ha, if_neg (by simpa using ha), cmp_Or_int.l0, if_pos (by decide), if_pos (by decide), h3, if_pos (by decide), r1, w2]
    by_cases hb : b = 0
    · rw [if_pos hb, if_neg (by simpa using hb), cmp_Or_int.l0, if_pos (by decide), if_pos (by decide), h3, if_pos (by decide), r2, w3]
      by_cases hc : c = 0
      · rw [if_pos hc, cmp_Or_int.l0, if_neg (by decide), hc]
      · rw [if_neg hc]
    · rw [if_neg hb, if_pos hb]
  · rw [if_neg ha, if_pos ha]
theorem impl_cmp (k : Nat) (hk : 4 ≤ k) (a b : Int) (c : ByteArray) (x y : Int) (z : ByteArray) :
    impl_compareValues.f k a b c x y z = some (cmpVal (a, b, c) (x, y, z)) := by
  obtain ⟨k, rfl⟩ : ∃ m, k = m + 4 := ⟨k - 4, by omega⟩
  unfold impl_compareValues.f
  rw [cmp_int_is, cmp_int_is, cmp_str_is]
  simp only [Option.bind_some]
  rw [or_three]
  rfl
theorem sign_int (a b : Int) (h : a ≠ b) : spec_l01Sign.f (decide (a < b)) false = some (cmpInt a b) := by
  unfold spec_l01Sign.f cmpInt
  by_cases c : a < b
  · rw [if_pos (by simpa using c), if_pos c]
  · rw [if_neg (by simpa using c), if_neg c, if_neg (by decide), if_pos (by omega)]
theorem sign_str (a b : ByteArray) : spec_l01Sign.f (Op.bytesLess a.toList b.toList) (a.toList == b.toList) = some (cmpStr a b) := by
  unfold spec_l01Sign.f cmpStr
  rw [← lt_turn a.toList b.toList]
  cases Op.bytesLess a.toList b.toList <;> cases (a.toList == b.toList) <;> rfl
theorem spec_cmp (a b : Int) (c : ByteArray) (x y : Int) (z : ByteArray) :
    spec_l01Compare.f a b c x y z = some (cmpVal (a, b, c) (x, y, z)) := by
  unfold spec_l01Compare.f cmpVal
  have h0 : ∀ n : Int, cmpInt n n = 0 := fun n => by unfold cmpInt; rw [if_neg (by omega), if_neg (by omega)]
  have h1 : ∀ n m : Int, n ≠ m → cmpInt n m ≠ 0 := fun n m h => by
    unfold cmpInt
    by_cases c : n < m
    · rw [if_pos c]; decide
    · rw [if_neg c, if_pos (by omega)]; decide
  by_cases e1 : a = x
  · subst e1
    by_cases e2 : b = y
    · subst e2
      simp [h0, sign_str]
    · simp [h0, e2, h1 _ _ e2, sign_int _ _ e2]
  · simp [e1, h1 _ _ e1, sign_int _ _ e1]
/-- The level of a sign. -/
def lvl (s : List UInt8) : Int :=
  if s = [111, 114] then 1 else if s = [97, 110, 100] then 2
  else if s = [61] ∨ s = [60, 62] ∨ s = [60] ∨ s = [60, 61] ∨ s = [62] ∨ s = [62, 61] then 4
  else if s = [43] ∨ s = [45] then 5 else if s = [42] ∨ s = [47] ∨ s = [37] then 6 else 0
theorem spec_lvl (k : Nat) (hk : 2 ≤ k) (s : ByteArray) : spec_l10Level.f k s = some (lvl s.toList) := by
  obtain ⟨k, rfl⟩ : ∃ m, k = m + 2 := ⟨k - 2, by omega⟩
  unfold spec_l10Level.f lvl
  simp only [spec_l10Level.j0, spec_l10Level.j1]
  generalize s.toList = l
  by_cases c1 : l = [111, 114]
  · subst c1; first | rfl | simp
  by_cases c2 : l = [97, 110, 100]
  · subst c2; first | rfl | simp
  by_cases c3 : l = [61]
  · subst c3; first | rfl | simp
  by_cases c4 : l = [60, 62]
  · subst c4; first | rfl | simp
  by_cases c5 : l = [60]
  · subst c5; first | rfl | simp
  by_cases c6 : l = [60, 61]
  · subst c6; first | rfl | simp
  by_cases c7 : l = [62]
  · subst c7; first | rfl | simp
  by_cases c8 : l = [62, 61]
  · subst c8; first | rfl | simp
  by_cases c9 : l = [43]
  · subst c9; first | rfl | simp
  by_cases c10 : l = [45]
  · subst c10; first | rfl | simp
  by_cases c11 : l = [42]
  · subst c11; first | rfl | simp
  by_cases c12 : l = [47]
  · subst c12; first | rfl | simp
  by_cases c13 : l = [37]
  · subst c13; first | rfl | simp
  simp [c1, c2, c3, c4, c5, c6, c7, c8, c9, c10, c11, c12, c13]
theorem impl_lvl (k : Nat) (hk : 16 ≤ k) (s : ByteArray) : impl_levelOf.f k s = some (lvl s.toList) := by
  obtain ⟨k, rfl⟩ : ∃ m, k = m + 16 := ⟨k - 16, by omega⟩
  have step : ∀ (i : Int) (m : Nat) (l : List ByteArray), i < 7 → impl_operators.f i = some l → l.length ≤ 8 → 8 < m → impl_levelOf.l0 (m + 1) s i =
      if (l.any fun y => s.toList == y.toList) = true then some i else impl_levelOf.l0 m s (wrap64 (i + 1)) := by
    intro i m l hi ho hl hm
    rw [impl_levelOf.l0, if_pos hi, ho, Option.bind_some, contains_is l s (by omega) m (by omega), Option.bind_some]
  unfold impl_levelOf.f
  have e0 : impl_operators.f 0 = some [] := rfl
  have e1 : impl_operators.f 1 = some [(⟨#[111, 114]⟩ : ByteArray)] := rfl
  have e2 : impl_operators.f 2 = some [(⟨#[97, 110, 100]⟩ : ByteArray)] := rfl
  have e3 : impl_operators.f 3 = some [] := rfl
  have e4 : impl_operators.f 4 = some [(⟨#[61]⟩ : ByteArray), (⟨#[60, 62]⟩ : ByteArray), (⟨#[60]⟩ : ByteArray), (⟨#[60, 61]⟩ : ByteArray), (⟨#[62]⟩ : ByteArray), (⟨#[62, 61]⟩ : ByteArray)] := rfl
  have e5 : impl_operators.f 5 = some [(⟨#[43]⟩ : ByteArray), (⟨#[45]⟩ : ByteArray)] := rfl
  have e6 : impl_operators.f 6 = some [(⟨#[42]⟩ : ByteArray), (⟨#[47]⟩ : ByteArray), (⟨#[37]⟩ : ByteArray)] := rfl
  rw [step 0 (k + 15) _ (by decide) e0 (by decide) (by omega), show wrap64 (0 + 1) = 1 from wrap_in _ (by omega),
    step 1 (k + 14) _ (by decide) e1 (by decide) (by omega), show wrap64 (1 + 1) = 2 from wrap_in _ (by omega),
    step 2 (k + 13) _ (by decide) e2 (by decide) (by omega), show wrap64 (2 + 1) = 3 from wrap_in _ (by omega),
    step 3 (k + 12) _ (by decide) e3 (by decide) (by omega), show wrap64 (3 + 1) = 4 from wrap_in _ (by omega),
    step 4 (k + 11) _ (by decide) e4 (by decide) (by omega), show wrap64 (4 + 1) = 5 from wrap_in _ (by omega),
    step 5 (k + 10) _ (by decide) e5 (by decide) (by omega), show wrap64 (5 + 1) = 6 from wrap_in _ (by omega),
    step 6 (k + 9) _ (by decide) e6 (by decide) (by omega), show wrap64 (6 + 1) = 7 from wrap_in _ (by omega),
    impl_levelOf.l0, if_neg (show ¬ ((7 : Int) < 7) by decide)]
  simp only [List.any_cons, List.any_nil, toList_mk, Bool.or_false, Bool.or_eq_true, beq_iff_eq, Bool.false_eq_true, if_false]
  generalize s.toList = l
  unfold lvl
  by_cases c1 : l = [111, 114]
  · subst c1; first | rfl | simp
  rw [if_neg c1, if_neg c1]
  by_cases c2 : l = [97, 110, 100]
  · subst c2; first | rfl | simp
  rw [if_neg c2, if_neg c2]
  split
  · rfl
  split
  · rfl
  split <;> rfl
end Go.Proofs.Ytfbclbbhomhfaaa.Pure
end

section
/- Signs between two values: the program and the reference answer the same. -/
namespace Go.Proofs.Ytfbclbbhomhfaaa.Pure
open Go.RowKit Go.Proofs.Ytfbclbbhomhfaaa.X Go.Proofs.YtfbclbbhomhfaaaW.PrintWords Go.Proofs.YtfbclbbhomhfaaaW.PrintLast
theorem int_beq (p q : Int) : (p == q) = decide (p = q) := by by_cases h : p = q <;> simp [h]
theorem types_same (k : Nat) (hk : 3 ≤ k) (s : ByteArray) (hl : lvl s.toList ≠ 0) (a b : Int) (t : ByteArray) (x y : Int) (u : ByteArray) :
    ∃ T, spec_l12Types.f k s a b t x y u = some T ∧ impl_areKinds.f (lvl s.toList) a b t x y u = some T := by
  obtain ⟨k, rfl⟩ : ∃ m, k = m + 3 := ⟨k - 3, by omega⟩
  have hv : lvl s.toList = 1 ∨ lvl s.toList = 2 ∨ lvl s.toList = 4 ∨ lvl s.toList = 5 ∨ lvl s.toList = 6 := by
    revert hl
    unfold lvl
    split
    · simp
    split
    · simp
    split
    · simp
    split
    · simp
    split <;> simp
  unfold spec_l12Types.f impl_areKinds.f impl_isOf.f
  rw [spec_lvl _ (by omega)]
  simp only [Option.bind_some, spec_l12Types.j0]
  generalize lvl s.toList = L at hv
  clear hl
  rcases hv with rfl | rfl | rfl | rfl | rfl
  case inr.inr.inl =>
    by_cases a0 : a = 0
    · subst a0; exact ⟨_, rfl, rfl⟩
    by_cases x0 : x = 0
    · subst x0; simp [a0]
    by_cases e : a = x
    · subst e; simp [a0]
    · simp [a0, x0, e, Ne.symm e, int_beq]
  all_goals
    by_cases a0 : a = 0 <;> by_cases a1 : a = 1 <;> by_cases a2 : a = 2 <;> by_cases x0 : x = 0 <;> by_cases x1 : x = 1 <;> by_cases x2 : x = 2 <;>
      first | (exfalso; omega) | (simp [a0, a1, a2, x0, x1, x2, int_beq]; done)
theorem logic_same (k k2 : Nat) (hk : 3 ≤ k) (hk2 : 3 ≤ k2) (s : ByteArray) (hl : lvl s.toList = 1 ∨ lvl s.toList = 2) (a b : Int) (t : ByteArray) (x y : Int) (u : ByteArray) :
    ∃ r, spec_l12Logic.f k s a b t x y u = some r ∧ impl_logic.f k2 s a b t x y u = some r := by
  obtain ⟨k, rfl⟩ : ∃ m, k = m + 1 := ⟨k - 1, by omega⟩
  obtain ⟨k2, rfl⟩ : ∃ m, k2 = m + 1 := ⟨k2 - 1, by omega⟩
  have hs : s.toList = [111, 114] ∨ s.toList = [97, 110, 100] := by
    revert hl
    unfold lvl
    split
    · simp_all
    split
    · simp_all
    split
    · simp
    split
    · simp
    split <;> simp
  have hb : ∀ c : Bool, impl_boolValue.f c = some (1, (if c = true then 1 else 0), (⟨#[]⟩ : ByteArray)) := fun c => by cases c <;> rfl
  have hc : ∀ c : Bool, spec_l12Bool.f c = some (1, (if c = true then 1 else 0), (⟨#[]⟩ : ByteArray)) := fun c => by cases c <;> rfl
  unfold spec_l12Logic.f impl_logic.f impl_isBool.f
  simp only [hb, hc, Option.bind_some, spec_l12Logic.j0, impl_logic.j0]
  rcases hs with hs | hs <;> rw [hs] <;> simp only [show ((([111, 114] : List UInt8) == [111, 114]) = true) from rfl, show ((([97, 110, 100] : List UInt8) == [111, 114]) = false) from rfl,
    show ((([111, 114] : List UInt8) == [97, 110, 100]) = false) from rfl, show ((([97, 110, 100] : List UInt8) == [97, 110, 100]) = true) from rfl, Bool.not_true, Bool.not_false]
  all_goals
    (repeat' split) <;> first | exact ⟨_, rfl, rfl⟩ | (exfalso; simp_all; done)
theorem arith_same (s : ByteArray) (a x : Int) (ha : -9223372036854775808 ≤ a ∧ a ≤ 9223372036854775807) (hx : -9223372036854775808 ≤ x ∧ x ≤ 9223372036854775807) (k : Nat) (b' : Int × ByteArray)
    (hl : lvl s.toList = 5 ∨ lvl s.toList = 6) (p q : Int) (t u : ByteArray) :
    ∃ r, spec_l12Binary.j0 (k + 3) s false p a t q x u = some r ∧
      ((impl_arithmetic.f s a x).bind fun bt114 => (if bt114.2 = 0 then (some (2, bt114.1, (⟨#[]⟩ : ByteArray), 0)) else (some (0, 0, (⟨#[]⟩ : ByteArray), bt114.2)))) = some r := by
  rw [spec_l12Binary.j0, if_neg (by decide), spec_lvl _ (by omega)]
  unfold impl_arithmetic.f spec_l12Int.f spec_l12Least.f
  simp only [Option.bind_some]
  rw [if_neg (by omega)]
  have hs : s.toList = [43] ∨ s.toList = [45] ∨ s.toList = [42] ∨ s.toList = [47] ∨ s.toList = [37] := by
    revert hl
    unfold lvl
    split
    · simp
    split
    · simp
    split
    · simp
    split
    · rename_i h; intro _; rcases h with h | h <;> simp [h]
    split
    · rename_i h; intro _; rcases h with h | h | h <;> simp [h]
    · simp
  clear hl
  have hadd : ∀ y, -9223372036854775808 ≤ y ∧ y ≤ 9223372036854775807 → spec_AddInts.f a y = impl_AddInts.f a y := fun y hy => by rw [spec_add a y ha hy, impl_add a y ha hy]
  have two : ∀ o : Option (Int × Int), (∃ v, o = some v) → ∃ r, (o.bind fun bt114 => if bt114.2 = 0 then (some bt114.1).bind fun bt116 => some (2, bt116, (⟨#[]⟩ : ByteArray), (0 : Int)) else some (0, 0, (⟨#[]⟩ : ByteArray), bt114.2)) = some r ∧
      ((o.bind fun bt => some (bt.1, bt.2)).bind fun bt114 => if bt114.2 = 0 then some (2, bt114.1, (⟨#[]⟩ : ByteArray), 0) else some (0, 0, (⟨#[]⟩ : ByteArray), bt114.2)) = some r := by
    rintro _ ⟨v, rfl⟩
    simp only [Option.bind_some]
    by_cases h : v.2 = 0
    · rw [if_pos h]; exact ⟨_, rfl, rfl⟩
    · rw [if_neg h]; exact ⟨_, rfl, rfl⟩
  have addS : ∀ y, -9223372036854775808 ≤ y ∧ y ≤ 9223372036854775807 → ∃ v, impl_AddInts.f a y = some v := fun y hy => by
    rw [impl_add a y ha hy]; split <;> exact ⟨_, rfl⟩
  have mulS : ∃ v, impl_MulInts.f a x = some v := by rw [impl_mul a x ha hx]; split <;> exact ⟨_, rfl⟩
  rcases hs with hs | hs | hs | hs | hs <;> rw [hs]
  · rw [if_pos rfl, if_pos rfl, hadd x hx]
    obtain ⟨v, e⟩ := addS x hx
    rw [e]; simp only [Option.bind_some]
    by_cases h : v.2 = 0
    · rw [if_pos h]; exact ⟨_, rfl, rfl⟩
    · rw [if_neg h]; exact ⟨_, rfl, rfl⟩
  · rw [if_neg (show ¬ ([45] : List UInt8) = [43] by decide), if_pos (show ([45] : List UInt8) = [45] from rfl), if_neg (show ¬ ([45] : List UInt8) = [43] by decide), if_pos (show ([45] : List UInt8) = [45] from rfl)]
    by_cases hm : x = -9223372036854775808
    · rw [if_pos hm, if_pos hm]
      by_cases h : a < 0
      · rw [if_neg (show ¬ a ≥ 0 by omega), if_pos h]; exact ⟨_, rfl, rfl⟩
      · rw [if_pos (show a ≥ 0 by omega), if_neg h]; exact ⟨_, rfl, rfl⟩
    · rw [if_neg hm, if_neg hm, hadd _ (wrap_range _)]
      obtain ⟨v, e⟩ := addS _ (wrap_range (-x))
      rw [e]; simp only [Option.bind_some]
      by_cases h : v.2 = 0
      · rw [if_pos h]; exact ⟨_, rfl, rfl⟩
      · rw [if_neg h]; exact ⟨_, rfl, rfl⟩
  · rw [if_neg (show ¬ ([42] : List UInt8) = [43] by decide), if_neg (show ¬ ([42] : List UInt8) = [45] by decide), if_pos (show ([42] : List UInt8) = [42] from rfl), if_neg (show ¬ ([42] : List UInt8) = [43] by decide), if_neg (show ¬ ([42] : List UInt8) = [45] by decide), if_pos (show ([42] : List UInt8) = [42] from rfl), spec_mul a x ha hx, ← impl_mul a x ha hx]
    obtain ⟨v, e⟩ := mulS
    rw [e]; simp only [Option.bind_some]
    by_cases h : v.2 = 0
    · rw [if_pos h]; exact ⟨_, rfl, rfl⟩
    · rw [if_neg h]; exact ⟨_, rfl, rfl⟩
  · rw [if_neg (show ¬ ([47] : List UInt8) = [43] by decide), if_neg (show ¬ ([47] : List UInt8) = [45] by decide), if_neg (show ¬ ([47] : List UInt8) = [42] by decide), if_pos (show ([47] : List UInt8) = [47] from rfl), if_neg (show ¬ ([47] : List UInt8) = [43] by decide), if_neg (show ¬ ([47] : List UInt8) = [45] by decide), if_neg (show ¬ ([47] : List UInt8) = [42] by decide), if_neg (show ¬ ([47] : List UInt8) = [37] by decide)]
    by_cases h0 : x = 0
    · subst h0
      rw [show spec_DivInts.f a 0 = some (0, 0, 13) from rfl, show impl_DivInts.f a 0 = some (0, 0, 13) from rfl]; exact ⟨_, rfl, rfl⟩
    by_cases h1 : a = -9223372036854775808 ∧ x = -1
    · obtain ⟨rfl, rfl⟩ := h1
      rw [show spec_DivInts.f (-9223372036854775808) (-1) = some (0, 0, 4) from rfl, show impl_DivInts.f (-9223372036854775808) (-1) = some (0, 0, 4) from rfl]; exact ⟨_, rfl, rfl⟩
    rw [spec_div a x ha hx h0 h1, impl_div a x ha hx h0 h1]; exact ⟨_, rfl, rfl⟩
  · rw [if_neg (show ¬ ([37] : List UInt8) = [43] by decide), if_neg (show ¬ ([37] : List UInt8) = [45] by decide), if_neg (show ¬ ([37] : List UInt8) = [42] by decide), if_neg (show ¬ ([37] : List UInt8) = [47] by decide), if_neg (show ¬ ([37] : List UInt8) = [43] by decide), if_neg (show ¬ ([37] : List UInt8) = [45] by decide), if_neg (show ¬ ([37] : List UInt8) = [42] by decide), if_pos (show ([37] : List UInt8) = [37] from rfl)]
    by_cases h0 : x = 0
    · subst h0
      rw [show spec_DivInts.f a 0 = some (0, 0, 13) from rfl, if_neg (by decide), show impl_DivInts.f a 0 = some (0, 0, 13) from rfl]; exact ⟨_, rfl, rfl⟩
    by_cases h1 : a = -9223372036854775808 ∧ x = -1
    · obtain ⟨rfl, rfl⟩ := h1
      rw [show spec_DivInts.f (-9223372036854775808) (-1) = some (0, 0, 4) from rfl, if_pos rfl]; exact ⟨_, rfl, rfl⟩
    rw [spec_div a x ha hx h0 h1]
    by_cases h2 : x = -1
    · subst h2
      rw [if_pos rfl]
      exact ⟨_, rfl, by rw [Int.tmod_neg, Int.tmod_one]; rfl⟩
    · rw [if_neg h2, impl_div a x ha hx h0 h1]; exact ⟨_, rfl, rfl⟩
theorem binary_same (k k2 : Nat) (s : ByteArray) (hl : lvl s.toList ≠ 0) (a b : Int) (t : ByteArray) (x y : Int) (u : ByteArray) (hb : -9223372036854775808 ≤ b ∧ b ≤ 9223372036854775807) (hy : -9223372036854775808 ≤ y ∧ y ≤ 9223372036854775807) :
    (spec_l12Types.f (k + 20) s a b t x y u = some false ∧ impl_binaryValue.f (k2 + 20) s a b t x y u = some (0, 0, (⟨#[]⟩ : ByteArray), 10)) ∨
    ∃ r, spec_l12Types.f (k + 20) s a b t x y u = some true ∧ spec_l12Binary.f (k + 20) s a b t x y u = some r ∧ impl_binaryValue.f (k2 + 20) s a b t x y u = some r := by
  obtain ⟨T, e1, e2⟩ := types_same (k + 20) (by omega) s hl a b t x y u
  cases T with
  | false => exact .inl ⟨e1, by unfold impl_binaryValue.f; rw [impl_lvl _ (by omega), Option.bind_some, e2, Option.bind_some, if_neg (by decide)]⟩
  | true =>
    refine .inr ?_
    unfold spec_l12Binary.f impl_binaryValue.f
    rw [impl_lvl _ (by omega), Option.bind_some, e2, Option.bind_some, if_pos rfl, spec_lvl _ (by omega), Option.bind_some]
    have hv : lvl s.toList = 1 ∨ lvl s.toList = 2 ∨ lvl s.toList = 4 ∨ lvl s.toList = 5 ∨ lvl s.toList = 6 := by
      revert hl
      unfold lvl
      split
      · simp
      split
      · simp
      split
      · simp
      split
      · simp
      split <;> simp
    by_cases h3 : lvl s.toList < 3
    · obtain ⟨r, f1, f2⟩ := logic_same (k + 20) (k2 + 20) (by omega) (by omega) s (by omega) a b t x y u
      rw [if_pos h3, if_pos (show lvl s.toList < 4 by omega), f1, f2]
      exact ⟨_, e1, rfl, rfl⟩
    · rw [if_neg h3, if_neg (show ¬ lvl s.toList < 4 by omega)]
      have nul : ∃ r, spec_l12Binary.j0 (k + 20) s true a b t x y u = some r ∧ impl_binaryValue.j0 (k2 + 20) s (lvl s.toList) true a b t x y u = some r := by
        simp only [spec_l12Binary.j0, impl_binaryValue.j0, if_true]
        exact ⟨_, rfl, rfl⟩
      have non : ∃ r, spec_l12Binary.j0 (k + 20) s false a b t x y u = some r ∧ impl_binaryValue.j0 (k2 + 20) s (lvl s.toList) false a b t x y u = some r := by
        by_cases h4 : lvl s.toList = 4
        · rw [spec_l12Binary.j0, if_neg (by decide), spec_lvl _ (by omega), Option.bind_some, if_pos h4, impl_binaryValue.j0, if_neg (by decide), if_pos h4, spec_cmp, impl_cmp _ (by omega)]
          simp only [Option.bind_some]
          have hsame : ∀ n, impl_compared.f s n = spec_l12Compared.f s n := fun n => rfl
          have hsome : ∀ n, ∃ c, spec_l12Compared.f s n = some c := fun n => by
            unfold spec_l12Compared.f
            split
            · exact ⟨_, rfl⟩
            split
            · exact ⟨_, rfl⟩
            split
            · exact ⟨_, rfl⟩
            split
            · exact ⟨_, rfl⟩
            split <;> exact ⟨_, rfl⟩
          rw [hsame]
          obtain ⟨c, e⟩ := hsome (cmpVal (a, b, t) (x, y, u))
          rw [e, Option.bind_some, Option.bind_some]
          cases c <;> exact ⟨_, rfl, rfl⟩
        · obtain ⟨r, f1, f2⟩ := arith_same s b y hb hy (k + 17) (0, t) (by omega) a x t u
          refine ⟨r, f1, ?_⟩
          rw [impl_binaryValue.j0, if_neg (by decide), if_neg h4]
          exact f2
      by_cases ha : a = 0
      · rw [if_pos ha, if_pos ha]
        obtain ⟨r, f1, f2⟩ := nul
        exact ⟨r, e1, f1, f2⟩
      · rw [if_neg ha, if_neg ha]
        cases hc : (x == 0) with
        | true => obtain ⟨r, f1, f2⟩ := nul; exact ⟨r, e1, f1, f2⟩
        | false => obtain ⟨r, f1, f2⟩ := non; exact ⟨r, e1, f1, f2⟩
theorem answer_same (k : Nat) (s : ByteArray) (a b : Int) (t : ByteArray) (x y : Int) (u : ByteArray) (hb : -9223372036854775808 ≤ b ∧ b ≤ 9223372036854775807) (hy : -9223372036854775808 ≤ y ∧ y ≤ 9223372036854775807) :
    ∃ r, spec_BinaryValue.f (k + 21) s a b t x y u = some r ∧ impl_BinaryValue.f (k + 21) s a b t x y u = some r := by
  unfold spec_BinaryValue.f impl_BinaryValue.f impl_areLong.f
  simp only [Option.bind_some, List.any_cons, List.any_nil, Bool.or_false, decide_eq_true_eq, spec_vok, impl_vok]
  by_cases hs : (s.size : Int) > 65536
  · rw [if_pos hs, if_pos (show 65536 < (s.size : Int) by omega)]; exact ⟨_, rfl, rfl⟩
  rw [if_neg hs, if_neg (show ¬ 65536 < (s.size : Int) by omega)]
  cases h1 : vok a b t with
  | false =>
    rw [if_neg (by decide), if_neg (by decide), spec_BinaryValue.j0, if_pos rfl]; exact ⟨_, rfl, rfl⟩
  | true =>
    rw [if_pos rfl, if_pos rfl]
    cases h2 : vok x y u with
    | false => rw [if_neg (by decide), if_neg (by decide), spec_BinaryValue.j0, if_pos rfl]; exact ⟨_, rfl, rfl⟩
    | true =>
      rw [if_pos rfl, if_pos rfl, spec_lvl _ (by omega), impl_lvl _ (by omega), Option.bind_some, Option.bind_some]
      by_cases hl : lvl s.toList = 0
      · rw [if_pos hl, hl, spec_BinaryValue.j0, if_pos (show ((0 : Int) == 0) = true from rfl)]; exact ⟨_, rfl, rfl⟩
      rw [if_neg hl, show (lvl s.toList == 0) = false by simpa using hl, spec_BinaryValue.j0, if_neg (by decide)]
      rcases binary_same k (k + 1) s hl a b t x y u hb hy with ⟨f1, f2⟩ | ⟨r, f1, f2, f3⟩
      · rw [f1, show k + 21 = k + 1 + 20 by omega, f2]; exact ⟨_, rfl, rfl⟩
      · rw [f1, show k + 21 = k + 1 + 20 by omega, f3, Option.bind_some, if_pos rfl, f2]; exact ⟨_, rfl, rfl⟩
end Go.Proofs.Ytfbclbbhomhfaaa.Pure
end
