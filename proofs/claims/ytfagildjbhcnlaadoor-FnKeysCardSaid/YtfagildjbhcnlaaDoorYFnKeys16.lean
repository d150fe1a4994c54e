/- Contracts of functions, and what is told of them. -/
import Derived.Test.YtfagildjbhcnlaaDoorYFnKeys15
import Derived.OpenShut
import Derived.Laws.Strings
import Derived.Laws.BitsAllLaws
import Derived.Laws.Bits64
set_option linter.unusedSimpArgs false
set_option linter.unusedVariables false
section
namespace Go.Proofs.YtfagildjbhcnlaaDoor.X
open Go.RowKit Go.Proofs.YtfagildjbhcnlaaDoorW.PrintWords Go.Proofs.YtfagildjbhcnlaaDoorW.PrintLast Go.Proofs.YtfagildjbhcnlaaDoorW.PrintMore
attribute [local go_sem] max2_int min2_int max_two min_two max_three min_three max_four min_four   -- for this text's walks alone

section
/-- THE ONE PURE STATEMENT of laws_FnKeys. -/
def laws_FnKeys.Need : Prop := ∀ (l0 : List Int) (l1 : List Int), (l0.length ≤ maxLen ∧ ∀ x0_ ∈ l0, (Lit.int .u8 x0_).wf = true) → (l1.length ≤ maxLen ∧ ∀ x0_ ∈ l1, (Lit.int .u8 x0_).wf = true) → ∃ k, laws_FnKeys.f k l0 l1 = some true
end

end Go.Proofs.YtfagildjbhcnlaaDoor.X
end

section
/- Small facts on numbers and texts. -/
namespace Go.Proofs.YtfagildjbhcnlaaDoor.Pure
open Go.RowKit Go.Proofs.YtfagildjbhcnlaaDoor.X Go.Proofs.YtfagildjbhcnlaaDoorW.PrintWords Go.Proofs.YtfagildjbhcnlaaDoorW.PrintLast
theorem wrap_in (a : Int) (ha : -9223372036854775808 ≤ a ∧ a ≤ 9223372036854775807) : wrap64 a = a := by unfold wrap64; omega
theorem wrap_range (a : Int) : -9223372036854775808 ≤ wrap64 a ∧ wrap64 a ≤ 9223372036854775807 := by unfold wrap64; omega
theorem i64_of {n : Int} (h : (Lit.int .i64 n).wf = true) : -9223372036854775808 ≤ n ∧ n ≤ 9223372036854775807 := bounds_i64 h
theorem u8_of {n : Int} (h : (Lit.int .u8 n).wf = true) : 0 ≤ n ∧ n ≤ 255 := bounds_u8 h
theorem toList_eq (s : ByteArray) : s.toList = s.data.toList := ByteArray.toList_eq s
theorem toList_inj {s t : ByteArray} (h : s.toList = t.toList) : s = t := by
  rw [toList_eq, toList_eq] at h
  have := Array.ext' h
  cases s; cases t; simp_all
theorem toList_iff {s t : ByteArray} : s.toList = t.toList ↔ s = t := ⟨toList_inj, fun h => by rw [h]⟩
theorem toList_mk (l : List UInt8) : (⟨⟨l⟩⟩ : ByteArray).toList = l := by rw [toList_eq]
theorem length_toList (s : ByteArray) : s.toList.length = s.size := by rw [toList_eq]; rfl
theorem empty_iff {s : ByteArray} : s.toList = [] ↔ s = (⟨#[]⟩ : ByteArray) := by
  rw [← toList_iff, show (⟨#[]⟩ : ByteArray).toList = [] from toList_mk []]
theorem next64 (i n : Nat) (h : i < n) (hn : n ≤ maxLen) : wrap64 ((i : Int) + 1) = ((i + 1 : Nat) : Int) := by simp only [maxLen] at hn; unfold wrap64; omega
end Go.Proofs.YtfagildjbhcnlaaDoor.Pure
end

section
/- Right values: the program and the reference tell the same. -/
namespace Go.Proofs.YtfagildjbhcnlaaDoor.Pure
open Go.RowKit Go.Proofs.YtfagildjbhcnlaaDoor.X Go.Proofs.YtfagildjbhcnlaaDoorW.PrintWords Go.Proofs.YtfagildjbhcnlaaDoorW.PrintLast
def vok (a b : Int) (t : ByteArray) : Bool :=
  (decide (a = 0) && decide (b = 0) && decide (t.size = 0)) || (decide (a = 1) && decide (0 ≤ b ∧ b ≤ 1) && decide (t.size = 0)) || (decide (a = 2) && decide (t.size = 0)) ||
    (decide (a = 3 ∨ a = 4) && decide (b = 0) && decide (t.size ≤ 60))
theorem nil_iff (t : ByteArray) : (t.toList == ([] : List UInt8)) = decide (t.size = 0) := by
  rw [← length_toList]
  cases t.toList <;> simp
theorem size_le (t : ByteArray) : decide ((t.size : Int) ≤ 60) = decide (t.size ≤ 60) := by rw [decide_eq_decide]; omega
theorem spec_vok (a b : Int) (t : ByteArray) : spec_ValueOK.f a b t = some (vok a b t) := by
  unfold spec_ValueOK.f spec_l01In.f
  simp only [nil_iff, size_le]
  unfold vok
  by_cases c0 : a = 0
  · subst c0; by_cases cb : b = 0 <;> simp [cb]
  by_cases c1 : a = 1
  · subst c1; by_cases cb : 0 ≤ b <;> by_cases cc : b ≤ 1 <;> simp [cb, cc]
  by_cases c2 : a = 2
  · subst c2; simp
  by_cases c3 : a = 3
  · subst c3; by_cases cb : b = 0 <;> simp [cb]
  by_cases c4 : a = 4
  · subst c4; by_cases cb : b = 0 <;> simp [cb]
  simp [c0, c1, c2, c3, c4]
theorem impl_vok (a b : Int) (t : ByteArray) : impl_ValueOK.f a b t = some (vok a b t) := by
  unfold impl_ValueOK.f impl_within.f impl_hasText.f
  simp only [nil_iff, size_le]
  unfold vok
  by_cases c0 : a = 0
  · subst c0; by_cases cb : b = 0 <;> simp [cb]
  by_cases c1 : a = 1
  · subst c1; by_cases cb : 0 ≤ b <;> by_cases cc : b ≤ 1 <;> simp [cb, cc]
  by_cases c2 : a = 2
  · subst c2; simp
  by_cases c3 : a = 3
  · subst c3; by_cases cb : b = 0 <;> simp [cb]
  by_cases c4 : a = 4
  · subst c4; by_cases cb : b = 0 <;> simp [cb]
  simp [c0, c1, c2, c3, c4]
theorem size_zero {t : ByteArray} (h : t.size = 0) : t = (⟨#[]⟩ : ByteArray) := by
  rw [← empty_iff]
  have := length_toList t
  rw [h] at this
  exact List.eq_nil_of_length_eq_zero this
theorem vok_null {b : Int} {t : ByteArray} (h : vok 0 b t = true) : b = 0 ∧ t = (⟨#[]⟩ : ByteArray) := by
  have h2 : b = 0 ∧ t.size = 0 := by
    unfold vok at h
    by_cases c : b = 0 ∧ t.size = 0
    · exact c
    · exfalso
      rcases Classical.not_and_iff_not_or_not.1 c with c | c <;> simp [c] at h
  exact ⟨h2.1, size_zero h2.2⟩
end Go.Proofs.YtfagildjbhcnlaaDoor.Pure
end

section
/- What a source of choices gives. -/
namespace Go.Proofs.YtfagildjbhcnlaaDoor.Pure
open Go.RowKit Go.Proofs.YtfagildjbhcnlaaDoor.X Go.Proofs.YtfagildjbhcnlaaDoorW.PrintWords Go.Proofs.YtfagildjbhcnlaaDoorW.PrintLast
def Src (c : List Int) (a s B : Int) : Prop := (∀ x ∈ c, 0 ≤ x ∧ x ≤ 255) ∧ 0 ≤ a ∧ a ≤ B ∧ 0 ≤ s ∧ s < 2147483648
theorem Src.up {c : List Int} {a s B B' : Int} (h : Src c a s B) (hb : B ≤ B') : Src c a s B' := ⟨h.1, h.2.1, by have := h.2.2.1; omega, h.2.2.2⟩
theorem src_new {c : List Int} (h : ∀ x ∈ c, (Lit.int .u8 x).wf = true) : Src c 0 ((c.length : Int) % 1000) 0 := ⟨fun x hx => u8_of (h x hx), by omega, by omega, by omega, by omega⟩
theorem src_byte {c : List Int} {a s B : Int} (h : Src c a s B) (hB : B ≤ 4611686018427387904) :
    ∃ r a' s', spec_l00Src_byte.f c a s = some (r, a', s') ∧ 0 ≤ r ∧ r ≤ 255 ∧ Src c a' s' (B + 1) := by
  obtain ⟨hc, h0, h1, h2, h3⟩ := h
  unfold spec_l00Src_byte.f
  rw [if_pos (by omega)]
  by_cases hlt : a < (c.length : Int)
  · have hm : rd c a ∈ c := by
      have : a.toNat < c.length := by omega
      simp only [rd, List.getD_eq_getElem?_getD, List.getElem?_eq_getElem this, Option.getD_some]
      exact List.getElem_mem this
    have hr := hc _ hm
    rw [if_pos hlt, if_pos hr]
    exact ⟨_, _, _, rfl, hr.1, hr.2, hc, by omega, by omega, by omega, by omega⟩
  · rw [if_neg hlt]
    split
    · exact ⟨_, _, _, rfl, by omega, by omega, hc, by omega, by omega, by omega, by omega⟩
    · exact ⟨_, _, _, rfl, by omega, by omega, hc, by omega, by omega, by omega, by omega⟩
theorem tmod_range (x m : Int) (hx : 0 ≤ x) (hm : 2 ≤ m) : 0 ≤ Int.tmod x m ∧ Int.tmod x m < m := by
  rw [Int.tmod_eq_emod_of_nonneg hx]
  exact ⟨Int.emod_nonneg _ (by omega), Int.emod_lt_of_pos _ (by omega)⟩
theorem src_next {c : List Int} {a s B : Int} (h : Src c a s B) (hB : B + 3 ≤ 4611686018427387904) (m : Int) :
    ∃ r a' s', spec_l00Src_next.f c a s m = some (r, a', s') ∧ 0 ≤ r ∧ (r < m ∨ r = 0) ∧ Src c a' s' (B + 3) := by
  unfold spec_l00Src_next.f
  by_cases h1 : m ≤ 1
  · rw [if_pos h1]; exact ⟨_, _, _, rfl, by omega, .inr rfl, h.up (by omega)⟩
  rw [if_neg h1]
  by_cases h2 : m ≤ 256
  · rw [if_pos h2]
    obtain ⟨r, a', s', e, r0, r1, hs⟩ := src_byte h (by omega)
    rw [e]
    simp only [Option.bind_some]
    rw [if_neg (by omega)]
    have := tmod_range r m r0 (by omega)
    exact ⟨_, _, _, rfl, this.1, .inl this.2, hs.up (by omega)⟩
  · rw [if_neg h2]
    obtain ⟨r, a', s', e, r0, r1, hs⟩ := src_byte h (by omega)
    rw [e]
    simp only [Option.bind_some]
    obtain ⟨q, a', s', e, q0, q1, hs⟩ := src_byte hs (by omega)
    rw [e]
    simp only [Option.bind_some]
    obtain ⟨p, a', s', e, p0, p1, hs⟩ := src_byte hs (by omega)
    rw [e]
    simp only [Option.bind_some]
    rw [if_neg (by omega)]
    have hw : 0 ≤ wrap64 (wrap64 (wrap64 (r * 65536) + wrap64 (q * 256)) + p) := by
      rw [wrap_in (r * 65536) (by omega), wrap_in (q * 256) (by omega), wrap_in (r * 65536 + q * 256) (by omega), wrap_in (r * 65536 + q * 256 + p) (by omega)]; omega
    have := tmod_range _ m hw (by omega)
    exact ⟨_, _, _, rfl, this.1, .inl this.2, hs.up (by omega)⟩
theorem rd_mem {l : List Int} {i : Int} (h0 : 0 ≤ i) (h1 : i < l.length) : rd l i ∈ l := by
  have : i.toNat < l.length := by omega
  simp only [rd, List.getD_eq_getElem?_getD, List.getElem?_eq_getElem this, Option.getD_some]
  exact List.getElem_mem this
theorem rdOf_mem {α : Type} {d : α} {l : List α} {i : Int} (h0 : 0 ≤ i) (h1 : i < l.length) : rdOf d l i ∈ l := by
  have : i.toNat < l.length := by omega
  simp only [rdOf, List.getD_eq_getElem?_getD, List.getElem?_eq_getElem this, Option.getD_some]
  exact List.getElem_mem this
theorem src_pick {c : List Int} {a s B : Int} (h : Src c a s B) (hB : B + 3 ≤ 4611686018427387904) (l : List ByteArray) (hl : l ≠ []) :
    ∃ r a' s', spec_l00Src_pick.f c a s l = some (r, a', s') ∧ r ∈ l ∧ Src c a' s' (B + 3) := by
  unfold spec_l00Src_pick.f
  have hp : 0 < l.length := List.length_pos_iff.2 hl
  rw [if_neg (by omega)]
  obtain ⟨r, a', s', e, r0, r1, hs⟩ := src_next h hB (l.length : Int)
  rw [e]
  simp only [Option.bind_some]
  rw [if_pos r0, if_pos (by omega)]
  exact ⟨_, _, _, rfl, rdOf_mem r0 (by omega), hs⟩
end Go.Proofs.YtfagildjbhcnlaaDoor.Pure
end

section
/- What a value of a source is. -/
namespace Go.Proofs.YtfagildjbhcnlaaDoor.Pure
open Go.RowKit Go.Proofs.YtfagildjbhcnlaaDoor.X Go.Proofs.YtfagildjbhcnlaaDoorW.PrintWords Go.Proofs.YtfagildjbhcnlaaDoorW.PrintLast
theorem src_odd {c : List Int} {a s B : Int} (h : Src c a s B) (hB : B + 3 ≤ 4611686018427387904) :
    ∃ r a' s', spec_l00Src_odd.f c a s = some (r, a', s') ∧ (-9223372036854775808 ≤ r ∧ r ≤ 9223372036854775807) ∧ Src c a' s' (B + 3) := by
  unfold spec_l00Src_odd.f
  obtain ⟨r, a', s', e, r0, r1, hs⟩ := src_next h hB 12
  simp only [Option.bind_some]
  rw [e]
  simp only [Option.bind_some]
  have hl : (([0, (-1), 1, 2, 63, 64, 65, 4096, 4097, 9223372036854775807, (-9223372036854775808), 30] : List Int).length : Int) = 12 := rfl
  rw [if_pos r0, if_pos (by rw [hl]; omega)]
  refine ⟨_, _, _, rfl, ?_, hs⟩
  have hm := rd_mem (l := [0, (-1), 1, 2, 63, 64, 65, 4096, 4097, 9223372036854775807, (-9223372036854775808), 30]) r0 (by rw [hl]; omega)
  revert hm
  generalize rd _ r = x
  intro hm
  simp only [List.mem_cons, List.not_mem_nil, or_false] at hm
  omega
theorem src_word {c : List Int} {a s B : Int} (h : Src c a s B) (hB : B + 3 ≤ 4611686018427387904) :
    ∃ r a' s', spec_l00Src_word.f c a s = some (r, a', s') ∧ r.size ≤ 4 ∧ Src c a' s' (B + 3) := by
  unfold spec_l00Src_word.f
  obtain ⟨r, a', s', e, hm, hs⟩ := src_pick h hB _ (List.cons_ne_nil (⟨#[]⟩ : ByteArray) [(⟨#[97]⟩ : ByteArray), (⟨#[98]⟩ : ByteArray), (⟨#[111, 112, 101, 110]⟩ : ByteArray), (⟨#[97, 110, 110]⟩ : ByteArray), (⟨#[105, 116, 39, 115]⟩ : ByteArray), (⟨#[0]⟩ : ByteArray), (⟨#[97, 0, 98]⟩ : ByteArray), (⟨#[255]⟩ : ByteArray), (⟨#[100, 111, 110, 101]⟩ : ByteArray)])
  rw [e]
  refine ⟨r, a', s', rfl, ?_, hs⟩
  simp only [List.mem_cons, List.not_mem_nil, or_false] at hm
  rcases hm with rfl | rfl | rfl | rfl | rfl | rfl | rfl | rfl | rfl | rfl <;> decide
theorem src_value {c : List Int} {a s B : Int} (h : Src c a s B) (hB : B + 20 ≤ 4611686018427387904) (k : Nat) :
    ∃ x y t a' s', spec_l00Src_value.f (k + 1) c a s = some (x, y, t, a', s') ∧ vok x y t = true ∧ (-9223372036854775808 ≤ y ∧ y ≤ 9223372036854775807) ∧ 0 ≤ x ∧ x ≤ 4 ∧ t.size ≤ 4 ∧ Src c a' s' (B + 15) := by
  unfold spec_l00Src_value.f
  obtain ⟨r, a', s', e, r0, r1, hs⟩ := src_next h (by omega) 6
  rw [e]
  simp only [Option.bind_some]
  by_cases c0 : r = 0
  · rw [if_pos c0]; exact ⟨_, _, _, _, _, rfl, by decide, by omega, by omega, by omega, by decide, hs.up (by omega)⟩
  rw [if_neg c0]
  by_cases c1 : r = 1
  · rw [if_pos c1]
    obtain ⟨q, a', s', e, q0, q1, hs⟩ := src_next hs (by omega) 2
    rw [e]
    simp only [Option.bind_some]
    refine ⟨_, _, _, _, _, rfl, ?_, by omega, by omega, by omega, by decide, hs.up (by omega)⟩
    rcases (show q = 0 ∨ q = 1 by omega) with rfl | rfl <;> decide
  rw [if_neg c1]
  have hj : ∀ b : Bool, (b = true ↔ (r = 2 ∨ r = 3)) → ∃ x y t a'' s'', spec_l00Src_value.j0 (k + 1) r b c a' s' = some (x, y, t, a'', s'') ∧ vok x y t = true ∧ (-9223372036854775808 ≤ y ∧ y ≤ 9223372036854775807) ∧ 0 ≤ x ∧ x ≤ 4 ∧ t.size ≤ 4 ∧ Src c a'' s'' (B + 15) := by
    intro b hb
    simp only [spec_l00Src_value.j0]
    cases b with
    | true =>
      rw [if_pos rfl]
      obtain ⟨x1, a1, s1, e1, _, _, hs⟩ := src_next hs (by omega) 10
      rw [e1]; simp only [Option.bind_some]
      obtain ⟨x2, a2, s2, e2, _, _, hs⟩ := src_next hs (by omega) 10
      rw [e2]; simp only [Option.bind_some]
      obtain ⟨x3, a3, s3, e3, _, hs⟩ := src_odd hs (by omega)
      rw [e3]; simp only [Option.bind_some]
      obtain ⟨x4, a4, s4, e4, _, _, hs⟩ := src_next hs (by omega) 3
      rw [e4]; simp only [Option.bind_some]
      rw [if_pos (by assumption), if_pos (by simp only [List.length_cons, List.length_nil]; omega)]
      refine ⟨_, _, _, _, _, rfl, by simp [vok]; rfl, ?_, by omega, by omega, by decide, hs.up (by omega)⟩
      have hm := rd_mem (l := [x1, wrap64 (x2 - 5), x3]) (i := x4) (by assumption) (by simp only [List.length_cons, List.length_nil]; omega)
      generalize rd _ x4 = z at hm
      have hw := wrap_range (x2 - 5)
      simp only [List.mem_cons, List.not_mem_nil, or_false] at hm
      rcases hm with rfl | rfl | rfl <;> omega
    | false =>
      rw [if_neg (by decide)]
      obtain ⟨t, a1, s1, e1, ht, hs⟩ := src_word hs (by omega)
      rw [e1]
      have h60 : decide (t.size ≤ 60) = true := by simp; omega
      by_cases c4 : r = 4
      · rw [if_pos c4]; exact ⟨_, _, _, _, _, rfl, by simp [vok, h60], by omega, by omega, by omega, ht, hs.up (by omega)⟩
      · rw [if_neg c4]; exact ⟨_, _, _, _, _, rfl, by simp [vok, h60], by omega, by omega, by omega, ht, hs.up (by omega)⟩
  by_cases c2 : r = 2
  · rw [if_pos c2]; exact hj _ (by simp [c2])
  · rw [if_neg c2]; exact hj _ (by simp [c2])
end Go.Proofs.YtfagildjbhcnlaaDoor.Pure
end

section
/- A place out of bytes. -/
namespace Go.Proofs.YtfagildjbhcnlaaDoor.Pure
open Go.RowKit Go.Proofs.YtfagildjbhcnlaaDoor.X Go.Proofs.YtfagildjbhcnlaaDoorW.PrintWords Go.Proofs.YtfagildjbhcnlaaDoorW.PrintLast
theorem rd_memz {c : List Int} {i : Int} (h0 : 0 ≤ i) (h1 : i < (c.length : Int)) : rd c i ∈ c := by
  have : i.toNat < c.length := by omega
  simp only [rd, List.getD_eq_getElem?_getD, List.getElem?_eq_getElem this, Option.getD_some]
  exact List.getElem_mem this
theorem at_some {l : List Int} (h : ∀ x ∈ l, (Lit.int .u8 x).wf = true) (i m : Int) (hi : 0 ≤ i) (hi2 : i ≤ 1000) (hm : 2 ≤ m) (hm2 : m ≤ 1000000) :
    ∃ r, laws_at.f l i m = some r ∧ 0 ≤ r ∧ r < m := by
  unfold laws_at.f
  rw [if_neg (show ¬ m ≤ 1 by omega)]
  by_cases h0 : (l.length : Int) = 0
  · rw [if_pos h0, if_neg (show ¬ m = 0 by omega), wrap_in (i * 7) (by omega)]
    exact ⟨_, rfl, tmod_range _ m (by omega) hm⟩
  have hp : (0 : Int) < (l.length : Int) := by omega
  rw [if_neg h0, wrap_in (i + 1) (by omega), Int.tmod_eq_emod_of_nonneg hi, Int.tmod_eq_emod_of_nonneg (show 0 ≤ i + 1 by omega)]
  have a0 := Int.emod_nonneg i h0
  have a1 := Int.emod_lt_of_pos i hp
  have b0 := Int.emod_nonneg (i + 1) h0
  have b1 := Int.emod_lt_of_pos (i + 1) hp
  rw [if_pos a0, if_pos a1, if_pos b0, if_pos b1, if_neg (show ¬ m = 0 by omega)]
  have ra := u8_of (h _ (rd_memz a0 a1))
  have rb := u8_of (h _ (rd_memz b0 b1))
  generalize rd l (i % (l.length : Int)) = p at ra
  generalize rd l ((i + 1) % (l.length : Int)) = q at rb
  have q0 : 0 ≤ Int.tdiv i (l.length : Int) := Int.tdiv_nonneg hi (by omega)
  have q1 : Int.tdiv i (l.length : Int) ≤ i := by
    rw [Int.tdiv_eq_ediv_of_nonneg hi]
    exact Int.ediv_le_self _ hi
  generalize Int.tdiv i (l.length : Int) = z at q0 q1
  rw [wrap_in p (by omega), wrap_in q (by omega), wrap_in z (by omega), wrap_in (p * 31) (by omega), wrap_in (p * 31 + q) (by omega), wrap_in (p * 31 + q + z) (by omega)]
  exact ⟨_, rfl, tmod_range _ m (by omega) hm⟩
end Go.Proofs.YtfagildjbhcnlaaDoor.Pure
end

section
/- A row of values is right for both or for neither. -/
namespace Go.Proofs.YtfagildjbhcnlaaDoor.Pure
open Go.RowKit Go.Proofs.YtfagildjbhcnlaaDoor.X Go.Proofs.YtfagildjbhcnlaaDoorW.PrintWords Go.Proofs.YtfagildjbhcnlaaDoorW.PrintLast
theorem rdv_ (V : List S43) (i : Nat) (h : i < V.length) : rd_T43 V (i : Int) = V[i] := by simp [rd_T43, h]
theorem any_ok (R : List S43) : impl_rowOK_1_any.f R = some (R.any fun x => !(vok x.f0 x.f1 x.f2)) := by
  have e : (fun x : S43 => impl_rowOK_1.f x.f0 x.f1 x.f2) = fun x => some (!(vok x.f0 x.f1 x.f2)) := by
    funext x; unfold impl_rowOK_1.f; rw [impl_vok]; rfl
  unfold impl_rowOK_1_any.f
  rw [e]
  unfold anyO
  rw [if_pos (by simp)]
  simp
def rowok (R : List S43) : Bool := decide (R.length ≤ 8) && R.all fun x => vok x.f0 x.f1 x.f2
theorem impl_row (R : List S43) : impl_rowOK.f R = some (rowok R) := by
  unfold impl_rowOK.f rowok
  rw [any_ok]
  by_cases h : R.length ≤ 8
  · rw [if_pos (by omega), Option.bind_some, decide_eq_true h, Bool.true_and]
    rw [List.any_eq_not_all_not]; simp
  · rw [if_neg (by omega), decide_eq_false h, Bool.false_and]
theorem spec_row_l0 (R : List S43) (hR : R.length ≤ 1048576) : ∀ d k i, i + d = R.length → spec_l01Row.l0 (k + d + 1) R (i : Int) = some ((R.drop i).all fun x => vok x.f0 x.f1 x.f2)
  | 0, k, i, h => by rw [spec_l01Row.l0, if_neg (by omega), List.drop_of_length_le (by omega)]; rfl
  | d + 1, k, i, h => by
    have hlt : i < R.length := by omega
    rw [show k + (d + 1) + 1 = (k + d + 1) + 1 by omega, spec_l01Row.l0, if_pos (by omega), if_pos (by omega), rdv_ R i hlt, spec_vok, Option.bind_some, next64 i R.length (by omega) (by simp only [maxLen]; omega), spec_row_l0 R hR d k (i + 1) (by omega),
      List.drop_eq_getElem_cons hlt, List.all_cons]
    cases vok R[i].f0 R[i].f1 R[i].f2 <;> simp
theorem spec_row (R : List S43) (hR : R.length ≤ 1048576) (k : Nat) (hk : R.length < k) : spec_l01Row.f k R = some (rowok R) := by
  obtain ⟨k, rfl⟩ : ∃ m, k = m + R.length + 1 := ⟨k - R.length - 1, by omega⟩
  unfold spec_l01Row.f rowok
  by_cases h : R.length ≤ 8
  · rw [if_neg (by omega), decide_eq_true h, Bool.true_and]
    have := spec_row_l0 R hR R.length k 0 (by omega)
    simpa using this
  · rw [if_pos (by omega), decide_eq_false h, Bool.false_and]
end Go.Proofs.YtfagildjbhcnlaaDoor.Pure
end

section
/- Key bytes of right values: the program and the reference tell the same. -/
namespace Go.Proofs.YtfagildjbhcnlaaDoor.Pure
open Go.RowKit Go.Proofs.YtfagildjbhcnlaaDoor.X Go.Proofs.YtfagildjbhcnlaaDoorW.PrintWords Go.Proofs.YtfagildjbhcnlaaDoorW.PrintLast
theorem flip_top (n a : Nat) (h : a < 2 ^ (n + 1)) : a ^^^ 2 ^ n = (a + 2 ^ n) % 2 ^ (n + 1) := by
  have hm : (a ^^^ 2 ^ n) % 2 ^ n = a % 2 ^ n := by rw [Nat.xor_mod_two_pow, Nat.mod_self, Nat.xor_zero]
  have hd : (a ^^^ 2 ^ n) / 2 ^ n = (a / 2 ^ n) ^^^ 1 := by rw [Nat.xor_div_two_pow, Nat.div_self (Nat.two_pow_pos n)]
  have e := Nat.div_add_mod (a ^^^ 2 ^ n) (2 ^ n)
  have f := Nat.div_add_mod a (2 ^ n)
  rw [hm, hd] at e
  have hlt := Nat.mod_lt a (Nat.two_pow_pos n)
  rw [Nat.pow_succ] at h ⊢
  have hq : a / 2 ^ n < 2 := Nat.div_lt_of_lt_mul (by omega)
  generalize a % 2 ^ n = c at e f hlt
  generalize a ^^^ 2 ^ n = x at e
  rcases (show a / 2 ^ n = 0 ∨ a / 2 ^ n = 1 by generalize a / 2 ^ n = q at hq; omega) with q | q
  · rw [q] at e f
    rw [show (0 ^^^ 1 : Nat) = 1 from rfl] at e
    generalize 2 ^ n = p at *
    rw [Nat.mod_eq_of_lt (by omega)]; omega
  · rw [q] at e f
    rw [show (1 ^^^ 1 : Nat) = 0 from rfl] at e
    generalize 2 ^ n = p at *
    rw [show a + p = c + p * 2 by omega, Nat.add_mod_right, Nat.mod_eq_of_lt (by omega)]; omega
def eight (b : Int) : List Int := [(b / 72057594037927936 + 128) % 256, b / 281474976710656 % 256, b / 1099511627776 % 256, b / 4294967296 % 256, b / 16777216 % 256, b / 65536 % 256, b / 256 % 256, b / 1 % 256]
theorem high_is (k : Nat) (X : Int) : impl_highBytes.f (k + 9) X 8 = some [X / 72057594037927936 % 256, X / 281474976710656 % 256, X / 1099511627776 % 256, X / 4294967296 % 256, X / 16777216 % 256, X / 65536 % 256, X / 256 % 256, X / 1 % 256] := by kernel_rfl
theorem low_is (k : Nat) (b : Int) : spec_l01Eight.f (k + 9) b = some [Go.bits .xor .u8 (b / 72057594037927936 % 256) 128, b / 281474976710656 % 256, b / 1099511627776 % 256, b / 4294967296 % 256, b / 16777216 % 256, b / 65536 % 256, b / 256 % 256, b / 1 % 256] := by kernel_rfl
theorem signed_is (b : Int) (h : -9223372036854775808 ≤ b ∧ b ≤ 9223372036854775807) : Go.bits .xor .u64 (IntKind.u64.wrap b) 9223372036854775808 = b + 9223372036854775808 := by
  rw [IntKind.wrap_u64]
  obtain ⟨n, hn⟩ : ∃ n : Nat, b % 18446744073709551616 = (n : Int) := ⟨(b % 18446744073709551616).toNat, by omega⟩
  rw [hn, show (9223372036854775808 : Int) = ((9223372036854775808 : Nat) : Int) from rfl, bits_xor_u64_nat n 9223372036854775808 (by omega) (by omega)]
  have f := flip_top 63 n (by show n < 18446744073709551616; omega)
  rw [show (2 : Nat) ^ 63 = 9223372036854775808 from rfl, show (2 : Nat) ^ (63 + 1) = 18446744073709551616 from rfl] at f
  rw [f]
  omega
theorem top_is (c : Int) (h : 0 ≤ c ∧ c < 256) : Go.bits .xor .u8 c 128 = (c + 128) % 256 := by
  obtain ⟨n, rfl⟩ : ∃ n : Nat, c = (n : Int) := ⟨c.toNat, by omega⟩
  rw [show (128 : Int) = ((128 : Nat) : Int) from rfl, u8_xor_nat n 128 (by omega) (by omega)]
  have f := flip_top 7 n (by show n < 256; omega)
  rw [show (2 : Nat) ^ 7 = 128 from rfl, show (2 : Nat) ^ (7 + 1) = 256 from rfl] at f
  rw [f]
  omega
theorem high_eight (b : Int) (h : -9223372036854775808 ≤ b ∧ b ≤ 9223372036854775807) : Ev (fun k => impl_highBytes.f k (Go.bits .xor .u64 (IntKind.u64.wrap b) 9223372036854775808) 8) (eight b) := by
  rw [signed_is b h]
  refine ⟨9, fun k hk => ?_⟩
  obtain ⟨k, rfl⟩ : ∃ m, k = m + 9 := ⟨k - 9, by omega⟩
  show impl_highBytes.f (k + 9) (b + 9223372036854775808) 8 = some (eight b)
  rw [high_is]
  unfold eight
  congr 1
  refine congr (congrArg List.cons (by omega)) (congr (congrArg List.cons (by omega)) (congr (congrArg List.cons (by omega)) (congr (congrArg List.cons (by omega)) (congr (congrArg List.cons (by omega)) (congr (congrArg List.cons (by omega)) (congr (congrArg List.cons (by omega)) (congr (congrArg List.cons (by omega)) rfl)))))))
theorem low_eight (b : Int) : Ev (fun k => spec_l01Eight.f k b) (eight b) := by
  refine ⟨9, fun k hk => ?_⟩
  obtain ⟨k, rfl⟩ : ∃ m, k = m + 9 := ⟨k - 9, by omega⟩
  show spec_l01Eight.f (k + 9) b = some (eight b)
  rw [low_is, top_is _ (by omega)]
  unfold eight
  rw [show (b / 72057594037927936 % 256 + 128) % 256 = (b / 72057594037927936 + 128) % 256 by omega]
def esc : List UInt8 → List Int
  | [] => []
  | c :: l => if c.toNat = 0 then 0 :: 255 :: esc l else (c.toNat : Int) :: esc l
theorem esc_length : ∀ l, (esc l).length ≤ 2 * l.length
  | [] => by simp [esc]
  | c :: l => by
    have := esc_length l
    rw [esc]
    split <;> simp only [List.length_cons] <;> omega
theorem esc_rep : ∀ l : List UInt8, (repB 0 [0, 255] l).map (fun b => (b.toNat : Int)) = esc l
  | [] => rfl
  | c :: l => by
    have ih := esc_rep l
    rw [repB, esc]
    by_cases h : c = 0
    · subst h
      rw [if_pos (by rfl), if_pos (by rfl), List.map_append, ih]; rfl
    · have h2 : ¬ c.toNat = 0 := fun e => h (UInt8.toNat_inj.1 (by simpa using e))
      rw [if_neg (by simpa using h), if_neg h2, List.map_cons, ih]
theorem rep_is (t : ByteArray) (h : t.size ≤ 60) : ∃ u, strings_ReplaceAll.f t (⟨#[0]⟩ : ByteArray) (⟨#[0, 255]⟩ : ByteArray) = some u ∧ bytesOf u = esc t.data.toList ∧ u.size ≤ 120 := by
  refine ⟨⟨(repB 0 [0, 255] t.data.toList).toArray⟩, ?_, ?_, ?_⟩
  · unfold strings_ReplaceAll.f
    rw [if_pos ⟨rfl, by decide, by omega, by decide⟩]
    rfl
  · unfold bytesOf; exact esc_rep _
  · have e := congrArg List.length (esc_rep t.data.toList)
    rw [List.length_map] at e
    have := esc_length t.data.toList
    rw [data_length] at this
    show (repB 0 [0, 255] t.data.toList).toArray.size ≤ 120
    rw [List.size_toArray]; omega
def cellB (v : S43) : List Int := v.f0 % 256 :: (if v.f0 = 1 then [v.f1 % 256] else if v.f0 = 2 then eight v.f1 else if v.f0 = 3 ∨ v.f0 = 4 then esc v.f2.data.toList ++ [0, 1] else [])
def kb (V : List S43) : List Int := (V.map cellB).flatten
theorem kb_drop (V : List S43) (i : Nat) (h : i < V.length) : kb (V.drop i) = cellB V[i] ++ kb (V.drop (i + 1)) := by unfold kb; rw [List.drop_eq_getElem_cons h, List.map_cons, List.flatten_cons]
def gval (v : S43) : Prop := vok v.f0 v.f1 v.f2 = true ∧ (-9223372036854775808 ≤ v.f1 ∧ v.f1 ≤ 9223372036854775807)
theorem vok_kind (a b : Int) (t : ByteArray) (h : vok a b t = true) : (0 ≤ a ∧ a ≤ 4) ∧ (a = 3 ∨ a = 4 → t.size ≤ 60) := by
  unfold vok at h
  simp only [Bool.or_eq_true, Bool.and_eq_true, decide_eq_true_eq] at h
  omega
theorem cellB_length (v : S43) (h : gval v) : (cellB v).length ≤ 123 := by
  have hk := vok_kind _ _ _ h.1
  have he := esc_length v.f2.data.toList
  rw [data_length] at he
  unfold cellB
  by_cases h1 : v.f0 = 1
  · rw [if_pos h1]; simp
  by_cases h2 : v.f0 = 2
  · rw [if_neg h1, if_pos h2]; simp [eight]
  by_cases h3 : v.f0 = 3 ∨ v.f0 = 4
  · rw [if_neg h1, if_neg h2, if_pos h3]; simp; have := hk.2 h3; omega
  · rw [if_neg h1, if_neg h2, if_neg h3]; simp
theorem kb_length (V : List S43) (h : ∀ v ∈ V, gval v) : (kb V).length ≤ 123 * V.length := by
  unfold kb
  induction V with
  | nil => simp
  | cons v vs ih =>
    have a := cellB_length v (h v (List.mem_cons_self ..))
    have b := ih (fun x hx => h x (List.mem_cons_of_mem _ hx))
    rw [List.map_cons, List.flatten_cons, List.length_append, List.length_cons]; omega
theorem impl_key_l0 (V : List S43) (hV : V.length ≤ 1000) (hv : ∀ v ∈ V, gval v) : ∀ d i (acc : List Int), i + d = V.length → acc.length + 200 * d ≤ 1000000 →
    Ev (fun k => impl_keyBytes.l0 k acc V (V.length : Int) (i : Int)) (acc ++ kb (V.drop i))
  | 0, i, acc, h, hs => by
    rw [List.drop_of_length_le (by omega), show kb [] = [] from rfl, List.append_nil]
    exact Ev.step (f := fun _ => some acc) (fun k => by rw [impl_keyBytes.l0, if_neg (by omega)]) (Ev.now acc)
  | d + 1, i, acc, h, hs => by
    have hlt : i < V.length := by omega
    have hg := hv _ (List.getElem_mem hlt)
    have hk := vok_kind _ _ _ hg.1
    have hc := cellB_length _ hg
    have wi := next64 i V.length hlt (by simp only [maxLen]; omega)
    have ih := impl_key_l0 V hV hv d (i + 1) (acc ++ cellB V[i]) (by omega) (by rw [List.length_append]; omega)
    rw [kb_drop V i hlt, ← List.append_assoc]
    have c1 : (i : Int) < (V.length : Int) := by omega
    have c2 : (0 : Int) ≤ (i : Int) := by omega
    have c3 : acc.length < 140737488355328 := by omega
    have hb := hg.2
    generalize hx : V[i] = x at *
    obtain ⟨a, b, t⟩ := x
    have c4 : (acc ++ [a % 256]).length < 140737488355328 := by rw [List.length_append, List.length_singleton]; omega
    dsimp only at hk hb
    have H : ∀ k, impl_keyBytes.l0 (k + 1) acc V (V.length : Int) (i : Int) = (if a = 1 then impl_keyBytes.l0 k (acc ++ [a % 256] ++ [b % 256]) V (V.length : Int) ((i + 1 : Nat) : Int) else if a = 2 then (impl_highBytes.f k (Go.bits .xor .u64 (IntKind.u64.wrap b) 9223372036854775808) 8).bind (fun y => if (acc ++ [a % 256]).length + y.length < 140737488355328 then impl_keyBytes.l0 k (acc ++ [a % 256] ++ y) V (V.length : Int) ((i + 1 : Nat) : Int) else none) else
        (impl_hasText.f a).bind fun q => if q = true then (strings_ReplaceAll.f t (⟨#[0]⟩ : ByteArray) (⟨#[0, 255]⟩ : ByteArray)).bind fun u => (if (acc ++ [a % 256]).length + u.size < 140737488355328 then (if (acc ++ [a % 256] ++ bytesOf u).length + 2 < 140737488355328 then impl_keyBytes.l0 k (acc ++ [a % 256] ++ bytesOf u ++ [0, 1]) V (V.length : Int) ((i + 1 : Nat) : Int) else none) else none) else impl_keyBytes.l0 k (acc ++ [a % 256]) V (V.length : Int) ((i + 1 : Nat) : Int)) := fun k => by
      rw [impl_keyBytes.l0, if_pos c1, if_pos c2, if_pos c1, if_pos c3, rdv_ V i hlt, hx, Option.bind_some, wi]
      by_cases h1 : a = 1
      · rw [if_pos h1, if_pos h1, if_pos c4]
      · rw [if_neg h1, if_neg h1]
        by_cases h2 : a = 2
        · rw [if_pos h2, if_pos h2]
        · rw [if_neg h2, if_neg h2]; rfl
    by_cases h1 : a = 1
    · have e : cellB ⟨a, b, t⟩ = [a % 256] ++ [b % 256] := by unfold cellB; rw [if_pos h1]; rfl
      rw [e, ← List.append_assoc] at ih ⊢
      exact Ev.step (fun k => by rw [H, if_pos h1]) ih
    by_cases h2 : a = 2
    · have e : cellB ⟨a, b, t⟩ = [a % 256] ++ eight b := by unfold cellB; rw [if_neg h1, if_pos h2]; rfl
      rw [e, ← List.append_assoc] at ih ⊢
      refine Ev.step (fun k => by rw [H, if_neg h1, if_pos h2]) (Ev.bind (high_eight b hb) (Ev.congr (fun k => ?_) ih))
      rw [if_pos (by rw [List.length_append, List.length_singleton]; have : (eight b).length = 8 := rfl; omega)]
    by_cases h3 : a = 3 ∨ a = 4
    · have e : cellB ⟨a, b, t⟩ = [a % 256] ++ (esc t.data.toList ++ [0, 1]) := by unfold cellB; rw [if_neg h1, if_neg h2, if_pos h3]; rfl
      obtain ⟨u, u1, u2, u3⟩ := rep_is t (hk.2 h3)
      rw [e, ← u2, ← List.append_assoc, ← List.append_assoc] at ih ⊢
      have q : impl_hasText.f a = some true := by unfold impl_hasText.f; rcases h3 with rfl | rfl <;> rfl
      refine Ev.step (fun k => ?_) ih
      rw [H, if_neg h1, if_neg h2, q, Option.bind_some, if_pos rfl, u1, Option.bind_some, if_pos (by rw [List.length_append, List.length_singleton]; omega), if_pos (by rw [List.length_append, List.length_append, List.length_singleton, bytesOf_length]; omega)]
    · have e : cellB ⟨a, b, t⟩ = [a % 256] := by unfold cellB; rw [if_neg h1, if_neg h2, if_neg h3]
      have q : impl_hasText.f a = some false := by unfold impl_hasText.f; rw [if_neg (by omega), show (a == 4) = false by simp; omega]
      rw [e] at ih ⊢
      refine Ev.step (fun k => ?_) ih
      rw [H, if_neg h1, if_neg h2, q, Option.bind_some, if_neg (by decide)]
theorem impl_key (V : List S43) (hV : V.length ≤ 1000) (hv : ∀ v ∈ V, gval v) : Ev (fun k => impl_keyBytes.f k V) (kb V) := by
  have := impl_key_l0 V hV hv V.length 0 [] (by omega) (by simp; omega)
  rw [List.nil_append, List.drop_zero] at this
  exact this
theorem bt_is (t : ByteArray) (i : Nat) (h : i < t.data.toList.length) : bt t (i : Int) = ((t.data.toList[i]).toNat : Int) := by
  rw [← rd_bytesOf]
  unfold bytesOf rd
  rw [List.getD_eq_getElem?_getD, Int.toNat_natCast, List.getElem?_map, List.getElem?_eq_getElem h]; rfl
theorem spec_key_l1 (V : List S43) (x4 a b : Int) (t : ByteArray) (ht : t.size ≤ 60) (r : List Int) : ∀ d i (acc : List Int), i + d = t.size → acc.length + 2 * d ≤ 1000000 →
    Ev (fun k => spec_l01Key.l0 k V (acc ++ esc (t.data.toList.drop i) ++ [0, 1]) (wrap64 (x4 + 1))) r → Ev (fun k => spec_l01Key.l1 k V acc x4 (i : Int) a b t) r
  | 0, i, acc, h, hs, H => by
    rw [List.drop_of_length_le (by rw [data_length]; omega), show esc [] = [] from rfl, List.append_nil] at H
    refine Ev.step (fun k => ?_) H
    rw [spec_l01Key.l1, if_neg (by omega), Option.bind_some, if_pos (by show acc.length + 2 < _; omega)]
  | d + 1, i, acc, h, hs, H => by
    have hlt : i < t.data.toList.length := by rw [data_length]; omega
    have c1 : (i : Int) < (t.size : Int) := by omega
    have c2 : (0 : Int) ≤ (i : Int) := by omega
    have c3 : acc.length < 140737488355328 := by omega
    have c4 : (acc ++ [bt t (i : Int)]).length < 140737488355328 := by rw [List.length_append, List.length_singleton]; omega
    have wi : wrap64 ((i : Int) + 1) = ((i + 1 : Nat) : Int) := by unfold wrap64; omega
    rw [List.drop_eq_getElem_cons hlt, esc] at H
    have hb := bt_is t i hlt
    by_cases h0 : t.data.toList[i].toNat = 0
    · rw [if_pos h0] at H
      have ih := spec_key_l1 V x4 a b t ht r d (i + 1) (acc ++ [bt t (i : Int)] ++ [255]) (by omega) (by rw [List.length_append, List.length_append]; simp; omega) (by rw [hb, h0]; simpa using H)
      refine Ev.step (fun k => ?_) ih
      rw [spec_l01Key.l1, if_pos c1, if_pos c2, if_pos c3, Option.bind_some, if_pos (by rw [hb, h0]; rfl), if_pos c4, wi]
    · rw [if_neg h0] at H
      have ih := spec_key_l1 V x4 a b t ht r d (i + 1) (acc ++ [bt t (i : Int)]) (by omega) (by rw [List.length_append]; simp; omega) (by rw [hb]; simpa using H)
      refine Ev.step (fun k => ?_) ih
      rw [spec_l01Key.l1, if_pos c1, if_pos c2, if_pos c3, Option.bind_some, if_neg (by rw [hb]; omega), wi]
theorem spec_key_l0 (V : List S43) (hV : V.length ≤ 1000) (hv : ∀ v ∈ V, gval v) : ∀ d i (acc : List Int), i + d = V.length → acc.length + 200 * d ≤ 1000000 →
    Ev (fun k => spec_l01Key.l0 k V acc (i : Int)) (acc ++ kb (V.drop i))
  | 0, i, acc, h, hs => by
    rw [List.drop_of_length_le (by omega), show kb [] = [] from rfl, List.append_nil]
    exact Ev.step (f := fun _ => some acc) (fun k => by rw [spec_l01Key.l0, if_neg (by omega)]) (Ev.now acc)
  | d + 1, i, acc, h, hs => by
    have hlt : i < V.length := by omega
    have hg := hv _ (List.getElem_mem hlt)
    have hk := vok_kind _ _ _ hg.1
    have hc := cellB_length _ hg
    have wi := next64 i V.length hlt (by simp only [maxLen]; omega)
    have ih := spec_key_l0 V hV hv d (i + 1) (acc ++ cellB V[i]) (by omega) (by rw [List.length_append]; omega)
    rw [kb_drop V i hlt, ← List.append_assoc]
    have c1 : (i : Int) < (V.length : Int) := by omega
    have c2 : (0 : Int) ≤ (i : Int) := by omega
    have c3 : acc.length < 140737488355328 := by omega
    generalize hx : V[i] = x at *
    obtain ⟨a, b, t⟩ := x
    have c4 : (acc ++ [a % 256]).length < 140737488355328 := by rw [List.length_append, List.length_singleton]; omega
    dsimp only at hk
    have H : ∀ k, spec_l01Key.l0 (k + 1) V acc (i : Int) = (if a = 1 then spec_l01Key.l0 k V (acc ++ [a % 256] ++ [b % 256]) ((i + 1 : Nat) : Int) else if a = 2 then (spec_l01Eight.f k b).bind (fun y => if (acc ++ [a % 256]).length + y.length < 140737488355328 then spec_l01Key.l0 k V (acc ++ [a % 256] ++ y) ((i + 1 : Nat) : Int) else none) else if a = 3 then spec_l01Key.j1 k V (acc ++ [a % 256]) (i : Int) (a == 3) a b t else spec_l01Key.j1 k V (acc ++ [a % 256]) (i : Int) (a == 4) a b t) := fun k => by
      rw [spec_l01Key.l0, if_pos c1, if_pos c2, if_pos c3, rdv_ V i hlt, hx, Option.bind_some, wi]
      by_cases h1 : a = 1
      · rw [if_pos h1, if_pos h1, if_pos c4]
      · rw [if_neg h1, if_neg h1]
    by_cases h1 : a = 1
    · have e : cellB ⟨a, b, t⟩ = [a % 256] ++ [b % 256] := by unfold cellB; rw [if_pos h1]; rfl
      rw [e, ← List.append_assoc] at ih ⊢
      exact Ev.step (fun k => by rw [H, if_pos h1]) ih
    by_cases h2 : a = 2
    · have e : cellB ⟨a, b, t⟩ = [a % 256] ++ eight b := by unfold cellB; rw [if_neg h1, if_pos h2]; rfl
      rw [e, ← List.append_assoc] at ih ⊢
      refine Ev.step (fun k => by rw [H, if_neg h1, if_pos h2]) (Ev.bind (low_eight b) (Ev.congr (fun k => ?_) ih))
      rw [if_pos (by rw [List.length_append, List.length_singleton]; have : (eight b).length = 8 := rfl; omega)]
    by_cases h3 : a = 3 ∨ a = 4
    · have e : cellB ⟨a, b, t⟩ = [a % 256] ++ (esc t.data.toList ++ [0, 1]) := by unfold cellB; rw [if_neg h1, if_neg h2, if_pos h3]; rfl
      rw [e, ← List.append_assoc, ← List.append_assoc] at ih ⊢
      have ht := hk.2 h3
      have l1 := spec_key_l1 V (i : Int) a b t ht _ t.size 0 (acc ++ [a % 256]) (by omega) (by rw [List.length_append, List.length_singleton]; omega) (by rw [wi, List.drop_zero]; exact ih)
      refine Ev.step (f := fun k => spec_l01Key.j1 k V (acc ++ [a % 256]) (i : Int) true a b t) (fun k => ?_) (Ev.step (fun k => by rw [spec_l01Key.j1, if_pos rfl]; rfl) l1)
      rw [H, if_neg h1, if_neg h2]
      rcases h3 with rfl | rfl <;> rfl
    · have e : cellB ⟨a, b, t⟩ = [a % 256] := by unfold cellB; rw [if_neg h1, if_neg h2, if_neg h3]
      rw [e] at ih ⊢
      refine Ev.step (f := fun k => spec_l01Key.j1 k V (acc ++ [a % 256]) (i : Int) false a b t) (fun k => ?_) (Ev.step (fun k => by rw [spec_l01Key.j1, if_neg (by decide), wi]) ih)
      rw [H, if_neg h1, if_neg h2, if_neg (by omega), show (a == 4) = false by simp; omega]
theorem spec_key (V : List S43) (hV : V.length ≤ 1000) (hv : ∀ v ∈ V, gval v) : Ev (fun k => spec_l01Key.f k V) (kb V) := by
  have := spec_key_l0 V hV hv V.length 0 [] (by omega) (by simp; omega)
  rw [List.nil_append, List.drop_zero] at this
  exact this
end Go.Proofs.YtfagildjbhcnlaaDoor.Pure
end

section
namespace Go.Proofs.YtfagildjbhcnlaaDoor.X
open Go.RowKit Go.Proofs.YtfagildjbhcnlaaDoorW.PrintWords Go.Proofs.YtfagildjbhcnlaaDoorW.PrintLast Go.Proofs.YtfagildjbhcnlaaDoorW.PrintMore
attribute [local go_sem] max2_int min2_int max_two min_two max_three min_three max_four min_four   -- for this text's walks alone

section
/-- The first of the best: the one that stays. -/
def pickO {α : Type} (better : α → α → Bool) : α → List α → α
  | m, [] => m
  | m, x :: xs => pickO better (if better x m then x else m) xs
def cmpInt (a b : Int) : Int := if a < b then -1 else if a > b then 1 else 0
def cmpStr (a b : ByteArray) : Int := if Op.bytesLess a.toList b.toList = true then -1 else if Op.bytesLess b.toList a.toList = true then 1 else 0
/-- The order of values. -/
def cmpVal (x y : Int × Int × ByteArray) : Int :=
  if cmpInt x.1 y.1 ≠ 0 then cmpInt x.1 y.1 else if cmpInt x.2.1 y.2.1 ≠ 0 then cmpInt x.2.1 y.2.1 else cmpStr x.2.2 y.2.2
end

end Go.Proofs.YtfagildjbhcnlaaDoor.X
end

section
/- Key bytes rise as rows do. -/
namespace Go.Proofs.YtfagildjbhcnlaaDoor.Pure
open Go.RowKit Go.Proofs.YtfagildjbhcnlaaDoor.X Go.Proofs.YtfagildjbhcnlaaDoorW.PrintWords Go.Proofs.YtfagildjbhcnlaaDoorW.PrintLast
inductive Lt : List Int → List Int → Prop
  | here {a b : Int} {x y : List Int} : 0 ≤ a → a < b → b ≤ 255 → Lt (a :: x) (b :: y)
  | there {c : Int} {x y : List Int} : Lt x y → Lt (c :: x) (c :: y)
theorem Lt.app {x y : List Int} (h : Lt x y) (s t : List Int) : Lt (x ++ s) (y ++ t) := by
  induction h with
  | here a b c => exact .here a b c
  | there _ ih => exact .there ih
theorem Lt.pre {x y : List Int} (h : Lt x y) : ∀ p : List Int, Lt (p ++ x) (p ++ y)
  | [] => h
  | c :: p => .there (Lt.pre h p)
def mp (x : List Int) : List UInt8 := x.map fun n => UInt8.ofNat n.toNat
theorem mp_app (x y : List Int) : mp (x ++ y) = mp x ++ mp y := List.map_append
theorem u8_lt {a b : Int} (h0 : 0 ≤ a) (h1 : a < b) (h2 : b ≤ 255) : UInt8.ofNat a.toNat < UInt8.ofNat b.toNat := by
  rw [UInt8.lt_iff_toNat_lt, UInt8.toNat_ofNat', UInt8.toNat_ofNat']
  omega
theorem bl_irrefl : ∀ l : List UInt8, Op.bytesLess l l = false
  | [] => rfl
  | a :: l => by rw [Op.bytesLess, bl_irrefl l]; simp
theorem bl_pre (x y : List UInt8) : ∀ p : List UInt8, Op.bytesLess (p ++ x) (p ++ y) = Op.bytesLess x y
  | [] => rfl
  | a :: p => by rw [List.cons_append, List.cons_append, Op.bytesLess, bl_pre x y p]; simp
theorem Lt.less {x y : List Int} (h : Lt x y) : Op.bytesLess (mp x) (mp y) = true := by
  induction h with
  | here a b c => unfold mp; rw [List.map_cons, List.map_cons, Op.bytesLess, decide_eq_true (u8_lt a b c)]; rfl
  | there _ ih => unfold mp at ih ⊢; rw [List.map_cons, List.map_cons, Op.bytesLess, ih]; simp
theorem Lt.not {x y : List Int} (h : Lt x y) : Op.bytesLess (mp y) (mp x) = false ∧ mp x ≠ mp y := by
  induction h with
  | @here p q _ _ a b c =>
    have l := u8_lt a b c
    rw [UInt8.lt_iff_toNat_lt] at l
    unfold mp
    rw [List.map_cons, List.map_cons, Op.bytesLess]
    refine ⟨?_, fun e => ?_⟩
    · rw [decide_eq_false (fun l2 => by rw [UInt8.lt_iff_toNat_lt] at l2; omega), Bool.false_or, beq_eq_false_iff_ne.2 (fun e => by rw [e] at l; omega), Bool.false_and]
    · have := (List.cons.inj e).1
      rw [this] at l; omega
  | there _ ih =>
    unfold mp at ih ⊢
    rw [List.map_cons, List.map_cons, Op.bytesLess, ih.1]
    exact ⟨by simp, fun e => ih.2 (List.cons.inj e).2⟩
theorem Lt.anti {x y : List Int} (h : Lt x y) (h2 : Lt y x) : False := by have := h2.less; rw [h.not.1] at this; cases this
theorem esc_zero (c : UInt8) (l : List UInt8) (h : c.toNat = 0) : esc (c :: l) = 0 :: 255 :: esc l := by rw [esc, if_pos h]
theorem esc_some (c : UInt8) (l : List UInt8) (h : ¬ c.toNat = 0) : esc (c :: l) = (c.toNat : Int) :: esc l := by rw [esc, if_neg h]
theorem esc_lt : ∀ l m : List UInt8, Op.bytesLess l m = true → Lt (esc l ++ [0, 1]) (esc m ++ [0, 1])
  | l, [], h => by cases l <;> cases h
  | [], c :: m, _ => by
    have := c.toNat_lt
    by_cases z : c.toNat = 0
    · rw [esc_zero c m z]; exact .there (.here (by omega) (by omega) (by omega))
    · rw [esc_some c m z]; exact .here (by omega) (by omega) (by omega)
  | a :: l, c :: m, h => by
    have hc := c.toNat_lt
    rw [Op.bytesLess, Bool.or_eq_true, Bool.and_eq_true] at h
    rcases h with h | ⟨h1, h2⟩
    · have h := of_decide_eq_true h
      rw [UInt8.lt_iff_toNat_lt] at h
      rw [esc_some c m (by omega)]
      by_cases z : a.toNat = 0
      · rw [esc_zero a l z]; exact .here (by omega) (by omega) (by omega)
      · rw [esc_some a l z]; exact .here (by omega) (by omega) (by omega)
    · obtain rfl := eq_of_beq h1
      have ih := esc_lt l m h2
      by_cases z : a.toNat = 0
      · rw [esc_zero a l z, esc_zero a m z]; exact .there (.there ih)
      · rw [esc_some a l z, esc_some a m z]; exact .there ih
theorem bl_three : ∀ l m : List UInt8, Op.bytesLess l m = true ∨ l = m ∨ Op.bytesLess m l = true
  | [], [] => .inr (.inl rfl)
  | [], _ :: _ => .inl rfl
  | _ :: _, [] => .inr (.inr rfl)
  | a :: l, c :: m => by
    rcases Nat.lt_trichotomy a.toNat c.toNat with h | h | h
    · left; rw [Op.bytesLess, decide_eq_true (by rw [UInt8.lt_iff_toNat_lt]; exact h)]; rfl
    · obtain rfl := UInt8.toNat_inj.1 h
      rcases bl_three l m with g | g | g
      · left; rw [Op.bytesLess, g]; simp
      · right; left; rw [g]
      · right; right; rw [Op.bytesLess, g]; simp
    · right; right; rw [Op.bytesLess, decide_eq_true (by rw [UInt8.lt_iff_toNat_lt]; exact h)]; rfl
def be : Nat → Int → List Int
  | 0, _ => []
  | n + 1, x => be n (x / 256) ++ [x % 256]
def hi : Nat → Int → Int
  | 0, x => x
  | n + 1, x => hi n (x / 256)
theorem be_lt : ∀ n x y, hi n x = hi n y → x < y → Lt (be n x) (be n y)
  | 0, x, y, h, l => by have : x = y := h; omega
  | n + 1, x, y, h, l => by
    by_cases c : x / 256 = y / 256
    · rw [be, be, c]; exact Lt.pre (.here (by omega) (by omega) (by omega)) _
    · exact (be_lt n (x / 256) (y / 256) h (by omega)).app _ _
theorem eight_be (b : Int) : eight b = be 8 (b + 9223372036854775808) := by
  unfold eight
  simp only [be, List.nil_append, List.cons_append]
  refine congr (congrArg List.cons (by omega)) (congr (congrArg List.cons (by omega)) (congr (congrArg List.cons (by omega)) (congr (congrArg List.cons (by omega)) (congr (congrArg List.cons (by omega)) (congr (congrArg List.cons (by omega)) (congr (congrArg List.cons (by omega)) (congr (congrArg List.cons (by omega)) rfl)))))))
theorem hi_zero (b : Int) (h : -9223372036854775808 ≤ b ∧ b ≤ 9223372036854775807) : hi 8 (b + 9223372036854775808) = 0 := by
  show (b + 9223372036854775808) / 256 / 256 / 256 / 256 / 256 / 256 / 256 / 256 = 0
  omega
theorem eight_lt (a b : Int) (ha : -9223372036854775808 ≤ a ∧ a ≤ 9223372036854775807) (hb : -9223372036854775808 ≤ b ∧ b ≤ 9223372036854775807) (h : a < b) : Lt (eight a) (eight b) := by
  rw [eight_be, eight_be]
  exact be_lt 8 _ _ (by rw [hi_zero a ha, hi_zero b hb]) (by omega)
abbrev cv2 (v w : S43) : Int := cmpVal (v.f0, v.f1, v.f2) (w.f0, w.f1, w.f2)
theorem cmpInt_lt {a b : Int} (h : a < b) : cmpInt a b = -1 := by unfold cmpInt; rw [if_pos h]
theorem cmpInt_gt {a b : Int} (h : b < a) : cmpInt a b = 1 := by unfold cmpInt; rw [if_neg (by omega), if_pos h]
theorem cmpInt_eq (a : Int) : cmpInt a a = 0 := by unfold cmpInt; rw [if_neg (by omega), if_neg (by omega)]
theorem cmpStr_eq (t : ByteArray) : cmpStr t t = 0 := by unfold cmpStr; rw [bl_irrefl]; rfl
theorem vok_of (a b : Int) (t : ByteArray) (h : vok a b t = true) : (a = 0 → b = 0 ∧ t.size = 0) ∧ (a = 1 → (0 ≤ b ∧ b ≤ 1) ∧ t.size = 0) ∧ (a = 2 → t.size = 0) ∧ (a = 3 ∨ a = 4 → b = 0) := by
  unfold vok at h
  simp only [Bool.or_eq_true, Bool.and_eq_true, decide_eq_true_eq] at h
  omega
theorem cell_cmp (v w : S43) (hv : gval v) (hw : gval w) : (cv2 v w < 0 ∧ Lt (cellB v) (cellB w)) ∨ (cv2 v w = 0 ∧ v = w) ∨ (0 < cv2 v w ∧ Lt (cellB w) (cellB v)) := by
  obtain ⟨a, b, t⟩ := v
  obtain ⟨x, y, u⟩ := w
  have ka := vok_kind _ _ _ hv.1
  have kx := vok_kind _ _ _ hw.1
  have va := vok_of _ _ _ hv.1
  have vx := vok_of _ _ _ hw.1
  have ra := hv.2
  have rx := hw.2
  dsimp only at ka kx va vx ra rx
  rcases Int.lt_trichotomy a x with h | rfl | h
  · left
    refine ⟨?_, .here (by show 0 ≤ a % 256; omega) (by show a % 256 < x % 256; omega) (by show x % 256 ≤ 255; omega)⟩
    unfold cv2 cmpVal
    dsimp only
    rw [cmpInt_lt h, if_pos (by decide)]; decide
  · have e : cv2 ⟨a, b, t⟩ ⟨a, y, u⟩ = if cmpInt b y ≠ 0 then cmpInt b y else cmpStr t u := by
      unfold cv2 cmpVal
      dsimp only
      rw [cmpInt_eq, if_neg (by decide)]
    rw [e]
    by_cases h12 : a = 1 ∨ a = 2
    · have ht : t = u := by
        rw [size_zero (show t.size = 0 by omega), size_zero (show u.size = 0 by omega)]
      subst ht
      rw [cmpStr_eq]
      have L : ∀ p q : Int, p < q → (a = 1 → 0 ≤ p ∧ q ≤ 1) → (-9223372036854775808 ≤ p ∧ p ≤ 9223372036854775807) → (-9223372036854775808 ≤ q ∧ q ≤ 9223372036854775807) → Lt (cellB ⟨a, p, t⟩) (cellB ⟨a, q, t⟩) := fun p q hpq h1 hp hq => by
        unfold cellB
        dsimp only
        by_cases c1 : a = 1
        · rw [if_pos c1, if_pos c1]; have := h1 c1; exact .there (.here (by omega) (by omega) (by omega))
        · rw [if_neg c1, if_neg c1, if_pos (by omega), if_pos (by omega)]; exact .there (eight_lt p q hp hq hpq)
      rcases Int.lt_trichotomy b y with g | g | g
      · left; rw [cmpInt_lt g]; exact ⟨by decide, L b y g (by omega) ra rx⟩
      · subst g; right; left; rw [cmpInt_eq]; exact ⟨rfl, rfl⟩
      · right; right; rw [cmpInt_gt g]; exact ⟨by decide, L y b g (by omega) rx ra⟩
    · have hb : b = y := by omega
      subst hb
      rw [cmpInt_eq, if_neg (by decide)]
      by_cases h0 : a = 0
      · have ht : t = u := by rw [size_zero (show t.size = 0 by omega), size_zero (show u.size = 0 by omega)]
        subst ht
        right; left; exact ⟨cmpStr_eq t, rfl⟩
      · have L : ∀ p q : ByteArray, Op.bytesLess p.toList q.toList = true → Lt (cellB ⟨a, b, p⟩) (cellB ⟨a, b, q⟩) := fun p q h => by
          unfold cellB
          dsimp only
          simp only [if_neg (show ¬ a = 1 by omega), if_neg (show ¬ a = 2 by omega), if_pos (show a = 3 ∨ a = 4 by omega), ← toList_eq]
          exact .there (esc_lt _ _ h)
        rcases bl_three t.toList u.toList with g | g | g
        · left; unfold cmpStr; rw [if_pos g]; exact ⟨by decide, L t u g⟩
        · obtain rfl := toList_inj g
          right; left; exact ⟨cmpStr_eq t, rfl⟩
        · have g2 : Op.bytesLess t.toList u.toList = false := by
            cases z : Op.bytesLess t.toList u.toList
            · rfl
            · exact (Lt.anti (esc_lt _ _ z) (esc_lt _ _ g)).elim
          right; right; unfold cmpStr; rw [g2, if_neg (by decide), if_pos g]; exact ⟨by decide, L u t g⟩
  · right; right
    refine ⟨?_, .here (by show 0 ≤ x % 256; omega) (by show x % 256 < a % 256; omega) (by show a % 256 ≤ 255; omega)⟩
    unfold cv2 cmpVal
    dsimp only
    rw [cmpInt_gt h, if_pos (by decide)]; decide
def cmpL : List S43 → List S43 → Int
  | [], [] => 0
  | [], _ :: _ => -1
  | _ :: _, [] => 1
  | v :: vs, w :: ws => if cv2 v w = 0 then cmpL vs ws else cv2 v w
theorem kb_cons (v : S43) (vs : List S43) : kb (v :: vs) = cellB v ++ kb vs := by unfold kb; rw [List.map_cons, List.flatten_cons]
theorem cell_one (v : S43) : ∃ c l, cellB v = c :: l := ⟨_, _, rfl⟩
theorem rows_cmp : ∀ V W : List S43, (∀ v ∈ V, gval v) → (∀ w ∈ W, gval w) →
    (cmpL V W < 0 ∧ Op.bytesLess (mp (kb V)) (mp (kb W)) = true ∧ mp (kb V) ≠ mp (kb W)) ∨ (cmpL V W = 0 ∧ V = W) ∨ (0 < cmpL V W ∧ Op.bytesLess (mp (kb V)) (mp (kb W)) = false ∧ mp (kb V) ≠ mp (kb W))
  | [], [], _, _ => .inr (.inl ⟨rfl, rfl⟩)
  | [], w :: ws, _, _ => by
    obtain ⟨c, l, e⟩ := cell_one w
    left
    rw [kb_cons, e]
    exact ⟨by rw [cmpL]; decide, rfl, fun h => by cases h⟩
  | v :: vs, [], _, _ => by
    obtain ⟨c, l, e⟩ := cell_one v
    right; right
    rw [kb_cons, e]
    exact ⟨by rw [cmpL]; decide, rfl, fun h => by cases h⟩
  | v :: vs, w :: ws, hv, hw => by
    have ih := rows_cmp vs ws (fun x h => hv x (List.mem_cons_of_mem _ h)) (fun x h => hw x (List.mem_cons_of_mem _ h))
    rw [kb_cons, kb_cons, cmpL]
    rcases cell_cmp v w (hv v (List.mem_cons_self ..)) (hw w (List.mem_cons_self ..)) with ⟨c, l⟩ | ⟨c, rfl⟩ | ⟨c, l⟩
    · have l2 := l.app (kb vs) (kb ws)
      left; rw [if_neg (by omega)]; exact ⟨c, l2.less, l2.not.2⟩
    · rw [if_pos c, mp_app, mp_app, bl_pre]
      rcases ih with ⟨i1, i2, i3⟩ | ⟨i1, i2⟩ | ⟨i1, i2, i3⟩
      · left; exact ⟨i1, i2, fun h => i3 (List.append_cancel_left h)⟩
      · right; left; exact ⟨i1, by rw [i2]⟩
      · right; right; exact ⟨i1, i2, fun h => i3 (List.append_cancel_left h)⟩
    · have l2 := l.app (kb ws) (kb vs)
      right; right; rw [if_neg (by omega)]; exact ⟨c, l2.not.1, fun h => l2.not.2 h.symm⟩
theorem kc_int (a b : Int) : cmp_Compare_int.f a b = some (cmpInt a b) := by
  unfold cmp_Compare_int.f cmp_isNaN_int.f cmpInt
  simp only [bne_self_eq_false, Option.bind_some, Bool.false_eq_true, if_false]
  split
  · rfl
  · split <;> rfl
theorem kc_str (a b : ByteArray) : cmp_Compare_string.f a b = some (cmpStr a b) := by
  unfold cmp_Compare_string.f cmp_isNaN_string.f cmpStr
  simp only [bne_self_eq_false, Option.bind_some, Bool.false_eq_true, if_false]
  split
  · rfl
  · split <;> rfl
theorem kc_or (k : Nat) (a b c : Int) : cmp_Or_int.f (k + 4) [a, b, c] = some (if a ≠ 0 then a else if b ≠ 0 then b else c) := by
  have h3 : (([a, b, c] : List Int).length : Int) = 3 := rfl
  have r0 : rd [a, b, c] 0 = a := rfl
  have r1 : rd [a, b, c] 1 = b := rfl
  have r2 : rd [a, b, c] 2 = c := rfl
  have w1 : wrap64 (0 + 1) = 1 := wrap_in _ (by omega)
  have w2 : wrap64 (1 + 1) = 2 := wrap_in _ (by omega)
  have w3 : wrap64 (2 + 1) = 3 := wrap_in _ (by omega)
  unfold cmp_Or_int.f
  rw [h3]
  show cmp_Or_int.l0 (k + 3 + 1) 0 [a, b, c] 3 0 = _
  rw [cmp_Or_int.l0, if_pos (by decide), if_pos (by decide), h3, if_pos (by decide), r0, w1]
  by_cases ha : a = 0
  · rw [if_pos ha, if_neg (by simpa using ha), cmp_Or_int.l0, if_pos (by decide), if_pos (by decide), h3, if_pos (by decide), r1, w2]
    by_cases hb : b = 0
    · rw [if_pos hb, if_neg (by simpa using hb), cmp_Or_int.l0, if_pos (by decide), if_pos (by decide), h3, if_pos (by decide), r2, w3]
      by_cases hc : c = 0
      · rw [if_pos hc, cmp_Or_int.l0, if_neg (by decide), hc]
      · rw [if_neg hc]
    · rw [if_neg hb, if_pos hb]
  · rw [if_neg ha, if_pos ha]
theorem kc_val (a b : Int) (c : ByteArray) (x y : Int) (z : ByteArray) : Ev (fun k => impl_compareValues.f k a b c x y z) (cmpVal (a, b, c) (x, y, z)) := by
  refine ⟨4, fun k hk => ?_⟩
  obtain ⟨k, rfl⟩ : ∃ m, k = m + 4 := ⟨k - 4, by omega⟩
  show impl_compareValues.f (k + 4) a b c x y z = _
  unfold impl_compareValues.f
  rw [kc_int, kc_int, kc_str]
  simp only [Option.bind_some]
  rw [kc_or]
  rfl
theorem row_l0 (V W : List S43) (hV : V.length ≤ 1000) : ∀ d i, i + d = V.length → Ev (fun k => impl_cmpRow.l0 k V W V (V.length : Int) (i : Int)) (cmpL (V.drop i) (W.drop i))
  | 0, i, h => by
    rw [List.drop_of_length_le (show V.length ≤ i by omega)]
    by_cases c : V.length < W.length
    · rw [List.drop_eq_getElem_cons (show i < W.length by omega)]
      exact Ev.step (f := fun _ => some (-1)) (fun k => by rw [impl_cmpRow.l0, if_neg (by omega), if_pos (by omega)]) (Ev.now _)
    · rw [List.drop_of_length_le (show W.length ≤ i by omega)]
      exact Ev.step (f := fun _ => some 0) (fun k => by rw [impl_cmpRow.l0, if_neg (by omega), if_neg (by omega)]) (Ev.now _)
  | d + 1, i, h => by
    have hlt : i < V.length := by omega
    rw [List.drop_eq_getElem_cons hlt]
    by_cases c : i < W.length
    · rw [List.drop_eq_getElem_cons c, cmpL]
      have ih := row_l0 V W hV d (i + 1) (by omega)
      refine Ev.step (fun k => by rw [impl_cmpRow.l0, if_pos (by omega), if_pos (by omega), if_pos (by omega), if_neg (by omega), if_pos (by omega), rdv_ V i hlt, rdv_ W i c, next64 i V.length hlt (by simp only [maxLen]; omega)]) ?_
      refine Ev.bind (kc_val _ _ _ _ _ _) ?_
      by_cases z : cv2 V[i] W[i] = 0
      · rw [if_pos z]; exact Ev.congr (fun k => by rw [if_pos z]) ih
      · rw [if_neg z]; exact Ev.congr (f := fun _ => some (cv2 V[i] W[i])) (fun k => by rw [if_neg z]) (Ev.now _)
    · rw [List.drop_of_length_le (show W.length ≤ i by omega)]
      exact Ev.step (f := fun _ => some 1) (fun k => by rw [impl_cmpRow.l0, if_pos (by omega), if_pos (by omega), if_pos (by omega), if_pos (by omega)]) (Ev.now _)
theorem row_is (V W : List S43) (hV : V.length ≤ 1000) : Ev (fun k => impl_cmpRow.f k V W) (cmpL V W) := row_l0 V W hV V.length 0 (by omega)
end Go.Proofs.YtfagildjbhcnlaaDoor.Pure
end
