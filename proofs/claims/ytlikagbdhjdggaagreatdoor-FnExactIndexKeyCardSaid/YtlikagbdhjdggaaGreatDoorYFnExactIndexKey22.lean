/- Contracts of functions, and what is told of them. -/
import Derived.Test.YtlikagbdhjdggaaGreatDoorYFnExactIndexKey21
import Derived.OpenShut
import Derived.Laws.Strings
set_option linter.unusedSimpArgs false
set_option linter.unusedVariables false
section
namespace Go.Proofs.YtlikagbdhjdggaaGreatDoor.X
open Go.RowKit Go.Proofs.YtlikagbdhjdggaaGreatDoorW.PrintWords Go.Proofs.YtlikagbdhjdggaaGreatDoorW.PrintLast Go.Proofs.YtlikagbdhjdggaaGreatDoorW.PrintMore
attribute [local go_sem] max2_int min2_int max_two min_two max_three min_three max_four min_four

section
def laws_FnExactIndexKey.Need : Prop := ∀ (a0_0 : ByteArray) (l0_1 : List (S72)) (a0_2 : Int) (l0_3 : List (S74)) (a1 : Int) (l2 : List (S50)), a0_0.size ≤ maxLen → (l0_1.length ≤ maxLen ∧ ∀ x0_ ∈ l0_1, Q72 x0_) → (Lit.int .i64 a0_2).wf = true → (l0_3.length ≤ maxLen ∧ ∀ x0_ ∈ l0_3, Q74 x0_) → (Lit.int .i64 a1).wf = true → (l2.length ≤ maxLen ∧ ∀ x0_ ∈ l2, Q50 x0_) → ∃ k, laws_FnExactIndexKey.f k a0_0 l0_1 a0_2 l0_3 a1 l2 = some true
end

end Go.Proofs.YtlikagbdhjdggaaGreatDoor.X
end

section
/- Small facts on numbers and texts. -/
namespace Go.Proofs.YtlikagbdhjdggaaGreatDoor.Pure
open Go.RowKit Go.Proofs.YtlikagbdhjdggaaGreatDoor.X Go.Proofs.YtlikagbdhjdggaaGreatDoorW.PrintWords Go.Proofs.YtlikagbdhjdggaaGreatDoorW.PrintLast
theorem wrap_in (a : Int) (ha : -9223372036854775808 ≤ a ∧ a ≤ 9223372036854775807) : wrap64 a = a := by unfold wrap64; omega
theorem i64_of {n : Int} (h : (Lit.int .i64 n).wf = true) : -9223372036854775808 ≤ n ∧ n ≤ 9223372036854775807 := bounds_i64 h
theorem toList_eq (s : ByteArray) : s.toList = s.data.toList := ByteArray.toList_eq s
theorem length_toList (s : ByteArray) : s.toList.length = s.size := by rw [toList_eq]; rfl
end Go.Proofs.YtlikagbdhjdggaaGreatDoor.Pure
end

section
/- Right values: the program and the reference tell the same. -/
namespace Go.Proofs.YtlikagbdhjdggaaGreatDoor.Pure
open Go.RowKit Go.Proofs.YtlikagbdhjdggaaGreatDoor.X Go.Proofs.YtlikagbdhjdggaaGreatDoorW.PrintWords Go.Proofs.YtlikagbdhjdggaaGreatDoorW.PrintLast
def vok (a b : Int) (t : ByteArray) : Bool :=
  (decide (a = 0) && decide (b = 0) && decide (t.size = 0)) || (decide (a = 1) && decide (0 ≤ b ∧ b ≤ 1) && decide (t.size = 0)) || (decide (a = 2) && decide (t.size = 0)) ||
    (decide (a = 3 ∨ a = 4) && decide (b = 0) && decide (t.size ≤ 60))
theorem nil_iff (t : ByteArray) : (t.toList == ([] : List UInt8)) = decide (t.size = 0) := by
  rw [← length_toList]
  cases t.toList <;> simp
theorem size_le (t : ByteArray) : decide ((t.size : Int) ≤ 60) = decide (t.size ≤ 60) := by rw [decide_eq_decide]; omega
theorem spec_vok (a b : Int) (t : ByteArray) : spec_ValueOK.f a b t = some (vok a b t) := by
  unfold spec_ValueOK.f spec_l01In.f
  simp only [nil_iff, size_le]
  unfold vok
  by_cases c0 : a = 0
  · subst c0; by_cases cb : b = 0 <;> simp [cb]
  by_cases c1 : a = 1
  · subst c1; by_cases cb : 0 ≤ b <;> by_cases cc : b ≤ 1 <;> simp [cb, cc]
  by_cases c2 : a = 2
  · subst c2; simp
  by_cases c3 : a = 3
  · subst c3; by_cases cb : b = 0 <;> simp [cb]
  by_cases c4 : a = 4
  · subst c4; by_cases cb : b = 0 <;> simp [cb]
  simp [c0, c1, c2, c3, c4]
theorem impl_vok (a b : Int) (t : ByteArray) : impl_ValueOK.f a b t = some (vok a b t) := by
  unfold impl_ValueOK.f impl_within.f impl_hasText.f
  simp only [nil_iff, size_le]
  unfold vok
  by_cases c0 : a = 0
  · subst c0; by_cases cb : b = 0 <;> simp [cb]
  by_cases c1 : a = 1
  · subst c1; by_cases cb : 0 ≤ b <;> by_cases cc : b ≤ 1 <;> simp [cb, cc]
  by_cases c2 : a = 2
  · subst c2; simp
  by_cases c3 : a = 3
  · subst c3; by_cases cb : b = 0 <;> simp [cb]
  by_cases c4 : a = 4
  · subst c4; by_cases cb : b = 0 <;> simp [cb]
  simp [c0, c1, c2, c3, c4]
end Go.Proofs.YtlikagbdhjdggaaGreatDoor.Pure
end

section
/- A value is like itself. -/
namespace Go.Proofs.YtlikagbdhjdggaaGreatDoor.Pure
open Go.RowKit Go.Proofs.YtlikagbdhjdggaaGreatDoor.X Go.Proofs.YtlikagbdhjdggaaGreatDoorW.PrintWords Go.Proofs.YtlikagbdhjdggaaGreatDoorW.PrintLast
end Go.Proofs.YtlikagbdhjdggaaGreatDoor.Pure
end

section
/- What Contains and Index over texts tell. -/
namespace Go.Proofs.YtlikagbdhjdggaaGreatDoor.Pure
open Go.RowKit Go.Proofs.YtlikagbdhjdggaaGreatDoor.X Go.Proofs.YtlikagbdhjdggaaGreatDoorW.PrintWords Go.Proofs.YtlikagbdhjdggaaGreatDoorW.PrintLast
theorem index_loop (l : List ByteArray) (x : ByteArray) (hl : l.length ≤ 9223372036854775807) (d : Nat) : ∀ (k i : Nat), l.length - i = d → i ≤ l.length → d < k →
    slices_Index_string_string.l0 k l x (l.length : Int) (i : Int) = some (match (l.drop i).findIdx? (fun y => x.toList == y.toList) with | some j => ((i + j : Nat) : Int) | none => -1) := by
  induction d with
  | zero =>
    intro k i hd hi hk
    obtain ⟨k, rfl⟩ : ∃ m, k = m + 1 := ⟨k - 1, by omega⟩
    simp only [slices_Index_string_string.l0]
    rw [if_neg (by omega), List.drop_of_length_le (by omega)]
    rfl
  | succ d ih =>
    intro k i hd hi hk
    obtain ⟨k, rfl⟩ : ∃ m, k = m + 1 := ⟨k - 1, by omega⟩
    have hlt : i < l.length := by omega
    simp only [slices_Index_string_string.l0]
    rw [if_pos (by omega), if_pos (by omega), if_pos (by omega), List.drop_eq_getElem_cons hlt, List.findIdx?_cons]
    have hr : rdOf ByteArray.empty l (i : Int) = l[i] := by simp [rdOf, hlt]
    rw [hr]
    by_cases c : x.toList = l[i].toList
    · have : (x.toList == l[i].toList) = true := by rw [c]; simp
      rw [if_pos c, this]; simp
    · have : (x.toList == l[i].toList) = false := by simpa using c
      rw [if_neg c, this, show wrap64 ((i : Int) + 1) = ((i + 1 : Nat) : Int) from by unfold wrap64; omega, ih k (i + 1) (by omega) (by omega) (by omega)]
      cases (l.drop (i + 1)).findIdx? (fun y => x.toList == y.toList) with
      | none => rfl
      | some j => show some (((i + 1 + j : Nat)) : Int) = some (((i + (j + 1) : Nat)) : Int); rw [show i + 1 + j = i + (j + 1) by omega]
theorem contains_is (l : List ByteArray) (x : ByteArray) (hl : l.length ≤ 9223372036854775807) (k : Nat) (hk : l.length < k) :
    slices_Contains_string_string.f k l x = some (l.any fun y => x.toList == y.toList) := by
  unfold slices_Contains_string_string.f slices_Index_string_string.f
  rw [show (0 : Int) = ((0 : Nat) : Int) from rfl, index_loop l x hl l.length k 0 (by omega) (by omega) hk, List.drop_zero]
  simp only [Option.bind_some, Option.some.injEq]
  have := fIdx_any (fun y => x.toList == y.toList) l
  unfold fIdx at this
  rw [← this]
  cases l.findIdx? (fun y => x.toList == y.toList) <;> simp
end Go.Proofs.YtlikagbdhjdggaaGreatDoor.Pure
end

section
/- Names: the program and the reference tell the same. -/
namespace Go.Proofs.YtlikagbdhjdggaaGreatDoor.Pure
open Go.RowKit Go.Proofs.YtlikagbdhjdggaaGreatDoor.X Go.Proofs.YtlikagbdhjdggaaGreatDoorW.PrintWords Go.Proofs.YtlikagbdhjdggaaGreatDoorW.PrintLast
def letter (x : Int) : Bool := decide (97 ≤ x ∧ x ≤ 122) || (decide (65 ≤ x ∧ x ≤ 90) || x == 95)
def digit (x : Int) : Bool := decide (48 ≤ x ∧ x ≤ 57)
theorem impl_letter (x : Int) : impl_isLetter.f x = some (letter x) := by
  unfold impl_isLetter.f letter
  by_cases a : 97 ≤ x <;> by_cases b : x ≤ 122 <;> by_cases c : 65 ≤ x <;> by_cases d : x ≤ 90 <;> simp [a, b, c, d]
theorem spec_letter (x : Int) : spec_l00Letter.f x = some (letter x) := by
  unfold spec_l00Letter.f letter
  by_cases a : 97 ≤ x <;> by_cases b : x ≤ 122 <;> by_cases c : 65 ≤ x <;> by_cases d : x ≤ 90 <;> simp [a, b, c, d]
theorem impl_digit (x : Int) : impl_isDigit.f x = some (digit x) := by
  unfold impl_isDigit.f digit
  by_cases a : 48 ≤ x <;> by_cases b : x ≤ 57 <;> simp [a, b]
theorem spec_digit (x : Int) : spec_l00Digit.f x = some (digit x) := by
  unfold spec_l00Digit.f digit
  by_cases a : 48 ≤ x <;> by_cases b : x ≤ 57 <;> simp [a, b]
theorem impl_in (a b c : Int) : impl_within.f a b c = some (decide (b ≤ a) && decide (a ≤ c)) := by
  unfold impl_within.f
  by_cases h : a ≥ b
  · rw [if_pos h]; simp [show b ≤ a from h]
  · rw [if_neg h]; simp [show ¬ b ≤ a from h]
theorem spec_in (a b c : Int) : spec_l01In.f a b c = some (decide (b ≤ a) && decide (a ≤ c)) := by
  unfold spec_l01In.f
  by_cases h : a ≥ b
  · rw [if_pos h]; simp [show b ≤ a from h]
  · rw [if_neg h]; simp [show ¬ b ≤ a from h]
theorem next64 (i n : Nat) (h : i < n) (hn : n ≤ maxLen) : wrap64 ((i : Int) + 1) = ((i + 1 : Nat) : Int) := by simp only [maxLen] at hn; unfold wrap64; omega
def okAt (x : ByteArray) (i : Nat) : Bool := letter (bt x (i : Int)) || (decide (i ≠ 0) && digit (bt x (i : Int)))
def okFrom (x : ByteArray) : Nat → Nat → Bool
  | 0, _ => true
  | d + 1, i => okAt x i && okFrom x d (i + 1)
theorem impl_name_l0 (x : ByteArray) (hx : x.size ≤ maxLen) : ∀ d k i, i + d = x.size → impl_NameOK.l0 (k + d + 1) x (x.size : Int) (i : Int) = some (okFrom x d i && (decide (1 ≤ (x.size : Int)) && decide ((x.size : Int) ≤ 40)))
  | 0, k, i, h => by
    rw [show k + 0 + 1 = k + 1 from rfl, impl_NameOK.l0, if_neg (by omega), impl_in]; rfl
  | d + 1, k, i, h => by
    rw [show k + (d + 1) + 1 = (k + d + 1) + 1 by omega, impl_NameOK.l0, if_pos (by omega), if_pos (by omega), if_pos (by omega), impl_letter, impl_digit, next64 i x.size (by omega) hx, impl_name_l0 x hx d k (i + 1) (by omega), okFrom, okAt]
    simp only [Option.bind_some]
    cases letter (bt x (i : Int)) with
    | true => rw [if_pos rfl]; simp
    | false =>
      rw [if_neg (by decide)]
      by_cases h0 : i = 0
      · subst h0; rw [if_pos (show ((0 : Nat) : Int) = 0 from rfl)]; simp
      · rw [if_neg (by omega)]
        cases digit (bt x (i : Int)) with
        | true => rw [if_pos rfl]; simp [h0]
        | false => rw [if_neg (by decide)]; simp
theorem spec_name_l0 (x : ByteArray) (hx : x.size ≤ maxLen) : ∀ d k i, i + d = x.size → 1 ≤ i → spec_l00Word.l0 (k + d + 1) x (i : Int) = some (okFrom x d i)
  | 0, k, i, h, _ => by rw [show k + 0 + 1 = k + 1 from rfl, spec_l00Word.l0, if_neg (by omega)]; rfl
  | d + 1, k, i, h, h1 => by
    rw [show k + (d + 1) + 1 = (k + d + 1) + 1 by omega, spec_l00Word.l0, if_pos (by omega), if_pos (by omega), spec_letter, spec_digit, next64 i x.size (by omega) hx, spec_name_l0 x hx d k (i + 1) (by omega) (by omega), okFrom, okAt]
    simp only [Option.bind_some]
    have h0 : i ≠ 0 := by omega
    cases letter (bt x (i : Int)) <;> cases digit (bt x (i : Int)) <;> simp [h0]
def nameok (x : ByteArray) : Bool := okFrom x x.size 0 && (decide (1 ≤ (x.size : Int)) && decide ((x.size : Int) ≤ 40))
theorem impl_name (x : ByteArray) (hx : x.size ≤ maxLen) (k : Nat) (hk : x.size < k) : impl_NameOK.f k x = some (nameok x) := by
  obtain ⟨k, rfl⟩ : ∃ m, k = m + x.size + 1 := ⟨k - x.size - 1, by omega⟩
  exact impl_name_l0 x hx x.size k 0 (by omega)
theorem spec_name (x : ByteArray) (hx : x.size ≤ maxLen) (k : Nat) (hk : x.size + 1 < k) : spec_NameOK.f k x = some (nameok x) := by
  obtain ⟨k, rfl⟩ : ∃ m, k = m + x.size + 2 := ⟨k - x.size - 2, by omega⟩
  unfold spec_NameOK.f spec_l00Word.f nameok
  by_cases h1 : (x.size : Int) < 1
  · rw [if_pos h1, show k + x.size + 2 = (k + x.size + 1) + 1 by omega, spec_l00Word.j0, if_pos rfl]
    simp [show ¬ 1 ≤ (x.size : Int) by omega]
  rw [if_neg h1]
  by_cases h2 : (x.size : Int) > 40
  · rw [if_pos h2, show k + x.size + 2 = (k + x.size + 1) + 1 by omega, spec_l00Word.j0, if_pos rfl]
    simp [show ¬ (x.size : Int) ≤ 40 by omega]
  rw [if_neg h2, if_pos (by omega), spec_letter]
  obtain ⟨d, hd⟩ : ∃ d, x.size = d + 1 := ⟨x.size - 1, by omega⟩
  have e := spec_name_l0 x hx d (k + 1) 1 (by omega) (by omega)
  simp only [Option.bind_some]
  rw [show k + x.size + 2 = (k + 1 + d + 1) + 1 by omega, spec_l00Word.j0]
  rw [show (1 : Int) = ((1 : Nat) : Int) from rfl] at *
  rw [e, hd, okFrom, okAt]
  have g1 : decide (((1 : Nat) : Int) ≤ ((d + 1 : Nat) : Int)) = true := by simp; omega
  have g2 : decide (((d + 1 : Nat) : Int) ≤ 40) = true := by simp; omega
  rw [g1, g2]
  show _ = some (((letter (bt x 0) || (decide (0 ≠ 0) && _)) && okFrom x d (0 + 1)) && _)
  cases letter (bt x 0) <;> simp
def words : List ByteArray := [(⟨#[115, 101, 108, 101, 99, 116]⟩ : ByteArray), (⟨#[102, 114, 111, 109]⟩ : ByteArray), (⟨#[106, 111, 105, 110]⟩ : ByteArray), (⟨#[111, 110]⟩ : ByteArray), (⟨#[119, 104, 101, 114, 101]⟩ : ByteArray), (⟨#[103, 114, 111, 117, 112]⟩ : ByteArray), (⟨#[98, 121]⟩ : ByteArray), (⟨#[111, 114, 100, 101, 114]⟩ : ByteArray), (⟨#[108, 105, 109, 105, 116]⟩ : ByteArray), (⟨#[100, 101, 115, 99]⟩ : ByteArray), (⟨#[105, 110, 115, 101, 114, 116]⟩ : ByteArray), (⟨#[105, 110, 116, 111]⟩ : ByteArray), (⟨#[118, 97, 108, 117, 101, 115]⟩ : ByteArray), (⟨#[117, 112, 100, 97, 116, 101]⟩ : ByteArray), (⟨#[115, 101, 116]⟩ : ByteArray), (⟨#[100, 101, 108, 101, 116, 101]⟩ : ByteArray), (⟨#[97, 110, 100]⟩ : ByteArray), (⟨#[111, 114]⟩ : ByteArray), (⟨#[110, 111, 116]⟩ : ByteArray), (⟨#[105, 115]⟩ : ByteArray), (⟨#[110, 117, 108, 108]⟩ : ByteArray), (⟨#[116, 114, 117, 101]⟩ : ByteArray), (⟨#[102, 97, 108, 115, 101]⟩ : ByteArray), (⟨#[99, 111, 117, 110, 116]⟩ : ByteArray), (⟨#[115, 117, 109]⟩ : ByteArray), (⟨#[109, 105, 110]⟩ : ByteArray), (⟨#[109, 97, 120]⟩ : ByteArray), (⟨#[97, 115]⟩ : ByteArray)]
theorem spec_words : spec_l09Words.f = some words := rfl
theorem impl_words : impl_reserved.f = some words := by kernel_rfl
def free (x : ByteArray) : Bool := nameok x && !(words.any fun y => x.toList == y.toList)
theorem impl_free (x : ByteArray) (hx : x.size ≤ maxLen) (k : Nat) (hk : x.size + 40 < k) : impl_isFree.f k x = some (free x) := by
  unfold impl_isFree.f free
  rw [impl_name x hx k (by omega), impl_words, Option.bind_some, Option.bind_some, contains_is words x (by decide) k (by have : words.length = 28 := rfl; omega), Option.bind_some]
  cases nameok x <;> simp
theorem spec_free_l0 (x : ByteArray) : ∀ d k i, i + d = words.length → spec_l09Name.l0 (k + d + 1) x (i : Int) = some (!((words.drop i).any fun y => x.toList == y.toList))
  | 0, k, i, h => by
    rw [show k + 0 + 1 = k + 1 from rfl, spec_l09Name.l0, spec_words, Option.bind_some, if_neg (by omega), List.drop_of_length_le (by omega)]; rfl
  | d + 1, k, i, h => by
    have hw : words.length = 28 := rfl
    have hlt : i < words.length := by omega
    rw [show k + (d + 1) + 1 = (k + d + 1) + 1 by omega, spec_l09Name.l0, spec_words, Option.bind_some, if_pos (by omega), Option.bind_some, if_pos (by omega), if_pos (by omega), next64 i 28 (by omega) (by simp only [maxLen]; omega), spec_free_l0 x d k (i + 1) (by omega), List.drop_eq_getElem_cons hlt, List.any_cons]
    rw [show rdOf ByteArray.empty words (i : Int) = words[i] by simp [rdOf, hlt]]
    by_cases c : words[i].toList = x.toList
    · rw [if_pos c, show (x.toList == words[i].toList) = true by rw [c]; simp]; rfl
    · rw [if_neg c, show (x.toList == words[i].toList) = false by simpa using fun e => c e.symm]; simp
theorem spec_free (x : ByteArray) (hx : x.size ≤ maxLen) (k : Nat) (hk : x.size + 40 < k) : spec_l09Name.f k x = some (free x) := by
  unfold spec_l09Name.f free
  have hw : words.length = 28 := rfl
  obtain ⟨m, rfl⟩ : ∃ m, k = m + words.length + 1 := ⟨k - 29, by omega⟩
  have e := spec_free_l0 x words.length m 0 (by omega)
  rw [show ((0 : Nat) : Int) = 0 from rfl, List.drop_zero] at e
  rw [spec_name x hx _ (by omega), Option.bind_some, e]
  cases nameok x <;> simp
end Go.Proofs.YtlikagbdhjdggaaGreatDoor.Pure
end

section
/- A row of values is right for both or for neither; copies of values. -/
namespace Go.Proofs.YtlikagbdhjdggaaGreatDoor.Pure
open Go.RowKit Go.Proofs.YtlikagbdhjdggaaGreatDoor.X Go.Proofs.YtlikagbdhjdggaaGreatDoorW.PrintWords Go.Proofs.YtlikagbdhjdggaaGreatDoorW.PrintLast
theorem rdlValue_ (V : List S50) (i : Nat) (h : i < V.length) : rd_T50 V (i : Int) = V[i] := by simp [rd_T50, h]
theorem rdiValue_ (V : List S61) (i : Nat) (h : i < V.length) : rd_T61 V (i : Int) = V[i] := by simp [rd_T61, h]
def cvValue (x : S50) : S61 := ⟨x.f0, x.f1, x.f2⟩
theorem eqValue_refl (x : S61) : laws_eqValue.f x.f0 x.f1 x.f2 x.f0 x.f1 x.f2 = some true := by unfold laws_eqValue.f; simp
theorem eqValueS_l0 (V : List S61) (hV : V.length ≤ 1048576) (d : Nat) : ∀ k i, V.length - i = d → i ≤ V.length → laws_eqValueS.l0 (k + d + 1) V V (i : Int) = some true := by
  induction d with
  | zero => intro k i h1 h2; rw [laws_eqValueS.l0, if_neg (by omega)]
  | succ d ih =>
    intro k i h1 h2
    rw [show k + (d + 1) + 1 = (k + d + 1) + 1 by omega, laws_eqValueS.l0, if_pos (by omega), if_pos (by omega), if_pos (by omega), eqValue_refl, Option.bind_some, if_pos rfl, next64 i V.length (by omega) (by simp only [maxLen]; omega)]
    exact ih k (i + 1) (by omega) (by omega)
theorem eqValueS_refl (V : List S61) (hV : V.length ≤ 1048576) (k : Nat) (hk : V.length < k) : laws_eqValueS.f k V V = some true := by
  obtain ⟨k, rfl⟩ : ∃ m, k = m + V.length + 1 := ⟨k - V.length - 1, by omega⟩
  unfold laws_eqValueS.f
  rw [if_pos rfl]
  exact eqValueS_l0 V hV V.length k 0 (by omega) (by omega)
theorem toValueS_l0 (L : List S50) (hV : L.length ≤ 1048576) (d : Nat) : ∀ k i (R : List S61), L.length - i = d → i ≤ L.length → R.length = L.length →
    laws_toValueS.l0 (k + d + 1) L R (i : Int) = some (R.take i ++ (L.drop i).map cvValue) := by
  induction d with
  | zero =>
    intro k i R h1 h2 h3
    rw [laws_toValueS.l0, if_neg (by omega), List.take_of_length_le (by omega), List.drop_of_length_le (by omega), List.map_nil, List.append_nil]
  | succ d ih =>
    intro k i R h1 h2 h3
    have hlt : i < L.length := by omega
    rw [show k + (d + 1) + 1 = (k + d + 1) + 1 by omega, laws_toValueS.l0, if_pos (by omega), if_pos (by omega), rdlValue_ L i hlt]
    unfold laws_toValue.f
    rw [Option.bind_some, if_pos (by omega), next64 i L.length (by omega) (by simp only [maxLen]; omega), ih k (i + 1) _ (by omega) (by omega) (by rw [List.length_set]; exact h3)]
    congr 1
    rw [show (i : Int).toNat = i from rfl, List.drop_eq_getElem_cons hlt, List.map_cons]
    rw [show List.take (i + 1) (R.set i (⟨L[i].f0, L[i].f1, L[i].f2⟩ : S61)) = List.take i R ++ [cvValue L[i]] from ?_, List.append_assoc]
    · rfl
    · rw [List.take_succ_eq_append_getElem (by rw [List.length_set]; omega), List.getElem_set_self]
      congr 1
      exact List.take_set_of_le (Nat.le_refl i)
theorem toValueS_is (L : List S50) (hV : L.length ≤ 1048576) (k : Nat) (hk : L.length < k) : laws_toValueS.f k L = some (L.map cvValue) := by
  obtain ⟨k, rfl⟩ : ∃ m, k = m + L.length + 1 := ⟨k - L.length - 1, by omega⟩
  unfold laws_toValueS.f
  rw [if_pos (by omega), if_pos (by omega)]
  have := toValueS_l0 L hV L.length k 0 (List.replicate ((L.length : Int)).toNat z61) (by omega) (by omega) (by simp)
  simpa using this
theorem szValue_is (x : S50) (m : Int) (hm : 0 ≤ m ∧ m ≤ 1048576) (hx : x.f2.size ≤ maxLen) : ∃ n, laws_szValue.f x.f0 x.f1 x.f2 m = some n ∧ -1 ≤ n ∧ n ≤ m := by
  simp only [maxLen] at hx
  unfold laws_szValue.f
  rw [wrap_in (m - (x.f2.size : Int)) (by omega)]
  by_cases c0 : m - (x.f2.size : Int) < 0
  · rw [if_pos c0]; exact ⟨_, rfl, by omega⟩
  rw [if_neg c0]
  exact ⟨_, rfl, by omega⟩
theorem szValueS_l0 (L : List S50) (hV : L.length ≤ 1048576) (hx : ∀ x ∈ L, x.f2.size ≤ maxLen) (d : Nat) : ∀ k i (m : Int), L.length - i = d → i ≤ L.length → 0 ≤ m ∧ m ≤ 1048576 → ∃ n, laws_szValueS.l0 (k + d + 1) L m (i : Int) = some n ∧ -1 ≤ n ∧ n ≤ m := by
  induction d with
  | zero => intro k i m h1 h2 hm; exact ⟨_, by rw [laws_szValueS.l0, if_neg (by omega)], by omega⟩
  | succ d ih =>
    intro k i m h1 h2 hm
    have hlt : i < L.length := by omega
    rw [show k + (d + 1) + 1 = (k + d + 1) + 1 by omega, laws_szValueS.l0, if_pos (by omega), if_pos (by omega), rdlValue_ L i hlt]
    obtain ⟨n, e, h3, h4⟩ := szValue_is L[i] m hm (hx _ (List.getElem_mem hlt))
    rw [e, Option.bind_some]
    by_cases hn : n < 0
    · rw [if_pos hn]; exact ⟨_, rfl, by omega⟩
    · rw [if_neg hn, next64 i L.length (by omega) (by simp only [maxLen]; omega)]
      obtain ⟨n2, e2, h5, h6⟩ := ih k (i + 1) n (by omega) (by omega) (by omega)
      exact ⟨n2, e2, by omega⟩
theorem szValueS_is (L : List S50) (hM : L.length ≤ maxLen) (hx : ∀ x ∈ L, x.f2.size ≤ maxLen) (m : Int) (hm : 0 ≤ m ∧ m ≤ 1048576) (k : Nat) (hk : L.length < k) : ∃ n, laws_szValueS.f k L m = some n ∧ -1 ≤ n ∧ n ≤ m ∧ (n < 0 ∨ L.length ≤ 1048576) := by
  simp only [maxLen] at hM
  unfold laws_szValueS.f
  rw [wrap_in (m - (L.length : Int)) (by omega)]
  by_cases c : m - (L.length : Int) < 0
  · rw [if_pos c]; exact ⟨_, rfl, by omega⟩
  rw [if_neg c]
  obtain ⟨k, rfl⟩ : ∃ q, k = q + L.length + 1 := ⟨k - L.length - 1, by omega⟩
  obtain ⟨n, e, h1, h2⟩ := szValueS_l0 L (by omega) hx L.length k 0 (m - (L.length : Int)) (by omega) (by omega) (by omega)
  exact ⟨n, e, by omega, by omega, .inr (by omega)⟩

theorem any_ok (R : List S61) : impl_rowOK_1_any.f R = some (R.any fun x => !(vok x.f0 x.f1 x.f2)) := by
  have e : (fun x : S61 => impl_rowOK_1.f x.f0 x.f1 x.f2) = fun x => some (!(vok x.f0 x.f1 x.f2)) := by
    funext x; unfold impl_rowOK_1.f; rw [impl_vok]; rfl
  unfold impl_rowOK_1_any.f
  rw [e]
  unfold anyO
  rw [if_pos (by simp)]
  simp
def rowok (R : List S61) : Bool := decide (R.length ≤ 8) && R.all fun x => vok x.f0 x.f1 x.f2
theorem impl_row (R : List S61) : impl_rowOK.f R = some (rowok R) := by
  unfold impl_rowOK.f rowok
  rw [any_ok]
  by_cases h : R.length ≤ 8
  · rw [if_pos (by omega), Option.bind_some, decide_eq_true h, Bool.true_and]
    rw [List.any_eq_not_all_not]; simp
  · rw [if_neg (by omega), decide_eq_false h, Bool.false_and]
theorem spec_row_l0 (R : List S61) (hR : R.length ≤ 1048576) : ∀ d k i, i + d = R.length → spec_l01Row.l0 (k + d + 1) R (i : Int) = some ((R.drop i).all fun x => vok x.f0 x.f1 x.f2)
  | 0, k, i, h => by rw [spec_l01Row.l0, if_neg (by omega), List.drop_of_length_le (by omega)]; rfl
  | d + 1, k, i, h => by
    have hlt : i < R.length := by omega
    rw [show k + (d + 1) + 1 = (k + d + 1) + 1 by omega, spec_l01Row.l0, if_pos (by omega), if_pos (by omega), rdiValue_ R i hlt, spec_vok, Option.bind_some, next64 i R.length (by omega) (by simp only [maxLen]; omega), spec_row_l0 R hR d k (i + 1) (by omega),
      List.drop_eq_getElem_cons hlt, List.all_cons]
    cases vok R[i].f0 R[i].f1 R[i].f2 <;> simp
theorem spec_row (R : List S61) (hR : R.length ≤ 1048576) (k : Nat) (hk : R.length < k) : spec_l01Row.f k R = some (rowok R) := by
  obtain ⟨k, rfl⟩ : ∃ m, k = m + R.length + 1 := ⟨k - R.length - 1, by omega⟩
  unfold spec_l01Row.f rowok
  by_cases h : R.length ≤ 8
  · rw [if_neg (by omega), decide_eq_true h, Bool.true_and]
    have := spec_row_l0 R hR R.length k 0 (by omega)
    simpa using this
  · rw [if_pos (by omega), decide_eq_false h, Bool.false_and]
end Go.Proofs.YtlikagbdhjdggaaGreatDoor.Pure
end

section
/- Copies, likeness and sizes of columns. -/
namespace Go.Proofs.YtlikagbdhjdggaaGreatDoor.Pure
open Go.RowKit Go.Proofs.YtlikagbdhjdggaaGreatDoor.X Go.Proofs.YtlikagbdhjdggaaGreatDoorW.PrintWords Go.Proofs.YtlikagbdhjdggaaGreatDoorW.PrintLast
theorem rdlColumn_ (V : List S72) (i : Nat) (h : i < V.length) : rd_T72 V (i : Int) = V[i] := by simp [rd_T72, h]
theorem rdiColumn_ (V : List S78) (i : Nat) (h : i < V.length) : rd_T78 V (i : Int) = V[i] := by simp [rd_T78, h]
def cvColumn (x : S72) : S78 := ⟨x.f0, x.f1, x.f2⟩
theorem eqColumn_refl (x : S78) : laws_eqColumn.f x.f0 x.f1 x.f2 x.f0 x.f1 x.f2 = some true := by unfold laws_eqColumn.f; simp
theorem eqColumnS_l0 (V : List S78) (hV : V.length ≤ 1048576) (d : Nat) : ∀ k i, V.length - i = d → i ≤ V.length → laws_eqColumnS.l0 (k + d + 1) V V (i : Int) = some true := by
  induction d with
  | zero => intro k i h1 h2; rw [laws_eqColumnS.l0, if_neg (by omega)]
  | succ d ih =>
    intro k i h1 h2
    rw [show k + (d + 1) + 1 = (k + d + 1) + 1 by omega, laws_eqColumnS.l0, if_pos (by omega), if_pos (by omega), if_pos (by omega), eqColumn_refl, Option.bind_some, if_pos rfl, next64 i V.length (by omega) (by simp only [maxLen]; omega)]
    exact ih k (i + 1) (by omega) (by omega)
theorem eqColumnS_refl (V : List S78) (hV : V.length ≤ 1048576) (k : Nat) (hk : V.length < k) : laws_eqColumnS.f k V V = some true := by
  obtain ⟨k, rfl⟩ : ∃ m, k = m + V.length + 1 := ⟨k - V.length - 1, by omega⟩
  unfold laws_eqColumnS.f
  rw [if_pos rfl]
  exact eqColumnS_l0 V hV V.length k 0 (by omega) (by omega)
theorem toColumnS_l0 (L : List S72) (hV : L.length ≤ 1048576) (d : Nat) : ∀ k i (R : List S78), L.length - i = d → i ≤ L.length → R.length = L.length →
    laws_toColumnS.l0 (k + d + 1) L R (i : Int) = some (R.take i ++ (L.drop i).map cvColumn) := by
  induction d with
  | zero =>
    intro k i R h1 h2 h3
    rw [laws_toColumnS.l0, if_neg (by omega), List.take_of_length_le (by omega), List.drop_of_length_le (by omega), List.map_nil, List.append_nil]
  | succ d ih =>
    intro k i R h1 h2 h3
    have hlt : i < L.length := by omega
    rw [show k + (d + 1) + 1 = (k + d + 1) + 1 by omega, laws_toColumnS.l0, if_pos (by omega), if_pos (by omega), rdlColumn_ L i hlt]
    unfold laws_toColumn.f
    rw [Option.bind_some, if_pos (by omega), next64 i L.length (by omega) (by simp only [maxLen]; omega), ih k (i + 1) _ (by omega) (by omega) (by rw [List.length_set]; exact h3)]
    congr 1
    rw [show (i : Int).toNat = i from rfl, List.drop_eq_getElem_cons hlt, List.map_cons]
    rw [show List.take (i + 1) (R.set i (⟨L[i].f0, L[i].f1, L[i].f2⟩ : S78)) = List.take i R ++ [cvColumn L[i]] from ?_, List.append_assoc]
    · rfl
    · rw [List.take_succ_eq_append_getElem (by rw [List.length_set]; omega), List.getElem_set_self]
      congr 1
      exact List.take_set_of_le (Nat.le_refl i)
theorem toColumnS_is (L : List S72) (hV : L.length ≤ 1048576) (k : Nat) (hk : L.length < k) : laws_toColumnS.f k L = some (L.map cvColumn) := by
  obtain ⟨k, rfl⟩ : ∃ m, k = m + L.length + 1 := ⟨k - L.length - 1, by omega⟩
  unfold laws_toColumnS.f
  rw [if_pos (by omega), if_pos (by omega)]
  have := toColumnS_l0 L hV L.length k 0 (List.replicate ((L.length : Int)).toNat z78) (by omega) (by omega) (by simp)
  simpa using this
theorem szColumn_is (x : S72) (m : Int) (hm : 0 ≤ m ∧ m ≤ 1048576) (hx : x.f0.size ≤ maxLen) : ∃ n, laws_szColumn.f x.f0 x.f1 x.f2 m = some n ∧ -1 ≤ n ∧ n ≤ m := by
  simp only [maxLen] at hx
  unfold laws_szColumn.f
  rw [wrap_in (m - (x.f0.size : Int)) (by omega)]
  by_cases c0 : m - (x.f0.size : Int) < 0
  · rw [if_pos c0]; exact ⟨_, rfl, by omega⟩
  rw [if_neg c0]
  exact ⟨_, rfl, by omega⟩
theorem szColumnS_l0 (L : List S72) (hV : L.length ≤ 1048576) (hx : ∀ x ∈ L, x.f0.size ≤ maxLen) (d : Nat) : ∀ k i (m : Int), L.length - i = d → i ≤ L.length → 0 ≤ m ∧ m ≤ 1048576 → ∃ n, laws_szColumnS.l0 (k + d + 1) L m (i : Int) = some n ∧ -1 ≤ n ∧ n ≤ m := by
  induction d with
  | zero => intro k i m h1 h2 hm; exact ⟨_, by rw [laws_szColumnS.l0, if_neg (by omega)], by omega⟩
  | succ d ih =>
    intro k i m h1 h2 hm
    have hlt : i < L.length := by omega
    rw [show k + (d + 1) + 1 = (k + d + 1) + 1 by omega, laws_szColumnS.l0, if_pos (by omega), if_pos (by omega), rdlColumn_ L i hlt]
    obtain ⟨n, e, h3, h4⟩ := szColumn_is L[i] m hm (hx _ (List.getElem_mem hlt))
    rw [e, Option.bind_some]
    by_cases hn : n < 0
    · rw [if_pos hn]; exact ⟨_, rfl, by omega⟩
    · rw [if_neg hn, next64 i L.length (by omega) (by simp only [maxLen]; omega)]
      obtain ⟨n2, e2, h5, h6⟩ := ih k (i + 1) n (by omega) (by omega) (by omega)
      exact ⟨n2, e2, by omega⟩
theorem szColumnS_is (L : List S72) (hM : L.length ≤ maxLen) (hx : ∀ x ∈ L, x.f0.size ≤ maxLen) (m : Int) (hm : 0 ≤ m ∧ m ≤ 1048576) (k : Nat) (hk : L.length < k) : ∃ n, laws_szColumnS.f k L m = some n ∧ -1 ≤ n ∧ n ≤ m ∧ (n < 0 ∨ L.length ≤ 1048576) := by
  simp only [maxLen] at hM
  unfold laws_szColumnS.f
  rw [wrap_in (m - (L.length : Int)) (by omega)]
  by_cases c : m - (L.length : Int) < 0
  · rw [if_pos c]; exact ⟨_, rfl, by omega⟩
  rw [if_neg c]
  obtain ⟨k, rfl⟩ : ∃ q, k = q + L.length + 1 := ⟨k - L.length - 1, by omega⟩
  obtain ⟨n, e, h1, h2⟩ := szColumnS_l0 L (by omega) hx L.length k 0 (m - (L.length : Int)) (by omega) (by omega) (by omega)
  exact ⟨n, e, by omega, by omega, .inr (by omega)⟩
end Go.Proofs.YtlikagbdhjdggaaGreatDoor.Pure
end

section
/- Copies and likeness of indexes. -/
namespace Go.Proofs.YtlikagbdhjdggaaGreatDoor.Pure
open Go.RowKit Go.Proofs.YtlikagbdhjdggaaGreatDoor.X Go.Proofs.YtlikagbdhjdggaaGreatDoorW.PrintWords Go.Proofs.YtlikagbdhjdggaaGreatDoorW.PrintLast
theorem rd_is (V : List Int) (i : Nat) (h : i < V.length) : rd V (i : Int) = V[i] := by simp [rd, h]
theorem toInt_l0 (L : List Int) (hV : L.length ≤ 1048576) (d : Nat) : ∀ k i (R : List Int), L.length - i = d → i ≤ L.length → R.length = L.length →
    laws_toIntS.l0 (k + d + 1) L R (i : Int) = some (R.take i ++ L.drop i) := by
  induction d with
  | zero =>
    intro k i R h1 h2 h3
    rw [laws_toIntS.l0, if_neg (by omega), List.take_of_length_le (by omega), List.drop_of_length_le (by omega), List.append_nil]
  | succ d ih =>
    intro k i R h1 h2 h3
    have hlt : i < L.length := by omega
    rw [show k + (d + 1) + 1 = (k + d + 1) + 1 by omega, laws_toIntS.l0, if_pos (by omega), if_pos (by omega), if_pos (by omega), rd_is L i hlt, next64 i L.length (by omega) (by simp only [maxLen]; omega), ih k (i + 1) _ (by omega) (by omega) (by rw [List.length_set]; exact h3)]
    congr 1
    rw [show (i : Int).toNat = i from rfl, List.drop_eq_getElem_cons hlt]
    rw [show List.take (i + 1) (R.set i L[i]) = List.take i R ++ [L[i]] from ?_, List.append_assoc]
    · rfl
    · rw [List.take_succ_eq_append_getElem (by rw [List.length_set]; omega), List.getElem_set_self]
      congr 1
      exact List.take_set_of_le (Nat.le_refl i)
theorem toInt_is (L : List Int) (hV : L.length ≤ 1048576) (k : Nat) (hk : L.length < k) : laws_toIntS.f k L = some L := by
  obtain ⟨k, rfl⟩ : ∃ m, k = m + L.length + 1 := ⟨k - L.length - 1, by omega⟩
  unfold laws_toIntS.f
  rw [if_pos (by omega), if_pos (by omega)]
  have := toInt_l0 L hV L.length k 0 (List.replicate ((L.length : Int)).toNat 0) (by omega) (by omega) (by simp)
  simpa using this
theorem eqInt_l0 (V : List Int) (hV : V.length ≤ 1048576) (d : Nat) : ∀ k i, V.length - i = d → i ≤ V.length → laws_eqIntS.l0 (k + d + 1) V V (i : Int) = some true := by
  induction d with
  | zero => intro k i h1 h2; rw [laws_eqIntS.l0, if_neg (by omega)]
  | succ d ih =>
    intro k i h1 h2
    rw [show k + (d + 1) + 1 = (k + d + 1) + 1 by omega, laws_eqIntS.l0, if_pos (by omega), if_pos (by omega), if_pos (by omega), if_pos rfl, next64 i V.length (by omega) (by simp only [maxLen]; omega)]
    exact ih k (i + 1) (by omega) (by omega)
theorem eqInt_refl (V : List Int) (hV : V.length ≤ 1048576) (k : Nat) (hk : V.length < k) : laws_eqIntS.f k V V = some true := by
  obtain ⟨k, rfl⟩ : ∃ m, k = m + V.length + 1 := ⟨k - V.length - 1, by omega⟩
  unfold laws_eqIntS.f
  rw [if_pos rfl]
  exact eqInt_l0 V hV V.length k 0 (by omega) (by omega)
def cvIndex (x : S74) : S58 := ⟨x.f0, x.f1⟩
theorem rdlIndex_ (V : List S74) (i : Nat) (h : i < V.length) : rd_T74 V (i : Int) = V[i] := by simp [rd_T74, h]
theorem rdiIndex_ (V : List S58) (i : Nat) (h : i < V.length) : rd_T58 V (i : Int) = V[i] := by simp [rd_T58, h]
theorem toIndex_is (x : S74) (M k : Nat) (hM : M ≤ 1048576) (hx : x.f1.length ≤ M) (hk : M < k) : laws_toIndex.f k x.f0 x.f1 = some (x.f0, x.f1) := by
  unfold laws_toIndex.f
  rw [toInt_is x.f1 (by omega) k (by omega)]; rfl
theorem toIndexS_l0 (L : List S74) (hV : L.length ≤ 1048576) (M : Nat) (hM : M ≤ 1048576) (hx : ∀ x ∈ L, x.f1.length ≤ M) (d : Nat) : ∀ k i (R : List S58), M ≤ k → L.length - i = d → i ≤ L.length → R.length = L.length →
    laws_toIndexS.l0 (k + d + 1) L R (i : Int) = some (R.take i ++ (L.drop i).map cvIndex) := by
  induction d with
  | zero =>
    intro k i R _ h1 h2 h3
    rw [laws_toIndexS.l0, if_neg (by omega), List.take_of_length_le (by omega), List.drop_of_length_le (by omega), List.map_nil, List.append_nil]
  | succ d ih =>
    intro k i R hk h1 h2 h3
    have hlt : i < L.length := by omega
    rw [show k + (d + 1) + 1 = (k + d + 1) + 1 by omega, laws_toIndexS.l0, if_pos (by omega), if_pos (by omega), rdlIndex_ L i hlt, toIndex_is L[i] M _ hM (hx _ (List.getElem_mem hlt)) (by omega),
      Option.bind_some, if_pos (by omega), next64 i L.length (by omega) (by simp only [maxLen]; omega), ih k (i + 1) _ hk (by omega) (by omega) (by rw [List.length_set]; exact h3)]
    congr 1
    rw [show (i : Int).toNat = i from rfl, List.drop_eq_getElem_cons hlt, List.map_cons]
    rw [show List.take (i + 1) (R.set i (⟨L[i].f0, L[i].f1⟩ : S58)) = List.take i R ++ [cvIndex L[i]] from ?_, List.append_assoc]
    · rfl
    · rw [List.take_succ_eq_append_getElem (by rw [List.length_set]; omega), List.getElem_set_self]
      congr 1
      exact List.take_set_of_le (Nat.le_refl i)
theorem toIndexS_is (L : List S74) (hV : L.length ≤ 1048576) (M : Nat) (hM : M ≤ 1048576) (hx : ∀ x ∈ L, x.f1.length ≤ M) (k : Nat) (hk : L.length + M < k) : laws_toIndexS.f k L = some (L.map cvIndex) := by
  obtain ⟨k, rfl⟩ : ∃ m, k = m + L.length + 1 := ⟨k - L.length - 1, by omega⟩
  unfold laws_toIndexS.f
  rw [if_pos (by omega), if_pos (by omega)]
  have := toIndexS_l0 L hV M hM hx L.length k 0 (List.replicate ((L.length : Int)).toNat z58) (by omega) (by omega) (by omega) (by simp)
  simpa using this
theorem eqIndex_refl (x : S58) (M k : Nat) (hM : M ≤ 1048576) (hx : x.f1.length ≤ M) (hk : M < k) : laws_eqIndex.f k x.f0 x.f1 x.f0 x.f1 = some true := by
  unfold laws_eqIndex.f
  rw [if_pos rfl, eqInt_refl x.f1 (by omega) k (by omega)]; rfl
theorem eqIndexS_l0 (V : List S58) (hV : V.length ≤ 1048576) (M : Nat) (hM : M ≤ 1048576) (hx : ∀ x ∈ V, x.f1.length ≤ M) (d : Nat) : ∀ k i, M ≤ k → V.length - i = d → i ≤ V.length → laws_eqIndexS.l0 (k + d + 1) V V (i : Int) = some true := by
  induction d with
  | zero => intro k i _ h1 h2; rw [laws_eqIndexS.l0, if_neg (by omega)]
  | succ d ih =>
    intro k i hk h1 h2
    have hlt : i < V.length := by omega
    rw [show k + (d + 1) + 1 = (k + d + 1) + 1 by omega, laws_eqIndexS.l0, if_pos (by omega), if_pos (by omega), if_pos (by omega), rdiIndex_ V i hlt, eqIndex_refl V[i] M _ hM (hx _ (List.getElem_mem hlt)) (by omega), Option.bind_some, if_pos rfl, next64 i V.length (by omega) (by simp only [maxLen]; omega)]
    exact ih k (i + 1) hk (by omega) (by omega)
theorem eqIndexS_refl (V : List S58) (hV : V.length ≤ 1048576) (M : Nat) (hM : M ≤ 1048576) (hx : ∀ x ∈ V, x.f1.length ≤ M) (k : Nat) (hk : V.length + M < k) : laws_eqIndexS.f k V V = some true := by
  obtain ⟨k, rfl⟩ : ∃ m, k = m + V.length + 1 := ⟨k - V.length - 1, by omega⟩
  unfold laws_eqIndexS.f
  rw [if_pos rfl]
  exact eqIndexS_l0 V hV M hM hx V.length k 0 (by omega) (by omega) (by omega)
theorem szIndex_is (x : S74) (m : Int) (hm : 0 ≤ m ∧ m ≤ 1048576) (hx : x.f0.size ≤ maxLen ∧ x.f1.length ≤ maxLen) :
    ∃ n, laws_szIndex.f x.f0 x.f1 m = some n ∧ -1 ≤ n ∧ n ≤ m ∧ (n < 0 ∨ x.f1.length ≤ 1048576) := by
  simp only [maxLen] at hx
  unfold laws_szIndex.f laws_szIntS.f
  rw [wrap_in (m - (x.f0.size : Int)) (by omega)]
  by_cases c : m - (x.f0.size : Int) < 0
  · rw [if_pos c]; exact ⟨_, rfl, by omega, by omega, .inl (by omega)⟩
  rw [if_neg c, wrap_in (m - (x.f0.size : Int) - (x.f1.length : Int)) (by omega)]
  by_cases c2 : m - (x.f0.size : Int) - (x.f1.length : Int) < 0
  · rw [if_pos c2, Option.bind_some, if_pos (by omega)]; exact ⟨_, rfl, by omega, by omega, .inl (by omega)⟩
  rw [if_neg c2, Option.bind_some, if_neg c2]
  exact ⟨_, rfl, by omega, by omega, .inr (by omega)⟩
theorem szIndexS_l0 (L : List S74) (hV : L.length ≤ 1048576) (hx : ∀ x ∈ L, x.f0.size ≤ maxLen ∧ x.f1.length ≤ maxLen) (d : Nat) : ∀ k i (m : Int), L.length - i = d → i ≤ L.length → 0 ≤ m ∧ m ≤ 1048576 →
    ∃ n, laws_szIndexS.l0 (k + d + 1) L m (i : Int) = some n ∧ -1 ≤ n ∧ n ≤ m ∧ (n < 0 ∨ ∀ x ∈ L.drop i, x.f1.length ≤ 1048576) := by
  induction d with
  | zero => intro k i m h1 h2 hm; exact ⟨_, by rw [laws_szIndexS.l0, if_neg (by omega)], by omega, by omega, .inr (by rw [List.drop_of_length_le (by omega)]; intro x hx; cases hx)⟩
  | succ d ih =>
    intro k i m h1 h2 hm
    have hlt : i < L.length := by omega
    rw [show k + (d + 1) + 1 = (k + d + 1) + 1 by omega, laws_szIndexS.l0, if_pos (by omega), if_pos (by omega), rdlIndex_ L i hlt]
    obtain ⟨n, e, h3, h4, h5⟩ := szIndex_is L[i] m hm (hx _ (List.getElem_mem hlt))
    rw [e, Option.bind_some]
    by_cases hn : n < 0
    · rw [if_pos hn]; exact ⟨_, rfl, by omega, by omega, .inl (by omega)⟩
    · rw [if_neg hn, next64 i L.length (by omega) (by simp only [maxLen]; omega)]
      obtain ⟨n2, e2, h6, h7, h8⟩ := ih k (i + 1) n (by omega) (by omega) (by omega)
      refine ⟨n2, e2, by omega, by omega, ?_⟩
      rcases h8 with h8 | h8
      · exact .inl h8
      · refine .inr fun x hx => ?_
        rw [List.drop_eq_getElem_cons hlt] at hx
        rcases List.mem_cons.1 hx with rfl | hx
        · exact h5.resolve_left hn
        · exact h8 x hx
theorem szIndexS_is (L : List S74) (hM : L.length ≤ maxLen) (hx : ∀ x ∈ L, x.f0.size ≤ maxLen ∧ x.f1.length ≤ maxLen) (m : Int) (hm : 0 ≤ m ∧ m ≤ 1048576) (k : Nat) (hk : L.length < k) :
    ∃ n, laws_szIndexS.f k L m = some n ∧ -1 ≤ n ∧ n ≤ m ∧ (n < 0 ∨ (L.length ≤ 1048576 ∧ ∀ x ∈ L, x.f1.length ≤ 1048576)) := by
  simp only [maxLen] at hM
  unfold laws_szIndexS.f
  rw [wrap_in (m - (L.length : Int)) (by omega)]
  by_cases c : m - (L.length : Int) < 0
  · rw [if_pos c]; exact ⟨_, rfl, by omega, by omega, .inl (by omega)⟩
  rw [if_neg c]
  obtain ⟨k, rfl⟩ : ∃ q, k = q + L.length + 1 := ⟨k - L.length - 1, by omega⟩
  obtain ⟨n, e, h1, h2, h3⟩ := szIndexS_l0 L (by omega) hx L.length k 0 (m - (L.length : Int)) (by omega) (by omega) (by omega)
  rw [List.drop_zero] at h3
  exact ⟨n, e, by omega, by omega, h3.imp id fun h => ⟨by omega, h⟩⟩
end Go.Proofs.YtlikagbdhjdggaaGreatDoor.Pure
end

section
/- The first place of what is looked for. -/
namespace Go.Proofs.YtlikagbdhjdggaaGreatDoor.Pure
open Go.RowKit Go.Proofs.YtlikagbdhjdggaaGreatDoor.X Go.Proofs.YtlikagbdhjdggaaGreatDoorW.PrintWords Go.Proofs.YtlikagbdhjdggaaGreatDoorW.PrintLast
theorem fIdx_nil {α : Type} (p : α → Bool) : fIdx p [] = -1 := rfl
theorem fIdx_cons {α : Type} (p : α → Bool) (x : α) (xs : List α) : fIdx p (x :: xs) = if p x = true then 0 else if fIdx p xs < 0 then -1 else fIdx p xs + 1 := by
  unfold fIdx
  rw [List.findIdx?_cons]
  by_cases h : p x = true
  · rw [if_pos h, h]; rfl
  · rw [if_neg h, if_neg h]
    cases xs.findIdx? p with
    | none => rfl
    | some j => show ((j + 1 : Nat) : Int) = _; rw [if_neg (show ¬ ((j : Nat) : Int) < 0 by omega)]; rfl
theorem fIdx_ge {α : Type} (p : α → Bool) (l : List α) : -1 ≤ fIdx p l := by
  unfold fIdx
  cases l.findIdx? p with
  | none => exact Int.le_refl _
  | some j => show (-1 : Int) ≤ ((j : Nat) : Int); omega
theorem fIdx_self {α : Type} (p : α → Bool) : ∀ (l : List α) (i : Nat) (h : i < l.length), p l[i] = true → (fIdx p l = (i : Int) ↔ fIdx p (l.take i) < 0)
  | [], i, h, _ => by simp at h
  | x :: xs, 0, _, hp => by
    have hx : p x = true := hp
    rw [fIdx_cons, if_pos hx, List.take_zero, fIdx_nil]; simp
  | x :: xs, i + 1, h, hp => by
    rw [List.take_succ_cons, fIdx_cons, fIdx_cons]
    by_cases hx : p x = true
    · rw [if_pos hx, if_pos hx]
      constructor
      · intro e; omega
      · intro e; omega
    · rw [if_neg hx, if_neg hx]
      have ih := fIdx_self p xs i (by simpa using h) hp
      have g1 := fIdx_ge p xs
      have g2 := fIdx_ge p (xs.take i)
      by_cases a : fIdx p xs < 0
      · rw [if_pos a]
        have : ¬ fIdx p (xs.take i) < 0 := fun b => by have := ih.2 b; omega
        rw [if_neg this]
        constructor <;> intro e <;> omega
      · rw [if_neg a]
        by_cases b : fIdx p (xs.take i) < 0
        · rw [if_pos b]; have := ih.2 b; constructor <;> intro e <;> omega
        · rw [if_neg b]
          have : fIdx p xs ≠ (i : Int) := fun e => b (ih.1 e)
          constructor <;> intro e <;> omega
end Go.Proofs.YtlikagbdhjdggaaGreatDoor.Pure
end

section
/- Columns and indexes by their names. -/
namespace Go.Proofs.YtlikagbdhjdggaaGreatDoor.Pure
open Go.RowKit Go.Proofs.YtlikagbdhjdggaaGreatDoor.X Go.Proofs.YtlikagbdhjdggaaGreatDoorW.PrintWords Go.Proofs.YtlikagbdhjdggaaGreatDoorW.PrintLast
theorem findColumn_l0 (V : List S78) (t : ByteArray) (hV : V.length ≤ 1048576) (d : Nat) : ∀ k i, V.length - i = d → i ≤ V.length →
    spec_l09Column.l0 (k + d + 1) V t (i : Int) = some (if fIdx (fun x => x.f0.toList == t.toList) (V.drop i) < 0 then -1 else (i : Int) + fIdx (fun x => x.f0.toList == t.toList) (V.drop i)) := by
  induction d with
  | zero => intro k i h1 h2; rw [spec_l09Column.l0, if_neg (by omega), List.drop_of_length_le (by omega), fIdx_nil]; rfl
  | succ d ih =>
    intro k i h1 h2
    have hlt : i < V.length := by omega
    rw [show k + (d + 1) + 1 = (k + d + 1) + 1 by omega, spec_l09Column.l0, if_pos (by omega), if_pos (by omega), rdiColumn_ V i hlt, next64 i V.length (by omega) (by simp only [maxLen]; omega), ih k (i + 1) (by omega) (by omega), List.drop_eq_getElem_cons hlt, fIdx_cons]
    by_cases c : V[i].f0.toList = t.toList
    · rw [if_pos c, if_pos (show (V[i].f0.toList == t.toList) = true by rw [c]; simp)]; simp
    · rw [if_neg c, if_neg (show ¬ (V[i].f0.toList == t.toList) = true by simpa using c)]
      have g := fIdx_ge (fun x : S78 => x.f0.toList == t.toList) (V.drop (i + 1))
      by_cases a : fIdx (fun x : S78 => x.f0.toList == t.toList) (V.drop (i + 1)) < 0
      · rw [if_pos a, if_pos a, if_pos (by decide)]
      · rw [if_neg a, if_neg a, if_neg (by omega)]; congr 1; omega
theorem findColumn_is (V : List S78) (t : ByteArray) (hV : V.length ≤ 1048576) (k : Nat) (hk : V.length < k) : spec_l09Column.f k V t = some (fIdx (fun x => x.f0.toList == t.toList) V) := by
  obtain ⟨k, rfl⟩ : ∃ m, k = m + V.length + 1 := ⟨k - V.length - 1, by omega⟩
  unfold spec_l09Column.f
  have e := findColumn_l0 V t hV V.length k 0 (by omega) (by omega)
  rw [show ((0 : Nat) : Int) = 0 from rfl, List.drop_zero] at e
  rw [e]
  have g := fIdx_ge (fun x : S78 => x.f0.toList == t.toList) V
  split
  · congr 1; omega
  · congr 1; omega
theorem findIndex_l0 (V : List S58) (t : ByteArray) (hV : V.length ≤ 1048576) (d : Nat) : ∀ k i, V.length - i = d → i ≤ V.length →
    spec_l09Index.l0 (k + d + 1) V t (i : Int) = some (if fIdx (fun x => x.f0.toList == t.toList) (V.drop i) < 0 then -1 else (i : Int) + fIdx (fun x => x.f0.toList == t.toList) (V.drop i)) := by
  induction d with
  | zero => intro k i h1 h2; rw [spec_l09Index.l0, if_neg (by omega), List.drop_of_length_le (by omega), fIdx_nil]; rfl
  | succ d ih =>
    intro k i h1 h2
    have hlt : i < V.length := by omega
    rw [show k + (d + 1) + 1 = (k + d + 1) + 1 by omega, spec_l09Index.l0, if_pos (by omega), if_pos (by omega), rdiIndex_ V i hlt, next64 i V.length (by omega) (by simp only [maxLen]; omega), ih k (i + 1) (by omega) (by omega), List.drop_eq_getElem_cons hlt, fIdx_cons]
    by_cases c : V[i].f0.toList = t.toList
    · rw [if_pos c, if_pos (show (V[i].f0.toList == t.toList) = true by rw [c]; simp)]; simp
    · rw [if_neg c, if_neg (show ¬ (V[i].f0.toList == t.toList) = true by simpa using c)]
      have g := fIdx_ge (fun x : S58 => x.f0.toList == t.toList) (V.drop (i + 1))
      by_cases a : fIdx (fun x : S58 => x.f0.toList == t.toList) (V.drop (i + 1)) < 0
      · rw [if_pos a, if_pos a, if_pos (by decide)]
      · rw [if_neg a, if_neg a, if_neg (by omega)]; congr 1; omega
theorem findIndex_is (V : List S58) (t : ByteArray) (hV : V.length ≤ 1048576) (k : Nat) (hk : V.length < k) : spec_l09Index.f k V t = some (fIdx (fun x => x.f0.toList == t.toList) V) := by
  obtain ⟨k, rfl⟩ : ∃ m, k = m + V.length + 1 := ⟨k - V.length - 1, by omega⟩
  unfold spec_l09Index.f
  have e := findIndex_l0 V t hV V.length k 0 (by omega) (by omega)
  rw [show ((0 : Nat) : Int) = 0 from rfl, List.drop_zero] at e
  rw [e]
  have g := fIdx_ge (fun x : S58 => x.f0.toList == t.toList) V
  split
  · congr 1; omega
  · congr 1; omega
end Go.Proofs.YtlikagbdhjdggaaGreatDoor.Pure
end

section
/- Right indexes. -/
namespace Go.Proofs.YtlikagbdhjdggaaGreatDoor.Pure
open Go.RowKit Go.Proofs.YtlikagbdhjdggaaGreatDoor.X Go.Proofs.YtlikagbdhjdggaaGreatDoorW.PrintWords Go.Proofs.YtlikagbdhjdggaaGreatDoorW.PrintLast
theorem has_l0 (V : List Int) (t : Int) (hV : V.length ≤ 1048576) (d : Nat) : ∀ k i, V.length - i = d → i ≤ V.length → spec_l03Has.l0 (k + d + 1) V t (i : Int) = some ((V.drop i).contains t) := by
  induction d with
  | zero => intro k i h1 h2; rw [spec_l03Has.l0, if_neg (by omega), List.drop_of_length_le (by omega)]; rfl
  | succ d ih =>
    intro k i h1 h2
    have hlt : i < V.length := by omega
    rw [show k + (d + 1) + 1 = (k + d + 1) + 1 by omega, spec_l03Has.l0, if_pos (by omega), if_pos (by omega), rd_is V i hlt, next64 i V.length (by omega) (by simp only [maxLen]; omega), ih k (i + 1) (by omega) (by omega), List.drop_eq_getElem_cons hlt, List.contains_cons]
    by_cases c : V[i] = t
    · rw [if_pos c, c]; simp
    · rw [if_neg c, show (t == V[i]) = false by simpa using fun e => c e.symm]; simp
theorem has_is (V : List Int) (t : Int) (hV : V.length ≤ 1048576) (k : Nat) (hk : V.length < k) : spec_l03Has.f k V t = some (V.contains t) := by
  obtain ⟨k, rfl⟩ : ∃ m, k = m + V.length + 1 := ⟨k - V.length - 1, by omega⟩
  have e := has_l0 V t hV V.length k 0 (by omega) (by omega)
  rw [List.drop_zero] at e
  exact e
theorem index_int_l0 (V : List Int) (t : Int) (hV : V.length ≤ 1048576) (d : Nat) : ∀ k i, V.length - i = d → i ≤ V.length →
    ∃ r, slices_Index_int_int.l0 (k + d + 1) V t (V.length : Int) (i : Int) = some r ∧ (0 ≤ r ↔ (V.drop i).contains t = true) := by
  induction d with
  | zero => intro k i h1 h2; exact ⟨-1, by rw [slices_Index_int_int.l0, if_neg (by omega)], by rw [List.drop_of_length_le (by omega)]; simp⟩
  | succ d ih =>
    intro k i h1 h2
    have hlt : i < V.length := by omega
    rw [show k + (d + 1) + 1 = (k + d + 1) + 1 by omega, slices_Index_int_int.l0, if_pos (by omega), if_pos (by omega), if_pos (by omega), rd_is V i hlt, next64 i V.length (by omega) (by simp only [maxLen]; omega), List.drop_eq_getElem_cons hlt, List.contains_cons]
    by_cases c : t = V[i]
    · rw [if_pos c]; exact ⟨_, rfl, by rw [show (t == V[i]) = true by simpa using c]; simp⟩
    · rw [if_neg c, show (t == V[i]) = false by simpa using c, Bool.false_or]; exact ih k (i + 1) (by omega) (by omega)
theorem contains_int (V : List Int) (t : Int) (hV : V.length ≤ 1048576) (k : Nat) (hk : V.length < k) : slices_Contains_int_int.f k V t = some (V.contains t) := by
  obtain ⟨k, rfl⟩ : ∃ m, k = m + V.length + 1 := ⟨k - V.length - 1, by omega⟩
  unfold slices_Contains_int_int.f slices_Index_int_int.f
  obtain ⟨r, e, h⟩ := index_int_l0 V t hV V.length k 0 (by omega) (by omega)
  rw [List.drop_zero] at h
  rw [show ((0 : Nat) : Int) = 0 from rfl] at e
  rw [e, Option.bind_some]
  congr 1
  rw [Bool.eq_iff_iff, decide_eq_true_eq]
  exact h
def twF (L : List Int) : Nat → Nat → Bool
  | 0, _ => false
  | d + 1, i => (L.take i).contains (rd L (i : Int)) || twF L d (i + 1)
theorem twice_l0 (L : List Int) (hV : L.length ≤ 1048576) : ∀ d k i, i + d = L.length → L.length ≤ k → impl_isTwice.l0 (k + d + 1) L L (L.length : Int) (i : Int) = some (twF L d i)
  | 0, k, i, h, hk => by rw [show k + 0 + 1 = k + 1 from rfl, impl_isTwice.l0, if_neg (by omega)]; rfl
  | d + 1, k, i, h, hk => by
    rw [show k + (d + 1) + 1 = (k + d + 1) + 1 by omega, impl_isTwice.l0, if_pos (by omega), if_pos (by omega), if_pos (by omega), if_pos (by omega), show (i : Int).toNat = i from rfl,
      contains_int (L.take i) _ (by rw [List.length_take]; omega) _ (by rw [List.length_take]; omega), Option.bind_some, next64 i L.length (by omega) (by simp only [maxLen]; omega), twice_l0 L hV d k (i + 1) (by omega) hk, twF]
    cases (L.take i).contains (rd L (i : Int)) <;> simp
theorem twice_is (L : List Int) (hV : L.length ≤ 1048576) (k : Nat) (hk : L.length + L.length < k) : impl_isTwice.f k L = some (twF L L.length 0) := by
  obtain ⟨k, rfl⟩ : ∃ m, k = m + L.length + 1 := ⟨k - L.length - 1, by omega⟩
  exact twice_l0 L hV L.length k 0 (by omega) (by omega)
def inr (n : Int) (x : Int) : Bool := decide (0 ≤ x) && decide (x ≤ n - 1)
theorem spec_index_l0 (n0 : ByteArray) (C : List S78) (q : Int) (X : List S58) (nm : ByteArray) (L : List Int) (hV : L.length ≤ 1048576) (hC : C.length ≤ 1048576) : ∀ d k i, i + d = L.length → L.length ≤ k →
    spec_l09IndexOK.l0 (k + d + 1) (i : Int) n0 C q X nm L = some ((L.drop i).all (inr (C.length : Int)) && !(twF L d i))
  | 0, k, i, h, hk => by rw [show k + 0 + 1 = k + 1 from rfl, spec_l09IndexOK.l0, if_neg (by omega), List.drop_of_length_le (by omega)]; rfl
  | d + 1, k, i, h, hk => by
    have hlt : i < L.length := by omega
    rw [show k + (d + 1) + 1 = (k + d + 1) + 1 by omega, spec_l09IndexOK.l0, if_pos (by omega), if_pos (by omega), if_pos (by omega), show (i : Int).toNat = i from rfl, wrap_in ((C.length : Int) - 1) (by omega), spec_in,
      has_is (L.take i) _ (by rw [List.length_take]; omega) _ (by rw [List.length_take]; omega), Option.bind_some, Option.bind_some, next64 i L.length (by omega) (by simp only [maxLen]; omega), spec_index_l0 n0 C q X nm L hV hC d k (i + 1) (by omega) hk, twF, List.drop_eq_getElem_cons hlt, List.all_cons, rd_is L i hlt]
    show (if inr (C.length : Int) L[i] = true then _ else _) = _
    cases inr (C.length : Int) L[i] <;> cases (L.take i).contains L[i] <;> simp
end Go.Proofs.YtlikagbdhjdggaaGreatDoor.Pure
end

section
/- An index is right for both or for neither. -/
namespace Go.Proofs.YtlikagbdhjdggaaGreatDoor.Pure
open Go.RowKit Go.Proofs.YtlikagbdhjdggaaGreatDoor.X Go.Proofs.YtlikagbdhjdggaaGreatDoorW.PrintWords Go.Proofs.YtlikagbdhjdggaaGreatDoorW.PrintLast
theorem pigeon : ∀ (n : Nat) (L : List Int), L.Nodup → (∀ x ∈ L, 0 ≤ x ∧ x < (n : Int)) → L.length ≤ n
  | 0, L, _, h => by
    cases L with
    | nil => simp
    | cons x xs => have := h x (.head _); omega
  | n + 1, L, hn, h => by
    by_cases c : (n : Int) ∈ L
    · have h2 := pigeon n (L.erase (n : Int)) (hn.erase _) (fun x hx => by
        have hm := (hn.mem_erase_iff).1 hx
        have := h x hm.2
        have : x ≠ (n : Int) := hm.1
        omega)
      rw [List.length_erase_of_mem c] at h2
      omega
    · have := pigeon n L hn (fun x hx => by
        have := h x hx
        have : x ≠ (n : Int) := fun e => c (e ▸ hx)
        omega)
      omega
theorem tw_at (L : List Int) : ∀ d i, i + d = L.length → twF L d i = false → ∀ j, i ≤ j → (hj : j < L.length) → L[j] ∉ L.take j
  | 0, i, h, _, j, h1, h2 => by omega
  | d + 1, i, h, ht, j, h1, h2 => by
    rw [twF, Bool.or_eq_false_iff] at ht
    by_cases e : j = i
    · subst e
      have := ht.1
      rw [rd_is L j h2] at this
      simpa using this
    · exact tw_at L d (i + 1) (by omega) ht.2 j (by omega) h2
theorem tw_nodup (L : List Int) (h : twF L L.length 0 = false) : L.Nodup := by
  rw [List.Nodup, List.pairwise_iff_getElem]
  intro i j hi hj hij e
  have := tw_at L L.length 0 (by omega) h j (by omega) hj
  apply this
  rw [← e]
  exact List.mem_take_iff_getElem.2 ⟨i, by omega, rfl⟩
theorem index_same (n0 : ByteArray) (C : List S78) (q : Int) (X : List S58) (x : S58) (hx : x.f0.size ≤ maxLen) (hL : x.f1.length ≤ 1048576) (hC : C.length ≤ 1048576) (k : Nat) (hk : x.f0.size + x.f1.length + x.f1.length + 100 < k) :
    ∃ r, impl_Table_indexOK.f k n0 C q X x.f0 x.f1 = some r ∧ spec_l09IndexOK.f k n0 C q X x.f0 x.f1 = some r := by
  unfold impl_Table_indexOK.f spec_l09IndexOK.f
  rw [impl_free x.f0 hx k (by omega), spec_free x.f0 hx k (by omega), Option.bind_some, Option.bind_some]
  obtain ⟨k, rfl⟩ : ∃ m, k = m + x.f1.length + 2 := ⟨k - x.f1.length - 2, by omega⟩
  have hT : spec_l09IndexOK.j0 (k + x.f1.length + 2) true n0 C q X x.f0 x.f1 = some false := by rw [spec_l09IndexOK.j0, if_pos rfl]
  cases free x.f0 with
  | false => rw [if_neg (by decide), if_neg (by decide), hT]; exact ⟨_, rfl, rfl⟩
  | true =>
    rw [if_pos rfl, if_pos rfl]
    by_cases h0 : (x.f1.length : Int) = 0
    · rw [if_pos h0, if_neg (show ¬ (x.f1.length : Int) > 0 by omega), hT]; exact ⟨_, rfl, rfl⟩
    rw [if_neg h0, if_pos (show (x.f1.length : Int) > 0 by omega), twice_is x.f1 hL _ (by omega), Option.bind_some]
    have e := spec_index_l0 n0 C q X x.f0 x.f1 hL hC x.f1.length k 0 (by omega) (by omega)
    rw [show ((0 : Nat) : Int) = 0 from rfl, List.drop_zero] at e
    have hF : spec_l09IndexOK.j0 (k + x.f1.length + 2) false n0 C q X x.f0 x.f1 = some (x.f1.all (inr (C.length : Int)) && !(twF x.f1 x.f1.length 0)) := by
      rw [spec_l09IndexOK.j0, if_neg (by decide)]; exact e
    have hany : (x.f1.any fun c => !(decide (0 ≤ c) && decide (c ≤ (C.length : Int) - 1))) = !(x.f1.all (inr (C.length : Int))) := by
      rw [List.not_all_eq_any_not]; rfl
    rw [hany, Bool.not_not]
    cases ht : twF x.f1 x.f1.length 0 with
    | true =>
      rw [if_pos rfl]
      rw [ht] at hF
      cases decide ((x.f1.length : Int) > (C.length : Int)) with
      | true => rw [hT]; exact ⟨_, rfl, rfl⟩
      | false => rw [hF]; exact ⟨_, rfl, by simp⟩
    | false =>
      rw [if_neg (by decide)]
      rw [ht] at hF
      cases hl : decide ((x.f1.length : Int) > (C.length : Int)) with
      | false => rw [hF]; exact ⟨_, rfl, by simp⟩
      | true =>
        rw [hT]
        refine ⟨_, rfl, ?_⟩
        have hl2 : (x.f1.length : Int) > (C.length : Int) := of_decide_eq_true hl
        cases ha : x.f1.all (inr (C.length : Int)) with
        | false => rfl
        | true =>
          exfalso
          have := pigeon C.length x.f1 (tw_nodup _ ht) (fun y hy => by
            have := List.all_eq_true.1 ha y hy
            unfold inr at this
            rw [Bool.and_eq_true, decide_eq_true_eq, decide_eq_true_eq] at this
            omega)
          omega
end Go.Proofs.YtlikagbdhjdggaaGreatDoor.Pure
end
