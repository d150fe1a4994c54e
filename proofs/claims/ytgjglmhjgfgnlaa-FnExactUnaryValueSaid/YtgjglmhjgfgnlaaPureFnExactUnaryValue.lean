/- UnaryValue of the program tells what UnaryValue of the reference tells, of every text and every value. -/
import Derived.Test.YtgjglmhjgfgnlaaXOpn
import Derived.Test.YtgjglmhjgfgnlaaXF104
import Derived.Test.YtgjglmhjgfgnlaaXF17
import Derived.Test.YtgjglmhjgfgnlaaXF18
import Derived.Test.YtgjglmhjgfgnlaaXF19
import Derived.Test.YtgjglmhjgfgnlaaXF20
import Derived.Test.YtgjglmhjgfgnlaaXF21
import Derived.Test.YtgjglmhjgfgnlaaXF36
import Derived.Test.YtgjglmhjgfgnlaaXF43
import Derived.Test.YtgjglmhjgfgnlaaXF44
import Derived.Test.YtgjglmhjgfgnlaaXF47
import Derived.Test.YtgjglmhjgfgnlaaXF7
import Derived.Test.YtgjglmhjgfgnlaaXF70
import Derived.Test.YtgjglmhjgfgnlaaXF71
import Derived.Test.YtgjglmhjgfgnlaaXF77
import Derived.Test.YtgjglmhjgfgnlaaQa_basic
import Derived.Test.YtgjglmhjgfgnlaaQb_contains
import Derived.Test.YtgjglmhjgfgnlaaQc_value
import Derived.Test.YtgjglmhjgfgnlaaXPFnExactUnaryValue
import Derived.OpenShut
namespace Go.Proofs.Ytgjglmhjgfgnlaa.Pure
open Go.RowKit Go.Proofs.Ytgjglmhjgfgnlaa.X Go.Proofs.YtgjglmhjgfgnlaaW.PrintWords Go.Proofs.YtgjglmhjgfgnlaaW.PrintLast
set_option linter.unusedVariables false
set_option linter.unusedSimpArgs false
theorem eq_refl (a b : Int) (t : ByteArray) : laws_eqValue.f a b t a b t = some true := by unfold laws_eqValue.f; simp
theorem strs4 (x : ByteArray) : ([(⟨#[45]⟩ : ByteArray), (⟨#[110, 111, 116]⟩ : ByteArray), (⟨#[105, 115, 110, 117, 108, 108]⟩ : ByteArray), (⟨#[105, 115, 110, 111, 116, 110, 117, 108, 108]⟩ : ByteArray)] : List ByteArray).any (fun y => x.toList == y.toList)
    = (x.toList == [45] || x.toList == [110, 111, 116] || x.toList == [105, 115, 110, 117, 108, 108] || x.toList == [105, 115, 110, 111, 116, 110, 117, 108, 108]) := by
  simp only [List.any_cons, List.any_nil, toList_mk, Bool.or_false, Bool.or_assoc]
theorem impl_spec (x : ByteArray) (a b : Int) (t : ByteArray) (hx : x.size ≤ 140737488351232) (hb : -9223372036854775808 ≤ b ∧ b ≤ 9223372036854775807) : ∃ r, impl_UnaryValue.f 5 x a b t = some r ∧ spec_UnaryValue.f 5 x a b t = some r := by
  unfold impl_UnaryValue.f spec_UnaryValue.f
  rw [spec_vok, impl_vok]
  generalize hrv : vok a b t = rv
  by_cases c0 : (x.size : Int) > 65536
  · rw [if_pos c0]
    exact ⟨_, by simp [impl_areLong.f]; intro h; omega, rfl⟩
  have ha : impl_areLong.f [x] = some false := by simp [impl_areLong.f]; omega
  rw [if_neg c0, ha]
  simp only [Option.bind_some]
  rw [if_neg (show ¬ (false = true) by decide), contains_is _ _ (by decide) 5 (by decide), strs4]
  simp only [Option.bind_some]
  cases rv with
  | false => exact ⟨_, rfl, by simp [spec_UnaryValue.j0]⟩
  | true =>
    simp only [if_true]
    unfold impl_unaryValue.f
    simp only [spec_UnaryValue.j0, spec_l12Unary.f, spec_l12Bool.f, spec_l01Bit.f, impl_boolValue.f, spec_l12Int.f, spec_l12Least.f]
    generalize x.toList = X
    by_cases h1 : X = [105, 115, 110, 117, 108, 108]
    · subst h1; by_cases ha : a = 0 <;> simp [ha]
    by_cases h2 : X = [105, 115, 110, 111, 116, 110, 117, 108, 108]
    · subst h2; by_cases ha : a = 0 <;> simp [ha]
    by_cases h3 : X = [110, 111, 116]
    · subst h3
      by_cases ha : a = 0
      · subst ha
        obtain ⟨rfl, rfl⟩ := vok_null hrv
        simp
      · by_cases ha1 : a = 1
        · by_cases hb0 : b = 0 <;> simp [ha1, hb0]
        · simp [ha, ha1]
    by_cases h4 : X = [45]
    · subst h4
      by_cases ha : a = 0
      · subst ha
        obtain ⟨rfl, rfl⟩ := vok_null hrv
        simp
      · by_cases ha1 : a = 2
        · by_cases hb0 : b = -9223372036854775808 <;> simp [ha1, hb0]
        · simp [ha, ha1]
    simp [h1, h2, h3, h4]
theorem FnExactUnaryValue : laws_FnExactUnaryValue.Need := by
  intro x a b t hx wa wb ht
  have hb := i64_of wb
  refine ⟨5, ?_⟩
  unfold laws_FnExactUnaryValue.f
  split
  · rfl
  · have hs : ∃ r, laws_szValue.f a b t 1048576 = some r := by unfold laws_szValue.f; split <;> exact ⟨_, rfl⟩
    obtain ⟨s, hs⟩ := hs
    rw [hs]
    simp only [Option.bind_some]
    split
    · rfl
    · have e : laws_toValue.f a b t = some (a, b, t) := rfl
      rw [e]
      obtain ⟨r, h1, h2⟩ := impl_spec x a b t hx hb
      simp only [Option.bind_some, h1, h2, eq_refl, if_true]
end Go.Proofs.Ytgjglmhjgfgnlaa.Pure
