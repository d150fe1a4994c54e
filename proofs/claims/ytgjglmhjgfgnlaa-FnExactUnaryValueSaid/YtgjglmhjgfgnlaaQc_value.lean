/- Right values: the program and the reference tell the same. -/
import Derived.Test.YtgjglmhjgfgnlaaXOpn
import Derived.Test.YtgjglmhjgfgnlaaXF42
import Derived.Test.YtgjglmhjgfgnlaaXF45
import Derived.Test.YtgjglmhjgfgnlaaXF69
import Derived.Test.YtgjglmhjgfgnlaaXF74
import Derived.Test.YtgjglmhjgfgnlaaXF75
import Derived.Test.YtgjglmhjgfgnlaaQa_basic
import Derived.OpenShut
namespace Go.Proofs.Ytgjglmhjgfgnlaa.Pure
open Go.RowKit Go.Proofs.Ytgjglmhjgfgnlaa.X Go.Proofs.YtgjglmhjgfgnlaaW.PrintWords Go.Proofs.YtgjglmhjgfgnlaaW.PrintLast
set_option linter.unusedVariables false
set_option linter.unusedSimpArgs false
def vok (a b : Int) (t : ByteArray) : Bool :=
  (decide (a = 0) && decide (b = 0) && decide (t.size = 0)) || (decide (a = 1) && decide (0 ≤ b ∧ b ≤ 1) && decide (t.size = 0)) || (decide (a = 2) && decide (t.size = 0)) ||
    (decide (a = 3 ∨ a = 4) && decide (b = 0) && decide (t.size ≤ 60))
theorem nil_iff (t : ByteArray) : (t.toList == ([] : List UInt8)) = decide (t.size = 0) := by
  rw [← length_toList]
  cases t.toList <;> simp
theorem size_le (t : ByteArray) : decide ((t.size : Int) ≤ 60) = decide (t.size ≤ 60) := by rw [decide_eq_decide]; omega
theorem spec_vok (a b : Int) (t : ByteArray) : spec_ValueOK.f a b t = some (vok a b t) := by
  unfold spec_ValueOK.f spec_l01In.f
  simp only [nil_iff, size_le]
  unfold vok
  by_cases c0 : a = 0
  · subst c0; by_cases cb : b = 0 <;> simp [cb]
  by_cases c1 : a = 1
  · subst c1; by_cases cb : 0 ≤ b <;> by_cases cc : b ≤ 1 <;> simp [cb, cc]
  by_cases c2 : a = 2
  · subst c2; simp
  by_cases c3 : a = 3
  · subst c3; by_cases cb : b = 0 <;> simp [cb]
  by_cases c4 : a = 4
  · subst c4; by_cases cb : b = 0 <;> simp [cb]
  simp [c0, c1, c2, c3, c4]
theorem impl_vok (a b : Int) (t : ByteArray) : impl_ValueOK.f a b t = some (vok a b t) := by
  unfold impl_ValueOK.f impl_within.f impl_hasText.f
  simp only [nil_iff, size_le]
  unfold vok
  by_cases c0 : a = 0
  · subst c0; by_cases cb : b = 0 <;> simp [cb]
  by_cases c1 : a = 1
  · subst c1; by_cases cb : 0 ≤ b <;> by_cases cc : b ≤ 1 <;> simp [cb, cc]
  by_cases c2 : a = 2
  · subst c2; simp
  by_cases c3 : a = 3
  · subst c3; by_cases cb : b = 0 <;> simp [cb]
  by_cases c4 : a = 4
  · subst c4; by_cases cb : b = 0 <;> simp [cb]
  simp [c0, c1, c2, c3, c4]
theorem size_zero {t : ByteArray} (h : t.size = 0) : t = (⟨#[]⟩ : ByteArray) := by
  rw [← empty_iff]
  have := length_toList t
  rw [h] at this
  exact List.eq_nil_of_length_eq_zero this
theorem vok_null {b : Int} {t : ByteArray} (h : vok 0 b t = true) : b = 0 ∧ t = (⟨#[]⟩ : ByteArray) := by
  have h2 : b = 0 ∧ t.size = 0 := by
    unfold vok at h
    by_cases c : b = 0 ∧ t.size = 0
    · exact c
    · exfalso
      rcases Classical.not_and_iff_not_or_not.1 c with c | c <;> simp [c] at h
  exact ⟨h2.1, size_zero h2.2⟩
end Go.Proofs.Ytgjglmhjgfgnlaa.Pure
