/- With null for what is not known, and, or and not keep De Morgan's laws; a comparison and its opposite are opposite. -/
import Derived.Test.YtfbclbbhomhfaaaYFnThree3
import Derived.Test.YtfbclbbhomhfaaaYFnThree17
import Derived.Test.YtfbclbbhomhfaaaYFnThree7
import Derived.Test.YtfbclbbhomhfaaaYFnThree16
import Derived.Test.YtfbclbbhomhfaaaYFnThree4
import Derived.Test.YtfbclbbhomhfaaaYFnThree5
import Derived.Test.YtfbclbbhomhfaaaYFnThree8
import Derived.Test.YtfbclbbhomhfaaaYFnThree12
import Derived.Test.YtfbclbbhomhfaaaYFnThree13
import Derived.OpenShut
namespace Go.Proofs.Ytfbclbbhomhfaaa.Pure
open Go.RowKit Go.Proofs.Ytfbclbbhomhfaaa.X Go.Proofs.YtfbclbbhomhfaaaW.PrintWords Go.Proofs.YtfbclbbhomhfaaaW.PrintLast
set_option linter.unusedVariables false
set_option linter.unusedSimpArgs false
def V3 (i : Int) : Int × Int := if i = 0 then (0, 0) else if i = 1 then (1, 0) else (1, 1)
def nt3 (i : Int) : Int := if i = 0 then 0 else if i = 1 then 2 else 1
def an3 (i j : Int) : Int := if i = 1 ∨ j = 1 then 1 else if i = 0 ∨ j = 0 then 0 else 2
def or3 (i j : Int) : Int := if i = 2 ∨ j = 2 then 2 else if i = 0 ∨ j = 0 then 0 else 1
def in3 (i : Int) : Prop := i = 0 ∨ i = 1 ∨ i = 2
abbrev em : ByteArray := (⟨#[]⟩ : ByteArray)
theorem not_val (n : Nat) (i : Int) (hi : in3 i) : impl_UnaryValue.f (n + 30) (⟨#[110, 111, 116]⟩ : ByteArray) (V3 i).1 (V3 i).2 em = some ((V3 (nt3 i)).1, (V3 (nt3 i)).2, em, 0) := by
  rcases hi with rfl | rfl | rfl <;> kernel_rfl
theorem null_val (n : Nat) (i : Int) (hi : in3 i) : impl_UnaryValue.f (n + 30) (⟨#[105, 115, 110, 117, 108, 108]⟩ : ByteArray) (V3 i).1 (V3 i).2 em = some (1, if i = 0 then 1 else 0, em, 0) := by
  rcases hi with rfl | rfl | rfl <;> kernel_rfl
theorem and_val (n : Nat) (i j : Int) (hi : in3 i) (hj : in3 j) : impl_BinaryValue.f (n + 40) (⟨#[97, 110, 100]⟩ : ByteArray) (V3 i).1 (V3 i).2 em (V3 j).1 (V3 j).2 em = some ((V3 (an3 i j)).1, (V3 (an3 i j)).2, em, 0) := by
  rcases hi with rfl | rfl | rfl <;> rcases hj with rfl | rfl | rfl <;> kernel_rfl
theorem or_val (n : Nat) (i j : Int) (hi : in3 i) (hj : in3 j) : impl_BinaryValue.f (n + 40) (⟨#[111, 114]⟩ : ByteArray) (V3 i).1 (V3 i).2 em (V3 j).1 (V3 j).2 em = some ((V3 (or3 i j)).1, (V3 (or3 i j)).2, em, 0) := by
  rcases hi with rfl | rfl | rfl <;> rcases hj with rfl | rfl | rfl <;> kernel_rfl
theorem spec_and (n : Nat) (i j : Int) (hi : in3 i) (hj : in3 j) : spec_BinaryValue.f (n + 40) (⟨#[97, 110, 100]⟩ : ByteArray) (V3 i).1 (V3 i).2 em (V3 j).1 (V3 j).2 em = some ((V3 (an3 i j)).1, (V3 (an3 i j)).2, em, 0) := by
  rcases hi with rfl | rfl | rfl <;> rcases hj with rfl | rfl | rfl <;> kernel_rfl
theorem nt_in (i : Int) (h : in3 i) : in3 (nt3 i) := by unfold in3 nt3; rcases h with rfl | rfl | rfl <;> simp
theorem an_in (i j : Int) (h : in3 i) (h2 : in3 j) : in3 (an3 i j) := by unfold in3 an3; rcases h with rfl | rfl | rfl <;> rcases h2 with rfl | rfl | rfl <;> simp
theorem morgan (i j : Int) (h : in3 i) (h2 : in3 j) : or3 (nt3 i) (nt3 j) = nt3 (an3 i j) := by unfold or3 nt3 an3; rcases h with rfl | rfl | rfl <;> rcases h2 with rfl | rfl | rfl <;> simp
theorem rd3 (i : Int) (h : in3 i) : rd_T24 ([(⟨0, 0, (⟨#[]⟩ : ByteArray)⟩ : S24), (⟨1, 0, (⟨#[]⟩ : ByteArray)⟩ : S24), (⟨1, 1, (⟨#[]⟩ : ByteArray)⟩ : S24)] : List (S24)) i = ⟨(V3 i).1, (V3 i).2, em⟩ := by
  rcases h with rfl | rfl | rfl <;> rfl
theorem cmp_sign (k : Nat) (s : ByteArray) (hs : s.size ≤ 65536) (hl : lvl s.toList = 4) (a b : Int) (t : ByteArray) (y : Int) (u : ByteArray) (h1 : vok a b t = true) (h2 : vok a y u = true) (r : Bool) (hr : impl_compared.f s (cmpVal (a, b, t) (a, y, u)) = some r) :
    impl_BinaryValue.f (k + 21) s a b t a y u = some ((V3 (if a = 0 then 0 else if r = true then 2 else 1)).1, (V3 (if a = 0 then 0 else if r = true then 2 else 1)).2, em, 0) := by
  unfold impl_BinaryValue.f impl_areLong.f
  simp only [Option.bind_some, List.any_cons, List.any_nil, Bool.or_false, decide_eq_true_eq, impl_vok]
  rw [if_neg (show ¬ 65536 < (s.size : Int) by omega), h1, if_pos rfl, h2, if_pos rfl, impl_lvl _ (by omega), Option.bind_some, hl, if_neg (by decide)]
  unfold impl_binaryValue.f impl_areKinds.f
  rw [impl_lvl _ (by omega), Option.bind_some, hl, if_pos rfl]
  by_cases h0 : a = 0
  · subst h0
    simp [impl_binaryValue.j0, V3]
  · have hc := impl_cmp (k + 20) (by omega) a b t a y u
    have h00 : (a == 0) = false := by simpa using h0
    simp only [h0, if_false, impl_isOf.f, if_true, Option.bind_some, h00, show ¬ (4 : Int) < 4 by decide]
    rw [show k + 21 = (k + 20) + 1 from rfl, impl_binaryValue.j0, if_neg (by decide), if_pos rfl, hc, Option.bind_some, hr, Option.bind_some]
    cases r <;> simp [impl_boolValue.f, V3]
theorem signs (i : Int) (h : in3 i) : ∃ s1 s2 : ByteArray, rdOf ByteArray.empty ([(⟨#[61]⟩ : ByteArray), (⟨#[60]⟩ : ByteArray), (⟨#[60, 61]⟩ : ByteArray)] : List ByteArray) i = s1 ∧ rdOf ByteArray.empty ([(⟨#[60, 62]⟩ : ByteArray), (⟨#[62, 61]⟩ : ByteArray), (⟨#[62]⟩ : ByteArray)] : List ByteArray) i = s2 ∧
    s1.size ≤ 65536 ∧ s2.size ≤ 65536 ∧ lvl s1.toList = 4 ∧ lvl s2.toList = 4 ∧ ∀ c : Int, ∃ r : Bool, impl_compared.f s1 c = some r ∧ impl_compared.f s2 c = some (!r) := by
  have L : ∀ l : List UInt8, (⟨l.toArray⟩ : ByteArray).toList = l := fun l => by rw [toList_eq]
  rcases h with rfl | rfl | rfl
  · refine ⟨⟨#[61]⟩, ⟨#[60, 62]⟩, rfl, rfl, by decide, by decide, ?_, ?_, fun c => ⟨c == 0, ?_, ?_⟩⟩ <;> simp [L, lvl, impl_compared.f, bne]
  · refine ⟨⟨#[60]⟩, ⟨#[62, 61]⟩, rfl, rfl, by decide, by decide, ?_, ?_, fun c => ⟨decide (c < 0), ?_, ?_⟩⟩
    · simp [L, lvl]
    · simp [L, lvl]
    · simp [L, impl_compared.f]
    · by_cases h : c < 0
      · simp [L, impl_compared.f, h, show ¬ 0 ≤ c by omega]
      · simp [L, impl_compared.f, h, show 0 ≤ c by omega]
  · refine ⟨⟨#[60, 61]⟩, ⟨#[62]⟩, rfl, rfl, by decide, by decide, ?_, ?_, fun c => ⟨decide (c ≤ 0), ?_, ?_⟩⟩
    · simp [L, lvl]
    · simp [L, lvl]
    · simp [L, impl_compared.f]
    · by_cases h : c ≤ 0
      · simp [L, impl_compared.f, h, show ¬ 0 < c by omega]
      · simp [L, impl_compared.f, h, show 0 < c by omega]
theorem in3_of {t : Int} (h0 : 0 ≤ t) (h1 : t < 3) : in3 t := by unfold in3; omega
theorem cmp_part (l0 l1 : List Int) (h0 : ∀ x ∈ l0, (Lit.int .u8 x).wf = true) (h1 : ∀ x ∈ l1, (Lit.int .u8 x).wf = true) (n : Nat) : laws_FnThree.j1 (n + 61) l0 l1 false = some true := by
  rw [show n + 61 = (n + 60) + 1 from rfl, laws_FnThree.j1, if_neg (by decide)]
  obtain ⟨a, b, t, e1, v1, _, _⟩ := value_of h0 (n + 59)
  obtain ⟨x, y, u, e2, v2, _, _⟩ := value_of h1 (n + 59)
  rw [show n + 60 = (n + 59) + 1 from rfl, e1, e2]
  simp only [Option.bind_some]
  by_cases hk : a = x
  case neg => rw [if_neg hk]
  subst hk
  rw [if_pos rfl]
  obtain ⟨i, e3, g0, g1⟩ := at_some h1 1 3 (by omega) (by omega) (by omega) (by omega)
  obtain ⟨s1, s2, q1, q2, z1, z2, m1, m2, hc⟩ := signs i (in3_of g0 g1)
  obtain ⟨r, r1, r2⟩ := hc (cmpVal (a, b, t) (a, y, u))
  rw [e3, Option.bind_some, if_pos g0, if_pos (show i < _ by exact g1), q1, q2, show n + 59 + 1 = (n + 39) + 21 by omega, cmp_sign (n + 39) s1 z1 m1 a b t y u v1 v2 r r1, Option.bind_some, if_pos (show i < _ by exact g1), cmp_sign (n + 39) s2 z2 m2 a b t y u v1 v2 (!r) r2, Option.bind_some]
  have hin : in3 (if a = 0 then 0 else if r = true then 2 else 1) := by
    unfold in3
    by_cases ha : a = 0
    · simp [ha]
    · cases r <;> simp [ha]
  rw [show n + 39 + 21 = (n + 30) + 30 by omega]
  dsimp only
  rw [not_val (n + 30) _ hin, Option.bind_some, null_val (n + 30) _ hin, Option.bind_some]
  by_cases ha : a = 0
  · subst ha; simp [V3, nt3]
  · cases r <;> simp [ha, V3, nt3]
theorem FnThree : laws_FnThree.Need := by
  intro l0 l1 h0 h1
  refine ⟨162, ?_⟩
  unfold laws_FnThree.f
  have big : laws_FnThree.j0 162 l0 l1 true = some true := by rw [show 162 = 161 + 1 from rfl, laws_FnThree.j0, if_pos rfl]
  have sml : laws_FnThree.j0 162 l0 l1 false = some true := by
    obtain ⟨i, e1, a0, a1⟩ := at_some h0.2 0 3 (by omega) (by omega) (by omega) (by omega)
    obtain ⟨j, e2, b0, b1⟩ := at_some h1.2 0 3 (by omega) (by omega) (by omega) (by omega)
    have hi := in3_of a0 a1
    have hj := in3_of b0 b1
    rw [show 162 = 161 + 1 from rfl, laws_FnThree.j0, if_neg (by decide), Option.bind_some, e1, Option.bind_some, if_pos a0, if_pos (show i < _ by exact a1), e2, Option.bind_some, if_pos b0, if_pos (show j < _ by exact b1), rd3 i hi, rd3 j hj]
    dsimp only
    rw [show 161 = 121 + 40 from rfl, and_val 121 i j hi hj, Option.bind_some, spec_and 121 i j hi hj, Option.bind_some]
    dsimp only
    rw [show 121 + 40 = 131 + 30 from rfl, not_val 131 _ (an_in i j hi hj), Option.bind_some, not_val 131 _ hi, Option.bind_some, not_val 131 _ hj, Option.bind_some]
    dsimp only
    rw [show 131 + 30 = 121 + 40 from rfl, or_val 121 _ _ (nt_in i hi) (nt_in j hj), Option.bind_some]
    dsimp only
    rw [morgan i j hi hj]
    simp only [if_true, beq_self_eq_true, Bool.not_true, Bool.or_false]
    rw [if_neg (by decide)]
    exact cmp_part l0 l1 h0.2 h1.2 100
  by_cases c0 : (l0.length : Int) > 1048576
  · rw [if_pos c0]; exact big
  · rw [if_neg c0]
    cases decide ((l1.length : Int) > 1048576)
    · exact sml
    · exact big
end Go.Proofs.Ytfbclbbhomhfaaa.Pure
