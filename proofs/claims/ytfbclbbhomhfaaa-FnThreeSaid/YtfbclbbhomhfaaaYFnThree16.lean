/- Contracts of functions, and what is told of them. -/
import Derived.Test.YtfbclbbhomhfaaaYFnThree3
import Derived.Test.YtfbclbbhomhfaaaYFnThree8
import Derived.Test.YtfbclbbhomhfaaaYFnThree12
import Derived.Test.YtfbclbbhomhfaaaYFnThree13
import Derived.Test.YtfbclbbhomhfaaaYFnThree15
-- WRITTEN BY xprint.py, a program of this session, over the translation of the seat. Lean checks it.
namespace Go.Proofs.Ytfbclbbhomhfaaa.X
open Go.RowKit Go.Proofs.YtfbclbbhomhfaaaW.PrintWords Go.Proofs.YtfbclbbhomhfaaaW.PrintLast Go.Proofs.YtfbclbbhomhfaaaW.PrintMore
attribute [local go_sem] max2_int min2_int max_two min_two max_three min_three max_four min_four   -- for this text's walks alone
set_option linter.unusedVariables false
set_option linter.unusedSimpArgs false

attribute [local go_sem high] eqA24
/-! ### laws_FnThree: function 3 -/
mutual
def laws_FnThree.j0 : Nat → List Int → List Int → Bool → Option (Bool)
  | 0, _, _, _ => none
  | k + 1, x0, x1, x40 => if x40 = true then (some true) else ((some (([(⟨0, 0, (⟨#[]⟩ : ByteArray)⟩ : S24), (⟨1, 0, (⟨#[]⟩ : ByteArray)⟩ : S24), (⟨1, 1, (⟨#[]⟩ : ByteArray)⟩ : S24)] : List (S24)) : List (S24))).bind fun y101 => ((laws_at.f x0 0 3).bind fun t104 => (if 0 ≤ t104 then (if t104 < (y101.length : Int) then ((laws_at.f x1 0 3).bind fun t107 => (if 0 ≤ t107 then (if t107 < (y101.length : Int) then ((impl_BinaryValue.f k (⟨#[97, 110, 100]⟩ : ByteArray) ((rd_T24 y101 t104).f0) ((rd_T24 y101 t104).f1) ((rd_T24 y101 t104).f2) ((rd_T24 y101 t107).f0) ((rd_T24 y101 t107).f1) ((rd_T24 y101 t107).f2)).bind fun bt110 => ((spec_BinaryValue.f k (⟨#[97, 110, 100]⟩ : ByteArray) ((rd_T24 y101 t104).f0) ((rd_T24 y101 t104).f1) ((rd_T24 y101 t104).f2) ((rd_T24 y101 t107).f0) ((rd_T24 y101 t107).f1) ((rd_T24 y101 t107).f2)).bind fun bt115 => ((impl_UnaryValue.f k (⟨#[110, 111, 116]⟩ : ByteArray) bt110.1 bt110.2.1 bt110.2.2.1).bind fun bt120 => ((impl_UnaryValue.f k (⟨#[110, 111, 116]⟩ : ByteArray) ((rd_T24 y101 t104).f0) ((rd_T24 y101 t104).f1) ((rd_T24 y101 t104).f2)).bind fun bt125 => ((impl_UnaryValue.f k (⟨#[110, 111, 116]⟩ : ByteArray) ((rd_T24 y101 t107).f0) ((rd_T24 y101 t107).f1) ((rd_T24 y101 t107).f2)).bind fun bt130 => ((impl_BinaryValue.f k (⟨#[111, 114]⟩ : ByteArray) bt125.1 bt125.2.1 bt125.2.2.1 bt130.1 bt130.2.1 bt130.2.2.1).bind fun bt135 => (if bt110.2.2.2 = 0 then (if bt125.2.2.2 = 0 then (if bt130.2.2.2 = 0 then (if bt135.2.2.2 = 0 then (if (!(bt110.1 == bt115.1) || (!(bt110.2.1 == bt115.2.1) || (!(bt110.2.2.1.toList == bt115.2.2.1.toList)))) = true then (laws_FnThree.j1 k x0 x1 true) else (laws_FnThree.j1 k x0 x1 (!(bt120.1 == bt135.1) || (!(bt120.2.1 == bt135.2.1) || (!(bt120.2.2.1.toList == bt135.2.2.1.toList)))))) else (laws_FnThree.j1 k x0 x1 true)) else (laws_FnThree.j1 k x0 x1 true)) else (laws_FnThree.j1 k x0 x1 true)) else (laws_FnThree.j1 k x0 x1 true)))))))) else (none)) else (none))) else (none)) else (none))))
def laws_FnThree.j1 : Nat → List Int → List Int → Bool → Option (Bool)
  | 0, _, _, _ => none
  | k + 1, x0, x1, x111 => if x111 = true then (none) else ((spec_ValueOf.f k x0).bind fun bt140 => ((spec_ValueOf.f k x1).bind fun bt144 => (if bt140.1 = bt144.1 then ((some (([(⟨#[61]⟩ : ByteArray), (⟨#[60]⟩ : ByteArray), (⟨#[60, 61]⟩ : ByteArray)] : List ByteArray) : List ByteArray)).bind fun y148 => ((some (([(⟨#[60, 62]⟩ : ByteArray), (⟨#[62, 61]⟩ : ByteArray), (⟨#[62]⟩ : ByteArray)] : List ByteArray) : List ByteArray)).bind fun y151 => ((laws_at.f x1 1 3).bind fun t154 => (if 0 ≤ t154 then (if t154 < (y148.length : Int) then ((impl_BinaryValue.f k (rdOf ByteArray.empty y148 t154) bt140.1 bt140.2.1 bt140.2.2 bt144.1 bt144.2.1 bt144.2.2).bind fun bt156 => (if t154 < (y151.length : Int) then ((impl_BinaryValue.f k (rdOf ByteArray.empty y151 t154) bt140.1 bt140.2.1 bt140.2.2 bt144.1 bt144.2.1 bt144.2.2).bind fun bt162 => ((impl_UnaryValue.f k (⟨#[110, 111, 116]⟩ : ByteArray) bt156.1 bt156.2.1 bt156.2.2.1).bind fun bt167 => ((impl_UnaryValue.f k (⟨#[105, 115, 110, 117, 108, 108]⟩ : ByteArray) bt156.1 bt156.2.1 bt156.2.2.1).bind fun bt172 => (if bt156.2.2.2 = 0 then (if bt162.2.2.2 = 0 then (if bt167.2.2.2 = 0 then (if bt172.2.2.2 = 0 then (if (bt167.1 == bt162.1 && (bt167.2.1 == bt162.2.1 && (bt167.2.2.1.toList == bt162.2.2.1.toList))) = true then (some ((bt172.2.1 == 1) == (bt140.1 == 0))) else (none)) else (none)) else (none)) else (none)) else (none))))) else (none))) else (none)) else (none))))) else (some true))))
end
def laws_FnThree.f (k : Nat) (l0 : List Int) (l1 : List Int) : Option (Bool) := if (l0.length : Int) > 1048576 then (laws_FnThree.j0 k l0 l1 true) else (laws_FnThree.j0 k l0 l1 (decide ((l1.length : Int) > 1048576)))
theorem laws_FnThree.mono_l : ∀ k, (∀ y0 y1 y2, LeO (laws_FnThree.j0 k y0 y1 y2) (laws_FnThree.j0 (k + 1) y0 y1 y2)) ∧ (∀ y0 y1 y2, LeO (laws_FnThree.j1 k y0 y1 y2) (laws_FnThree.j1 (k + 1) y0 y1 y2))
  | 0 => ⟨fun _ _ _ r h => by simp [laws_FnThree.j0] at h, fun _ _ _ r h => by simp [laws_FnThree.j1] at h⟩
  | k + 1 => by
    obtain ⟨ih0, ih1⟩ := laws_FnThree.mono_l k
    refine ⟨?_, ?_⟩
    rotate_left
    · intro y0 y1 y2
      unfold laws_FnThree.j1
      repeat' first
      | (with_reducible exact ih0 _ _ _)
      | (with_reducible exact ih1 _ _ _)
      | (with_reducible exact impl_BinaryValue.mono _ _ _ _ _ _ _ _)
      | (with_reducible exact impl_UnaryValue.mono _ _ _ _ _)
      | (with_reducible exact spec_BinaryValue.mono _ _ _ _ _ _ _ _)
      | (with_reducible exact spec_ValueOf.mono _ _)
      | (with_reducible exact LeO.refl _)
      | (with_reducible exact LeO.none _)
      | (with_reducible refine LeO.ite ?_ ?_)
      | (with_reducible refine LeO.bind ?_ (fun _ => ?_))
      | exact ih0 _ _ _
      | exact ih1 _ _ _
      | exact impl_BinaryValue.mono _ _ _ _ _ _ _ _
      | exact impl_UnaryValue.mono _ _ _ _ _
      | exact spec_BinaryValue.mono _ _ _ _ _ _ _ _
      | exact spec_ValueOf.mono _ _
      | exact LeO.none _
      | refine LeO.ite ?_ ?_
      | refine LeO.bind ?_ (fun _ => ?_)
    intro y0 y1 y2
    unfold laws_FnThree.j0
    repeat' first
    | (with_reducible exact ih0 _ _ _)
    | (with_reducible exact ih1 _ _ _)
    | (with_reducible exact impl_BinaryValue.mono _ _ _ _ _ _ _ _)
    | (with_reducible exact impl_UnaryValue.mono _ _ _ _ _)
    | (with_reducible exact spec_BinaryValue.mono _ _ _ _ _ _ _ _)
    | (with_reducible exact spec_ValueOf.mono _ _)
    | (with_reducible exact LeO.refl _)
    | (with_reducible exact LeO.none _)
    | (with_reducible refine LeO.ite ?_ ?_)
    | (with_reducible refine LeO.bind ?_ (fun _ => ?_))
    | exact ih0 _ _ _
    | exact ih1 _ _ _
    | exact impl_BinaryValue.mono _ _ _ _ _ _ _ _
    | exact impl_UnaryValue.mono _ _ _ _ _
    | exact spec_BinaryValue.mono _ _ _ _ _ _ _ _
    | exact spec_ValueOf.mono _ _
    | exact LeO.none _
    | refine LeO.ite ?_ ?_
    | refine LeO.bind ?_ (fun _ => ?_)
theorem laws_FnThree.mono : ∀ a0 a1 k, LeO (laws_FnThree.f k a0 a1) (laws_FnThree.f (k + 1) a0 a1) := by
  intro a0 a1 k
  obtain ⟨ih0, ih1⟩ := laws_FnThree.mono_l k
  unfold laws_FnThree.f
  repeat' first
      | (with_reducible exact ih0 _ _ _)
      | (with_reducible exact ih1 _ _ _)
      | (with_reducible exact impl_BinaryValue.mono _ _ _ _ _ _ _ _)
      | (with_reducible exact impl_UnaryValue.mono _ _ _ _ _)
      | (with_reducible exact spec_BinaryValue.mono _ _ _ _ _ _ _ _)
      | (with_reducible exact spec_ValueOf.mono _ _)
      | (with_reducible exact LeO.refl _)
      | (with_reducible exact LeO.none _)
      | (with_reducible refine LeO.ite ?_ ?_)
      | (with_reducible refine LeO.bind ?_ (fun _ => ?_))
      | exact ih0 _ _ _
      | exact ih1 _ _ _
      | exact impl_BinaryValue.mono _ _ _ _ _ _ _ _
      | exact impl_UnaryValue.mono _ _ _ _ _
      | exact spec_BinaryValue.mono _ _ _ _ _ _ _ _
      | exact spec_ValueOf.mono _ _
      | exact LeO.none _
      | refine LeO.ite ?_ ?_
      | refine LeO.bind ?_ (fun _ => ?_)
def laws_FnThree.T21 : Bool × List (List Nat × List Nat) := (true, [([], []), ([], []), ([0, 1], [0, 1]), ([2], [2]), ([], []), ([], []), ([3, 4, 5], [3, 4, 5]), ([6], [6]), ([7], [7]), ([7], [7]), ([], []), ([10, 8, 6, 0, 1, 2, 3, 4, 5, 6, 7, 8, 10], [8, 10]), ([9, 11, 0, 1, 2, 3, 4, 5, 6, 7, 8, 9, 10, 11], [9])])
def laws_FnThree.B21 : List Nat := [0, 0, 3, 7, 0, 0, 63, 127, 255, 255, 0, 1535, 4095]
theorem laws_FnThree.tab21 : rtab .any (opsOf Try.f3 21) = laws_FnThree.T21 := by kernel_rfl
theorem laws_FnThree.bits21 : waitsOk laws_FnThree.T21.2 laws_FnThree.B21 = true := by kernel_rfl
def laws_FnThree.T22 : Bool × List (List Nat × List Nat) := (true, [([], []), ([], []), ([0, 1], [0, 1]), ([2], [2]), ([], []), ([], []), ([3, 4, 5], [3, 4, 5]), ([6], [6]), ([7], [7]), ([7], [7]), ([], []), ([10, 8, 6, 0, 1, 2, 3, 4, 5, 6, 7, 8, 10], [8, 10]), ([9, 11, 0, 1, 2, 3, 4, 5, 6, 7, 8, 9, 10, 11], [9])])
def laws_FnThree.B22 : List Nat := [0, 0, 3, 7, 0, 0, 63, 127, 255, 255, 0, 1535, 4095]
theorem laws_FnThree.tab22 : rtab .any (opsOf Try.f3 22) = laws_FnThree.T22 := by kernel_rfl
theorem laws_FnThree.bits22 : waitsOk laws_FnThree.T22.2 laws_FnThree.B22 = true := by kernel_rfl
set_option maxHeartbeats 8000000 in
set_option maxRecDepth 100000 in
theorem laws_FnThree.calls (k : Nat) (A0 : Option Addr) (c0 : Nat) (l0 : List Int) (A1 : Option Addr) (c1 : Nat) (l1 : List Int) (r : Bool) (w : World) (hr0 : Kd.C (Kd.int .u8) w A0 l0.length l0) (hc0 : l0.length ≤ c0) (hr1 : Kd.C (Kd.int .u8) w A1 l1.length l1) (hc1 : l1.length ≤ c1) (h : laws_FnThree.f k l0 l1 = some r) :
    Calls Try.prog 3 #[.slice A0 l0.length c0, .slice A1 l1.length c1] w fun e w' => e = .returned (.bool r) ∧ Below w.heap.size w w' := by
  have hu24 := Try.underlying24
  have HR0 := ak_ hr0
  have HC0 := ak_ hc0
  clear hr0 hc0
  have HR1 := ak_ hr1
  have HC1 := ak_ hc1
  clear hr1 hc1
  have HB := ak_ (Below.refl w.heap.size w)
  have H : (if (l0.length : Int) > 1048576 then (laws_FnThree.j0 k l0 l1 true) else (laws_FnThree.j0 k l0 l1 (decide ((l1.length : Int) > 1048576)))) = some r := h
  clear h
  have HC3 := ak_ H
  clear H
  go_enter Try.func3, Try.ntmps3
  go_upto_region 1 with (fail)
  go_cut [40] (fun v40 wc => ∃ (kq : Nat) (x40_2 : Bool), v40 = .bool x40_2 ∧ Aside0 (laws_FnThree.j0 kq l0 l1 x40_2 = some r) ∧ Aside0 (kq ≤ k) ∧ Aside0 (Below w.heap.size w wc))
  case first =>
    have H := HC3.out
    clear HC3
    by_cases c4 : (l0.length : Int) > 1048576
    rotate_left
    · rw [if_neg c4] at H
      have c4b0 : decide (1048576 < (l0.length : Int)) = false := decide_eq_false c4
      have c4b1 : decide (1048576 < l0.length) = false := decide_eq_false (by omega)
      clear c4
      (first | rw [c4b0] | (simp only [i64_w, i32_w]; rw [c4b0]) | skip)
      have H' := ak_ H
      clear H
      go_wp2
      go_meet
      case rel => exact ⟨_, (decide ((l1.length : Int) > 1048576)), z18_, H', ⟨by first | omega | exact Nat.le_refl _⟩, ⟨z1_⟩⟩
    rw [if_pos c4] at H
    have c4b0 : decide (1048576 < (l0.length : Int)) = true := decide_eq_true c4
    have c4b1 : decide (1048576 < l0.length) = true := decide_eq_true (by omega)
    clear c4
    (first | rw [c4b0] | (simp only [i64_w, i32_w]; rw [c4b0]) | skip)
    have H' := ak_ H
    clear H
    go_wp2
    go_meet
    case rel => exact ⟨_, (true), z18_, H', ⟨by first | omega | exact Nat.le_refl _⟩, ⟨z1_⟩⟩
  case rest =>
    clear HC3
    try clear c1
    try clear p2
    try clear c3
    try clear c4
    try clear c4b0
    try clear c4b1
    obtain ⟨kq, x40_2, rfl, HA, HJ2, HB⟩ := hcut
    cases kq with
    | zero => exact absurd HA.out (by simp [laws_FnThree.j0])
    | succ kj2 =>
      have H := HA.out
      clear HA
      simp only [laws_FnThree.j0] at H
      by_cases c5 : x40_2 = true
      · subst c5
        have H1 : (some true) = some r := by rw [if_pos rfl] at H; exact H
        clear H
        have H := H1
        clear H1
        obtain rfl := Option.some.inj H
        go_wp2
        go_ret
        exact ⟨z8_, z1_⟩
      replace c5 := Bool.eq_false_iff.mpr c5
      subst c5
      have H1 : ((some (([(⟨0, 0, (⟨#[]⟩ : ByteArray)⟩ : S24), (⟨1, 0, (⟨#[]⟩ : ByteArray)⟩ : S24), (⟨1, 1, (⟨#[]⟩ : ByteArray)⟩ : S24)] : List (S24)) : List (S24))).bind fun y101 => ((laws_at.f l0 0 3).bind fun t104 => (if 0 ≤ t104 then (if t104 < (y101.length : Int) then ((laws_at.f l1 0 3).bind fun t107 => (if 0 ≤ t107 then (if t107 < (y101.length : Int) then ((impl_BinaryValue.f kj2 (⟨#[97, 110, 100]⟩ : ByteArray) ((rd_T24 y101 t104).f0) ((rd_T24 y101 t104).f1) ((rd_T24 y101 t104).f2) ((rd_T24 y101 t107).f0) ((rd_T24 y101 t107).f1) ((rd_T24 y101 t107).f2)).bind fun bt110 => ((spec_BinaryValue.f kj2 (⟨#[97, 110, 100]⟩ : ByteArray) ((rd_T24 y101 t104).f0) ((rd_T24 y101 t104).f1) ((rd_T24 y101 t104).f2) ((rd_T24 y101 t107).f0) ((rd_T24 y101 t107).f1) ((rd_T24 y101 t107).f2)).bind fun bt115 => ((impl_UnaryValue.f kj2 (⟨#[110, 111, 116]⟩ : ByteArray) bt110.1 bt110.2.1 bt110.2.2.1).bind fun bt120 => ((impl_UnaryValue.f kj2 (⟨#[110, 111, 116]⟩ : ByteArray) ((rd_T24 y101 t104).f0) ((rd_T24 y101 t104).f1) ((rd_T24 y101 t104).f2)).bind fun bt125 => ((impl_UnaryValue.f kj2 (⟨#[110, 111, 116]⟩ : ByteArray) ((rd_T24 y101 t107).f0) ((rd_T24 y101 t107).f1) ((rd_T24 y101 t107).f2)).bind fun bt130 => ((impl_BinaryValue.f kj2 (⟨#[111, 114]⟩ : ByteArray) bt125.1 bt125.2.1 bt125.2.2.1 bt130.1 bt130.2.1 bt130.2.2.1).bind fun bt135 => (if bt110.2.2.2 = 0 then (if bt125.2.2.2 = 0 then (if bt130.2.2.2 = 0 then (if bt135.2.2.2 = 0 then (if (!(bt110.1 == bt115.1) || (!(bt110.2.1 == bt115.2.1) || (!(bt110.2.2.1.toList == bt115.2.2.1.toList)))) = true then (laws_FnThree.j1 kj2 l0 l1 true) else (laws_FnThree.j1 kj2 l0 l1 (!(bt120.1 == bt135.1) || (!(bt120.2.1 == bt135.2.1) || (!(bt120.2.2.1.toList == bt135.2.2.1.toList)))))) else (laws_FnThree.j1 kj2 l0 l1 true)) else (laws_FnThree.j1 kj2 l0 l1 true)) else (laws_FnThree.j1 kj2 l0 l1 true)) else (laws_FnThree.j1 kj2 l0 l1 true)))))))) else (none)) else (none))) else (none)) else (none)))) = some r := by rw [if_neg (show ¬ (false = true) by decide)] at H; exact H
      clear H
      have H := H1
      clear H1
      obtain ⟨y101, hy101⟩ : ∃ y_ : List (S24), y_ = (([(⟨0, 0, (⟨#[]⟩ : ByteArray)⟩ : S24), (⟨1, 0, (⟨#[]⟩ : ByteArray)⟩ : S24), (⟨1, 1, (⟨#[]⟩ : ByteArray)⟩ : S24)] : List (S24))) := ⟨_, rfl⟩
      replace H : ((laws_at.f l0 0 3).bind fun t104 => (if 0 ≤ t104 then (if t104 < (y101.length : Int) then ((laws_at.f l1 0 3).bind fun t107 => (if 0 ≤ t107 then (if t107 < (y101.length : Int) then ((impl_BinaryValue.f kj2 (⟨#[97, 110, 100]⟩ : ByteArray) ((rd_T24 y101 t104).f0) ((rd_T24 y101 t104).f1) ((rd_T24 y101 t104).f2) ((rd_T24 y101 t107).f0) ((rd_T24 y101 t107).f1) ((rd_T24 y101 t107).f2)).bind fun bt110 => ((spec_BinaryValue.f kj2 (⟨#[97, 110, 100]⟩ : ByteArray) ((rd_T24 y101 t104).f0) ((rd_T24 y101 t104).f1) ((rd_T24 y101 t104).f2) ((rd_T24 y101 t107).f0) ((rd_T24 y101 t107).f1) ((rd_T24 y101 t107).f2)).bind fun bt115 => ((impl_UnaryValue.f kj2 (⟨#[110, 111, 116]⟩ : ByteArray) bt110.1 bt110.2.1 bt110.2.2.1).bind fun bt120 => ((impl_UnaryValue.f kj2 (⟨#[110, 111, 116]⟩ : ByteArray) ((rd_T24 y101 t104).f0) ((rd_T24 y101 t104).f1) ((rd_T24 y101 t104).f2)).bind fun bt125 => ((impl_UnaryValue.f kj2 (⟨#[110, 111, 116]⟩ : ByteArray) ((rd_T24 y101 t107).f0) ((rd_T24 y101 t107).f1) ((rd_T24 y101 t107).f2)).bind fun bt130 => ((impl_BinaryValue.f kj2 (⟨#[111, 114]⟩ : ByteArray) bt125.1 bt125.2.1 bt125.2.2.1 bt130.1 bt130.2.1 bt130.2.2.1).bind fun bt135 => (if bt110.2.2.2 = 0 then (if bt125.2.2.2 = 0 then (if bt130.2.2.2 = 0 then (if bt135.2.2.2 = 0 then (if (!(bt110.1 == bt115.1) || (!(bt110.2.1 == bt115.2.1) || (!(bt110.2.2.1.toList == bt115.2.2.1.toList)))) = true then (laws_FnThree.j1 kj2 l0 l1 true) else (laws_FnThree.j1 kj2 l0 l1 (!(bt120.1 == bt135.1) || (!(bt120.2.1 == bt135.2.1) || (!(bt120.2.2.1.toList == bt135.2.2.1.toList)))))) else (laws_FnThree.j1 kj2 l0 l1 true)) else (laws_FnThree.j1 kj2 l0 l1 true)) else (laws_FnThree.j1 kj2 l0 l1 true)) else (laws_FnThree.j1 kj2 l0 l1 true)))))))) else (none)) else (none))) else (none)) else (none))) = some r := by first | (rw [hy101]; with_reducible exact H) | (have H2_ := (Option.bind_some _ _).symm.trans H; rw [hy101]; with_reducible exact H2_) | (have H2_ := (Option.bind_some _ _).symm.trans H; with_reducible exact H2_) | with_reducible exact H | (rw [hy101]; exact H) | exact H
      have Ny101 := ak_ hy101
      clear hy101
      replace H := Option.bind_eq_some_iff.mp H
      obtain ⟨t104, A60, H⟩ := H
      have A6 := ak_ A60
      clear A60
      by_cases c7 : 0 ≤ t104
      rotate_left
      · rw [if_neg c7] at H
        exact absurd H (by simp)

      rw [if_pos c7] at H
      have c7b0 := decide_eq_true c7
      clear c7
      by_cases c8 : t104 < (y101.length : Int)
      rotate_left
      · rw [if_neg c8] at H
        exact absurd H (by simp)
      rw [if_pos c8] at H
      have c8b0 := decide_eq_true c8
      clear c8
      replace H := Option.bind_eq_some_iff.mp H
      obtain ⟨t107, A90, H⟩ := H
      have A9 := ak_ A90
      clear A90
      by_cases c10 : 0 ≤ t107
      rotate_left
      · rw [if_neg c10] at H
        exact absurd H (by simp)
      rw [if_pos c10] at H
      have c10b0 := decide_eq_true c10
      clear c10
      by_cases c11 : t107 < (y101.length : Int)
      rotate_left
      · rw [if_neg c11] at H
        exact absurd H (by simp)
      rw [if_pos c11] at H
      have c11b0 := decide_eq_true c11
      clear c11
      replace H := Option.bind_eq_some_iff.mp H
      obtain ⟨⟨t110, t111, t112, t113⟩, A120, H⟩ := H
      replace H : ((spec_BinaryValue.f kj2 (⟨#[97, 110, 100]⟩ : ByteArray) ((rd_T24 y101 t104).f0) ((rd_T24 y101 t104).f1) ((rd_T24 y101 t104).f2) ((rd_T24 y101 t107).f0) ((rd_T24 y101 t107).f1) ((rd_T24 y101 t107).f2)).bind fun bt115 => ((impl_UnaryValue.f kj2 (⟨#[110, 111, 116]⟩ : ByteArray) t110 t111 t112).bind fun bt120 => ((impl_UnaryValue.f kj2 (⟨#[110, 111, 116]⟩ : ByteArray) ((rd_T24 y101 t104).f0) ((rd_T24 y101 t104).f1) ((rd_T24 y101 t104).f2)).bind fun bt125 => ((impl_UnaryValue.f kj2 (⟨#[110, 111, 116]⟩ : ByteArray) ((rd_T24 y101 t107).f0) ((rd_T24 y101 t107).f1) ((rd_T24 y101 t107).f2)).bind fun bt130 => ((impl_BinaryValue.f kj2 (⟨#[111, 114]⟩ : ByteArray) bt125.1 bt125.2.1 bt125.2.2.1 bt130.1 bt130.2.1 bt130.2.2.1).bind fun bt135 => (if t113 = 0 then (if bt125.2.2.2 = 0 then (if bt130.2.2.2 = 0 then (if bt135.2.2.2 = 0 then (if (!(t110 == bt115.1) || (!(t111 == bt115.2.1) || (!(t112.toList == bt115.2.2.1.toList)))) = true then (laws_FnThree.j1 kj2 l0 l1 true) else (laws_FnThree.j1 kj2 l0 l1 (!(bt120.1 == bt135.1) || (!(bt120.2.1 == bt135.2.1) || (!(bt120.2.2.1.toList == bt135.2.2.1.toList)))))) else (laws_FnThree.j1 kj2 l0 l1 true)) else (laws_FnThree.j1 kj2 l0 l1 true)) else (laws_FnThree.j1 kj2 l0 l1 true)) else (laws_FnThree.j1 kj2 l0 l1 true))))))) = some r := H
      have A12 := ak_ A120
      clear A120
      replace H := Option.bind_eq_some_iff.mp H
      obtain ⟨⟨t115, t116, t117, t118⟩, A130, H⟩ := H
      replace H : ((impl_UnaryValue.f kj2 (⟨#[110, 111, 116]⟩ : ByteArray) t110 t111 t112).bind fun bt120 => ((impl_UnaryValue.f kj2 (⟨#[110, 111, 116]⟩ : ByteArray) ((rd_T24 y101 t104).f0) ((rd_T24 y101 t104).f1) ((rd_T24 y101 t104).f2)).bind fun bt125 => ((impl_UnaryValue.f kj2 (⟨#[110, 111, 116]⟩ : ByteArray) ((rd_T24 y101 t107).f0) ((rd_T24 y101 t107).f1) ((rd_T24 y101 t107).f2)).bind fun bt130 => ((impl_BinaryValue.f kj2 (⟨#[111, 114]⟩ : ByteArray) bt125.1 bt125.2.1 bt125.2.2.1 bt130.1 bt130.2.1 bt130.2.2.1).bind fun bt135 => (if t113 = 0 then (if bt125.2.2.2 = 0 then (if bt130.2.2.2 = 0 then (if bt135.2.2.2 = 0 then (if (!(t110 == t115) || (!(t111 == t116) || (!(t112.toList == t117.toList)))) = true then (laws_FnThree.j1 kj2 l0 l1 true) else (laws_FnThree.j1 kj2 l0 l1 (!(bt120.1 == bt135.1) || (!(bt120.2.1 == bt135.2.1) || (!(bt120.2.2.1.toList == bt135.2.2.1.toList)))))) else (laws_FnThree.j1 kj2 l0 l1 true)) else (laws_FnThree.j1 kj2 l0 l1 true)) else (laws_FnThree.j1 kj2 l0 l1 true)) else (laws_FnThree.j1 kj2 l0 l1 true)))))) = some r := H
      have A13 := ak_ A130
      clear A130
      replace H := Option.bind_eq_some_iff.mp H
      obtain ⟨⟨t120, t121, t122, t123⟩, A140, H⟩ := H
      replace H : ((impl_UnaryValue.f kj2 (⟨#[110, 111, 116]⟩ : ByteArray) ((rd_T24 y101 t104).f0) ((rd_T24 y101 t104).f1) ((rd_T24 y101 t104).f2)).bind fun bt125 => ((impl_UnaryValue.f kj2 (⟨#[110, 111, 116]⟩ : ByteArray) ((rd_T24 y101 t107).f0) ((rd_T24 y101 t107).f1) ((rd_T24 y101 t107).f2)).bind fun bt130 => ((impl_BinaryValue.f kj2 (⟨#[111, 114]⟩ : ByteArray) bt125.1 bt125.2.1 bt125.2.2.1 bt130.1 bt130.2.1 bt130.2.2.1).bind fun bt135 => (if t113 = 0 then (if bt125.2.2.2 = 0 then (if bt130.2.2.2 = 0 then (if bt135.2.2.2 = 0 then (if (!(t110 == t115) || (!(t111 == t116) || (!(t112.toList == t117.toList)))) = true then (laws_FnThree.j1 kj2 l0 l1 true) else (laws_FnThree.j1 kj2 l0 l1 (!(t120 == bt135.1) || (!(t121 == bt135.2.1) || (!(t122.toList == bt135.2.2.1.toList)))))) else (laws_FnThree.j1 kj2 l0 l1 true)) else (laws_FnThree.j1 kj2 l0 l1 true)) else (laws_FnThree.j1 kj2 l0 l1 true)) else (laws_FnThree.j1 kj2 l0 l1 true))))) = some r := H
      have A14 := ak_ A140
      clear A140
      replace H := Option.bind_eq_some_iff.mp H
      obtain ⟨⟨t125, t126, t127, t128⟩, A150, H⟩ := H
      replace H : ((impl_UnaryValue.f kj2 (⟨#[110, 111, 116]⟩ : ByteArray) ((rd_T24 y101 t107).f0) ((rd_T24 y101 t107).f1) ((rd_T24 y101 t107).f2)).bind fun bt130 => ((impl_BinaryValue.f kj2 (⟨#[111, 114]⟩ : ByteArray) t125 t126 t127 bt130.1 bt130.2.1 bt130.2.2.1).bind fun bt135 => (if t113 = 0 then (if t128 = 0 then (if bt130.2.2.2 = 0 then (if bt135.2.2.2 = 0 then (if (!(t110 == t115) || (!(t111 == t116) || (!(t112.toList == t117.toList)))) = true then (laws_FnThree.j1 kj2 l0 l1 true) else (laws_FnThree.j1 kj2 l0 l1 (!(t120 == bt135.1) || (!(t121 == bt135.2.1) || (!(t122.toList == bt135.2.2.1.toList)))))) else (laws_FnThree.j1 kj2 l0 l1 true)) else (laws_FnThree.j1 kj2 l0 l1 true)) else (laws_FnThree.j1 kj2 l0 l1 true)) else (laws_FnThree.j1 kj2 l0 l1 true)))) = some r := H
      have A15 := ak_ A150
      clear A150
      replace H := Option.bind_eq_some_iff.mp H
      obtain ⟨⟨t130, t131, t132, t133⟩, A160, H⟩ := H
      replace H : ((impl_BinaryValue.f kj2 (⟨#[111, 114]⟩ : ByteArray) t125 t126 t127 t130 t131 t132).bind fun bt135 => (if t113 = 0 then (if t128 = 0 then (if t133 = 0 then (if bt135.2.2.2 = 0 then (if (!(t110 == t115) || (!(t111 == t116) || (!(t112.toList == t117.toList)))) = true then (laws_FnThree.j1 kj2 l0 l1 true) else (laws_FnThree.j1 kj2 l0 l1 (!(t120 == bt135.1) || (!(t121 == bt135.2.1) || (!(t122.toList == bt135.2.2.1.toList)))))) else (laws_FnThree.j1 kj2 l0 l1 true)) else (laws_FnThree.j1 kj2 l0 l1 true)) else (laws_FnThree.j1 kj2 l0 l1 true)) else (laws_FnThree.j1 kj2 l0 l1 true))) = some r := H
      have A16 := ak_ A160
      clear A160
      replace H := Option.bind_eq_some_iff.mp H
      obtain ⟨⟨t135, t136, t137, t138⟩, A170, H⟩ := H
      replace H : (if t113 = 0 then (if t128 = 0 then (if t133 = 0 then (if t138 = 0 then (if (!(t110 == t115) || (!(t111 == t116) || (!(t112.toList == t117.toList)))) = true then (laws_FnThree.j1 kj2 l0 l1 true) else (laws_FnThree.j1 kj2 l0 l1 (!(t120 == t135) || (!(t121 == t136) || (!(t122.toList == t137.toList)))))) else (laws_FnThree.j1 kj2 l0 l1 true)) else (laws_FnThree.j1 kj2 l0 l1 true)) else (laws_FnThree.j1 kj2 l0 l1 true)) else (laws_FnThree.j1 kj2 l0 l1 true)) = some r := H
      have A17 := ak_ A170
      clear A170
      have HC18 := ak_ H
      clear H
      go_upto_region 12 with (first | ((with_reducible refine gate_dst (N := 44) rfl ?_); (try (refine gate_guard (by rfl) ?_; dsimp only)); refine Kd.R_lit k24 _ 24 ?hg (N := 44) ?hd (xs := ([(⟨0, 0, (⟨#[]⟩ : ByteArray)⟩ : S24), (⟨1, 0, (⟨#[]⟩ : ByteArray)⟩ : S24), (⟨1, 1, (⟨#[]⟩ : ByteArray)⟩ : S24)] : List (S24))) (inner := [.int .i64 0, .int .i64 0, .string (⟨#[]⟩ : ByteArray), .int .i64 1, .int .i64 0, .string (⟨#[]⟩ : ByteArray), .int .i64 1, .int .i64 1, .string (⟨#[]⟩ : ByteArray)]) (ok := fun _ => True) (okp := fun _ => True) ?hr ?hp (fun _ hk => hk) trivial (Below.refl _ _) (Nat.le_refl _) (by simp) ?_; (case hd => rfl); (case hg => rfl); (case hr => first | (go_simp; done) | (go_simp; rfl)); (case hp => exact (Reps.c3 (show Kd.M k24 _ _ _ (⟨0, 0, (⟨#[]⟩ : ByteArray)⟩ : S24) [.int .i64 0, .int .i64 0, .string (⟨#[]⟩ : ByteArray)] from (k24_mkM _ _ _ (⟨0, 0, (⟨#[]⟩ : ByteArray)⟩ : S24) )) (Reps.c3 (show Kd.M k24 _ _ _ (⟨1, 0, (⟨#[]⟩ : ByteArray)⟩ : S24) [.int .i64 1, .int .i64 0, .string (⟨#[]⟩ : ByteArray)] from (k24_mkM _ _ _ (⟨1, 0, (⟨#[]⟩ : ByteArray)⟩ : S24) )) (Reps.c3 (show Kd.M k24 _ _ _ (⟨1, 1, (⟨#[]⟩ : ByteArray)⟩ : S24) [.int .i64 1, .int .i64 1, .string (⟨#[]⟩ : ByteArray)] from (k24_mkM _ _ _ (⟨1, 1, (⟨#[]⟩ : ByteArray)⟩ : S24) )) (Reps.none _ _))))); intro v102 w19 ho20 hb hg_ hnew_; clear hg_ hnew_; (first | rw [← Ny101.out] at ho20 | (simp only [Int.reduceToNat] at ho20; rw [← Ny101.out] at ho20)); have n_ := a2_ (Kd.R_lower ho20 (below_size z1_)) (below_step z1_ hb); clear HB; obtain ⟨HO103, HB⟩ := n_; clear hb ho20) | ((with_reducible refine gate_callee (f := 5) rfl ?_); refine goesL_ (some 47) rfl rfl Try.func5 (by kernel_rfl) rfl #[.slice A0 l0.length c0, .int .i64 0, .int .i64 3] rfl z5_ ?_; (with_reducible refine (laws_at.calls _ _ l0 0 3 t104 _ ?side1 ?side2 A6.out).mono ?_); (case side1 => repeat (first | exact (Kd.C_below HR0.out HB.out) | (with_reducible refine Kd.C_alloc ?_ _) | (with_reducible refine Kd.C_drewN ?_ _) | (with_reducible refine Kd.C_drew ?_))); (case side2 => exact HC0.out); rintro e w' ⟨rfl, ⟨nd, rfl⟩⟩; refine ⟨_, rfl, ?_⟩; (try (rw [drewN_self w19]; generalize hq_ : World.drewN w19 _ = w19; have n0_ : Aside0 (Kd.R k24 24 w19 w.heap.size (fun _ => True) v102 y101) := ⟨by rw [← hq_]; exact z75_⟩; have n1_ : Aside0 (Below w.heap.size w w19) := ⟨by rw [← hq_]; exact z1_⟩; clear HO103 HB hq_; have HO103 := n0_; have HB := n1_; clear n0_ n1_)); obtain ⟨Ao21, co21, eo21⟩ := Kd.R_slice HO103.out; subst eo21; have p105 : 0 ≤ (t104 : Int) := of_decide_eq_true z69_; have q105 : t104 < (y101.length : Int) := of_decide_eq_true z69_; obtain ⟨ad105, e105, hx105_0, hx105_1, hx105_2⟩ := at_T24 (Kd.R_reads' HO103.out).2.2 t104 p105 q105; cases e105; replace p105 := eq_true p105; replace q105 := eq_true q105) | ((with_reducible refine gate_dst (N := 6) rfl ?_); (try (refine gate_guard (by rfl) ?_; dsimp only)); refine bx_ 6 (cs := #[.int .i64 0, .int .i64 0, .string (⟨#[]⟩ : ByteArray)]) (t := 24) (h_ := ?_); intro gb106 hg w22 hbox hb; have n_ := a5_ (Kd.R_below (Kd.R_elderB z75_ gb106 (Nat.le_of_eq hg.symm)) hb) (below_step z1_ hb) (hbox) ((gs_ w hg (below_size z1_))) ((gs_ w hg (below_size z1_))); clear HO103 HB; obtain ⟨HO103, HB, BK106, GW106, GE106⟩ := n_; clear hb hbox hg; obtain ⟨hcz23_0, hcz23_1, hcz23_2, hfz23_0, hfz23_1, hfz23_2⟩ := bcf3 BK106.out) | ((with_reducible refine gate_callee (f := 5) rfl ?_); refine goesL_ (some 52) rfl rfl Try.func5 (by kernel_rfl) rfl #[.slice A1 l1.length c1, .int .i64 0, .int .i64 3] rfl z5_ ?_; (with_reducible refine (laws_at.calls _ _ l1 0 3 t107 _ ?side1 ?side2 A9.out).mono ?_); (case side1 => exact Kd.C_below HR1.out z101_); (case side2 => exact HC1.out); rintro e w' ⟨rfl, ⟨nd, rfl⟩⟩; refine ⟨_, rfl, ?_⟩; have p108 : 0 ≤ (t107 : Int) := of_decide_eq_true z69_; have q108 : t107 < (y101.length : Int) := of_decide_eq_true z69_; obtain ⟨ad108, e108, hx108_0, hx108_1, hx108_2⟩ := at_T24 (Kd.R_reads' HO103.out).2.2 t107 p108 q108; obtain rfl : ad105 = ad108 := (by injection e108); have hn108_0 : ad105.block ≠ gb106 := Kd.own_blk z112_; have hn108_1 : ad105.block ≠ gb106 := Kd.own_blk z112_; have hn108_2 : ad105.block ≠ gb106 := Kd.own_blk z112_; replace hx108_0 := (cell_far (p := ⟨gb106, 0, none⟩) z109_ (.int .i64 ((rd_T24 y101 t104).f0))).trans hx108_0; replace hx108_1 := (cell_far (p := ⟨gb106, 0, none⟩) z109_ (.int .i64 ((rd_T24 y101 t104).f0))).trans hx108_1; replace hx108_2 := (cell_far (p := ⟨gb106, 0, none⟩) z109_ (.int .i64 ((rd_T24 y101 t104).f0))).trans hx108_2; replace hx108_0 := (cell_far (p := ⟨gb106, 1, none⟩) z110_ (.int .i64 ((rd_T24 y101 t104).f1))).trans hx108_0; replace hx108_1 := (cell_far (p := ⟨gb106, 1, none⟩) z110_ (.int .i64 ((rd_T24 y101 t104).f1))).trans hx108_1; replace hx108_2 := (cell_far (p := ⟨gb106, 1, none⟩) z110_ (.int .i64 ((rd_T24 y101 t104).f1))).trans hx108_2; replace hx108_0 := (cell_far (p := ⟨gb106, 2, none⟩) z111_ (.string ((rd_T24 y101 t104).f2))).trans hx108_0; replace hx108_1 := (cell_far (p := ⟨gb106, 2, none⟩) z111_ (.string ((rd_T24 y101 t104).f2))).trans hx108_1; replace hx108_2 := (cell_far (p := ⟨gb106, 2, none⟩) z111_ (.string ((rd_T24 y101 t104).f2))).trans hx108_2; clear hn108_0; clear hn108_1; clear hn108_2; replace p108 := eq_true p108; replace q108 := eq_true q108) | ((with_reducible refine gate_dst (N := 7) rfl ?_); (try (refine gate_guard (by rfl) ?_; dsimp only)); refine bx_ 7 (cs := #[.int .i64 0, .int .i64 0, .string (⟨#[]⟩ : ByteArray)]) (t := 24) (h_ := ?_); intro gb109 hg w24 hbox hb; have n_ := a8_ (Kd.R_below (Kd.R_elderB (by (with_reducible repeat (first | apply Kd.R_alloc | apply Kd.R_drewN | apply Kd.R_drew)); exact (Kd.R_mono (Kd.R_far (p := ⟨gb106, 2, none⟩) (Kd.R_far (p := ⟨gb106, 1, none⟩) (Kd.R_far (p := ⟨gb106, 0, none⟩) (Kd.R_mono HO103.out (fun k_ hk => (⟨hk, hk.2⟩ : _ ∧ k_ ≠ gb106))) (fun _ hk => hk.2) (.int .i64 ((rd_T24 y101 t104).f0))) (fun _ hk => hk.2) (.int .i64 ((rd_T24 y101 t104).f1))) (fun _ hk => hk.2) (.string ((rd_T24 y101 t104).f2))) (fun _ h_ => h_.1))) gb109 (Nat.le_of_eq hg.symm)) hb) (blk_below (g := gb106) (o := .cells #[.int .i64 ((rd_T24 y101 t104).f0), .int .i64 ((rd_T24 y101 t104).f1), .string ((rd_T24 y101 t104).f2)] 24 (0, 0)) z55_ hb) (below_step z101_ hb) (hbox) ((gs_ w hg (below_size z101_))) ((gs_ w hg (below_size z101_))) ((by rw [hg]; exact Nat.ne_of_lt (blk_lt (g := gb106) (o := .cells #[.int .i64 ((rd_T24 y101 t104).f0), .int .i64 ((rd_T24 y101 t104).f1), .string ((rd_T24 y101 t104).f2)] 24 (0, 0)) z55_) : gb106 ≠ gb109)) ((by rw [hg]; exact Nat.ne_of_gt (blk_lt (g := gb106) (o := .cells #[.int .i64 ((rd_T24 y101 t104).f0), .int .i64 ((rd_T24 y101 t104).f1), .string ((rd_T24 y101 t104).f2)] 24 (0, 0)) z55_) : gb109 ≠ gb106)); clear HO103 BK106 HB; obtain ⟨HO103, BK106, HB, BK109, GW109, GE109, NB106_109, NB109_106⟩ := n_; clear hb hbox hg; have hnb25 := NB109_106.out; have hnc25 := NB106_109.out; obtain ⟨hcz26_0, hcz26_1, hcz26_2, hfz26_0, hfz26_1, hfz26_2⟩ := bcf3 BK109.out; obtain ⟨hcz27_0, hcz27_1, hcz27_2, hfz27_0, hfz27_1, hfz27_2⟩ := bcf3 BK106.out) | ((with_reducible refine gate_callee (f := 6) rfl ?_); refine goesL_ (some 58) rfl rfl Try.func6 (by kernel_rfl) rfl #[.string (⟨#[97, 110, 100]⟩ : ByteArray), .agg #[.int .i64 ((rd_T24 y101 t104).f0), .int .i64 ((rd_T24 y101 t104).f1), .string ((rd_T24 y101 t104).f2)], .agg #[.int .i64 ((rd_T24 y101 t107).f0), .int .i64 ((rd_T24 y101 t107).f1), .string ((rd_T24 y101 t107).f2)]] rfl z5_ ?_; (with_reducible refine (impl_BinaryValue.calls kj2 (⟨#[97, 110, 100]⟩ : ByteArray) ((rd_T24 y101 t104).f0) ((rd_T24 y101 t104).f1) ((rd_T24 y101 t104).f2) ((rd_T24 y101 t107).f0) ((rd_T24 y101 t107).f1) ((rd_T24 y101 t107).f2) t110 t111 t112 t113 _ A12.out).mono ?_); rintro e w28 ⟨rfl, hb⟩; refine ⟨_, rfl, ?_⟩; have n_ := a4_ (Kd.R_below (by (with_reducible repeat (first | apply Kd.R_alloc | apply Kd.R_drewN | apply Kd.R_drew)); exact (Kd.R_mono (Kd.R_far (p := ⟨gb109, 2, none⟩) (Kd.R_far (p := ⟨gb109, 1, none⟩) (Kd.R_far (p := ⟨gb109, 0, none⟩) (Kd.R_mono HO103.out (fun k_ hk => (⟨hk, hk.2⟩ : _ ∧ k_ ≠ gb109))) (fun _ hk => hk.2) (.int .i64 ((rd_T24 y101 t107).f0))) (fun _ hk => hk.2) (.int .i64 ((rd_T24 y101 t107).f1))) (fun _ hk => hk.2) (.string ((rd_T24 y101 t107).f2))) (fun _ h_ => h_.1))) hb) (blk_below (g := gb106) (o := .cells #[.int .i64 ((rd_T24 y101 t104).f0), .int .i64 ((rd_T24 y101 t104).f1), .string ((rd_T24 y101 t104).f2)] 24 (0, 0)) (by (with_reducible repeat (first | refine blk_drewN ?_ _ | refine blk_drew ?_ | refine blk_alloc ?_ _)); refine blk_far ?_ NB106_109.out _; (with_reducible repeat (first | refine blk_drewN ?_ _ | refine blk_drew ?_ | refine blk_alloc ?_ _)); refine blk_far ?_ NB106_109.out _; (with_reducible repeat (first | refine blk_drewN ?_ _ | refine blk_drew ?_ | refine blk_alloc ?_ _)); refine blk_far ?_ NB106_109.out _; (with_reducible repeat (first | refine blk_drewN ?_ _ | refine blk_drew ?_ | refine blk_alloc ?_ _)); exact BK106.out) hb) (blk_below (g := gb109) (o := .cells #[.int .i64 ((rd_T24 y101 t107).f0), .int .i64 ((rd_T24 y101 t107).f1), .string ((rd_T24 y101 t107).f2)] 24 (0, 0)) (by (with_reducible repeat (first | refine blk_drewN ?_ _ | refine blk_drew ?_ | refine blk_alloc ?_ _)); refine blk_put (cs := #[.int .i64 ((rd_T24 y101 t107).f0), .int .i64 ((rd_T24 y101 t107).f1), .string (⟨#[]⟩ : ByteArray)]) ?_ 2 _ rfl; (with_reducible repeat (first | refine blk_drewN ?_ _ | refine blk_drew ?_ | refine blk_alloc ?_ _)); refine blk_put (cs := #[.int .i64 ((rd_T24 y101 t107).f0), .int .i64 0, .string (⟨#[]⟩ : ByteArray)]) ?_ 1 _ rfl; (with_reducible repeat (first | refine blk_drewN ?_ _ | refine blk_drew ?_ | refine blk_alloc ?_ _)); refine blk_put (cs := #[.int .i64 0, .int .i64 0, .string (⟨#[]⟩ : ByteArray)]) ?_ 0 _ rfl; (with_reducible repeat (first | refine blk_drewN ?_ _ | refine blk_drew ?_ | refine blk_alloc ?_ _)); exact BK109.out) hb) (below_step z89_ hb); clear HO103 BK106 BK109 HB; obtain ⟨HO103, BK106, BK109, HB⟩ := n_; (try clear hb); (try clear hb2); (try clear hk); (try clear hi)) | ((with_reducible refine gate_dst (N := 8) rfl ?_); (try (refine gate_guard (by rfl) ?_; dsimp only)); refine bx_ 8 (cs := #[.int .i64 0, .int .i64 0, .string (⟨#[]⟩ : ByteArray)]) (t := 24) (h_ := ?_); intro gb114 hg w29 hbox hb; have n_ := a11_ (Kd.R_below (Kd.R_elderB z75_ gb114 (Nat.le_of_eq hg.symm)) hb) (blk_below (g := gb106) (o := .cells #[.int .i64 ((rd_T24 y101 t104).f0), .int .i64 ((rd_T24 y101 t104).f1), .string ((rd_T24 y101 t104).f2)] 24 (0, 0)) z12_ hb) (blk_below (g := gb109) (o := .cells #[.int .i64 ((rd_T24 y101 t107).f0), .int .i64 ((rd_T24 y101 t107).f1), .string ((rd_T24 y101 t107).f2)] 24 (0, 0)) z13_ hb) (below_step z89_ hb) (hbox) ((gs_ w hg (below_size z89_))) ((gs_ w hg (below_size z89_))) ((z33_ : gb106 ≠ gb114)) ((z34_ : gb114 ≠ gb106)) ((z35_ : gb109 ≠ gb114)) ((z36_ : gb114 ≠ gb109)); clear HO103 BK106 BK109 HB; obtain ⟨HO103, BK106, BK109, HB, BK114, GW114, GE114, NB106_114, NB114_106, NB109_114, NB114_109⟩ := n_; clear hb hbox hg; have hnb30 := NB114_106.out; have hnc30 := NB106_114.out; have hnb31 := NB114_109.out; have hnc31 := NB109_114.out; obtain ⟨hcz32_0, hcz32_1, hcz32_2, hfz32_0, hfz32_1, hfz32_2⟩ := bcf3 BK114.out; obtain ⟨hcz33_0, hcz33_1, hcz33_2, hfz33_0, hfz33_1, hfz33_2⟩ := bcf3 BK106.out; obtain ⟨hcz34_0, hcz34_1, hcz34_2, hfz34_0, hfz34_1, hfz34_2⟩ := bcf3 BK109.out) | ((with_reducible refine gate_callee (f := 7) rfl ?_); refine goesL_ (some 64) rfl rfl Try.func7 (by kernel_rfl) rfl #[.string (⟨#[97, 110, 100]⟩ : ByteArray), .agg #[.int .i64 ((rd_T24 y101 t104).f0), .int .i64 ((rd_T24 y101 t104).f1), .string ((rd_T24 y101 t104).f2)], .agg #[.int .i64 ((rd_T24 y101 t107).f0), .int .i64 ((rd_T24 y101 t107).f1), .string ((rd_T24 y101 t107).f2)]] rfl z5_ ?_; (with_reducible refine (spec_BinaryValue.calls kj2 (⟨#[97, 110, 100]⟩ : ByteArray) ((rd_T24 y101 t104).f0) ((rd_T24 y101 t104).f1) ((rd_T24 y101 t104).f2) ((rd_T24 y101 t107).f0) ((rd_T24 y101 t107).f1) ((rd_T24 y101 t107).f2) t115 t116 t117 t118 _ A13.out).mono ?_); rintro e w35 ⟨rfl, hb⟩; refine ⟨_, rfl, ?_⟩; have n_ := a5_ (Kd.R_below (by (with_reducible repeat (first | apply Kd.R_alloc | apply Kd.R_drewN | apply Kd.R_drew)); exact (Kd.R_mono (Kd.R_far (p := ⟨gb114, 2, none⟩) (Kd.R_far (p := ⟨gb114, 1, none⟩) (Kd.R_far (p := ⟨gb114, 0, none⟩) (Kd.R_mono HO103.out (fun k_ hk => (⟨hk, hk.2⟩ : _ ∧ k_ ≠ gb114))) (fun _ hk => hk.2) (.int .i64 t110)) (fun _ hk => hk.2) (.int .i64 t111)) (fun _ hk => hk.2) (.string t112)) (fun _ h_ => h_.1))) hb) (blk_below (g := gb106) (o := .cells #[.int .i64 ((rd_T24 y101 t104).f0), .int .i64 ((rd_T24 y101 t104).f1), .string ((rd_T24 y101 t104).f2)] 24 (0, 0)) (by (with_reducible repeat (first | refine blk_drewN ?_ _ | refine blk_drew ?_ | refine blk_alloc ?_ _)); refine blk_far ?_ NB106_114.out _; (with_reducible repeat (first | refine blk_drewN ?_ _ | refine blk_drew ?_ | refine blk_alloc ?_ _)); refine blk_far ?_ NB106_114.out _; (with_reducible repeat (first | refine blk_drewN ?_ _ | refine blk_drew ?_ | refine blk_alloc ?_ _)); refine blk_far ?_ NB106_114.out _; (with_reducible repeat (first | refine blk_drewN ?_ _ | refine blk_drew ?_ | refine blk_alloc ?_ _)); exact BK106.out) hb) (blk_below (g := gb109) (o := .cells #[.int .i64 ((rd_T24 y101 t107).f0), .int .i64 ((rd_T24 y101 t107).f1), .string ((rd_T24 y101 t107).f2)] 24 (0, 0)) (by (with_reducible repeat (first | refine blk_drewN ?_ _ | refine blk_drew ?_ | refine blk_alloc ?_ _)); refine blk_far ?_ NB109_114.out _; (with_reducible repeat (first | refine blk_drewN ?_ _ | refine blk_drew ?_ | refine blk_alloc ?_ _)); refine blk_far ?_ NB109_114.out _; (with_reducible repeat (first | refine blk_drewN ?_ _ | refine blk_drew ?_ | refine blk_alloc ?_ _)); refine blk_far ?_ NB109_114.out _; (with_reducible repeat (first | refine blk_drewN ?_ _ | refine blk_drew ?_ | refine blk_alloc ?_ _)); exact BK109.out) hb) (blk_below (g := gb114) (o := .cells #[.int .i64 t110, .int .i64 t111, .string t112] 24 (0, 0)) (by (with_reducible repeat (first | refine blk_drewN ?_ _ | refine blk_drew ?_ | refine blk_alloc ?_ _)); refine blk_put (cs := #[.int .i64 t110, .int .i64 t111, .string (⟨#[]⟩ : ByteArray)]) ?_ 2 _ rfl; (with_reducible repeat (first | refine blk_drewN ?_ _ | refine blk_drew ?_ | refine blk_alloc ?_ _)); refine blk_put (cs := #[.int .i64 t110, .int .i64 0, .string (⟨#[]⟩ : ByteArray)]) ?_ 1 _ rfl; (with_reducible repeat (first | refine blk_drewN ?_ _ | refine blk_drew ?_ | refine blk_alloc ?_ _)); refine blk_put (cs := #[.int .i64 0, .int .i64 0, .string (⟨#[]⟩ : ByteArray)]) ?_ 0 _ rfl; (with_reducible repeat (first | refine blk_drewN ?_ _ | refine blk_drew ?_ | refine blk_alloc ?_ _)); exact BK114.out) hb) (below_step z86_ hb); clear HO103 BK106 BK109 BK114 HB; obtain ⟨HO103, BK106, BK109, BK114, HB⟩ := n_; (try clear hb); (try clear hb2); (try clear hk); (try clear hi)) | ((with_reducible refine gate_dst (N := 10) rfl ?_); (try (refine gate_guard (by rfl) ?_; dsimp only)); refine bx_ 10 (cs := #[.int .i64 0, .int .i64 0, .string (⟨#[]⟩ : ByteArray)]) (t := 24) (h_ := ?_); intro gb119 hg w36 hbox hb; have n_ := a14_ (Kd.R_below (Kd.R_elderB z75_ gb119 (Nat.le_of_eq hg.symm)) hb) (blk_below (g := gb106) (o := .cells #[.int .i64 ((rd_T24 y101 t104).f0), .int .i64 ((rd_T24 y101 t104).f1), .string ((rd_T24 y101 t104).f2)] 24 (0, 0)) z12_ hb) (blk_below (g := gb109) (o := .cells #[.int .i64 ((rd_T24 y101 t107).f0), .int .i64 ((rd_T24 y101 t107).f1), .string ((rd_T24 y101 t107).f2)] 24 (0, 0)) z13_ hb) (blk_below (g := gb114) (o := .cells #[.int .i64 t110, .int .i64 t111, .string t112] 24 (0, 0)) z14_ hb) (below_step z86_ hb) (hbox) ((gs_ w hg (below_size z86_))) ((gs_ w hg (below_size z86_))) ((z33_ : gb106 ≠ gb119)) ((z34_ : gb119 ≠ gb106)) ((z35_ : gb109 ≠ gb119)) ((z36_ : gb119 ≠ gb109)) ((z49_ : gb114 ≠ gb119)) ((z50_ : gb119 ≠ gb114)); clear HO103 BK106 BK109 BK114 HB; obtain ⟨HO103, BK106, BK109, BK114, HB, BK119, GW119, GE119, NB106_119, NB119_106, NB109_119, NB119_109, NB114_119, NB119_114⟩ := n_; clear hb hbox hg; have hnb37 := NB119_106.out; have hnc37 := NB106_119.out; have hnb38 := NB119_109.out; have hnc38 := NB109_119.out; have hnb39 := NB119_114.out; have hnc39 := NB114_119.out; obtain ⟨hcz40_0, hcz40_1, hcz40_2, hfz40_0, hfz40_1, hfz40_2⟩ := bcf3 BK119.out; obtain ⟨hcz41_0, hcz41_1, hcz41_2, hfz41_0, hfz41_1, hfz41_2⟩ := bcf3 BK114.out) | ((with_reducible refine gate_callee (f := 8) rfl ?_); refine goesL_ (some 69) rfl rfl Try.func8 (by kernel_rfl) rfl #[.string (⟨#[110, 111, 116]⟩ : ByteArray), .agg #[.int .i64 t110, .int .i64 t111, .string t112]] rfl z5_ ?_; (with_reducible refine (impl_UnaryValue.calls kj2 (⟨#[110, 111, 116]⟩ : ByteArray) t110 t111 t112 t120 t121 t122 t123 _ A14.out).mono ?_); rintro e w42 ⟨rfl, hb⟩; refine ⟨_, rfl, ?_⟩; have n_ := a6_ (Kd.R_below (by (with_reducible repeat (first | apply Kd.R_alloc | apply Kd.R_drewN | apply Kd.R_drew)); exact (Kd.R_mono (Kd.R_far (p := ⟨gb119, 2, none⟩) (Kd.R_far (p := ⟨gb119, 1, none⟩) (Kd.R_far (p := ⟨gb119, 0, none⟩) (Kd.R_mono HO103.out (fun k_ hk => (⟨hk, hk.2⟩ : _ ∧ k_ ≠ gb119))) (fun _ hk => hk.2) (.int .i64 t115)) (fun _ hk => hk.2) (.int .i64 t116)) (fun _ hk => hk.2) (.string t117)) (fun _ h_ => h_.1))) hb) (blk_below (g := gb106) (o := .cells #[.int .i64 ((rd_T24 y101 t104).f0), .int .i64 ((rd_T24 y101 t104).f1), .string ((rd_T24 y101 t104).f2)] 24 (0, 0)) (by (with_reducible repeat (first | refine blk_drewN ?_ _ | refine blk_drew ?_ | refine blk_alloc ?_ _)); refine blk_far ?_ NB106_119.out _; (with_reducible repeat (first | refine blk_drewN ?_ _ | refine blk_drew ?_ | refine blk_alloc ?_ _)); refine blk_far ?_ NB106_119.out _; (with_reducible repeat (first | refine blk_drewN ?_ _ | refine blk_drew ?_ | refine blk_alloc ?_ _)); refine blk_far ?_ NB106_119.out _; (with_reducible repeat (first | refine blk_drewN ?_ _ | refine blk_drew ?_ | refine blk_alloc ?_ _)); exact BK106.out) hb) (blk_below (g := gb109) (o := .cells #[.int .i64 ((rd_T24 y101 t107).f0), .int .i64 ((rd_T24 y101 t107).f1), .string ((rd_T24 y101 t107).f2)] 24 (0, 0)) (by (with_reducible repeat (first | refine blk_drewN ?_ _ | refine blk_drew ?_ | refine blk_alloc ?_ _)); refine blk_far ?_ NB109_119.out _; (with_reducible repeat (first | refine blk_drewN ?_ _ | refine blk_drew ?_ | refine blk_alloc ?_ _)); refine blk_far ?_ NB109_119.out _; (with_reducible repeat (first | refine blk_drewN ?_ _ | refine blk_drew ?_ | refine blk_alloc ?_ _)); refine blk_far ?_ NB109_119.out _; (with_reducible repeat (first | refine blk_drewN ?_ _ | refine blk_drew ?_ | refine blk_alloc ?_ _)); exact BK109.out) hb) (blk_below (g := gb114) (o := .cells #[.int .i64 t110, .int .i64 t111, .string t112] 24 (0, 0)) (by (with_reducible repeat (first | refine blk_drewN ?_ _ | refine blk_drew ?_ | refine blk_alloc ?_ _)); refine blk_far ?_ NB114_119.out _; (with_reducible repeat (first | refine blk_drewN ?_ _ | refine blk_drew ?_ | refine blk_alloc ?_ _)); refine blk_far ?_ NB114_119.out _; (with_reducible repeat (first | refine blk_drewN ?_ _ | refine blk_drew ?_ | refine blk_alloc ?_ _)); refine blk_far ?_ NB114_119.out _; (with_reducible repeat (first | refine blk_drewN ?_ _ | refine blk_drew ?_ | refine blk_alloc ?_ _)); exact BK114.out) hb) (blk_below (g := gb119) (o := .cells #[.int .i64 t115, .int .i64 t116, .string t117] 24 (0, 0)) (by (with_reducible repeat (first | refine blk_drewN ?_ _ | refine blk_drew ?_ | refine blk_alloc ?_ _)); refine blk_put (cs := #[.int .i64 t115, .int .i64 t116, .string (⟨#[]⟩ : ByteArray)]) ?_ 2 _ rfl; (with_reducible repeat (first | refine blk_drewN ?_ _ | refine blk_drew ?_ | refine blk_alloc ?_ _)); refine blk_put (cs := #[.int .i64 t115, .int .i64 0, .string (⟨#[]⟩ : ByteArray)]) ?_ 1 _ rfl; (with_reducible repeat (first | refine blk_drewN ?_ _ | refine blk_drew ?_ | refine blk_alloc ?_ _)); refine blk_put (cs := #[.int .i64 0, .int .i64 0, .string (⟨#[]⟩ : ByteArray)]) ?_ 0 _ rfl; (with_reducible repeat (first | refine blk_drewN ?_ _ | refine blk_drew ?_ | refine blk_alloc ?_ _)); exact BK119.out) hb) (below_step z81_ hb); clear HO103 BK106 BK109 BK114 BK119 HB; obtain ⟨HO103, BK106, BK109, BK114, BK119, HB⟩ := n_; (try clear hb); (try clear hb2); (try clear hk); (try clear hi)) | ((with_reducible refine gate_dst (N := 12) rfl ?_); (try (refine gate_guard (by rfl) ?_; dsimp only)); refine bx_ 12 (cs := #[.int .i64 0, .int .i64 0, .string (⟨#[]⟩ : ByteArray)]) (t := 24) (h_ := ?_); intro gb124 hg w43 hbox hb; have n0_ := ak_ (Kd.R_below (Kd.R_elderB z75_ gb124 (Nat.le_of_eq hg.symm)) hb); have n1_ := ak_ (blk_below (g := gb106) (o := .cells #[.int .i64 ((rd_T24 y101 t104).f0), .int .i64 ((rd_T24 y101 t104).f1), .string ((rd_T24 y101 t104).f2)] 24 (0, 0)) z12_ hb); have n2_ := ak_ (blk_below (g := gb109) (o := .cells #[.int .i64 ((rd_T24 y101 t107).f0), .int .i64 ((rd_T24 y101 t107).f1), .string ((rd_T24 y101 t107).f2)] 24 (0, 0)) z13_ hb); have n3_ := ak_ (blk_below (g := gb114) (o := .cells #[.int .i64 t110, .int .i64 t111, .string t112] 24 (0, 0)) z14_ hb); have n4_ := ak_ (blk_below (g := gb119) (o := .cells #[.int .i64 t115, .int .i64 t116, .string t117] 24 (0, 0)) z15_ hb); have n5_ := ak_ (below_step z81_ hb); have n6_ := ak_ (hbox); have n7_ := ak_ ((gs_ w hg (below_size z81_))); have n8_ := ak_ ((gs_ w hg (below_size z81_))); have n9_ := ak_ ((z33_ : gb106 ≠ gb124)); have n10_ := ak_ ((z34_ : gb124 ≠ gb106)); have n11_ := ak_ ((z35_ : gb109 ≠ gb124)); have n12_ := ak_ ((z36_ : gb124 ≠ gb109)); have n13_ := ak_ ((z49_ : gb114 ≠ gb124)); have n14_ := ak_ ((z50_ : gb124 ≠ gb114)); have n15_ := ak_ ((z52_ : gb119 ≠ gb124)); have n16_ := ak_ ((z53_ : gb124 ≠ gb119)); clear HO103; clear BK106; clear BK109; clear BK114; clear BK119; clear HB; have HO103 := n0_; have BK106 := n1_; have BK109 := n2_; have BK114 := n3_; have BK119 := n4_; have HB := n5_; have BK124 := n6_; have GW124 := n7_; have GE124 := n8_; have NB106_124 := n9_; have NB124_106 := n10_; have NB109_124 := n11_; have NB124_109 := n12_; have NB114_124 := n13_; have NB124_114 := n14_; have NB119_124 := n15_; have NB124_119 := n16_; clear n0_ n1_ n2_ n3_ n4_ n5_ n6_ n7_ n8_ n9_ n10_ n11_ n12_ n13_ n14_ n15_ n16_; clear hb hbox hg; have hnb44 := NB124_106.out; have hnc44 := NB106_124.out; have hnb45 := NB124_109.out; have hnc45 := NB109_124.out; have hnb46 := NB124_114.out; have hnc46 := NB114_124.out; have hnb47 := NB124_119.out; have hnc47 := NB119_124.out; obtain ⟨hcz48_0, hcz48_1, hcz48_2, hfz48_0, hfz48_1, hfz48_2⟩ := bcf3 BK124.out; obtain ⟨hcz49_0, hcz49_1, hcz49_2, hfz49_0, hfz49_1, hfz49_2⟩ := bcf3 BK106.out) | ((with_reducible refine gate_callee (f := 8) rfl ?_); refine goesL_ (some 74) rfl rfl Try.func8 (by kernel_rfl) rfl #[.string (⟨#[110, 111, 116]⟩ : ByteArray), .agg #[.int .i64 ((rd_T24 y101 t104).f0), .int .i64 ((rd_T24 y101 t104).f1), .string ((rd_T24 y101 t104).f2)]] rfl z5_ ?_; (with_reducible refine (impl_UnaryValue.calls kj2 (⟨#[110, 111, 116]⟩ : ByteArray) ((rd_T24 y101 t104).f0) ((rd_T24 y101 t104).f1) ((rd_T24 y101 t104).f2) t125 t126 t127 t128 _ A15.out).mono ?_); rintro e w50 ⟨rfl, hb⟩; refine ⟨_, rfl, ?_⟩; have n_ := a7_ (Kd.R_below (by (with_reducible repeat (first | apply Kd.R_alloc | apply Kd.R_drewN | apply Kd.R_drew)); exact (Kd.R_mono (Kd.R_far (p := ⟨gb124, 2, none⟩) (Kd.R_far (p := ⟨gb124, 1, none⟩) (Kd.R_far (p := ⟨gb124, 0, none⟩) (Kd.R_mono HO103.out (fun k_ hk => (⟨hk, hk.2⟩ : _ ∧ k_ ≠ gb124))) (fun _ hk => hk.2) (.int .i64 t120)) (fun _ hk => hk.2) (.int .i64 t121)) (fun _ hk => hk.2) (.string t122)) (fun _ h_ => h_.1))) hb) (blk_below (g := gb106) (o := .cells #[.int .i64 ((rd_T24 y101 t104).f0), .int .i64 ((rd_T24 y101 t104).f1), .string ((rd_T24 y101 t104).f2)] 24 (0, 0)) (by (with_reducible repeat (first | refine blk_drewN ?_ _ | refine blk_drew ?_ | refine blk_alloc ?_ _)); refine blk_far ?_ NB106_124.out _; (with_reducible repeat (first | refine blk_drewN ?_ _ | refine blk_drew ?_ | refine blk_alloc ?_ _)); refine blk_far ?_ NB106_124.out _; (with_reducible repeat (first | refine blk_drewN ?_ _ | refine blk_drew ?_ | refine blk_alloc ?_ _)); refine blk_far ?_ NB106_124.out _; (with_reducible repeat (first | refine blk_drewN ?_ _ | refine blk_drew ?_ | refine blk_alloc ?_ _)); exact BK106.out) hb) (blk_below (g := gb109) (o := .cells #[.int .i64 ((rd_T24 y101 t107).f0), .int .i64 ((rd_T24 y101 t107).f1), .string ((rd_T24 y101 t107).f2)] 24 (0, 0)) (by (with_reducible repeat (first | refine blk_drewN ?_ _ | refine blk_drew ?_ | refine blk_alloc ?_ _)); refine blk_far ?_ NB109_124.out _; (with_reducible repeat (first | refine blk_drewN ?_ _ | refine blk_drew ?_ | refine blk_alloc ?_ _)); refine blk_far ?_ NB109_124.out _; (with_reducible repeat (first | refine blk_drewN ?_ _ | refine blk_drew ?_ | refine blk_alloc ?_ _)); refine blk_far ?_ NB109_124.out _; (with_reducible repeat (first | refine blk_drewN ?_ _ | refine blk_drew ?_ | refine blk_alloc ?_ _)); exact BK109.out) hb) (blk_below (g := gb114) (o := .cells #[.int .i64 t110, .int .i64 t111, .string t112] 24 (0, 0)) (by (with_reducible repeat (first | refine blk_drewN ?_ _ | refine blk_drew ?_ | refine blk_alloc ?_ _)); refine blk_far ?_ NB114_124.out _; (with_reducible repeat (first | refine blk_drewN ?_ _ | refine blk_drew ?_ | refine blk_alloc ?_ _)); refine blk_far ?_ NB114_124.out _; (with_reducible repeat (first | refine blk_drewN ?_ _ | refine blk_drew ?_ | refine blk_alloc ?_ _)); refine blk_far ?_ NB114_124.out _; (with_reducible repeat (first | refine blk_drewN ?_ _ | refine blk_drew ?_ | refine blk_alloc ?_ _)); exact BK114.out) hb) (blk_below (g := gb119) (o := .cells #[.int .i64 t115, .int .i64 t116, .string t117] 24 (0, 0)) (by (with_reducible repeat (first | refine blk_drewN ?_ _ | refine blk_drew ?_ | refine blk_alloc ?_ _)); refine blk_far ?_ NB119_124.out _; (with_reducible repeat (first | refine blk_drewN ?_ _ | refine blk_drew ?_ | refine blk_alloc ?_ _)); refine blk_far ?_ NB119_124.out _; (with_reducible repeat (first | refine blk_drewN ?_ _ | refine blk_drew ?_ | refine blk_alloc ?_ _)); refine blk_far ?_ NB119_124.out _; (with_reducible repeat (first | refine blk_drewN ?_ _ | refine blk_drew ?_ | refine blk_alloc ?_ _)); exact BK119.out) hb) (blk_below (g := gb124) (o := .cells #[.int .i64 t120, .int .i64 t121, .string t122] 24 (0, 0)) (by (with_reducible repeat (first | refine blk_drewN ?_ _ | refine blk_drew ?_ | refine blk_alloc ?_ _)); refine blk_put (cs := #[.int .i64 t120, .int .i64 t121, .string (⟨#[]⟩ : ByteArray)]) ?_ 2 _ rfl; (with_reducible repeat (first | refine blk_drewN ?_ _ | refine blk_drew ?_ | refine blk_alloc ?_ _)); refine blk_put (cs := #[.int .i64 t120, .int .i64 0, .string (⟨#[]⟩ : ByteArray)]) ?_ 1 _ rfl; (with_reducible repeat (first | refine blk_drewN ?_ _ | refine blk_drew ?_ | refine blk_alloc ?_ _)); refine blk_put (cs := #[.int .i64 0, .int .i64 0, .string (⟨#[]⟩ : ByteArray)]) ?_ 0 _ rfl; (with_reducible repeat (first | refine blk_drewN ?_ _ | refine blk_drew ?_ | refine blk_alloc ?_ _)); exact BK124.out) hb) (below_step z78_ hb); clear HO103 BK106 BK109 BK114 BK119 BK124 HB; obtain ⟨HO103, BK106, BK109, BK114, BK119, BK124, HB⟩ := n_; (try clear hb); (try clear hb2); (try clear hk); (try clear hi)) | ((with_reducible refine gate_dst (N := 14) rfl ?_); (try (refine gate_guard (by rfl) ?_; dsimp only)); refine bx_ 14 (cs := #[.int .i64 0, .int .i64 0, .string (⟨#[]⟩ : ByteArray)]) (t := 24) (h_ := ?_); intro gb129 hg w51 hbox hb; have n0_ := ak_ (Kd.R_below (Kd.R_elderB z75_ gb129 (Nat.le_of_eq hg.symm)) hb); have n1_ := ak_ (blk_below (g := gb106) (o := .cells #[.int .i64 ((rd_T24 y101 t104).f0), .int .i64 ((rd_T24 y101 t104).f1), .string ((rd_T24 y101 t104).f2)] 24 (0, 0)) z12_ hb); have n2_ := ak_ (blk_below (g := gb109) (o := .cells #[.int .i64 ((rd_T24 y101 t107).f0), .int .i64 ((rd_T24 y101 t107).f1), .string ((rd_T24 y101 t107).f2)] 24 (0, 0)) z13_ hb); have n3_ := ak_ (blk_below (g := gb114) (o := .cells #[.int .i64 t110, .int .i64 t111, .string t112] 24 (0, 0)) z14_ hb); have n4_ := ak_ (blk_below (g := gb119) (o := .cells #[.int .i64 t115, .int .i64 t116, .string t117] 24 (0, 0)) z15_ hb); have n5_ := ak_ (blk_below (g := gb124) (o := .cells #[.int .i64 t120, .int .i64 t121, .string t122] 24 (0, 0)) z17_ hb); have n6_ := ak_ (below_step z78_ hb); have n7_ := ak_ (hbox); have n8_ := ak_ ((gs_ w hg (below_size z78_))); have n9_ := ak_ ((gs_ w hg (below_size z78_))); have n10_ := ak_ ((z33_ : gb106 ≠ gb129)); have n11_ := ak_ ((z34_ : gb129 ≠ gb106)); have n12_ := ak_ ((z35_ : gb109 ≠ gb129)); have n13_ := ak_ ((z36_ : gb129 ≠ gb109)); have n14_ := ak_ ((z49_ : gb114 ≠ gb129)); have n15_ := ak_ ((z50_ : gb129 ≠ gb114)); have n16_ := ak_ ((z52_ : gb119 ≠ gb129)); have n17_ := ak_ ((z53_ : gb129 ≠ gb119)); have n18_ := ak_ ((z57_ : gb124 ≠ gb129)); have n19_ := ak_ ((z58_ : gb129 ≠ gb124)); clear HO103; clear BK106; clear BK109; clear BK114; clear BK119; clear BK124; clear HB; have HO103 := n0_; have BK106 := n1_; have BK109 := n2_; have BK114 := n3_; have BK119 := n4_; have BK124 := n5_; have HB := n6_; have BK129 := n7_; have GW129 := n8_; have GE129 := n9_; have NB106_129 := n10_; have NB129_106 := n11_; have NB109_129 := n12_; have NB129_109 := n13_; have NB114_129 := n14_; have NB129_114 := n15_; have NB119_129 := n16_; have NB129_119 := n17_; have NB124_129 := n18_; have NB129_124 := n19_; clear n0_ n1_ n2_ n3_ n4_ n5_ n6_ n7_ n8_ n9_ n10_ n11_ n12_ n13_ n14_ n15_ n16_ n17_ n18_ n19_; clear hb hbox hg; have hnb52 := NB129_106.out; have hnc52 := NB106_129.out; have hnb53 := NB129_109.out; have hnc53 := NB109_129.out; have hnb54 := NB129_114.out; have hnc54 := NB114_129.out; have hnb55 := NB129_119.out; have hnc55 := NB119_129.out; have hnb56 := NB129_124.out; have hnc56 := NB124_129.out; obtain ⟨hcz57_0, hcz57_1, hcz57_2, hfz57_0, hfz57_1, hfz57_2⟩ := bcf3 BK129.out; obtain ⟨hcz58_0, hcz58_1, hcz58_2, hfz58_0, hfz58_1, hfz58_2⟩ := bcf3 BK109.out) | ((with_reducible refine gate_callee (f := 8) rfl ?_); refine goesL_ (some 79) rfl rfl Try.func8 (by kernel_rfl) rfl #[.string (⟨#[110, 111, 116]⟩ : ByteArray), .agg #[.int .i64 ((rd_T24 y101 t107).f0), .int .i64 ((rd_T24 y101 t107).f1), .string ((rd_T24 y101 t107).f2)]] rfl z5_ ?_; (with_reducible refine (impl_UnaryValue.calls kj2 (⟨#[110, 111, 116]⟩ : ByteArray) ((rd_T24 y101 t107).f0) ((rd_T24 y101 t107).f1) ((rd_T24 y101 t107).f2) t130 t131 t132 t133 _ A16.out).mono ?_); rintro e w59 ⟨rfl, hb⟩; refine ⟨_, rfl, ?_⟩; have n_ := a8_ (Kd.R_below (by (with_reducible repeat (first | apply Kd.R_alloc | apply Kd.R_drewN | apply Kd.R_drew)); exact (Kd.R_mono (Kd.R_far (p := ⟨gb129, 2, none⟩) (Kd.R_far (p := ⟨gb129, 1, none⟩) (Kd.R_far (p := ⟨gb129, 0, none⟩) (Kd.R_mono HO103.out (fun k_ hk => (⟨hk, hk.2⟩ : _ ∧ k_ ≠ gb129))) (fun _ hk => hk.2) (.int .i64 t125)) (fun _ hk => hk.2) (.int .i64 t126)) (fun _ hk => hk.2) (.string t127)) (fun _ h_ => h_.1))) hb) (blk_below (g := gb106) (o := .cells #[.int .i64 ((rd_T24 y101 t104).f0), .int .i64 ((rd_T24 y101 t104).f1), .string ((rd_T24 y101 t104).f2)] 24 (0, 0)) (by (with_reducible repeat (first | refine blk_drewN ?_ _ | refine blk_drew ?_ | refine blk_alloc ?_ _)); refine blk_far ?_ NB106_129.out _; (with_reducible repeat (first | refine blk_drewN ?_ _ | refine blk_drew ?_ | refine blk_alloc ?_ _)); refine blk_far ?_ NB106_129.out _; (with_reducible repeat (first | refine blk_drewN ?_ _ | refine blk_drew ?_ | refine blk_alloc ?_ _)); refine blk_far ?_ NB106_129.out _; (with_reducible repeat (first | refine blk_drewN ?_ _ | refine blk_drew ?_ | refine blk_alloc ?_ _)); exact BK106.out) hb) (blk_below (g := gb109) (o := .cells #[.int .i64 ((rd_T24 y101 t107).f0), .int .i64 ((rd_T24 y101 t107).f1), .string ((rd_T24 y101 t107).f2)] 24 (0, 0)) (by (with_reducible repeat (first | refine blk_drewN ?_ _ | refine blk_drew ?_ | refine blk_alloc ?_ _)); refine blk_far ?_ NB109_129.out _; (with_reducible repeat (first | refine blk_drewN ?_ _ | refine blk_drew ?_ | refine blk_alloc ?_ _)); refine blk_far ?_ NB109_129.out _; (with_reducible repeat (first | refine blk_drewN ?_ _ | refine blk_drew ?_ | refine blk_alloc ?_ _)); refine blk_far ?_ NB109_129.out _; (with_reducible repeat (first | refine blk_drewN ?_ _ | refine blk_drew ?_ | refine blk_alloc ?_ _)); exact BK109.out) hb) (blk_below (g := gb114) (o := .cells #[.int .i64 t110, .int .i64 t111, .string t112] 24 (0, 0)) (by (with_reducible repeat (first | refine blk_drewN ?_ _ | refine blk_drew ?_ | refine blk_alloc ?_ _)); refine blk_far ?_ NB114_129.out _; (with_reducible repeat (first | refine blk_drewN ?_ _ | refine blk_drew ?_ | refine blk_alloc ?_ _)); refine blk_far ?_ NB114_129.out _; (with_reducible repeat (first | refine blk_drewN ?_ _ | refine blk_drew ?_ | refine blk_alloc ?_ _)); refine blk_far ?_ NB114_129.out _; (with_reducible repeat (first | refine blk_drewN ?_ _ | refine blk_drew ?_ | refine blk_alloc ?_ _)); exact BK114.out) hb) (blk_below (g := gb119) (o := .cells #[.int .i64 t115, .int .i64 t116, .string t117] 24 (0, 0)) (by (with_reducible repeat (first | refine blk_drewN ?_ _ | refine blk_drew ?_ | refine blk_alloc ?_ _)); refine blk_far ?_ NB119_129.out _; (with_reducible repeat (first | refine blk_drewN ?_ _ | refine blk_drew ?_ | refine blk_alloc ?_ _)); refine blk_far ?_ NB119_129.out _; (with_reducible repeat (first | refine blk_drewN ?_ _ | refine blk_drew ?_ | refine blk_alloc ?_ _)); refine blk_far ?_ NB119_129.out _; (with_reducible repeat (first | refine blk_drewN ?_ _ | refine blk_drew ?_ | refine blk_alloc ?_ _)); exact BK119.out) hb) (blk_below (g := gb124) (o := .cells #[.int .i64 t120, .int .i64 t121, .string t122] 24 (0, 0)) (by (with_reducible repeat (first | refine blk_drewN ?_ _ | refine blk_drew ?_ | refine blk_alloc ?_ _)); refine blk_far ?_ NB124_129.out _; (with_reducible repeat (first | refine blk_drewN ?_ _ | refine blk_drew ?_ | refine blk_alloc ?_ _)); refine blk_far ?_ NB124_129.out _; (with_reducible repeat (first | refine blk_drewN ?_ _ | refine blk_drew ?_ | refine blk_alloc ?_ _)); refine blk_far ?_ NB124_129.out _; (with_reducible repeat (first | refine blk_drewN ?_ _ | refine blk_drew ?_ | refine blk_alloc ?_ _)); exact BK124.out) hb) (blk_below (g := gb129) (o := .cells #[.int .i64 t125, .int .i64 t126, .string t127] 24 (0, 0)) (by (with_reducible repeat (first | refine blk_drewN ?_ _ | refine blk_drew ?_ | refine blk_alloc ?_ _)); refine blk_put (cs := #[.int .i64 t125, .int .i64 t126, .string (⟨#[]⟩ : ByteArray)]) ?_ 2 _ rfl; (with_reducible repeat (first | refine blk_drewN ?_ _ | refine blk_drew ?_ | refine blk_alloc ?_ _)); refine blk_put (cs := #[.int .i64 t125, .int .i64 0, .string (⟨#[]⟩ : ByteArray)]) ?_ 1 _ rfl; (with_reducible repeat (first | refine blk_drewN ?_ _ | refine blk_drew ?_ | refine blk_alloc ?_ _)); refine blk_put (cs := #[.int .i64 0, .int .i64 0, .string (⟨#[]⟩ : ByteArray)]) ?_ 0 _ rfl; (with_reducible repeat (first | refine blk_drewN ?_ _ | refine blk_drew ?_ | refine blk_alloc ?_ _)); exact BK129.out) hb) (below_step z76_ hb); clear HO103 BK106 BK109 BK114 BK119 BK124 BK129 HB; obtain ⟨HO103, BK106, BK109, BK114, BK119, BK124, BK129, HB⟩ := n_; (try clear hb); (try clear hb2); (try clear hk); (try clear hi)) | ((with_reducible refine gate_dst (N := 16) rfl ?_); (try (refine gate_guard (by rfl) ?_; dsimp only)); refine bx_ 16 (cs := #[.int .i64 0, .int .i64 0, .string (⟨#[]⟩ : ByteArray)]) (t := 24) (h_ := ?_); intro gb134 hg w60 hbox hb; have n0_ := ak_ (Kd.R_below (Kd.R_elderB z75_ gb134 (Nat.le_of_eq hg.symm)) hb); have n1_ := ak_ (blk_below (g := gb106) (o := .cells #[.int .i64 ((rd_T24 y101 t104).f0), .int .i64 ((rd_T24 y101 t104).f1), .string ((rd_T24 y101 t104).f2)] 24 (0, 0)) z12_ hb); have n2_ := ak_ (blk_below (g := gb109) (o := .cells #[.int .i64 ((rd_T24 y101 t107).f0), .int .i64 ((rd_T24 y101 t107).f1), .string ((rd_T24 y101 t107).f2)] 24 (0, 0)) z13_ hb); have n3_ := ak_ (blk_below (g := gb114) (o := .cells #[.int .i64 t110, .int .i64 t111, .string t112] 24 (0, 0)) z14_ hb); have n4_ := ak_ (blk_below (g := gb119) (o := .cells #[.int .i64 t115, .int .i64 t116, .string t117] 24 (0, 0)) z15_ hb); have n5_ := ak_ (blk_below (g := gb124) (o := .cells #[.int .i64 t120, .int .i64 t121, .string t122] 24 (0, 0)) z17_ hb); have n6_ := ak_ (blk_below (g := gb129) (o := .cells #[.int .i64 t125, .int .i64 t126, .string t127] 24 (0, 0)) z20_ hb); have n7_ := ak_ (below_step z76_ hb); have n8_ := ak_ (hbox); have n9_ := ak_ ((gs_ w hg (below_size z76_))); have n10_ := ak_ ((gs_ w hg (below_size z76_))); have n11_ := ak_ ((z33_ : gb106 ≠ gb134)); have n12_ := ak_ ((z34_ : gb134 ≠ gb106)); have n13_ := ak_ ((z35_ : gb109 ≠ gb134)); have n14_ := ak_ ((z36_ : gb134 ≠ gb109)); have n15_ := ak_ ((z49_ : gb114 ≠ gb134)); have n16_ := ak_ ((z50_ : gb134 ≠ gb114)); have n17_ := ak_ ((z52_ : gb119 ≠ gb134)); have n18_ := ak_ ((z53_ : gb134 ≠ gb119)); have n19_ := ak_ ((z57_ : gb124 ≠ gb134)); have n20_ := ak_ ((z58_ : gb134 ≠ gb124)); have n21_ := ak_ ((z62_ : gb129 ≠ gb134)); have n22_ := ak_ ((z63_ : gb134 ≠ gb129)); clear HO103; clear BK106; clear BK109; clear BK114; clear BK119; clear BK124; clear BK129; clear HB; have HO103 := n0_; have BK106 := n1_; have BK109 := n2_; have BK114 := n3_; have BK119 := n4_; have BK124 := n5_; have BK129 := n6_; have HB := n7_; have BK134 := n8_; have GW134 := n9_; have GE134 := n10_; have NB106_134 := n11_; have NB134_106 := n12_; have NB109_134 := n13_; have NB134_109 := n14_; have NB114_134 := n15_; have NB134_114 := n16_; have NB119_134 := n17_; have NB134_119 := n18_; have NB124_134 := n19_; have NB134_124 := n20_; have NB129_134 := n21_; have NB134_129 := n22_; clear n0_ n1_ n2_ n3_ n4_ n5_ n6_ n7_ n8_ n9_ n10_ n11_ n12_ n13_ n14_ n15_ n16_ n17_ n18_ n19_ n20_ n21_ n22_; clear hb hbox hg; have hnb61 := NB134_106.out; have hnc61 := NB106_134.out; have hnb62 := NB134_109.out; have hnc62 := NB109_134.out; have hnb63 := NB134_114.out; have hnc63 := NB114_134.out; have hnb64 := NB134_119.out; have hnc64 := NB119_134.out; have hnb65 := NB134_124.out; have hnc65 := NB124_134.out; have hnb66 := NB134_129.out; have hnc66 := NB129_134.out; obtain ⟨hcz67_0, hcz67_1, hcz67_2, hfz67_0, hfz67_1, hfz67_2⟩ := bcf3 BK134.out; obtain ⟨hcz68_0, hcz68_1, hcz68_2, hfz68_0, hfz68_1, hfz68_2⟩ := bcf3 BK129.out) | ((with_reducible refine gate_callee (f := 6) rfl ?_); refine goesL_ (some 85) rfl rfl Try.func6 (by kernel_rfl) rfl #[.string (⟨#[111, 114]⟩ : ByteArray), .agg #[.int .i64 t125, .int .i64 t126, .string t127], .agg #[.int .i64 t130, .int .i64 t131, .string t132]] rfl z5_ ?_; (with_reducible refine (impl_BinaryValue.calls kj2 (⟨#[111, 114]⟩ : ByteArray) t125 t126 t127 t130 t131 t132 t135 t136 t137 t138 _ A17.out).mono ?_); rintro e w69 ⟨rfl, hb⟩; refine ⟨_, rfl, ?_⟩; have n_ := a9_ (Kd.R_below (by (with_reducible repeat (first | apply Kd.R_alloc | apply Kd.R_drewN | apply Kd.R_drew)); exact (Kd.R_mono (Kd.R_far (p := ⟨gb134, 2, none⟩) (Kd.R_far (p := ⟨gb134, 1, none⟩) (Kd.R_far (p := ⟨gb134, 0, none⟩) (Kd.R_mono HO103.out (fun k_ hk => (⟨hk, hk.2⟩ : _ ∧ k_ ≠ gb134))) (fun _ hk => hk.2) (.int .i64 t130)) (fun _ hk => hk.2) (.int .i64 t131)) (fun _ hk => hk.2) (.string t132)) (fun _ h_ => h_.1))) hb) (blk_below (g := gb106) (o := .cells #[.int .i64 ((rd_T24 y101 t104).f0), .int .i64 ((rd_T24 y101 t104).f1), .string ((rd_T24 y101 t104).f2)] 24 (0, 0)) (by (with_reducible repeat (first | refine blk_drewN ?_ _ | refine blk_drew ?_ | refine blk_alloc ?_ _)); refine blk_far ?_ NB106_134.out _; (with_reducible repeat (first | refine blk_drewN ?_ _ | refine blk_drew ?_ | refine blk_alloc ?_ _)); refine blk_far ?_ NB106_134.out _; (with_reducible repeat (first | refine blk_drewN ?_ _ | refine blk_drew ?_ | refine blk_alloc ?_ _)); refine blk_far ?_ NB106_134.out _; (with_reducible repeat (first | refine blk_drewN ?_ _ | refine blk_drew ?_ | refine blk_alloc ?_ _)); exact BK106.out) hb) (blk_below (g := gb109) (o := .cells #[.int .i64 ((rd_T24 y101 t107).f0), .int .i64 ((rd_T24 y101 t107).f1), .string ((rd_T24 y101 t107).f2)] 24 (0, 0)) (by (with_reducible repeat (first | refine blk_drewN ?_ _ | refine blk_drew ?_ | refine blk_alloc ?_ _)); refine blk_far ?_ NB109_134.out _; (with_reducible repeat (first | refine blk_drewN ?_ _ | refine blk_drew ?_ | refine blk_alloc ?_ _)); refine blk_far ?_ NB109_134.out _; (with_reducible repeat (first | refine blk_drewN ?_ _ | refine blk_drew ?_ | refine blk_alloc ?_ _)); refine blk_far ?_ NB109_134.out _; (with_reducible repeat (first | refine blk_drewN ?_ _ | refine blk_drew ?_ | refine blk_alloc ?_ _)); exact BK109.out) hb) (blk_below (g := gb114) (o := .cells #[.int .i64 t110, .int .i64 t111, .string t112] 24 (0, 0)) (by (with_reducible repeat (first | refine blk_drewN ?_ _ | refine blk_drew ?_ | refine blk_alloc ?_ _)); refine blk_far ?_ NB114_134.out _; (with_reducible repeat (first | refine blk_drewN ?_ _ | refine blk_drew ?_ | refine blk_alloc ?_ _)); refine blk_far ?_ NB114_134.out _; (with_reducible repeat (first | refine blk_drewN ?_ _ | refine blk_drew ?_ | refine blk_alloc ?_ _)); refine blk_far ?_ NB114_134.out _; (with_reducible repeat (first | refine blk_drewN ?_ _ | refine blk_drew ?_ | refine blk_alloc ?_ _)); exact BK114.out) hb) (blk_below (g := gb119) (o := .cells #[.int .i64 t115, .int .i64 t116, .string t117] 24 (0, 0)) (by (with_reducible repeat (first | refine blk_drewN ?_ _ | refine blk_drew ?_ | refine blk_alloc ?_ _)); refine blk_far ?_ NB119_134.out _; (with_reducible repeat (first | refine blk_drewN ?_ _ | refine blk_drew ?_ | refine blk_alloc ?_ _)); refine blk_far ?_ NB119_134.out _; (with_reducible repeat (first | refine blk_drewN ?_ _ | refine blk_drew ?_ | refine blk_alloc ?_ _)); refine blk_far ?_ NB119_134.out _; (with_reducible repeat (first | refine blk_drewN ?_ _ | refine blk_drew ?_ | refine blk_alloc ?_ _)); exact BK119.out) hb) (blk_below (g := gb124) (o := .cells #[.int .i64 t120, .int .i64 t121, .string t122] 24 (0, 0)) (by (with_reducible repeat (first | refine blk_drewN ?_ _ | refine blk_drew ?_ | refine blk_alloc ?_ _)); refine blk_far ?_ NB124_134.out _; (with_reducible repeat (first | refine blk_drewN ?_ _ | refine blk_drew ?_ | refine blk_alloc ?_ _)); refine blk_far ?_ NB124_134.out _; (with_reducible repeat (first | refine blk_drewN ?_ _ | refine blk_drew ?_ | refine blk_alloc ?_ _)); refine blk_far ?_ NB124_134.out _; (with_reducible repeat (first | refine blk_drewN ?_ _ | refine blk_drew ?_ | refine blk_alloc ?_ _)); exact BK124.out) hb) (blk_below (g := gb129) (o := .cells #[.int .i64 t125, .int .i64 t126, .string t127] 24 (0, 0)) (by (with_reducible repeat (first | refine blk_drewN ?_ _ | refine blk_drew ?_ | refine blk_alloc ?_ _)); refine blk_far ?_ NB129_134.out _; (with_reducible repeat (first | refine blk_drewN ?_ _ | refine blk_drew ?_ | refine blk_alloc ?_ _)); refine blk_far ?_ NB129_134.out _; (with_reducible repeat (first | refine blk_drewN ?_ _ | refine blk_drew ?_ | refine blk_alloc ?_ _)); refine blk_far ?_ NB129_134.out _; (with_reducible repeat (first | refine blk_drewN ?_ _ | refine blk_drew ?_ | refine blk_alloc ?_ _)); exact BK129.out) hb) (blk_below (g := gb134) (o := .cells #[.int .i64 t130, .int .i64 t131, .string t132] 24 (0, 0)) (by (with_reducible repeat (first | refine blk_drewN ?_ _ | refine blk_drew ?_ | refine blk_alloc ?_ _)); refine blk_put (cs := #[.int .i64 t130, .int .i64 t131, .string (⟨#[]⟩ : ByteArray)]) ?_ 2 _ rfl; (with_reducible repeat (first | refine blk_drewN ?_ _ | refine blk_drew ?_ | refine blk_alloc ?_ _)); refine blk_put (cs := #[.int .i64 t130, .int .i64 0, .string (⟨#[]⟩ : ByteArray)]) ?_ 1 _ rfl; (with_reducible repeat (first | refine blk_drewN ?_ _ | refine blk_drew ?_ | refine blk_alloc ?_ _)); refine blk_put (cs := #[.int .i64 0, .int .i64 0, .string (⟨#[]⟩ : ByteArray)]) ?_ 0 _ rfl; (with_reducible repeat (first | refine blk_drewN ?_ _ | refine blk_drew ?_ | refine blk_alloc ?_ _)); exact BK134.out) hb) (below_step z74_ hb); clear HO103 BK106 BK109 BK114 BK119 BK124 BK129 BK134 HB; obtain ⟨HO103, BK106, BK109, BK114, BK119, BK124, BK129, BK134, HB⟩ := n_; (try clear hb); (try clear hb2); (try clear hk); (try clear hi)) | ((with_reducible refine gate_dst (N := 18) rfl ?_); (try (refine gate_guard (by rfl) ?_; dsimp only)); refine bx_ 18 (cs := #[.int .i64 0, .int .i64 0, .string (⟨#[]⟩ : ByteArray)]) (t := 24) (h_ := ?_); intro gb139 hg w70 hbox hb; have n0_ := ak_ (Kd.R_below (Kd.R_elderB z75_ gb139 (Nat.le_of_eq hg.symm)) hb); have n1_ := ak_ (blk_below (g := gb106) (o := .cells #[.int .i64 ((rd_T24 y101 t104).f0), .int .i64 ((rd_T24 y101 t104).f1), .string ((rd_T24 y101 t104).f2)] 24 (0, 0)) z12_ hb); have n2_ := ak_ (blk_below (g := gb109) (o := .cells #[.int .i64 ((rd_T24 y101 t107).f0), .int .i64 ((rd_T24 y101 t107).f1), .string ((rd_T24 y101 t107).f2)] 24 (0, 0)) z13_ hb); have n3_ := ak_ (blk_below (g := gb114) (o := .cells #[.int .i64 t110, .int .i64 t111, .string t112] 24 (0, 0)) z14_ hb); have n4_ := ak_ (blk_below (g := gb119) (o := .cells #[.int .i64 t115, .int .i64 t116, .string t117] 24 (0, 0)) z15_ hb); have n5_ := ak_ (blk_below (g := gb124) (o := .cells #[.int .i64 t120, .int .i64 t121, .string t122] 24 (0, 0)) z17_ hb); have n6_ := ak_ (blk_below (g := gb129) (o := .cells #[.int .i64 t125, .int .i64 t126, .string t127] 24 (0, 0)) z20_ hb); have n7_ := ak_ (blk_below (g := gb134) (o := .cells #[.int .i64 t130, .int .i64 t131, .string t132] 24 (0, 0)) z21_ hb); have n8_ := ak_ (below_step z74_ hb); have n9_ := ak_ (hbox); have n10_ := ak_ ((gs_ w hg (below_size z74_))); have n11_ := ak_ ((gs_ w hg (below_size z74_))); have n12_ := ak_ ((z33_ : gb106 ≠ gb139)); have n13_ := ak_ ((z34_ : gb139 ≠ gb106)); have n14_ := ak_ ((z35_ : gb109 ≠ gb139)); have n15_ := ak_ ((z36_ : gb139 ≠ gb109)); have n16_ := ak_ ((z49_ : gb114 ≠ gb139)); have n17_ := ak_ ((z50_ : gb139 ≠ gb114)); have n18_ := ak_ ((z52_ : gb119 ≠ gb139)); have n19_ := ak_ ((z53_ : gb139 ≠ gb119)); have n20_ := ak_ ((z57_ : gb124 ≠ gb139)); have n21_ := ak_ ((z58_ : gb139 ≠ gb124)); have n22_ := ak_ ((z62_ : gb129 ≠ gb139)); have n23_ := ak_ ((z63_ : gb139 ≠ gb129)); have n24_ := ak_ ((z67_ : gb134 ≠ gb139)); have n25_ := ak_ ((z68_ : gb139 ≠ gb134)); clear HO103; clear BK106; clear BK109; clear BK114; clear BK119; clear BK124; clear BK129; clear BK134; clear HB; have HO103 := n0_; have BK106 := n1_; have BK109 := n2_; have BK114 := n3_; have BK119 := n4_; have BK124 := n5_; have BK129 := n6_; have BK134 := n7_; have HB := n8_; have BK139 := n9_; have GW139 := n10_; have GE139 := n11_; have NB106_139 := n12_; have NB139_106 := n13_; have NB109_139 := n14_; have NB139_109 := n15_; have NB114_139 := n16_; have NB139_114 := n17_; have NB119_139 := n18_; have NB139_119 := n19_; have NB124_139 := n20_; have NB139_124 := n21_; have NB129_139 := n22_; have NB139_129 := n23_; have NB134_139 := n24_; have NB139_134 := n25_; clear n0_ n1_ n2_ n3_ n4_ n5_ n6_ n7_ n8_ n9_ n10_ n11_ n12_ n13_ n14_ n15_ n16_ n17_ n18_ n19_ n20_ n21_ n22_ n23_ n24_ n25_; clear hb hbox hg; have hnb71 := NB139_106.out; have hnc71 := NB106_139.out; have hnb72 := NB139_109.out; have hnc72 := NB109_139.out; have hnb73 := NB139_114.out; have hnc73 := NB114_139.out; have hnb74 := NB139_119.out; have hnc74 := NB119_139.out; have hnb75 := NB139_124.out; have hnc75 := NB124_139.out; have hnb76 := NB139_129.out; have hnc76 := NB129_139.out; have hnb77 := NB139_134.out; have hnc77 := NB134_139.out; obtain ⟨hcz78_0, hcz78_1, hcz78_2, hfz78_0, hfz78_1, hfz78_2⟩ := bcf3 BK139.out))
      (try simp only [Act.put, List.setIfInBounds_toArray, List.set_cons_zero, List.set_cons_succ])
      go_cut [111] (fun v111 wc => ∃ (kq : Nat) (x111_17 : Bool), v111 = .bool x111_17 ∧ Aside0 (laws_FnThree.j1 kq l0 l1 x111_17 = some r) ∧ Aside0 (kq ≤ kj2) ∧ Aside0 (wc.heap[gb106]? = some (.cells #[.int .i64 ((rd_T24 y101 t104).f0), .int .i64 ((rd_T24 y101 t104).f1), .string ((rd_T24 y101 t104).f2)] 24 (0, 0))) ∧ Aside0 (wc.heap[gb109]? = some (.cells #[.int .i64 ((rd_T24 y101 t107).f0), .int .i64 ((rd_T24 y101 t107).f1), .string ((rd_T24 y101 t107).f2)] 24 (0, 0))) ∧ Aside0 (wc.heap[gb114]? = some (.cells #[.int .i64 t110, .int .i64 t111, .string t112] 24 (0, 0))) ∧ Aside0 (wc.heap[gb119]? = some (.cells #[.int .i64 t115, .int .i64 t116, .string t117] 24 (0, 0))) ∧ Aside0 (wc.heap[gb124]? = some (.cells #[.int .i64 t120, .int .i64 t121, .string t122] 24 (0, 0))) ∧ Aside0 (wc.heap[gb129]? = some (.cells #[.int .i64 t125, .int .i64 t126, .string t127] 24 (0, 0))) ∧ Aside0 (wc.heap[gb134]? = some (.cells #[.int .i64 t130, .int .i64 t131, .string t132] 24 (0, 0))) ∧ Aside0 (wc.heap[gb139]? = some (.cells #[.int .i64 t135, .int .i64 t136, .string t137] 24 (0, 0))) ∧ Aside0 (Below w.heap.size w wc))
      case first =>
        have H := HC18.out
        clear HC18
        by_cases c79 : t113 = 0
        rotate_left
        · rw [if_neg c79] at H
          have c79b0 : (t113 == 0) = false := beq_eq_false_iff_ne.mpr c79
          have c79b1 : (t113 != 0) = true := bne_iff_ne.mpr c79
          (first | rw [c79b0] | (simp only [i64_w, i32_w]; rw [c79b0]) | skip)
          have H' := ak_ H
          clear H
          go_wp2
          go_meet
          case rel => exact ⟨_, (true), z18_, H', ⟨by have := HJ2.out; first | omega | exact Nat.le_refl _⟩, ⟨z37_⟩, ⟨z38_⟩, ⟨z39_⟩, ⟨z40_⟩, ⟨z41_⟩, ⟨z42_⟩, ⟨z43_⟩, ⟨z29_⟩, ⟨z22_⟩⟩
        rw [if_pos c79] at H
        have c79b0 : (t113 == 0) = true := beq_iff_eq.mpr c79
        have c79b1 : (t113 != 0) = false := bne_eq_false_iff_eq.mpr c79
        clear c79
        (first | rw [c79b0] | (simp only [i64_w, i32_w]; rw [c79b0]) | skip)
        by_cases c80 : t128 = 0
        rotate_left
        · rw [if_neg c80] at H
          have c80b0 : (t128 == 0) = false := beq_eq_false_iff_ne.mpr c80
          have c80b1 : (t128 != 0) = true := bne_iff_ne.mpr c80
          have H' := ak_ H
          clear H
          go_wp2
          go_meet
          case rel => exact ⟨_, (true), z18_, H', ⟨by have := HJ2.out; first | omega | exact Nat.le_refl _⟩, ⟨z37_⟩, ⟨z38_⟩, ⟨z39_⟩, ⟨z40_⟩, ⟨z41_⟩, ⟨z42_⟩, ⟨z43_⟩, ⟨z29_⟩, ⟨z22_⟩⟩
        rw [if_pos c80] at H
        have c80b0 : (t128 == 0) = true := beq_iff_eq.mpr c80
        have c80b1 : (t128 != 0) = false := bne_eq_false_iff_eq.mpr c80
        clear c80
        by_cases c81 : t133 = 0
        rotate_left
        · rw [if_neg c81] at H
          have c81b0 : (t133 == 0) = false := beq_eq_false_iff_ne.mpr c81
          have c81b1 : (t133 != 0) = true := bne_iff_ne.mpr c81
          have H' := ak_ H
          clear H
          go_wp2
          go_meet
          case rel => exact ⟨_, (true), z18_, H', ⟨by have := HJ2.out; first | omega | exact Nat.le_refl _⟩, ⟨z37_⟩, ⟨z38_⟩, ⟨z39_⟩, ⟨z40_⟩, ⟨z41_⟩, ⟨z42_⟩, ⟨z43_⟩, ⟨z29_⟩, ⟨z22_⟩⟩
        rw [if_pos c81] at H
        have c81b0 : (t133 == 0) = true := beq_iff_eq.mpr c81
        have c81b1 : (t133 != 0) = false := bne_eq_false_iff_eq.mpr c81
        clear c81
        by_cases c82 : t138 = 0
        rotate_left
        · rw [if_neg c82] at H
          have c82b0 : (t138 == 0) = false := beq_eq_false_iff_ne.mpr c82
          have c82b1 : (t138 != 0) = true := bne_iff_ne.mpr c82
          have H' := ak_ H
          clear H
          go_wp2
          go_meet
          case rel => exact ⟨_, (true), z18_, H', ⟨by have := HJ2.out; first | omega | exact Nat.le_refl _⟩, ⟨z37_⟩, ⟨z38_⟩, ⟨z39_⟩, ⟨z40_⟩, ⟨z41_⟩, ⟨z42_⟩, ⟨z43_⟩, ⟨z29_⟩, ⟨z22_⟩⟩
        rw [if_pos c82] at H
        have c82b0 : (t138 == 0) = true := beq_iff_eq.mpr c82
        have c82b1 : (t138 != 0) = false := bne_eq_false_iff_eq.mpr c82
        clear c82
        by_cases c83 : (!(t110 == t115) || (!(t111 == t116) || (!(t112.toList == t117.toList)))) = true
        · rw [if_pos c83] at H
          have c83b0 : (!(t110 == t115) || (!(t111 == t116) || (!(t112.toList == t117.toList)))) = true := c83
          clear c83
          have H' := ak_ H
          clear H
          have hnb84 := NB114_106.out
          have hnc84 := NB106_114.out
          have hnb85 := NB114_109.out
          have hnc85 := NB109_114.out
          have hnb86 := NB114_119.out
          have hnc86 := NB119_114.out
          have hnb87 := NB114_124.out
          have hnc87 := NB124_114.out
          have hnb88 := NB114_129.out
          have hnc88 := NB129_114.out
          have hnb89 := NB114_134.out
          have hnc89 := NB134_114.out
          have hnb90 := NB114_139.out
          have hnc90 := NB139_114.out
          obtain ⟨hcz91_0, hcz91_1, hcz91_2, hfz91_0, hfz91_1, hfz91_2⟩ := bcf3 BK114.out
          have hnb92 := NB119_106.out
          have hnc92 := NB106_119.out
          have hnb93 := NB119_109.out
          have hnc93 := NB109_119.out
          have hnb94 := NB119_124.out
          have hnc94 := NB124_119.out
          have hnb95 := NB119_129.out
          have hnc95 := NB129_119.out
          have hnb96 := NB119_134.out
          have hnc96 := NB134_119.out
          have hnb97 := NB119_139.out
          have hnc97 := NB139_119.out
          obtain ⟨hcz98_0, hcz98_1, hcz98_2, hfz98_0, hfz98_1, hfz98_2⟩ := bcf3 BK119.out
          go_wp2
          go_meet
          case rel => exact ⟨_, (true), z18_, H', ⟨by have := HJ2.out; first | omega | exact Nat.le_refl _⟩, ⟨z37_⟩, ⟨z38_⟩, ⟨z39_⟩, ⟨z40_⟩, ⟨z41_⟩, ⟨z42_⟩, ⟨z43_⟩, ⟨z29_⟩, ⟨z22_⟩⟩
        rw [if_neg c83] at H
        have c83b0 : (!(t110 == t115) || (!(t111 == t116) || (!(t112.toList == t117.toList)))) = false := by simpa using c83
        clear c83
        have H' := ak_ H
        clear H
        have hnb99 := NB114_106.out
        have hnc99 := NB106_114.out
        have hnb100 := NB114_109.out
        have hnc100 := NB109_114.out
        have hnb101 := NB114_119.out
        have hnc101 := NB119_114.out
        have hnb102 := NB114_124.out
        have hnc102 := NB124_114.out
        have hnb103 := NB114_129.out
        have hnc103 := NB129_114.out
        have hnb104 := NB114_134.out
        have hnc104 := NB134_114.out
        have hnb105 := NB114_139.out
        have hnc105 := NB139_114.out
        obtain ⟨hcz106_0, hcz106_1, hcz106_2, hfz106_0, hfz106_1, hfz106_2⟩ := bcf3 BK114.out
        have hnb107 := NB119_106.out
        have hnc107 := NB106_119.out
        have hnb108 := NB119_109.out
        have hnc108 := NB109_119.out
        have hnb109 := NB119_124.out
        have hnc109 := NB124_119.out
        have hnb110 := NB119_129.out
        have hnc110 := NB129_119.out
        have hnb111 := NB119_134.out
        have hnc111 := NB134_119.out
        have hnb112 := NB119_139.out
        have hnc112 := NB139_119.out
        obtain ⟨hcz113_0, hcz113_1, hcz113_2, hfz113_0, hfz113_1, hfz113_2⟩ := bcf3 BK119.out
        have hnb114 := NB124_106.out
        have hnc114 := NB106_124.out
        have hnb115 := NB124_109.out
        have hnc115 := NB109_124.out
        have hnb116 := NB124_129.out
        have hnc116 := NB129_124.out
        have hnb117 := NB124_134.out
        have hnc117 := NB134_124.out
        have hnb118 := NB124_139.out
        have hnc118 := NB139_124.out
        obtain ⟨hcz119_0, hcz119_1, hcz119_2, hfz119_0, hfz119_1, hfz119_2⟩ := bcf3 BK124.out
        have hnb120 := NB139_106.out
        have hnc120 := NB106_139.out
        have hnb121 := NB139_109.out
        have hnc121 := NB109_139.out
        have hnb122 := NB139_129.out
        have hnc122 := NB129_139.out
        have hnb123 := NB139_134.out
        have hnc123 := NB134_139.out
        obtain ⟨hcz124_0, hcz124_1, hcz124_2, hfz124_0, hfz124_1, hfz124_2⟩ := bcf3 BK139.out
        go_wp2
        go_meet
        case rel => exact ⟨_, ((!(t120 == t135) || (!(t121 == t136) || (!(t122.toList == t137.toList))))), z18_, H', ⟨by have := HJ2.out; first | omega | exact Nat.le_refl _⟩, ⟨z37_⟩, ⟨z38_⟩, ⟨z39_⟩, ⟨z40_⟩, ⟨z41_⟩, ⟨z42_⟩, ⟨z43_⟩, ⟨z29_⟩, ⟨z22_⟩⟩
      case rest =>
        clear HC18
        try clear c1
        try clear p1
        try clear q1
        try clear hx1
        try clear c2
        try clear p2
        try clear c3
        try clear c4
        try clear c4b0
        try clear c4b1
        try clear c5
        try clear c6
        try clear c7
        try clear c7b0
        try clear c8
        try clear c8b0
        try clear c9
        try clear c10
        try clear c10b0
        try clear p10
        try clear q10
        try clear hx10
        try clear c11
        try clear c11b0
        try clear c12
        try clear c25
        try clear c30
        try clear c31
        try clear c37
        try clear c38
        try clear c39
        try clear c44
        try clear c45
        try clear c46
        try clear c47
        try clear c52
        try clear c53
        try clear c54
        try clear c55
        try clear c56
        try clear c61
        try clear c62
        try clear c63
        try clear c64
        try clear c65
        try clear c66
        try clear c71
        try clear c72
        try clear c73
        try clear c74
        try clear c75
        try clear c76
        try clear c77
        try clear c79
        try clear c79b0
        try clear c79b1
        try clear c80
        try clear c80b0
        try clear c80b1
        try clear c81
        try clear c81b0
        try clear c81b1
        try clear c82
        try clear c82b0
        try clear c82b1
        try clear c83
        try clear c83b0
        try clear c84
        try clear c85
        try clear c86
        try clear c87
        try clear c88
        try clear c89
        try clear c90
        try clear c92
        try clear c93
        try clear c94
        try clear c95
        try clear c96
        try clear c97
        try clear c99
        try clear c100
        try clear c101
        try clear c102
        try clear c103
        try clear c104
        try clear c105
        try clear p105
        try clear q105
        try clear hx105
        try clear c107
        try clear c108
        try clear p108
        try clear q108
        try clear hx108
        try clear c109
        try clear c110
        try clear c111
        try clear c112
        try clear c114
        try clear c115
        try clear c116
        try clear c117
        try clear c118
        try clear c120
        try clear c121
        try clear c122
        try clear c123
        try clear hcz106_0
        try clear hcz106_1
        try clear hcz106_2
        try clear hcz113_0
        try clear hcz113_1
        try clear hcz113_2
        try clear hcz119_0
        try clear hcz119_1
        try clear hcz119_2
        try clear hcz124_0
        try clear hcz124_1
        try clear hcz124_2
        try clear hcz23_0
        try clear hcz23_1
        try clear hcz23_2
        try clear hcz26_0
        try clear hcz26_1
        try clear hcz26_2
        try clear hcz27_0
        try clear hcz27_1
        try clear hcz27_2
        try clear hcz32_0
        try clear hcz32_1
        try clear hcz32_2
        try clear hcz33_0
        try clear hcz33_1
        try clear hcz33_2
        try clear hcz34_0
        try clear hcz34_1
        try clear hcz34_2
        try clear hcz40_0
        try clear hcz40_1
        try clear hcz40_2
        try clear hcz41_0
        try clear hcz41_1
        try clear hcz41_2
        try clear hcz48_0
        try clear hcz48_1
        try clear hcz48_2
        try clear hcz49_0
        try clear hcz49_1
        try clear hcz49_2
        try clear hcz57_0
        try clear hcz57_1
        try clear hcz57_2
        try clear hcz58_0
        try clear hcz58_1
        try clear hcz58_2
        try clear hcz67_0
        try clear hcz67_1
        try clear hcz67_2
        try clear hcz68_0
        try clear hcz68_1
        try clear hcz68_2
        try clear hcz78_0
        try clear hcz78_1
        try clear hcz78_2
        try clear hcz91_0
        try clear hcz91_1
        try clear hcz91_2
        try clear hcz98_0
        try clear hcz98_1
        try clear hcz98_2
        try clear hfz106_0
        try clear hfz106_1
        try clear hfz106_2
        try clear hfz113_0
        try clear hfz113_1
        try clear hfz113_2
        try clear hfz119_0
        try clear hfz119_1
        try clear hfz119_2
        try clear hfz124_0
        try clear hfz124_1
        try clear hfz124_2
        try clear hfz23_0
        try clear hfz23_1
        try clear hfz23_2
        try clear hfz26_0
        try clear hfz26_1
        try clear hfz26_2
        try clear hfz27_0
        try clear hfz27_1
        try clear hfz27_2
        try clear hfz32_0
        try clear hfz32_1
        try clear hfz32_2
        try clear hfz33_0
        try clear hfz33_1
        try clear hfz33_2
        try clear hfz34_0
        try clear hfz34_1
        try clear hfz34_2
        try clear hfz40_0
        try clear hfz40_1
        try clear hfz40_2
        try clear hfz41_0
        try clear hfz41_1
        try clear hfz41_2
        try clear hfz48_0
        try clear hfz48_1
        try clear hfz48_2
        try clear hfz49_0
        try clear hfz49_1
        try clear hfz49_2
        try clear hfz57_0
        try clear hfz57_1
        try clear hfz57_2
        try clear hfz58_0
        try clear hfz58_1
        try clear hfz58_2
        try clear hfz67_0
        try clear hfz67_1
        try clear hfz67_2
        try clear hfz68_0
        try clear hfz68_1
        try clear hfz68_2
        try clear hfz78_0
        try clear hfz78_1
        try clear hfz78_2
        try clear hfz91_0
        try clear hfz91_1
        try clear hfz91_2
        try clear hfz98_0
        try clear hfz98_1
        try clear hfz98_2
        try clear hx105_0
        try clear hx105_1
        try clear hx105_2
        try clear hx108_0
        try clear hx108_1
        try clear hx108_2
        try clear p105
        try clear p108
        try clear p2
        try clear q105
        try clear q108
        obtain ⟨kq, x111_17, rfl, HA, HJ17, BK106, BK109, BK114, BK119, BK124, BK129, BK134, BK139, HB⟩ := hcut
        cases kq with
        | zero => exact absurd HA.out (by simp [laws_FnThree.j1])
        | succ kj17 =>
          have H := HA.out
          clear HA
          simp only [laws_FnThree.j1] at H
          by_cases c125 : x111_17 = true
          · subst c125
            have H1 : (none) = some r := by rw [if_pos rfl] at H; exact H
            clear H
            have H := H1
            clear H1
            exact absurd H (by simp)
          replace c125 := Bool.eq_false_iff.mpr c125
          subst c125
          have H1 : ((spec_ValueOf.f kj17 l0).bind fun bt140 => ((spec_ValueOf.f kj17 l1).bind fun bt144 => (if bt140.1 = bt144.1 then ((some (([(⟨#[61]⟩ : ByteArray), (⟨#[60]⟩ : ByteArray), (⟨#[60, 61]⟩ : ByteArray)] : List ByteArray) : List ByteArray)).bind fun y148 => ((some (([(⟨#[60, 62]⟩ : ByteArray), (⟨#[62, 61]⟩ : ByteArray), (⟨#[62]⟩ : ByteArray)] : List ByteArray) : List ByteArray)).bind fun y151 => ((laws_at.f l1 1 3).bind fun t154 => (if 0 ≤ t154 then (if t154 < (y148.length : Int) then ((impl_BinaryValue.f kj17 (rdOf ByteArray.empty y148 t154) bt140.1 bt140.2.1 bt140.2.2 bt144.1 bt144.2.1 bt144.2.2).bind fun bt156 => (if t154 < (y151.length : Int) then ((impl_BinaryValue.f kj17 (rdOf ByteArray.empty y151 t154) bt140.1 bt140.2.1 bt140.2.2 bt144.1 bt144.2.1 bt144.2.2).bind fun bt162 => ((impl_UnaryValue.f kj17 (⟨#[110, 111, 116]⟩ : ByteArray) bt156.1 bt156.2.1 bt156.2.2.1).bind fun bt167 => ((impl_UnaryValue.f kj17 (⟨#[105, 115, 110, 117, 108, 108]⟩ : ByteArray) bt156.1 bt156.2.1 bt156.2.2.1).bind fun bt172 => (if bt156.2.2.2 = 0 then (if bt162.2.2.2 = 0 then (if bt167.2.2.2 = 0 then (if bt172.2.2.2 = 0 then (if (bt167.1 == bt162.1 && (bt167.2.1 == bt162.2.1 && (bt167.2.2.1.toList == bt162.2.2.1.toList))) = true then (some ((bt172.2.1 == 1) == (bt140.1 == 0))) else (none)) else (none)) else (none)) else (none)) else (none))))) else (none))) else (none)) else (none))))) else (some true)))) = some r := by rw [if_neg (show ¬ (false = true) by decide)] at H; exact H
          clear H
          have H := H1
          clear H1
          replace H := Option.bind_eq_some_iff.mp H
          obtain ⟨⟨t140, t141, t142⟩, A1260, H⟩ := H
          replace H : ((spec_ValueOf.f kj17 l1).bind fun bt144 => (if t140 = bt144.1 then ((some (([(⟨#[61]⟩ : ByteArray), (⟨#[60]⟩ : ByteArray), (⟨#[60, 61]⟩ : ByteArray)] : List ByteArray) : List ByteArray)).bind fun y148 => ((some (([(⟨#[60, 62]⟩ : ByteArray), (⟨#[62, 61]⟩ : ByteArray), (⟨#[62]⟩ : ByteArray)] : List ByteArray) : List ByteArray)).bind fun y151 => ((laws_at.f l1 1 3).bind fun t154 => (if 0 ≤ t154 then (if t154 < (y148.length : Int) then ((impl_BinaryValue.f kj17 (rdOf ByteArray.empty y148 t154) t140 t141 t142 bt144.1 bt144.2.1 bt144.2.2).bind fun bt156 => (if t154 < (y151.length : Int) then ((impl_BinaryValue.f kj17 (rdOf ByteArray.empty y151 t154) t140 t141 t142 bt144.1 bt144.2.1 bt144.2.2).bind fun bt162 => ((impl_UnaryValue.f kj17 (⟨#[110, 111, 116]⟩ : ByteArray) bt156.1 bt156.2.1 bt156.2.2.1).bind fun bt167 => ((impl_UnaryValue.f kj17 (⟨#[105, 115, 110, 117, 108, 108]⟩ : ByteArray) bt156.1 bt156.2.1 bt156.2.2.1).bind fun bt172 => (if bt156.2.2.2 = 0 then (if bt162.2.2.2 = 0 then (if bt167.2.2.2 = 0 then (if bt172.2.2.2 = 0 then (if (bt167.1 == bt162.1 && (bt167.2.1 == bt162.2.1 && (bt167.2.2.1.toList == bt162.2.2.1.toList))) = true then (some ((bt172.2.1 == 1) == (t140 == 0))) else (none)) else (none)) else (none)) else (none)) else (none))))) else (none))) else (none)) else (none))))) else (some true))) = some r := H
          have A126 := ak_ A1260
          clear A1260
          replace H := Option.bind_eq_some_iff.mp H
          obtain ⟨⟨t144, t145, t146⟩, A1270, H⟩ := H
          replace H : (if t140 = t144 then ((some (([(⟨#[61]⟩ : ByteArray), (⟨#[60]⟩ : ByteArray), (⟨#[60, 61]⟩ : ByteArray)] : List ByteArray) : List ByteArray)).bind fun y148 => ((some (([(⟨#[60, 62]⟩ : ByteArray), (⟨#[62, 61]⟩ : ByteArray), (⟨#[62]⟩ : ByteArray)] : List ByteArray) : List ByteArray)).bind fun y151 => ((laws_at.f l1 1 3).bind fun t154 => (if 0 ≤ t154 then (if t154 < (y148.length : Int) then ((impl_BinaryValue.f kj17 (rdOf ByteArray.empty y148 t154) t140 t141 t142 t144 t145 t146).bind fun bt156 => (if t154 < (y151.length : Int) then ((impl_BinaryValue.f kj17 (rdOf ByteArray.empty y151 t154) t140 t141 t142 t144 t145 t146).bind fun bt162 => ((impl_UnaryValue.f kj17 (⟨#[110, 111, 116]⟩ : ByteArray) bt156.1 bt156.2.1 bt156.2.2.1).bind fun bt167 => ((impl_UnaryValue.f kj17 (⟨#[105, 115, 110, 117, 108, 108]⟩ : ByteArray) bt156.1 bt156.2.1 bt156.2.2.1).bind fun bt172 => (if bt156.2.2.2 = 0 then (if bt162.2.2.2 = 0 then (if bt167.2.2.2 = 0 then (if bt172.2.2.2 = 0 then (if (bt167.1 == bt162.1 && (bt167.2.1 == bt162.2.1 && (bt167.2.2.1.toList == bt162.2.2.1.toList))) = true then (some ((bt172.2.1 == 1) == (t140 == 0))) else (none)) else (none)) else (none)) else (none)) else (none))))) else (none))) else (none)) else (none))))) else (some true)) = some r := H
          have A127 := ak_ A1270
          clear A1270
          by_cases c128 : t140 = t144
          rotate_left
          · rw [if_neg c128] at H
            have c128b0 : (t140 == t144) = false := beq_eq_false_iff_ne.mpr c128
            have c128b1 : (t140 != t144) = true := bne_iff_ne.mpr c128
            obtain rfl := Option.some.inj H
            go_wp2_with (first | ((with_reducible refine gate_callee (f := 9) rfl ?_); refine goesL_ (some 113) rfl rfl Try.func9 (by kernel_rfl) rfl #[.slice A0 l0.length c0] rfl z5_ ?_; (with_reducible refine (spec_ValueOf.calls kj17 _ _ l0 t140 t141 t142 _ ?side1 ?side2 A126.out).mono ?_); (case side1 => repeat (first | exact (Kd.C_below HR0.out HB.out) | (with_reducible refine Kd.C_alloc ?_ _) | (with_reducible refine Kd.C_drewN ?_ _) | (with_reducible refine Kd.C_drew ?_))); (case side2 => exact HC0.out); rintro e w244 ⟨rfl, hb⟩; refine ⟨_, rfl, ?_⟩; have n_ := a9_ (blk_below (g := gb106) (o := .cells #[.int .i64 ((rd_T24 y101 t104).f0), .int .i64 ((rd_T24 y101 t104).f1), .string ((rd_T24 y101 t104).f2)] 24 (0, 0)) z12_ hb) (blk_below (g := gb109) (o := .cells #[.int .i64 ((rd_T24 y101 t107).f0), .int .i64 ((rd_T24 y101 t107).f1), .string ((rd_T24 y101 t107).f2)] 24 (0, 0)) z13_ hb) (blk_below (g := gb114) (o := .cells #[.int .i64 t110, .int .i64 t111, .string t112] 24 (0, 0)) z14_ hb) (blk_below (g := gb119) (o := .cells #[.int .i64 t115, .int .i64 t116, .string t117] 24 (0, 0)) z15_ hb) (blk_below (g := gb124) (o := .cells #[.int .i64 t120, .int .i64 t121, .string t122] 24 (0, 0)) z17_ hb) (blk_below (g := gb129) (o := .cells #[.int .i64 t125, .int .i64 t126, .string t127] 24 (0, 0)) z20_ hb) (blk_below (g := gb134) (o := .cells #[.int .i64 t130, .int .i64 t131, .string t132] 24 (0, 0)) z21_ hb) (blk_below (g := gb139) (o := .cells #[.int .i64 t135, .int .i64 t136, .string t137] 24 (0, 0)) z25_ hb) (below_step z22_ hb); clear BK106 BK109 BK114 BK119 BK124 BK129 BK134 BK139 HB; obtain ⟨BK106, BK109, BK114, BK119, BK124, BK129, BK134, BK139, HB⟩ := n_; (try clear hb); (try clear hb2); (try clear hk); (try clear hi)) | ((with_reducible refine gate_dst (N := 20) rfl ?_); (try (refine gate_guard (by rfl) ?_; dsimp only)); refine bx_ 20 (cs := #[.int .i64 0, .int .i64 0, .string (⟨#[]⟩ : ByteArray)]) (t := 24) (h_ := ?_); intro gb143 hg w245 hbox hb; have n0_ := ak_ (blk_below (g := gb106) (o := .cells #[.int .i64 ((rd_T24 y101 t104).f0), .int .i64 ((rd_T24 y101 t104).f1), .string ((rd_T24 y101 t104).f2)] 24 (0, 0)) z12_ hb); have n1_ := ak_ (blk_below (g := gb109) (o := .cells #[.int .i64 ((rd_T24 y101 t107).f0), .int .i64 ((rd_T24 y101 t107).f1), .string ((rd_T24 y101 t107).f2)] 24 (0, 0)) z13_ hb); have n2_ := ak_ (blk_below (g := gb114) (o := .cells #[.int .i64 t110, .int .i64 t111, .string t112] 24 (0, 0)) z14_ hb); have n3_ := ak_ (blk_below (g := gb119) (o := .cells #[.int .i64 t115, .int .i64 t116, .string t117] 24 (0, 0)) z15_ hb); have n4_ := ak_ (blk_below (g := gb124) (o := .cells #[.int .i64 t120, .int .i64 t121, .string t122] 24 (0, 0)) z17_ hb); have n5_ := ak_ (blk_below (g := gb129) (o := .cells #[.int .i64 t125, .int .i64 t126, .string t127] 24 (0, 0)) z20_ hb); have n6_ := ak_ (blk_below (g := gb134) (o := .cells #[.int .i64 t130, .int .i64 t131, .string t132] 24 (0, 0)) z21_ hb); have n7_ := ak_ (blk_below (g := gb139) (o := .cells #[.int .i64 t135, .int .i64 t136, .string t137] 24 (0, 0)) z25_ hb); have n8_ := ak_ (below_step z22_ hb); have n9_ := ak_ (hbox); have n10_ := ak_ ((gs_ w hg (below_size z22_))); have n11_ := ak_ ((gs_ w hg (below_size z22_))); have n12_ := ak_ ((z33_ : gb106 ≠ gb143)); have n13_ := ak_ ((z34_ : gb143 ≠ gb106)); have n14_ := ak_ ((z35_ : gb109 ≠ gb143)); have n15_ := ak_ ((z36_ : gb143 ≠ gb109)); have n16_ := ak_ ((z49_ : gb114 ≠ gb143)); have n17_ := ak_ ((z50_ : gb143 ≠ gb114)); have n18_ := ak_ ((z52_ : gb119 ≠ gb143)); have n19_ := ak_ ((z53_ : gb143 ≠ gb119)); have n20_ := ak_ ((z57_ : gb124 ≠ gb143)); have n21_ := ak_ ((z58_ : gb143 ≠ gb124)); have n22_ := ak_ ((z62_ : gb129 ≠ gb143)); have n23_ := ak_ ((z63_ : gb143 ≠ gb129)); have n24_ := ak_ ((z67_ : gb134 ≠ gb143)); have n25_ := ak_ ((z68_ : gb143 ≠ gb134)); have n26_ := ak_ ((z72_ : gb139 ≠ gb143)); have n27_ := ak_ ((z73_ : gb143 ≠ gb139)); clear BK106; clear BK109; clear BK114; clear BK119; clear BK124; clear BK129; clear BK134; clear BK139; clear HB; have BK106 := n0_; have BK109 := n1_; have BK114 := n2_; have BK119 := n3_; have BK124 := n4_; have BK129 := n5_; have BK134 := n6_; have BK139 := n7_; have HB := n8_; have BK143 := n9_; have GW143 := n10_; have GE143 := n11_; have NB106_143 := n12_; have NB143_106 := n13_; have NB109_143 := n14_; have NB143_109 := n15_; have NB114_143 := n16_; have NB143_114 := n17_; have NB119_143 := n18_; have NB143_119 := n19_; have NB124_143 := n20_; have NB143_124 := n21_; have NB129_143 := n22_; have NB143_129 := n23_; have NB134_143 := n24_; have NB143_134 := n25_; have NB139_143 := n26_; have NB143_139 := n27_; clear n0_ n1_ n2_ n3_ n4_ n5_ n6_ n7_ n8_ n9_ n10_ n11_ n12_ n13_ n14_ n15_ n16_ n17_ n18_ n19_ n20_ n21_ n22_ n23_ n24_ n25_ n26_ n27_; clear hb hbox hg; have hnb246 := NB143_106.out; have hnc246 := NB106_143.out; have hnb247 := NB143_109.out; have hnc247 := NB109_143.out; have hnb248 := NB143_114.out; have hnc248 := NB114_143.out; have hnb249 := NB143_119.out; have hnc249 := NB119_143.out; have hnb250 := NB143_124.out; have hnc250 := NB124_143.out; have hnb251 := NB143_129.out; have hnc251 := NB129_143.out; have hnb252 := NB143_134.out; have hnc252 := NB134_143.out; have hnb253 := NB143_139.out; have hnc253 := NB139_143.out; obtain ⟨hcz254_0, hcz254_1, hcz254_2, hfz254_0, hfz254_1, hfz254_2⟩ := bcf3 BK143.out) | ((with_reducible refine gate_callee (f := 9) rfl ?_); refine goesL_ (some 115) rfl rfl Try.func9 (by kernel_rfl) rfl #[.slice A1 l1.length c1] rfl z5_ ?_; (with_reducible refine (spec_ValueOf.calls kj17 _ _ l1 t144 t145 t146 _ ?side1 ?side2 A127.out).mono ?_); (case side1 => exact Kd.C_below HR1.out z27_); (case side2 => exact HC1.out); rintro e w255 ⟨rfl, hb⟩; refine ⟨_, rfl, ?_⟩; have n_ := a10_ (blk_below (g := gb106) (o := .cells #[.int .i64 ((rd_T24 y101 t104).f0), .int .i64 ((rd_T24 y101 t104).f1), .string ((rd_T24 y101 t104).f2)] 24 (0, 0)) z93_ hb) (blk_below (g := gb109) (o := .cells #[.int .i64 ((rd_T24 y101 t107).f0), .int .i64 ((rd_T24 y101 t107).f1), .string ((rd_T24 y101 t107).f2)] 24 (0, 0)) z94_ hb) (blk_below (g := gb114) (o := .cells #[.int .i64 t110, .int .i64 t111, .string t112] 24 (0, 0)) z95_ hb) (blk_below (g := gb119) (o := .cells #[.int .i64 t115, .int .i64 t116, .string t117] 24 (0, 0)) z96_ hb) (blk_below (g := gb124) (o := .cells #[.int .i64 t120, .int .i64 t121, .string t122] 24 (0, 0)) z97_ hb) (blk_below (g := gb129) (o := .cells #[.int .i64 t125, .int .i64 t126, .string t127] 24 (0, 0)) z98_ hb) (blk_below (g := gb134) (o := .cells #[.int .i64 t130, .int .i64 t131, .string t132] 24 (0, 0)) z99_ hb) (blk_below (g := gb139) (o := .cells #[.int .i64 t135, .int .i64 t136, .string t137] 24 (0, 0)) z100_ hb) (blk_below (g := gb143) (o := .cells #[.int .i64 t140, .int .i64 t141, .string t142] 24 (0, 0)) z85_ hb) (below_step z27_ hb); clear BK106 BK109 BK114 BK119 BK124 BK129 BK134 BK139 BK143 HB; obtain ⟨BK106, BK109, BK114, BK119, BK124, BK129, BK134, BK139, BK143, HB⟩ := n_; (try clear hb); (try clear hb2); (try clear hk); (try clear hi)) | ((with_reducible refine gate_dst (N := 21) rfl ?_); (try (refine gate_guard (by rfl) ?_; dsimp only)); refine bx_ 21 (cs := #[.int .i64 0, .int .i64 0, .string (⟨#[]⟩ : ByteArray)]) (t := 24) (h_ := ?_); intro gb147 hg w256 hbox hb; have n0_ := ak_ (blk_below (g := gb106) (o := .cells #[.int .i64 ((rd_T24 y101 t104).f0), .int .i64 ((rd_T24 y101 t104).f1), .string ((rd_T24 y101 t104).f2)] 24 (0, 0)) z12_ hb); have n1_ := ak_ (blk_below (g := gb109) (o := .cells #[.int .i64 ((rd_T24 y101 t107).f0), .int .i64 ((rd_T24 y101 t107).f1), .string ((rd_T24 y101 t107).f2)] 24 (0, 0)) z13_ hb); have n2_ := ak_ (blk_below (g := gb114) (o := .cells #[.int .i64 t110, .int .i64 t111, .string t112] 24 (0, 0)) z14_ hb); have n3_ := ak_ (blk_below (g := gb119) (o := .cells #[.int .i64 t115, .int .i64 t116, .string t117] 24 (0, 0)) z15_ hb); have n4_ := ak_ (blk_below (g := gb124) (o := .cells #[.int .i64 t120, .int .i64 t121, .string t122] 24 (0, 0)) z17_ hb); have n5_ := ak_ (blk_below (g := gb129) (o := .cells #[.int .i64 t125, .int .i64 t126, .string t127] 24 (0, 0)) z20_ hb); have n6_ := ak_ (blk_below (g := gb134) (o := .cells #[.int .i64 t130, .int .i64 t131, .string t132] 24 (0, 0)) z21_ hb); have n7_ := ak_ (blk_below (g := gb139) (o := .cells #[.int .i64 t135, .int .i64 t136, .string t137] 24 (0, 0)) z25_ hb); have n8_ := ak_ (blk_below (g := gb143) (o := .cells #[.int .i64 t140, .int .i64 t141, .string t142] 24 (0, 0)) z26_ hb); have n9_ := ak_ (below_step z27_ hb); have n10_ := ak_ (hbox); have n11_ := ak_ ((gs_ w hg (below_size z27_))); have n12_ := ak_ ((gs_ w hg (below_size z27_))); have n13_ := ak_ ((z33_ : gb106 ≠ gb147)); have n14_ := ak_ ((z34_ : gb147 ≠ gb106)); have n15_ := ak_ ((z35_ : gb109 ≠ gb147)); have n16_ := ak_ ((z36_ : gb147 ≠ gb109)); have n17_ := ak_ ((z49_ : gb114 ≠ gb147)); have n18_ := ak_ ((z50_ : gb147 ≠ gb114)); have n19_ := ak_ ((z52_ : gb119 ≠ gb147)); have n20_ := ak_ ((z53_ : gb147 ≠ gb119)); have n21_ := ak_ ((z57_ : gb124 ≠ gb147)); have n22_ := ak_ ((z58_ : gb147 ≠ gb124)); have n23_ := ak_ ((z62_ : gb129 ≠ gb147)); have n24_ := ak_ ((z63_ : gb147 ≠ gb129)); have n25_ := ak_ ((z67_ : gb134 ≠ gb147)); have n26_ := ak_ ((z68_ : gb147 ≠ gb134)); have n27_ := ak_ ((z72_ : gb139 ≠ gb147)); have n28_ := ak_ ((z73_ : gb147 ≠ gb139)); have n29_ := ak_ ((z79_ : gb143 ≠ gb147)); have n30_ := ak_ ((z80_ : gb147 ≠ gb143)); clear BK106; clear BK109; clear BK114; clear BK119; clear BK124; clear BK129; clear BK134; clear BK139; clear BK143; clear HB; have BK106 := n0_; have BK109 := n1_; have BK114 := n2_; have BK119 := n3_; have BK124 := n4_; have BK129 := n5_; have BK134 := n6_; have BK139 := n7_; have BK143 := n8_; have HB := n9_; have BK147 := n10_; have GW147 := n11_; have GE147 := n12_; have NB106_147 := n13_; have NB147_106 := n14_; have NB109_147 := n15_; have NB147_109 := n16_; have NB114_147 := n17_; have NB147_114 := n18_; have NB119_147 := n19_; have NB147_119 := n20_; have NB124_147 := n21_; have NB147_124 := n22_; have NB129_147 := n23_; have NB147_129 := n24_; have NB134_147 := n25_; have NB147_134 := n26_; have NB139_147 := n27_; have NB147_139 := n28_; have NB143_147 := n29_; have NB147_143 := n30_; clear n0_ n1_ n2_ n3_ n4_ n5_ n6_ n7_ n8_ n9_ n10_ n11_ n12_ n13_ n14_ n15_ n16_ n17_ n18_ n19_ n20_ n21_ n22_ n23_ n24_ n25_ n26_ n27_ n28_ n29_ n30_; clear hb hbox hg; have hnb257 := NB147_106.out; have hnc257 := NB106_147.out; have hnb258 := NB147_109.out; have hnc258 := NB109_147.out; have hnb259 := NB147_114.out; have hnc259 := NB114_147.out; have hnb260 := NB147_119.out; have hnc260 := NB119_147.out; have hnb261 := NB147_124.out; have hnc261 := NB124_147.out; have hnb262 := NB147_129.out; have hnc262 := NB129_147.out; have hnb263 := NB147_134.out; have hnc263 := NB134_147.out; have hnb264 := NB147_139.out; have hnc264 := NB139_147.out; have hnb265 := NB147_143.out; have hnc265 := NB143_147.out; obtain ⟨hcz266_0, hcz266_1, hcz266_2, hfz266_0, hfz266_1, hfz266_2⟩ := bcf3 BK147.out; obtain ⟨hcz267_0, hcz267_1, hcz267_2, hfz267_0, hfz267_1, hfz267_2⟩ := bcf3 BK143.out))
            go_ret
            exact ⟨z8_, z19_⟩
          rw [if_pos c128] at H
          have c128b0 : (t140 == t144) = true := beq_iff_eq.mpr c128
          have c128b1 : (t140 != t144) = false := bne_eq_false_iff_eq.mpr c128
          clear c128
          obtain ⟨y148, hy148⟩ : ∃ y_ : List ByteArray, y_ = (([(⟨#[61]⟩ : ByteArray), (⟨#[60]⟩ : ByteArray), (⟨#[60, 61]⟩ : ByteArray)] : List ByteArray)) := ⟨_, rfl⟩
          replace H : ((some (([(⟨#[60, 62]⟩ : ByteArray), (⟨#[62, 61]⟩ : ByteArray), (⟨#[62]⟩ : ByteArray)] : List ByteArray) : List ByteArray)).bind fun y151 => ((laws_at.f l1 1 3).bind fun t154 => (if 0 ≤ t154 then (if t154 < (y148.length : Int) then ((impl_BinaryValue.f kj17 (rdOf ByteArray.empty y148 t154) t140 t141 t142 t144 t145 t146).bind fun bt156 => (if t154 < (y151.length : Int) then ((impl_BinaryValue.f kj17 (rdOf ByteArray.empty y151 t154) t140 t141 t142 t144 t145 t146).bind fun bt162 => ((impl_UnaryValue.f kj17 (⟨#[110, 111, 116]⟩ : ByteArray) bt156.1 bt156.2.1 bt156.2.2.1).bind fun bt167 => ((impl_UnaryValue.f kj17 (⟨#[105, 115, 110, 117, 108, 108]⟩ : ByteArray) bt156.1 bt156.2.1 bt156.2.2.1).bind fun bt172 => (if bt156.2.2.2 = 0 then (if bt162.2.2.2 = 0 then (if bt167.2.2.2 = 0 then (if bt172.2.2.2 = 0 then (if (bt167.1 == bt162.1 && (bt167.2.1 == bt162.2.1 && (bt167.2.2.1.toList == bt162.2.2.1.toList))) = true then (some ((bt172.2.1 == 1) == (t140 == 0))) else (none)) else (none)) else (none)) else (none)) else (none))))) else (none))) else (none)) else (none)))) = some r := by first | (rw [hy148]; with_reducible exact H) | (have H2_ := (Option.bind_some _ _).symm.trans H; rw [hy148]; with_reducible exact H2_) | (have H2_ := (Option.bind_some _ _).symm.trans H; with_reducible exact H2_) | with_reducible exact H | (rw [hy148]; exact H) | exact H
          have Ny148 := ak_ hy148
          clear hy148
          obtain ⟨y151, hy151⟩ : ∃ y_ : List ByteArray, y_ = (([(⟨#[60, 62]⟩ : ByteArray), (⟨#[62, 61]⟩ : ByteArray), (⟨#[62]⟩ : ByteArray)] : List ByteArray)) := ⟨_, rfl⟩
          replace H : ((laws_at.f l1 1 3).bind fun t154 => (if 0 ≤ t154 then (if t154 < (y148.length : Int) then ((impl_BinaryValue.f kj17 (rdOf ByteArray.empty y148 t154) t140 t141 t142 t144 t145 t146).bind fun bt156 => (if t154 < (y151.length : Int) then ((impl_BinaryValue.f kj17 (rdOf ByteArray.empty y151 t154) t140 t141 t142 t144 t145 t146).bind fun bt162 => ((impl_UnaryValue.f kj17 (⟨#[110, 111, 116]⟩ : ByteArray) bt156.1 bt156.2.1 bt156.2.2.1).bind fun bt167 => ((impl_UnaryValue.f kj17 (⟨#[105, 115, 110, 117, 108, 108]⟩ : ByteArray) bt156.1 bt156.2.1 bt156.2.2.1).bind fun bt172 => (if bt156.2.2.2 = 0 then (if bt162.2.2.2 = 0 then (if bt167.2.2.2 = 0 then (if bt172.2.2.2 = 0 then (if (bt167.1 == bt162.1 && (bt167.2.1 == bt162.2.1 && (bt167.2.2.1.toList == bt162.2.2.1.toList))) = true then (some ((bt172.2.1 == 1) == (t140 == 0))) else (none)) else (none)) else (none)) else (none)) else (none))))) else (none))) else (none)) else (none))) = some r := by first | (rw [hy151]; with_reducible exact H) | (have H2_ := (Option.bind_some _ _).symm.trans H; rw [hy151]; with_reducible exact H2_) | (have H2_ := (Option.bind_some _ _).symm.trans H; with_reducible exact H2_) | with_reducible exact H | (rw [hy151]; exact H) | exact H
          have Ny151 := ak_ hy151
          clear hy151
          replace H := Option.bind_eq_some_iff.mp H
          obtain ⟨t154, A1290, H⟩ := H
          have A129 := ak_ A1290
          clear A1290
          by_cases c130 : 0 ≤ t154
          rotate_left
          · rw [if_neg c130] at H
            exact absurd H (by simp)
          rw [if_pos c130] at H
          have c130b0 := decide_eq_true c130
          clear c130
          by_cases c131 : t154 < (y148.length : Int)
          rotate_left
          · rw [if_neg c131] at H
            exact absurd H (by simp)
          rw [if_pos c131] at H
          have c131b0 := decide_eq_true c131
          clear c131
          replace H := Option.bind_eq_some_iff.mp H
          obtain ⟨⟨t156, t157, t158, t159⟩, A1320, H⟩ := H
          replace H : (if t154 < (y151.length : Int) then ((impl_BinaryValue.f kj17 (rdOf ByteArray.empty y151 t154) t140 t141 t142 t144 t145 t146).bind fun bt162 => ((impl_UnaryValue.f kj17 (⟨#[110, 111, 116]⟩ : ByteArray) t156 t157 t158).bind fun bt167 => ((impl_UnaryValue.f kj17 (⟨#[105, 115, 110, 117, 108, 108]⟩ : ByteArray) t156 t157 t158).bind fun bt172 => (if t159 = 0 then (if bt162.2.2.2 = 0 then (if bt167.2.2.2 = 0 then (if bt172.2.2.2 = 0 then (if (bt167.1 == bt162.1 && (bt167.2.1 == bt162.2.1 && (bt167.2.2.1.toList == bt162.2.2.1.toList))) = true then (some ((bt172.2.1 == 1) == (t140 == 0))) else (none)) else (none)) else (none)) else (none)) else (none))))) else (none)) = some r := H
          have A132 := ak_ A1320
          clear A1320
          by_cases c133 : t154 < (y151.length : Int)
          rotate_left
          · rw [if_neg c133] at H
            exact absurd H (by simp)
          rw [if_pos c133] at H
          have c133b0 := decide_eq_true c133
          clear c133
          replace H := Option.bind_eq_some_iff.mp H
          obtain ⟨⟨t162, t163, t164, t165⟩, A1340, H⟩ := H
          replace H : ((impl_UnaryValue.f kj17 (⟨#[110, 111, 116]⟩ : ByteArray) t156 t157 t158).bind fun bt167 => ((impl_UnaryValue.f kj17 (⟨#[105, 115, 110, 117, 108, 108]⟩ : ByteArray) t156 t157 t158).bind fun bt172 => (if t159 = 0 then (if t165 = 0 then (if bt167.2.2.2 = 0 then (if bt172.2.2.2 = 0 then (if (bt167.1 == t162 && (bt167.2.1 == t163 && (bt167.2.2.1.toList == t164.toList))) = true then (some ((bt172.2.1 == 1) == (t140 == 0))) else (none)) else (none)) else (none)) else (none)) else (none)))) = some r := H
          have A134 := ak_ A1340
          clear A1340
          replace H := Option.bind_eq_some_iff.mp H
          obtain ⟨⟨t167, t168, t169, t170⟩, A1350, H⟩ := H
          replace H : ((impl_UnaryValue.f kj17 (⟨#[105, 115, 110, 117, 108, 108]⟩ : ByteArray) t156 t157 t158).bind fun bt172 => (if t159 = 0 then (if t165 = 0 then (if t170 = 0 then (if bt172.2.2.2 = 0 then (if (t167 == t162 && (t168 == t163 && (t169.toList == t164.toList))) = true then (some ((bt172.2.1 == 1) == (t140 == 0))) else (none)) else (none)) else (none)) else (none)) else (none))) = some r := H
          have A135 := ak_ A1350
          clear A1350
          replace H := Option.bind_eq_some_iff.mp H
          obtain ⟨⟨t172, t173, t174, t175⟩, A1360, H⟩ := H
          replace H : (if t159 = 0 then (if t165 = 0 then (if t170 = 0 then (if t175 = 0 then (if (t167 == t162 && (t168 == t163 && (t169.toList == t164.toList))) = true then (some ((t173 == 1) == (t140 == 0))) else (none)) else (none)) else (none)) else (none)) else (none)) = some r := H
          have A136 := ak_ A1360
          clear A1360
          by_cases c137 : t159 = 0
          rotate_left
          · rw [if_neg c137] at H
            exact absurd H (by simp)
          rw [if_pos c137] at H
          have c137b0 : (t159 == 0) = true := beq_iff_eq.mpr c137
          have c137b1 : (t159 != 0) = false := bne_eq_false_iff_eq.mpr c137
          clear c137
          by_cases c138 : t165 = 0
          rotate_left
          · rw [if_neg c138] at H
            exact absurd H (by simp)
          rw [if_pos c138] at H
          have c138b0 : (t165 == 0) = true := beq_iff_eq.mpr c138
          have c138b1 : (t165 != 0) = false := bne_eq_false_iff_eq.mpr c138
          clear c138
          by_cases c139 : t170 = 0
          rotate_left
          · rw [if_neg c139] at H
            exact absurd H (by simp)
          rw [if_pos c139] at H
          have c139b0 : (t170 == 0) = true := beq_iff_eq.mpr c139
          have c139b1 : (t170 != 0) = false := bne_eq_false_iff_eq.mpr c139
          clear c139
          by_cases c140 : t175 = 0
          rotate_left
          · rw [if_neg c140] at H
            exact absurd H (by simp)
          rw [if_pos c140] at H
          have c140b0 : (t175 == 0) = true := beq_iff_eq.mpr c140
          have c140b1 : (t175 != 0) = false := bne_eq_false_iff_eq.mpr c140
          clear c140
          by_cases c141 : (t167 == t162 && (t168 == t163 && (t169.toList == t164.toList))) = true
          rotate_left
          · rw [if_neg c141] at H
            exact absurd H (by simp)
          rw [if_pos c141] at H
          have c141b0 : (t167 == t162 && (t168 == t163 && (t169.toList == t164.toList))) = true := c141
          (try (have c141b1 : decide (t167 = t162 && (t168 == t163 && (t169.toList == t164.toList))) = true := by simpa using c141))
          (try (have c141b2 : (t167 == t162 && (t168 == t163 && (t169.toList == t164.toList))) = true := by simpa using c141))
          clear c141
          obtain rfl := Option.some.inj H
          try go_wp2_with (first | ((with_reducible refine gate_callee (f := 9) rfl ?_); refine goesL_ (some 113) rfl rfl Try.func9 (by kernel_rfl) rfl #[.slice A0 l0.length c0] rfl z5_ ?_; (with_reducible refine (spec_ValueOf.calls kj17 _ _ l0 t140 t141 t142 _ ?side1 ?side2 A126.out).mono ?_); (case side1 => repeat (first | exact (Kd.C_below HR0.out HB.out) | (with_reducible refine Kd.C_alloc ?_ _) | (with_reducible refine Kd.C_drewN ?_ _) | (with_reducible refine Kd.C_drew ?_))); (case side2 => exact HC0.out); rintro e w142 ⟨rfl, hb⟩; refine ⟨_, rfl, ?_⟩; have n_ := a9_ (blk_below (g := gb106) (o := .cells #[.int .i64 ((rd_T24 y101 t104).f0), .int .i64 ((rd_T24 y101 t104).f1), .string ((rd_T24 y101 t104).f2)] 24 (0, 0)) z12_ hb) (blk_below (g := gb109) (o := .cells #[.int .i64 ((rd_T24 y101 t107).f0), .int .i64 ((rd_T24 y101 t107).f1), .string ((rd_T24 y101 t107).f2)] 24 (0, 0)) z13_ hb) (blk_below (g := gb114) (o := .cells #[.int .i64 t110, .int .i64 t111, .string t112] 24 (0, 0)) z14_ hb) (blk_below (g := gb119) (o := .cells #[.int .i64 t115, .int .i64 t116, .string t117] 24 (0, 0)) z15_ hb) (blk_below (g := gb124) (o := .cells #[.int .i64 t120, .int .i64 t121, .string t122] 24 (0, 0)) z17_ hb) (blk_below (g := gb129) (o := .cells #[.int .i64 t125, .int .i64 t126, .string t127] 24 (0, 0)) z20_ hb) (blk_below (g := gb134) (o := .cells #[.int .i64 t130, .int .i64 t131, .string t132] 24 (0, 0)) z21_ hb) (blk_below (g := gb139) (o := .cells #[.int .i64 t135, .int .i64 t136, .string t137] 24 (0, 0)) z25_ hb) (below_step z22_ hb); clear BK106 BK109 BK114 BK119 BK124 BK129 BK134 BK139 HB; obtain ⟨BK106, BK109, BK114, BK119, BK124, BK129, BK134, BK139, HB⟩ := n_; (try clear hb); (try clear hb2); (try clear hk); (try clear hi)) | ((with_reducible refine gate_dst (N := 20) rfl ?_); (try (refine gate_guard (by rfl) ?_; dsimp only)); refine bx_ 20 (cs := #[.int .i64 0, .int .i64 0, .string (⟨#[]⟩ : ByteArray)]) (t := 24) (h_ := ?_); intro gb143 hg w143 hbox hb; have n0_ := ak_ (blk_below (g := gb106) (o := .cells #[.int .i64 ((rd_T24 y101 t104).f0), .int .i64 ((rd_T24 y101 t104).f1), .string ((rd_T24 y101 t104).f2)] 24 (0, 0)) z12_ hb); have n1_ := ak_ (blk_below (g := gb109) (o := .cells #[.int .i64 ((rd_T24 y101 t107).f0), .int .i64 ((rd_T24 y101 t107).f1), .string ((rd_T24 y101 t107).f2)] 24 (0, 0)) z13_ hb); have n2_ := ak_ (blk_below (g := gb114) (o := .cells #[.int .i64 t110, .int .i64 t111, .string t112] 24 (0, 0)) z14_ hb); have n3_ := ak_ (blk_below (g := gb119) (o := .cells #[.int .i64 t115, .int .i64 t116, .string t117] 24 (0, 0)) z15_ hb); have n4_ := ak_ (blk_below (g := gb124) (o := .cells #[.int .i64 t120, .int .i64 t121, .string t122] 24 (0, 0)) z17_ hb); have n5_ := ak_ (blk_below (g := gb129) (o := .cells #[.int .i64 t125, .int .i64 t126, .string t127] 24 (0, 0)) z20_ hb); have n6_ := ak_ (blk_below (g := gb134) (o := .cells #[.int .i64 t130, .int .i64 t131, .string t132] 24 (0, 0)) z21_ hb); have n7_ := ak_ (blk_below (g := gb139) (o := .cells #[.int .i64 t135, .int .i64 t136, .string t137] 24 (0, 0)) z25_ hb); have n8_ := ak_ (below_step z22_ hb); have n9_ := ak_ (hbox); have n10_ := ak_ ((gs_ w hg (below_size z22_))); have n11_ := ak_ ((gs_ w hg (below_size z22_))); have n12_ := ak_ ((z33_ : gb106 ≠ gb143)); have n13_ := ak_ ((z34_ : gb143 ≠ gb106)); have n14_ := ak_ ((z35_ : gb109 ≠ gb143)); have n15_ := ak_ ((z36_ : gb143 ≠ gb109)); have n16_ := ak_ ((z49_ : gb114 ≠ gb143)); have n17_ := ak_ ((z50_ : gb143 ≠ gb114)); have n18_ := ak_ ((z52_ : gb119 ≠ gb143)); have n19_ := ak_ ((z53_ : gb143 ≠ gb119)); have n20_ := ak_ ((z57_ : gb124 ≠ gb143)); have n21_ := ak_ ((z58_ : gb143 ≠ gb124)); have n22_ := ak_ ((z62_ : gb129 ≠ gb143)); have n23_ := ak_ ((z63_ : gb143 ≠ gb129)); have n24_ := ak_ ((z67_ : gb134 ≠ gb143)); have n25_ := ak_ ((z68_ : gb143 ≠ gb134)); have n26_ := ak_ ((z72_ : gb139 ≠ gb143)); have n27_ := ak_ ((z73_ : gb143 ≠ gb139)); clear BK106; clear BK109; clear BK114; clear BK119; clear BK124; clear BK129; clear BK134; clear BK139; clear HB; have BK106 := n0_; have BK109 := n1_; have BK114 := n2_; have BK119 := n3_; have BK124 := n4_; have BK129 := n5_; have BK134 := n6_; have BK139 := n7_; have HB := n8_; have BK143 := n9_; have GW143 := n10_; have GE143 := n11_; have NB106_143 := n12_; have NB143_106 := n13_; have NB109_143 := n14_; have NB143_109 := n15_; have NB114_143 := n16_; have NB143_114 := n17_; have NB119_143 := n18_; have NB143_119 := n19_; have NB124_143 := n20_; have NB143_124 := n21_; have NB129_143 := n22_; have NB143_129 := n23_; have NB134_143 := n24_; have NB143_134 := n25_; have NB139_143 := n26_; have NB143_139 := n27_; clear n0_ n1_ n2_ n3_ n4_ n5_ n6_ n7_ n8_ n9_ n10_ n11_ n12_ n13_ n14_ n15_ n16_ n17_ n18_ n19_ n20_ n21_ n22_ n23_ n24_ n25_ n26_ n27_; clear hb hbox hg; have hnb144 := NB143_106.out; have hnc144 := NB106_143.out; have hnb145 := NB143_109.out; have hnc145 := NB109_143.out; have hnb146 := NB143_114.out; have hnc146 := NB114_143.out; have hnb147 := NB143_119.out; have hnc147 := NB119_143.out; have hnb148 := NB143_124.out; have hnc148 := NB124_143.out; have hnb149 := NB143_129.out; have hnc149 := NB129_143.out; have hnb150 := NB143_134.out; have hnc150 := NB134_143.out; have hnb151 := NB143_139.out; have hnc151 := NB139_143.out; obtain ⟨hcz152_0, hcz152_1, hcz152_2, hfz152_0, hfz152_1, hfz152_2⟩ := bcf3 BK143.out) | ((with_reducible refine gate_callee (f := 9) rfl ?_); refine goesL_ (some 115) rfl rfl Try.func9 (by kernel_rfl) rfl #[.slice A1 l1.length c1] rfl z5_ ?_; (with_reducible refine (spec_ValueOf.calls kj17 _ _ l1 t144 t145 t146 _ ?side1 ?side2 A127.out).mono ?_); (case side1 => exact Kd.C_below HR1.out z27_); (case side2 => exact HC1.out); rintro e w153 ⟨rfl, hb⟩; refine ⟨_, rfl, ?_⟩; have n_ := a10_ (blk_below (g := gb106) (o := .cells #[.int .i64 ((rd_T24 y101 t104).f0), .int .i64 ((rd_T24 y101 t104).f1), .string ((rd_T24 y101 t104).f2)] 24 (0, 0)) z93_ hb) (blk_below (g := gb109) (o := .cells #[.int .i64 ((rd_T24 y101 t107).f0), .int .i64 ((rd_T24 y101 t107).f1), .string ((rd_T24 y101 t107).f2)] 24 (0, 0)) z94_ hb) (blk_below (g := gb114) (o := .cells #[.int .i64 t110, .int .i64 t111, .string t112] 24 (0, 0)) z95_ hb) (blk_below (g := gb119) (o := .cells #[.int .i64 t115, .int .i64 t116, .string t117] 24 (0, 0)) z96_ hb) (blk_below (g := gb124) (o := .cells #[.int .i64 t120, .int .i64 t121, .string t122] 24 (0, 0)) z97_ hb) (blk_below (g := gb129) (o := .cells #[.int .i64 t125, .int .i64 t126, .string t127] 24 (0, 0)) z98_ hb) (blk_below (g := gb134) (o := .cells #[.int .i64 t130, .int .i64 t131, .string t132] 24 (0, 0)) z99_ hb) (blk_below (g := gb139) (o := .cells #[.int .i64 t135, .int .i64 t136, .string t137] 24 (0, 0)) z100_ hb) (blk_below (g := gb143) (o := .cells #[.int .i64 t140, .int .i64 t141, .string t142] 24 (0, 0)) z85_ hb) (below_step z27_ hb); clear BK106 BK109 BK114 BK119 BK124 BK129 BK134 BK139 BK143 HB; obtain ⟨BK106, BK109, BK114, BK119, BK124, BK129, BK134, BK139, BK143, HB⟩ := n_; (try clear hb); (try clear hb2); (try clear hk); (try clear hi)) | ((with_reducible refine gate_dst (N := 21) rfl ?_); (try (refine gate_guard (by rfl) ?_; dsimp only)); refine bx_ 21 (cs := #[.int .i64 0, .int .i64 0, .string (⟨#[]⟩ : ByteArray)]) (t := 24) (h_ := ?_); intro gb147 hg w154 hbox hb; have n0_ := ak_ (blk_below (g := gb106) (o := .cells #[.int .i64 ((rd_T24 y101 t104).f0), .int .i64 ((rd_T24 y101 t104).f1), .string ((rd_T24 y101 t104).f2)] 24 (0, 0)) z12_ hb); have n1_ := ak_ (blk_below (g := gb109) (o := .cells #[.int .i64 ((rd_T24 y101 t107).f0), .int .i64 ((rd_T24 y101 t107).f1), .string ((rd_T24 y101 t107).f2)] 24 (0, 0)) z13_ hb); have n2_ := ak_ (blk_below (g := gb114) (o := .cells #[.int .i64 t110, .int .i64 t111, .string t112] 24 (0, 0)) z14_ hb); have n3_ := ak_ (blk_below (g := gb119) (o := .cells #[.int .i64 t115, .int .i64 t116, .string t117] 24 (0, 0)) z15_ hb); have n4_ := ak_ (blk_below (g := gb124) (o := .cells #[.int .i64 t120, .int .i64 t121, .string t122] 24 (0, 0)) z17_ hb); have n5_ := ak_ (blk_below (g := gb129) (o := .cells #[.int .i64 t125, .int .i64 t126, .string t127] 24 (0, 0)) z20_ hb); have n6_ := ak_ (blk_below (g := gb134) (o := .cells #[.int .i64 t130, .int .i64 t131, .string t132] 24 (0, 0)) z21_ hb); have n7_ := ak_ (blk_below (g := gb139) (o := .cells #[.int .i64 t135, .int .i64 t136, .string t137] 24 (0, 0)) z25_ hb); have n8_ := ak_ (blk_below (g := gb143) (o := .cells #[.int .i64 t140, .int .i64 t141, .string t142] 24 (0, 0)) z26_ hb); have n9_ := ak_ (below_step z27_ hb); have n10_ := ak_ (hbox); have n11_ := ak_ ((gs_ w hg (below_size z27_))); have n12_ := ak_ ((gs_ w hg (below_size z27_))); have n13_ := ak_ ((z33_ : gb106 ≠ gb147)); have n14_ := ak_ ((z34_ : gb147 ≠ gb106)); have n15_ := ak_ ((z35_ : gb109 ≠ gb147)); have n16_ := ak_ ((z36_ : gb147 ≠ gb109)); have n17_ := ak_ ((z49_ : gb114 ≠ gb147)); have n18_ := ak_ ((z50_ : gb147 ≠ gb114)); have n19_ := ak_ ((z52_ : gb119 ≠ gb147)); have n20_ := ak_ ((z53_ : gb147 ≠ gb119)); have n21_ := ak_ ((z57_ : gb124 ≠ gb147)); have n22_ := ak_ ((z58_ : gb147 ≠ gb124)); have n23_ := ak_ ((z62_ : gb129 ≠ gb147)); have n24_ := ak_ ((z63_ : gb147 ≠ gb129)); have n25_ := ak_ ((z67_ : gb134 ≠ gb147)); have n26_ := ak_ ((z68_ : gb147 ≠ gb134)); have n27_ := ak_ ((z72_ : gb139 ≠ gb147)); have n28_ := ak_ ((z73_ : gb147 ≠ gb139)); have n29_ := ak_ ((z79_ : gb143 ≠ gb147)); have n30_ := ak_ ((z80_ : gb147 ≠ gb143)); clear BK106; clear BK109; clear BK114; clear BK119; clear BK124; clear BK129; clear BK134; clear BK139; clear BK143; clear HB; have BK106 := n0_; have BK109 := n1_; have BK114 := n2_; have BK119 := n3_; have BK124 := n4_; have BK129 := n5_; have BK134 := n6_; have BK139 := n7_; have BK143 := n8_; have HB := n9_; have BK147 := n10_; have GW147 := n11_; have GE147 := n12_; have NB106_147 := n13_; have NB147_106 := n14_; have NB109_147 := n15_; have NB147_109 := n16_; have NB114_147 := n17_; have NB147_114 := n18_; have NB119_147 := n19_; have NB147_119 := n20_; have NB124_147 := n21_; have NB147_124 := n22_; have NB129_147 := n23_; have NB147_129 := n24_; have NB134_147 := n25_; have NB147_134 := n26_; have NB139_147 := n27_; have NB147_139 := n28_; have NB143_147 := n29_; have NB147_143 := n30_; clear n0_ n1_ n2_ n3_ n4_ n5_ n6_ n7_ n8_ n9_ n10_ n11_ n12_ n13_ n14_ n15_ n16_ n17_ n18_ n19_ n20_ n21_ n22_ n23_ n24_ n25_ n26_ n27_ n28_ n29_ n30_; clear hb hbox hg; have hnb155 := NB147_106.out; have hnc155 := NB106_147.out; have hnb156 := NB147_109.out; have hnc156 := NB109_147.out; have hnb157 := NB147_114.out; have hnc157 := NB114_147.out; have hnb158 := NB147_119.out; have hnc158 := NB119_147.out; have hnb159 := NB147_124.out; have hnc159 := NB124_147.out; have hnb160 := NB147_129.out; have hnc160 := NB129_147.out; have hnb161 := NB147_134.out; have hnc161 := NB134_147.out; have hnb162 := NB147_139.out; have hnc162 := NB139_147.out; have hnb163 := NB147_143.out; have hnc163 := NB143_147.out; obtain ⟨hcz164_0, hcz164_1, hcz164_2, hfz164_0, hfz164_1, hfz164_2⟩ := bcf3 BK147.out; obtain ⟨hcz165_0, hcz165_1, hcz165_2, hfz165_0, hfz165_1, hfz165_2⟩ := bcf3 BK143.out) | ((with_reducible refine gate_dst (N := 121) rfl ?_); (try (refine gate_guard (by rfl) ?_; dsimp only)); refine Kd.R_lit Kd.string _ 9 ?hg (N := 121) ?hd (xs := ([(⟨#[61]⟩ : ByteArray), (⟨#[60]⟩ : ByteArray), (⟨#[60, 61]⟩ : ByteArray)] : List ByteArray)) (inner := [.string (⟨#[61]⟩ : ByteArray), .string (⟨#[60]⟩ : ByteArray), .string (⟨#[60, 61]⟩ : ByteArray)]) (ok := fun _ => True) (okp := fun _ => True) ?hr ?hp (fun _ hk => hk) trivial (Below.refl _ _) (Nat.le_refl _) (by simp) ?_; (case hd => rfl); (case hg => rfl); (case hr => first | (go_simp; done) | (go_simp; rfl)); (case hp => exact (Reps.one (show Kd.M Kd.string _ _ _ (⟨#[61]⟩ : ByteArray) [.string (⟨#[61]⟩ : ByteArray)] from rfl) (Reps.one (show Kd.M Kd.string _ _ _ (⟨#[60]⟩ : ByteArray) [.string (⟨#[60]⟩ : ByteArray)] from rfl) (Reps.one (show Kd.M Kd.string _ _ _ (⟨#[60, 61]⟩ : ByteArray) [.string (⟨#[60, 61]⟩ : ByteArray)] from rfl) (Reps.none _ _))))); intro v149 w166 ho167 hb hg_ hnew_; clear hg_ hnew_; (first | rw [← Ny148.out] at ho167 | (simp only [Int.reduceToNat] at ho167; rw [← Ny148.out] at ho167)); have n_ := a12_ (Kd.R_lower ho167 (below_size z19_)) (blk_below (g := gb106) (o := .cells #[.int .i64 ((rd_T24 y101 t104).f0), .int .i64 ((rd_T24 y101 t104).f1), .string ((rd_T24 y101 t104).f2)] 24 (0, 0)) (by (with_reducible repeat (first | refine blk_drewN ?_ _ | refine blk_drew ?_ | refine blk_alloc ?_ _)); refine blk_far ?_ NB106_147.out _; (with_reducible repeat (first | refine blk_drewN ?_ _ | refine blk_drew ?_ | refine blk_alloc ?_ _)); refine blk_far ?_ NB106_147.out _; (with_reducible repeat (first | refine blk_drewN ?_ _ | refine blk_drew ?_ | refine blk_alloc ?_ _)); refine blk_far ?_ NB106_147.out _; (with_reducible repeat (first | refine blk_drewN ?_ _ | refine blk_drew ?_ | refine blk_alloc ?_ _)); exact BK106.out) hb) (blk_below (g := gb109) (o := .cells #[.int .i64 ((rd_T24 y101 t107).f0), .int .i64 ((rd_T24 y101 t107).f1), .string ((rd_T24 y101 t107).f2)] 24 (0, 0)) (by (with_reducible repeat (first | refine blk_drewN ?_ _ | refine blk_drew ?_ | refine blk_alloc ?_ _)); refine blk_far ?_ NB109_147.out _; (with_reducible repeat (first | refine blk_drewN ?_ _ | refine blk_drew ?_ | refine blk_alloc ?_ _)); refine blk_far ?_ NB109_147.out _; (with_reducible repeat (first | refine blk_drewN ?_ _ | refine blk_drew ?_ | refine blk_alloc ?_ _)); refine blk_far ?_ NB109_147.out _; (with_reducible repeat (first | refine blk_drewN ?_ _ | refine blk_drew ?_ | refine blk_alloc ?_ _)); exact BK109.out) hb) (blk_below (g := gb114) (o := .cells #[.int .i64 t110, .int .i64 t111, .string t112] 24 (0, 0)) (by (with_reducible repeat (first | refine blk_drewN ?_ _ | refine blk_drew ?_ | refine blk_alloc ?_ _)); refine blk_far ?_ NB114_147.out _; (with_reducible repeat (first | refine blk_drewN ?_ _ | refine blk_drew ?_ | refine blk_alloc ?_ _)); refine blk_far ?_ NB114_147.out _; (with_reducible repeat (first | refine blk_drewN ?_ _ | refine blk_drew ?_ | refine blk_alloc ?_ _)); refine blk_far ?_ NB114_147.out _; (with_reducible repeat (first | refine blk_drewN ?_ _ | refine blk_drew ?_ | refine blk_alloc ?_ _)); exact BK114.out) hb) (blk_below (g := gb119) (o := .cells #[.int .i64 t115, .int .i64 t116, .string t117] 24 (0, 0)) (by (with_reducible repeat (first | refine blk_drewN ?_ _ | refine blk_drew ?_ | refine blk_alloc ?_ _)); refine blk_far ?_ NB119_147.out _; (with_reducible repeat (first | refine blk_drewN ?_ _ | refine blk_drew ?_ | refine blk_alloc ?_ _)); refine blk_far ?_ NB119_147.out _; (with_reducible repeat (first | refine blk_drewN ?_ _ | refine blk_drew ?_ | refine blk_alloc ?_ _)); refine blk_far ?_ NB119_147.out _; (with_reducible repeat (first | refine blk_drewN ?_ _ | refine blk_drew ?_ | refine blk_alloc ?_ _)); exact BK119.out) hb) (blk_below (g := gb124) (o := .cells #[.int .i64 t120, .int .i64 t121, .string t122] 24 (0, 0)) (by (with_reducible repeat (first | refine blk_drewN ?_ _ | refine blk_drew ?_ | refine blk_alloc ?_ _)); refine blk_far ?_ NB124_147.out _; (with_reducible repeat (first | refine blk_drewN ?_ _ | refine blk_drew ?_ | refine blk_alloc ?_ _)); refine blk_far ?_ NB124_147.out _; (with_reducible repeat (first | refine blk_drewN ?_ _ | refine blk_drew ?_ | refine blk_alloc ?_ _)); refine blk_far ?_ NB124_147.out _; (with_reducible repeat (first | refine blk_drewN ?_ _ | refine blk_drew ?_ | refine blk_alloc ?_ _)); exact BK124.out) hb) (blk_below (g := gb129) (o := .cells #[.int .i64 t125, .int .i64 t126, .string t127] 24 (0, 0)) (by (with_reducible repeat (first | refine blk_drewN ?_ _ | refine blk_drew ?_ | refine blk_alloc ?_ _)); refine blk_far ?_ NB129_147.out _; (with_reducible repeat (first | refine blk_drewN ?_ _ | refine blk_drew ?_ | refine blk_alloc ?_ _)); refine blk_far ?_ NB129_147.out _; (with_reducible repeat (first | refine blk_drewN ?_ _ | refine blk_drew ?_ | refine blk_alloc ?_ _)); refine blk_far ?_ NB129_147.out _; (with_reducible repeat (first | refine blk_drewN ?_ _ | refine blk_drew ?_ | refine blk_alloc ?_ _)); exact BK129.out) hb) (blk_below (g := gb134) (o := .cells #[.int .i64 t130, .int .i64 t131, .string t132] 24 (0, 0)) (by (with_reducible repeat (first | refine blk_drewN ?_ _ | refine blk_drew ?_ | refine blk_alloc ?_ _)); refine blk_far ?_ NB134_147.out _; (with_reducible repeat (first | refine blk_drewN ?_ _ | refine blk_drew ?_ | refine blk_alloc ?_ _)); refine blk_far ?_ NB134_147.out _; (with_reducible repeat (first | refine blk_drewN ?_ _ | refine blk_drew ?_ | refine blk_alloc ?_ _)); refine blk_far ?_ NB134_147.out _; (with_reducible repeat (first | refine blk_drewN ?_ _ | refine blk_drew ?_ | refine blk_alloc ?_ _)); exact BK134.out) hb) (blk_below (g := gb139) (o := .cells #[.int .i64 t135, .int .i64 t136, .string t137] 24 (0, 0)) (by (with_reducible repeat (first | refine blk_drewN ?_ _ | refine blk_drew ?_ | refine blk_alloc ?_ _)); refine blk_far ?_ NB139_147.out _; (with_reducible repeat (first | refine blk_drewN ?_ _ | refine blk_drew ?_ | refine blk_alloc ?_ _)); refine blk_far ?_ NB139_147.out _; (with_reducible repeat (first | refine blk_drewN ?_ _ | refine blk_drew ?_ | refine blk_alloc ?_ _)); refine blk_far ?_ NB139_147.out _; (with_reducible repeat (first | refine blk_drewN ?_ _ | refine blk_drew ?_ | refine blk_alloc ?_ _)); exact BK139.out) hb) (blk_below (g := gb143) (o := .cells #[.int .i64 t140, .int .i64 t141, .string t142] 24 (0, 0)) (by (with_reducible repeat (first | refine blk_drewN ?_ _ | refine blk_drew ?_ | refine blk_alloc ?_ _)); refine blk_far ?_ NB143_147.out _; (with_reducible repeat (first | refine blk_drewN ?_ _ | refine blk_drew ?_ | refine blk_alloc ?_ _)); refine blk_far ?_ NB143_147.out _; (with_reducible repeat (first | refine blk_drewN ?_ _ | refine blk_drew ?_ | refine blk_alloc ?_ _)); refine blk_far ?_ NB143_147.out _; (with_reducible repeat (first | refine blk_drewN ?_ _ | refine blk_drew ?_ | refine blk_alloc ?_ _)); exact BK143.out) hb) (blk_below (g := gb147) (o := .cells #[.int .i64 t144, .int .i64 t145, .string t146] 24 (0, 0)) (by (with_reducible repeat (first | refine blk_drewN ?_ _ | refine blk_drew ?_ | refine blk_alloc ?_ _)); refine blk_put (cs := #[.int .i64 t144, .int .i64 t145, .string (⟨#[]⟩ : ByteArray)]) ?_ 2 _ rfl; (with_reducible repeat (first | refine blk_drewN ?_ _ | refine blk_drew ?_ | refine blk_alloc ?_ _)); refine blk_put (cs := #[.int .i64 t144, .int .i64 0, .string (⟨#[]⟩ : ByteArray)]) ?_ 1 _ rfl; (with_reducible repeat (first | refine blk_drewN ?_ _ | refine blk_drew ?_ | refine blk_alloc ?_ _)); refine blk_put (cs := #[.int .i64 0, .int .i64 0, .string (⟨#[]⟩ : ByteArray)]) ?_ 0 _ rfl; (with_reducible repeat (first | refine blk_drewN ?_ _ | refine blk_drew ?_ | refine blk_alloc ?_ _)); exact BK147.out) hb) (below_step z19_ hb); clear BK106 BK109 BK114 BK119 BK124 BK129 BK134 BK139 BK143 BK147 HB; obtain ⟨HO150, BK106, BK109, BK114, BK119, BK124, BK129, BK134, BK139, BK143, BK147, HB⟩ := n_; clear hb ho167) | ((with_reducible refine gate_dst (N := 122) rfl ?_); (try (refine gate_guard (by rfl) ?_; dsimp only)); refine Kd.R_lit Kd.string _ 9 ?hg (N := 122) ?hd (xs := ([(⟨#[60, 62]⟩ : ByteArray), (⟨#[62, 61]⟩ : ByteArray), (⟨#[62]⟩ : ByteArray)] : List ByteArray)) (inner := [.string (⟨#[60, 62]⟩ : ByteArray), .string (⟨#[62, 61]⟩ : ByteArray), .string (⟨#[62]⟩ : ByteArray)]) (ok := fun _ => True) (okp := fun _ => True) ?hr ?hp (fun _ hk => hk) trivial (Below.refl _ _) (Nat.le_refl _) (by simp) ?_; (case hd => rfl); (case hg => rfl); (case hr => first | (go_simp; done) | (go_simp; rfl)); (case hp => exact (Reps.one (show Kd.M Kd.string _ _ _ (⟨#[60, 62]⟩ : ByteArray) [.string (⟨#[60, 62]⟩ : ByteArray)] from rfl) (Reps.one (show Kd.M Kd.string _ _ _ (⟨#[62, 61]⟩ : ByteArray) [.string (⟨#[62, 61]⟩ : ByteArray)] from rfl) (Reps.one (show Kd.M Kd.string _ _ _ (⟨#[62]⟩ : ByteArray) [.string (⟨#[62]⟩ : ByteArray)] from rfl) (Reps.none _ _))))); intro v152 w168 ho169 hb hg_ hnew_; clear hg_ hnew_; (first | rw [← Ny151.out] at ho169 | (simp only [Int.reduceToNat] at ho169; rw [← Ny151.out] at ho169)); have n_ := a13_ (Kd.R_elder' z64_ (Kd.R_base ho169) hb) (Kd.R_lower (Kd.R_new' ho169 (Kd.R_lt z64_)) (below_size z19_)) (blk_below (g := gb106) (o := .cells #[.int .i64 ((rd_T24 y101 t104).f0), .int .i64 ((rd_T24 y101 t104).f1), .string ((rd_T24 y101 t104).f2)] 24 (0, 0)) z12_ hb) (blk_below (g := gb109) (o := .cells #[.int .i64 ((rd_T24 y101 t107).f0), .int .i64 ((rd_T24 y101 t107).f1), .string ((rd_T24 y101 t107).f2)] 24 (0, 0)) z13_ hb) (blk_below (g := gb114) (o := .cells #[.int .i64 t110, .int .i64 t111, .string t112] 24 (0, 0)) z14_ hb) (blk_below (g := gb119) (o := .cells #[.int .i64 t115, .int .i64 t116, .string t117] 24 (0, 0)) z15_ hb) (blk_below (g := gb124) (o := .cells #[.int .i64 t120, .int .i64 t121, .string t122] 24 (0, 0)) z17_ hb) (blk_below (g := gb129) (o := .cells #[.int .i64 t125, .int .i64 t126, .string t127] 24 (0, 0)) z20_ hb) (blk_below (g := gb134) (o := .cells #[.int .i64 t130, .int .i64 t131, .string t132] 24 (0, 0)) z21_ hb) (blk_below (g := gb139) (o := .cells #[.int .i64 t135, .int .i64 t136, .string t137] 24 (0, 0)) z25_ hb) (blk_below (g := gb143) (o := .cells #[.int .i64 t140, .int .i64 t141, .string t142] 24 (0, 0)) z26_ hb) (blk_below (g := gb147) (o := .cells #[.int .i64 t144, .int .i64 t145, .string t146] 24 (0, 0)) z31_ hb) (below_step z19_ hb); clear HO150 BK106 BK109 BK114 BK119 BK124 BK129 BK134 BK139 BK143 BK147 HB; obtain ⟨HO150, HO153, BK106, BK109, BK114, BK119, BK124, BK129, BK134, BK139, BK143, BK147, HB⟩ := n_; clear hb ho169) | ((with_reducible refine gate_callee (f := 5) rfl ?_); refine goesL_ (some 124) rfl rfl Try.func5 (by kernel_rfl) rfl #[.slice A1 l1.length c1, .int .i64 1, .int .i64 3] rfl z5_ ?_; (with_reducible refine (laws_at.calls _ _ l1 1 3 t154 _ ?side1 ?side2 A129.out).mono ?_); (case side1 => repeat (first | exact (Kd.C_below HR1.out HB.out) | (with_reducible refine Kd.C_alloc ?_ _) | (with_reducible refine Kd.C_drewN ?_ _) | (with_reducible refine Kd.C_drew ?_))); (case side2 => exact HC1.out); rintro e w' ⟨rfl, ⟨nd, rfl⟩⟩; refine ⟨_, rfl, ?_⟩; (try (rw [drewN_self w168]; generalize hq_ : World.drewN w168 _ = w168; have n0_ : Aside0 (Kd.R Kd.string 9 w168 w.heap.size (fun k_ => some k_ ≠ (v152 : Value).ownBlock) v149 y148) := ⟨by rw [← hq_]; exact (by (with_reducible repeat (first | apply Kd.R_alloc | apply Kd.R_drewN | apply Kd.R_drew)); exact Kd.R_mono HO150.out (fun _ hk => hk.2))⟩; have n1_ : Aside0 (Kd.R Kd.string 9 w168 w.heap.size (fun k_ => some k_ ≠ (v149 : Value).ownBlock) v152 y151) := ⟨by rw [← hq_]; exact (by (with_reducible repeat (first | apply Kd.R_alloc | apply Kd.R_drewN | apply Kd.R_drew)); exact Kd.R_mono HO153.out (fun _ hk => hk.2))⟩; have n2_ : Aside0 (w168.heap[gb106]? = some (.cells #[.int .i64 ((rd_T24 y101 t104).f0), .int .i64 ((rd_T24 y101 t104).f1), .string ((rd_T24 y101 t104).f2)] 24 (0, 0))) := ⟨by rw [← hq_]; exact z12_⟩; have n3_ : Aside0 (w168.heap[gb109]? = some (.cells #[.int .i64 ((rd_T24 y101 t107).f0), .int .i64 ((rd_T24 y101 t107).f1), .string ((rd_T24 y101 t107).f2)] 24 (0, 0))) := ⟨by rw [← hq_]; exact z13_⟩; have n4_ : Aside0 (w168.heap[gb114]? = some (.cells #[.int .i64 t110, .int .i64 t111, .string t112] 24 (0, 0))) := ⟨by rw [← hq_]; exact z14_⟩; have n5_ : Aside0 (w168.heap[gb119]? = some (.cells #[.int .i64 t115, .int .i64 t116, .string t117] 24 (0, 0))) := ⟨by rw [← hq_]; exact z15_⟩; have n6_ : Aside0 (w168.heap[gb124]? = some (.cells #[.int .i64 t120, .int .i64 t121, .string t122] 24 (0, 0))) := ⟨by rw [← hq_]; exact z17_⟩; have n7_ : Aside0 (w168.heap[gb129]? = some (.cells #[.int .i64 t125, .int .i64 t126, .string t127] 24 (0, 0))) := ⟨by rw [← hq_]; exact z20_⟩; have n8_ : Aside0 (w168.heap[gb134]? = some (.cells #[.int .i64 t130, .int .i64 t131, .string t132] 24 (0, 0))) := ⟨by rw [← hq_]; exact z21_⟩; have n9_ : Aside0 (w168.heap[gb139]? = some (.cells #[.int .i64 t135, .int .i64 t136, .string t137] 24 (0, 0))) := ⟨by rw [← hq_]; exact z25_⟩; have n10_ : Aside0 (w168.heap[gb143]? = some (.cells #[.int .i64 t140, .int .i64 t141, .string t142] 24 (0, 0))) := ⟨by rw [← hq_]; exact z26_⟩; have n11_ : Aside0 (w168.heap[gb147]? = some (.cells #[.int .i64 t144, .int .i64 t145, .string t146] 24 (0, 0))) := ⟨by rw [← hq_]; exact z31_⟩; have n12_ : Aside0 (Below w.heap.size w w168) := ⟨by rw [← hq_]; exact z19_⟩; clear HO150 HO153 BK106 BK109 BK114 BK119 BK124 BK129 BK134 BK139 BK143 BK147 HB hq_; have HO150 := n0_; have HO153 := n1_; have BK106 := n2_; have BK109 := n3_; have BK114 := n4_; have BK119 := n5_; have BK124 := n6_; have BK129 := n7_; have BK134 := n8_; have BK139 := n9_; have BK143 := n10_; have BK147 := n11_; have HB := n12_; clear n0_ n1_ n2_ n3_ n4_ n5_ n6_ n7_ n8_ n9_ n10_ n11_ n12_))))
          have n_ := a13_ (Kd.R_drew HO150.out) (Kd.R_drew HO153.out) (blk_drew BK106.out) (blk_drew BK109.out) (blk_drew BK114.out) (blk_drew BK119.out) (blk_drew BK124.out) (blk_drew BK129.out) (blk_drew BK134.out) (blk_drew BK139.out) (blk_drew BK143.out) (blk_drew BK147.out) (below_drew1 HB.out)
          clear HO150 HO153 BK106 BK109 BK114 BK119 BK124 BK129 BK134 BK139 BK143 BK147 HB
          obtain ⟨HO150, HO153, BK106, BK109, BK114, BK119, BK124, BK129, BK134, BK139, BK143, BK147, HB⟩ := n_
          obtain ⟨Ao171, co171, eo171⟩ := Kd.R_slice HO150.out
          (first | subst eo171 | (injection eo171 with f1_ f2_ f3_; have f4_ := f1_.symm; have f5_ := f3_.symm; clear f1_ f2_ f3_; subst f4_; subst f5_))
          have p155 : 0 ≤ (t154 : Int) := of_decide_eq_true z69_
          have q155 : t154 < (y148.length : Int) := of_decide_eq_true z69_
          obtain ⟨ad155, e155, hx155_0⟩ := Kd.at_string (Kd.R_reads' HO150.out).2.2 t154 p155 q155
          cases e155
          replace p155 := eq_true p155
          replace q155 := eq_true q155
          refine start_ (n := 13) (S := fun w' => w'.cell? ⟨gb143, 0, none⟩ = some (.int .i64 t140) ∧ w'.cell? ⟨gb143, 1, none⟩ = some (.int .i64 t141) ∧ w'.cell? ⟨gb143, 2, none⟩ = some (.string t142) ∧ w'.cell? ⟨gb147, 0, none⟩ = some (.int .i64 t144) ∧ w'.cell? ⟨gb147, 1, none⟩ = some (.int .i64 t145) ∧ w'.cell? ⟨gb147, 2, none⟩ = some (.string t146) ∧ w'.cell? (ad155.add (t154).toNat) = some (.string (rdOf ByteArray.empty y148 t154))) (ds := []) #[false, false, false, false, false, false, false, false, false, false, false, false, false] (by kernel_rfl) rfl rfl ⟨(blk_cell BK143.out 0).trans rfl, (blk_cell BK143.out 1).trans rfl, (blk_cell BK143.out 2).trans rfl, (blk_cell BK147.out 0).trans rfl, (blk_cell BK147.out 1).trans rfl, (blk_cell BK147.out 2).trans rfl, hx155_0⟩ (fun hHeld => ?_); refine with_tabW laws_FnThree.tab21 laws_FnThree.bits21 (fun HT_ HW_ => ?_)
          generalize w168.drew = w170 at HO150 HO153 BK106 BK109 BK114 BK119 BK124 BK129 BK134 BK139 BK143 BK147 HB hx155_0 hHeld ⊢
          refine pu_ 0 (N := some 126) #[true, false, false, false, false, false, false, false, false, false, false, false, false] HT_.out (h_ := ?_)
          refine pu_ 1 (N := some 127) #[true, true, false, false, false, false, false, false, false, false, false, false, false] HT_.out (h_ := ?_)
          refine pu_ 2 (N := some 128) #[true, true, true, false, false, false, false, false, false, false, false, false, false] HT_.out (h_ := ?_)
          refine tk_ 3 (N := some 129) #[true, true, true, true, false, false, false, false, false, false, false, false, false] HT_.out HW_.out hHeld (hy := by rintro w' ⟨s0, s1, s2, s3, s4, s5, s6⟩; go_simp; with_reducible rfl) (h_ := ?_)
          refine tk_ 4 (N := some 130) #[true, true, true, true, true, false, false, false, false, false, false, false, false] HT_.out HW_.out hHeld (hy := by rintro w' ⟨s0, s1, s2, s3, s4, s5, s6⟩; go_simp; with_reducible rfl) (h_ := ?_)
          refine tk_ 5 (N := some 131) #[true, true, true, true, true, true, false, false, false, false, false, false, false] HT_.out HW_.out hHeld (hy := by rintro w' ⟨s0, s1, s2, s3, s4, s5, s6⟩; go_simp; with_reducible rfl) (h_ := ?_)
          refine join_ (σ := Nat) 2 #[true, true, true, true, true, true, true, true, true, true, true, false, false] (fun s_ => [(132, .tuple #[.agg #[.int .i64 t156, .int .i64 t157, .string t158], .int .i64 t159]), (25, .pointer (some ⟨s_, 0, none⟩)), (125, .tuple #[.agg #[.int .i64 t156, .int .i64 t157, .string t158], .int .i64 t159]), (133, .agg #[.int .i64 t156, .int .i64 t157, .string t158]), (134, .int .i64 t159)]) (fun s_ w' => (w'.cell? ⟨gb143, 0, none⟩ = some (.int .i64 t140) ∧ w'.cell? ⟨gb143, 1, none⟩ = some (.int .i64 t141) ∧ w'.cell? ⟨gb143, 2, none⟩ = some (.string t142) ∧ w'.cell? ⟨gb147, 0, none⟩ = some (.int .i64 t144) ∧ w'.cell? ⟨gb147, 1, none⟩ = some (.int .i64 t145) ∧ w'.cell? ⟨gb147, 2, none⟩ = some (.string t146) ∧ w'.cell? (ad155.add (t154).toNat) = some (.string (rdOf ByteArray.empty y148 t154))) ∧ (Kd.R Kd.string 9 w' w.heap.size (fun k_ => some k_ ≠ (v152 : Value).ownBlock) (.slice (some ad155) y148.length co171) y148) ∧ (Kd.R Kd.string 9 w' w.heap.size (fun k_ => some k_ ≠ (.slice (some ad155) y148.length co171 : Value).ownBlock) v152 y151) ∧ (w'.heap[gb106]? = some (.cells #[.int .i64 ((rd_T24 y101 t104).f0), .int .i64 ((rd_T24 y101 t104).f1), .string ((rd_T24 y101 t104).f2)] 24 (0, 0))) ∧ (w'.heap[gb109]? = some (.cells #[.int .i64 ((rd_T24 y101 t107).f0), .int .i64 ((rd_T24 y101 t107).f1), .string ((rd_T24 y101 t107).f2)] 24 (0, 0))) ∧ (w'.heap[gb114]? = some (.cells #[.int .i64 t110, .int .i64 t111, .string t112] 24 (0, 0))) ∧ (w'.heap[gb119]? = some (.cells #[.int .i64 t115, .int .i64 t116, .string t117] 24 (0, 0))) ∧ (w'.heap[gb124]? = some (.cells #[.int .i64 t120, .int .i64 t121, .string t122] 24 (0, 0))) ∧ (w'.heap[gb129]? = some (.cells #[.int .i64 t125, .int .i64 t126, .string t127] 24 (0, 0))) ∧ (w'.heap[gb134]? = some (.cells #[.int .i64 t130, .int .i64 t131, .string t132] 24 (0, 0))) ∧ (w'.heap[gb139]? = some (.cells #[.int .i64 t135, .int .i64 t136, .string t137] 24 (0, 0))) ∧ (w'.heap[gb143]? = some (.cells #[.int .i64 t140, .int .i64 t141, .string t142] 24 (0, 0))) ∧ (w'.heap[gb147]? = some (.cells #[.int .i64 t144, .int .i64 t145, .string t146] 24 (0, 0))) ∧ (w'.heap[s_]? = some (.cells #[.int .i64 0, .int .i64 0, .string (⟨#[]⟩ : ByteArray)] 24 (0, 0))) ∧ (w.heap.size ≤ s_) ∧ (w.heap.size ≤ s_) ∧ (gb106 ≠ s_) ∧ (s_ ≠ gb106) ∧ (gb109 ≠ s_) ∧ (s_ ≠ gb109) ∧ (gb114 ≠ s_) ∧ (s_ ≠ gb114) ∧ (gb119 ≠ s_) ∧ (s_ ≠ gb119) ∧ (gb124 ≠ s_) ∧ (s_ ≠ gb124) ∧ (gb129 ≠ s_) ∧ (s_ ≠ gb129) ∧ (gb134 ≠ s_) ∧ (s_ ≠ gb134) ∧ (gb139 ≠ s_) ∧ (s_ ≠ gb139) ∧ (gb143 ≠ s_) ∧ (s_ ≠ gb143) ∧ (gb147 ≠ s_) ∧ (s_ ≠ gb147) ∧ (Below w.heap.size w w')) ?_ ?_
          rotate_left
          · intro hCont
            refine two_ (i := 6) (j := 10) (Ni := some 132) (Nj := some 25) #[true, true, true, true, true, true, true, false, false, false, false, false, false] #[true, true, true, true, true, true, false, false, false, false, true, false, false] rfl rfl rfl rfl (two_of HT_.out (by kernel_rfl)) (by decide) (by decide) (fun K hK => ?_) (fun K hK => ?_)
            rotate_left
            · skip
              refine box_step ?hg (N := 25) ?hd (cs := #[.int .i64 0, .int .i64 0, .string (⟨#[]⟩ : ByteArray)]) (t := 24) ?hr ?_; (case hd => rfl); (case hg => rfl); (case hr => first | (go_simp; done) | (go_simp; rfl))
              intro gb160 hg w172 hbox hb
              have HS6_ := (hb.cell (World.block_lt_of_cell? _ _ (hHeld.2.2.2.2.2.2))).trans (hHeld.2.2.2.2.2.2)
              have n0_ := ak_ (Kd.R_below z64_ hb)
              have n1_ := ak_ (Kd.R_below z71_ hb)
              have n2_ := ak_ (blk_below (g := gb106) (o := .cells #[.int .i64 ((rd_T24 y101 t104).f0), .int .i64 ((rd_T24 y101 t104).f1), .string ((rd_T24 y101 t104).f2)] 24 (0, 0)) z12_ hb)
              have n3_ := ak_ (blk_below (g := gb109) (o := .cells #[.int .i64 ((rd_T24 y101 t107).f0), .int .i64 ((rd_T24 y101 t107).f1), .string ((rd_T24 y101 t107).f2)] 24 (0, 0)) z13_ hb)
              have n4_ := ak_ (blk_below (g := gb114) (o := .cells #[.int .i64 t110, .int .i64 t111, .string t112] 24 (0, 0)) z14_ hb)
              have n5_ := ak_ (blk_below (g := gb119) (o := .cells #[.int .i64 t115, .int .i64 t116, .string t117] 24 (0, 0)) z15_ hb)
              have n6_ := ak_ (blk_below (g := gb124) (o := .cells #[.int .i64 t120, .int .i64 t121, .string t122] 24 (0, 0)) z17_ hb)
              have n7_ := ak_ (blk_below (g := gb129) (o := .cells #[.int .i64 t125, .int .i64 t126, .string t127] 24 (0, 0)) z20_ hb)
              have n8_ := ak_ (blk_below (g := gb134) (o := .cells #[.int .i64 t130, .int .i64 t131, .string t132] 24 (0, 0)) z21_ hb)
              have n9_ := ak_ (blk_below (g := gb139) (o := .cells #[.int .i64 t135, .int .i64 t136, .string t137] 24 (0, 0)) z25_ hb)
              have n10_ := ak_ (blk_below (g := gb143) (o := .cells #[.int .i64 t140, .int .i64 t141, .string t142] 24 (0, 0)) z26_ hb)
              have n11_ := ak_ (blk_below (g := gb147) (o := .cells #[.int .i64 t144, .int .i64 t145, .string t146] 24 (0, 0)) z31_ hb)
              have n12_ := ak_ (below_step z19_ hb)
              have n13_ := ak_ (hbox)
              have n14_ := ak_ ((gs_ w hg (below_size z19_)))
              have n15_ := ak_ ((gs_ w hg (below_size z19_)))
              have n16_ := ak_ ((z33_ : gb106 ≠ gb160))
              have n17_ := ak_ ((z34_ : gb160 ≠ gb106))
              have n18_ := ak_ ((z35_ : gb109 ≠ gb160))
              have n19_ := ak_ ((z36_ : gb160 ≠ gb109))
              have n20_ := ak_ ((z49_ : gb114 ≠ gb160))
              have n21_ := ak_ ((z50_ : gb160 ≠ gb114))
              have n22_ := ak_ ((z52_ : gb119 ≠ gb160))
              have n23_ := ak_ ((z53_ : gb160 ≠ gb119))
              have n24_ := ak_ ((z57_ : gb124 ≠ gb160))
              have n25_ := ak_ ((z58_ : gb160 ≠ gb124))
              have n26_ := ak_ ((z62_ : gb129 ≠ gb160))
              have n27_ := ak_ ((z63_ : gb160 ≠ gb129))
              have n28_ := ak_ ((z67_ : gb134 ≠ gb160))
              have n29_ := ak_ ((z68_ : gb160 ≠ gb134))
              have n30_ := ak_ ((z72_ : gb139 ≠ gb160))
              have n31_ := ak_ ((z73_ : gb160 ≠ gb139))
              have n32_ := ak_ ((z79_ : gb143 ≠ gb160))
              have n33_ := ak_ ((z80_ : gb160 ≠ gb143))
              have n34_ := ak_ ((z87_ : gb147 ≠ gb160))
              have n35_ := ak_ ((z88_ : gb160 ≠ gb147))
              clear HO150
              clear HO153
              clear BK106
              clear BK109
              clear BK114
              clear BK119
              clear BK124
              clear BK129
              clear BK134
              clear BK139
              clear BK143
              clear BK147
              clear HB
              have HO150 := n0_
              have HO153 := n1_
              have BK106 := n2_
              have BK109 := n3_
              have BK114 := n4_
              have BK119 := n5_
              have BK124 := n6_
              have BK129 := n7_
              have BK134 := n8_
              have BK139 := n9_
              have BK143 := n10_
              have BK147 := n11_
              have HB := n12_
              have BK160 := n13_
              have GW160 := n14_
              have GE160 := n15_
              have NB106_160 := n16_
              have NB160_106 := n17_
              have NB109_160 := n18_
              have NB160_109 := n19_
              have NB114_160 := n20_
              have NB160_114 := n21_
              have NB119_160 := n22_
              have NB160_119 := n23_
              have NB124_160 := n24_
              have NB160_124 := n25_
              have NB129_160 := n26_
              have NB160_129 := n27_
              have NB134_160 := n28_
              have NB160_134 := n29_
              have NB139_160 := n30_
              have NB160_139 := n31_
              have NB143_160 := n32_
              have NB160_143 := n33_
              have NB147_160 := n34_
              have NB160_147 := n35_
              clear n0_ n1_ n2_ n3_ n4_ n5_ n6_ n7_ n8_ n9_ n10_ n11_ n12_ n13_ n14_ n15_ n16_ n17_ n18_ n19_ n20_ n21_ n22_ n23_ n24_ n25_ n26_ n27_ n28_ n29_ n30_ n31_ n32_ n33_ n34_ n35_
              clear hb hbox hg
              refine hK.out _ _ ⟨(blk_cell BK143.out 0).trans rfl, (blk_cell BK143.out 1).trans rfl, (blk_cell BK143.out 2).trans rfl, (blk_cell BK147.out 0).trans rfl, (blk_cell BK147.out 1).trans rfl, (blk_cell BK147.out 2).trans rfl, HS6_⟩ (fun hHeld => ?_)
              clear hK K
              refine norm_ (a' := ?_) ?_ ?_
              rotate_left
              · show Act.put _ (some 25) _ = _
                simp only [Act.put, List.setIfInBounds_toArray, List.set_cons_zero, List.set_cons_succ, i64_w, i32_w]
                rfl
              refine one_ (i := 6) (N := some 132) #[true, true, true, true, true, true, true, false, false, false, true, false, false] rfl rfl (one_of HT_.out (by kernel_rfl)) (by decide) (fun K hK => ?_)
              refine goes_ Try.func6 (by kernel_rfl) rfl #[.string (rdOf ByteArray.empty y148 t154), .agg #[.int .i64 t140, .int .i64 t141, .string t142], .agg #[.int .i64 t144, .int .i64 t145, .string t146]] (by rfl) rfl rfl z5_ ?_
              with_reducible refine (impl_BinaryValue.calls kj17 (rdOf ByteArray.empty y148 t154) t140 t141 t142 t144 t145 t146 t156 t157 t158 t159 _ A132.out).mono ?_
              rintro e w173 ⟨rfl, hb⟩
              have HS6_ := (hb.cell (World.block_lt_of_cell? _ _ (hHeld.2.2.2.2.2.2))).trans (hHeld.2.2.2.2.2.2)
              refine ⟨_, rfl, ?_⟩
              have n_ := a14_ (Kd.R_below z64_ hb) (Kd.R_below z71_ hb) (blk_below (g := gb106) (o := .cells #[.int .i64 ((rd_T24 y101 t104).f0), .int .i64 ((rd_T24 y101 t104).f1), .string ((rd_T24 y101 t104).f2)] 24 (0, 0)) z12_ hb) (blk_below (g := gb109) (o := .cells #[.int .i64 ((rd_T24 y101 t107).f0), .int .i64 ((rd_T24 y101 t107).f1), .string ((rd_T24 y101 t107).f2)] 24 (0, 0)) z13_ hb) (blk_below (g := gb114) (o := .cells #[.int .i64 t110, .int .i64 t111, .string t112] 24 (0, 0)) z14_ hb) (blk_below (g := gb119) (o := .cells #[.int .i64 t115, .int .i64 t116, .string t117] 24 (0, 0)) z15_ hb) (blk_below (g := gb124) (o := .cells #[.int .i64 t120, .int .i64 t121, .string t122] 24 (0, 0)) z17_ hb) (blk_below (g := gb129) (o := .cells #[.int .i64 t125, .int .i64 t126, .string t127] 24 (0, 0)) z20_ hb) (blk_below (g := gb134) (o := .cells #[.int .i64 t130, .int .i64 t131, .string t132] 24 (0, 0)) z21_ hb) (blk_below (g := gb139) (o := .cells #[.int .i64 t135, .int .i64 t136, .string t137] 24 (0, 0)) z25_ hb) (blk_below (g := gb143) (o := .cells #[.int .i64 t140, .int .i64 t141, .string t142] 24 (0, 0)) z26_ hb) (blk_below (g := gb147) (o := .cells #[.int .i64 t144, .int .i64 t145, .string t146] 24 (0, 0)) z31_ hb) (blk_below (g := gb160) (o := .cells #[.int .i64 0, .int .i64 0, .string (⟨#[]⟩ : ByteArray)] 24 (0, 0)) z46_ hb) (below_step z24_ hb)
              clear HO150 HO153 BK106 BK109 BK114 BK119 BK124 BK129 BK134 BK139 BK143 BK147 BK160 HB
              obtain ⟨HO150, HO153, BK106, BK109, BK114, BK119, BK124, BK129, BK134, BK139, BK143, BK147, BK160, HB⟩ := n_
              (try clear hb)
              (try clear hb2)
              (try clear hk)
              (try clear hi)
              refine hK.out _ _ ⟨(blk_cell BK143.out 0).trans rfl, (blk_cell BK143.out 1).trans rfl, (blk_cell BK143.out 2).trans rfl, (blk_cell BK147.out 0).trans rfl, (blk_cell BK147.out 1).trans rfl, (blk_cell BK147.out 2).trans rfl, HS6_⟩ (fun hHeld => ?_)
              clear hK K
              refine norm_ (a' := ?_) ?_ ?_
              rotate_left
              · show Act.put _ (some 132) _ = _
                simp only [Act.put, List.setIfInBounds_toArray, List.set_cons_zero, List.set_cons_succ, i64_w, i32_w]
                rfl
              refine pu_ 7 (N := some 125) #[true, true, true, true, true, true, true, true, false, false, true, false, false] HT_.out (h_ := ?_)
              refine pu_ 8 (N := some 133) #[true, true, true, true, true, true, true, true, true, false, true, false, false] HT_.out (h_ := ?_)
              refine pu_ 9 (N := some 134) #[true, true, true, true, true, true, true, true, true, true, true, false, false] HT_.out (h_ := ?_)
              exact norm_ z107_ (hCont (gb160) _ ⟨hHeld, (by (with_reducible repeat (first | apply Kd.R_alloc | apply Kd.R_drewN | apply Kd.R_drew)); exact Kd.R_mono HO150.out z108_), (by (with_reducible repeat (first | apply Kd.R_alloc | apply Kd.R_drewN | apply Kd.R_drew)); exact Kd.R_mono HO153.out z108_), z12_, z13_, z14_, z15_, z17_, z20_, z21_, z25_, z26_, z31_, z46_, GW160.out, GE160.out, NB106_160.out, NB160_106.out, NB109_160.out, NB160_109.out, NB114_160.out, NB160_114.out, NB119_160.out, NB160_119.out, NB124_160.out, NB160_124.out, NB129_160.out, NB160_129.out, NB134_160.out, NB160_134.out, NB139_160.out, NB160_139.out, NB143_160.out, NB160_143.out, NB147_160.out, NB160_147.out, z24_⟩)
            skip
            refine goes_ Try.func6 (by kernel_rfl) rfl #[.string (rdOf ByteArray.empty y148 t154), .agg #[.int .i64 t140, .int .i64 t141, .string t142], .agg #[.int .i64 t144, .int .i64 t145, .string t146]] (by rfl) rfl rfl z5_ ?_
            with_reducible refine (impl_BinaryValue.calls kj17 (rdOf ByteArray.empty y148 t154) t140 t141 t142 t144 t145 t146 t156 t157 t158 t159 _ A132.out).mono ?_
            rintro e w172 ⟨rfl, hb⟩
            have HS6_ := (hb.cell (World.block_lt_of_cell? _ _ (hHeld.2.2.2.2.2.2))).trans (hHeld.2.2.2.2.2.2)
            refine ⟨_, rfl, ?_⟩
            have n_ := a13_ (Kd.R_below z64_ hb) (Kd.R_below z71_ hb) (blk_below (g := gb106) (o := .cells #[.int .i64 ((rd_T24 y101 t104).f0), .int .i64 ((rd_T24 y101 t104).f1), .string ((rd_T24 y101 t104).f2)] 24 (0, 0)) z12_ hb) (blk_below (g := gb109) (o := .cells #[.int .i64 ((rd_T24 y101 t107).f0), .int .i64 ((rd_T24 y101 t107).f1), .string ((rd_T24 y101 t107).f2)] 24 (0, 0)) z13_ hb) (blk_below (g := gb114) (o := .cells #[.int .i64 t110, .int .i64 t111, .string t112] 24 (0, 0)) z14_ hb) (blk_below (g := gb119) (o := .cells #[.int .i64 t115, .int .i64 t116, .string t117] 24 (0, 0)) z15_ hb) (blk_below (g := gb124) (o := .cells #[.int .i64 t120, .int .i64 t121, .string t122] 24 (0, 0)) z17_ hb) (blk_below (g := gb129) (o := .cells #[.int .i64 t125, .int .i64 t126, .string t127] 24 (0, 0)) z20_ hb) (blk_below (g := gb134) (o := .cells #[.int .i64 t130, .int .i64 t131, .string t132] 24 (0, 0)) z21_ hb) (blk_below (g := gb139) (o := .cells #[.int .i64 t135, .int .i64 t136, .string t137] 24 (0, 0)) z25_ hb) (blk_below (g := gb143) (o := .cells #[.int .i64 t140, .int .i64 t141, .string t142] 24 (0, 0)) z26_ hb) (blk_below (g := gb147) (o := .cells #[.int .i64 t144, .int .i64 t145, .string t146] 24 (0, 0)) z31_ hb) (below_step z19_ hb)
            clear HO150 HO153 BK106 BK109 BK114 BK119 BK124 BK129 BK134 BK139 BK143 BK147 HB
            obtain ⟨HO150, HO153, BK106, BK109, BK114, BK119, BK124, BK129, BK134, BK139, BK143, BK147, HB⟩ := n_
            (try clear hb)
            (try clear hb2)
            (try clear hk)
            (try clear hi)
            refine hK.out _ _ ⟨(blk_cell BK143.out 0).trans rfl, (blk_cell BK143.out 1).trans rfl, (blk_cell BK143.out 2).trans rfl, (blk_cell BK147.out 0).trans rfl, (blk_cell BK147.out 1).trans rfl, (blk_cell BK147.out 2).trans rfl, HS6_⟩ (fun hHeld => ?_)
            clear hK K
            refine norm_ (a' := ?_) ?_ ?_
            rotate_left
            · show Act.put _ (some 132) _ = _
              simp only [Act.put, List.setIfInBounds_toArray, List.set_cons_zero, List.set_cons_succ, i64_w, i32_w]
              rfl
            refine pu_ 7 (N := some 125) #[true, true, true, true, true, true, true, true, false, false, false, false, false] HT_.out (h_ := ?_)
            refine pu_ 8 (N := some 133) #[true, true, true, true, true, true, true, true, true, false, false, false, false] HT_.out (h_ := ?_)
            refine pu_ 9 (N := some 134) #[true, true, true, true, true, true, true, true, true, true, false, false, false] HT_.out (h_ := ?_)
            refine one_ (i := 10) (N := some 25) #[true, true, true, true, true, true, true, true, true, true, true, false, false] rfl rfl (one_of HT_.out (by kernel_rfl)) (by decide) (fun K hK => ?_)
            refine box_step ?hg (N := 25) ?hd (cs := #[.int .i64 0, .int .i64 0, .string (⟨#[]⟩ : ByteArray)]) (t := 24) ?hr ?_; (case hd => rfl); (case hg => rfl); (case hr => first | (go_simp; done) | (go_simp; rfl))
            intro gb160 hg w173 hbox hb
            have HS6_ := (hb.cell (World.block_lt_of_cell? _ _ (hHeld.2.2.2.2.2.2))).trans (hHeld.2.2.2.2.2.2)
            have n0_ := ak_ (Kd.R_below z64_ hb)
            have n1_ := ak_ (Kd.R_below z71_ hb)
            have n2_ := ak_ (blk_below (g := gb106) (o := .cells #[.int .i64 ((rd_T24 y101 t104).f0), .int .i64 ((rd_T24 y101 t104).f1), .string ((rd_T24 y101 t104).f2)] 24 (0, 0)) z12_ hb)
            have n3_ := ak_ (blk_below (g := gb109) (o := .cells #[.int .i64 ((rd_T24 y101 t107).f0), .int .i64 ((rd_T24 y101 t107).f1), .string ((rd_T24 y101 t107).f2)] 24 (0, 0)) z13_ hb)
            have n4_ := ak_ (blk_below (g := gb114) (o := .cells #[.int .i64 t110, .int .i64 t111, .string t112] 24 (0, 0)) z14_ hb)
            have n5_ := ak_ (blk_below (g := gb119) (o := .cells #[.int .i64 t115, .int .i64 t116, .string t117] 24 (0, 0)) z15_ hb)
            have n6_ := ak_ (blk_below (g := gb124) (o := .cells #[.int .i64 t120, .int .i64 t121, .string t122] 24 (0, 0)) z17_ hb)
            have n7_ := ak_ (blk_below (g := gb129) (o := .cells #[.int .i64 t125, .int .i64 t126, .string t127] 24 (0, 0)) z20_ hb)
            have n8_ := ak_ (blk_below (g := gb134) (o := .cells #[.int .i64 t130, .int .i64 t131, .string t132] 24 (0, 0)) z21_ hb)
            have n9_ := ak_ (blk_below (g := gb139) (o := .cells #[.int .i64 t135, .int .i64 t136, .string t137] 24 (0, 0)) z25_ hb)
            have n10_ := ak_ (blk_below (g := gb143) (o := .cells #[.int .i64 t140, .int .i64 t141, .string t142] 24 (0, 0)) z26_ hb)
            have n11_ := ak_ (blk_below (g := gb147) (o := .cells #[.int .i64 t144, .int .i64 t145, .string t146] 24 (0, 0)) z31_ hb)
            have n12_ := ak_ (below_step z19_ hb)
            have n13_ := ak_ (hbox)
            have n14_ := ak_ ((gs_ w hg (below_size z19_)))
            have n15_ := ak_ ((gs_ w hg (below_size z19_)))
            have n16_ := ak_ ((z33_ : gb106 ≠ gb160))
            have n17_ := ak_ ((z34_ : gb160 ≠ gb106))
            have n18_ := ak_ ((z35_ : gb109 ≠ gb160))
            have n19_ := ak_ ((z36_ : gb160 ≠ gb109))
            have n20_ := ak_ ((z49_ : gb114 ≠ gb160))
            have n21_ := ak_ ((z50_ : gb160 ≠ gb114))
            have n22_ := ak_ ((z52_ : gb119 ≠ gb160))
            have n23_ := ak_ ((z53_ : gb160 ≠ gb119))
            have n24_ := ak_ ((z57_ : gb124 ≠ gb160))
            have n25_ := ak_ ((z58_ : gb160 ≠ gb124))
            have n26_ := ak_ ((z62_ : gb129 ≠ gb160))
            have n27_ := ak_ ((z63_ : gb160 ≠ gb129))
            have n28_ := ak_ ((z67_ : gb134 ≠ gb160))
            have n29_ := ak_ ((z68_ : gb160 ≠ gb134))
            have n30_ := ak_ ((z72_ : gb139 ≠ gb160))
            have n31_ := ak_ ((z73_ : gb160 ≠ gb139))
            have n32_ := ak_ ((z79_ : gb143 ≠ gb160))
            have n33_ := ak_ ((z80_ : gb160 ≠ gb143))
            have n34_ := ak_ ((z87_ : gb147 ≠ gb160))
            have n35_ := ak_ ((z88_ : gb160 ≠ gb147))
            clear HO150
            clear HO153
            clear BK106
            clear BK109
            clear BK114
            clear BK119
            clear BK124
            clear BK129
            clear BK134
            clear BK139
            clear BK143
            clear BK147
            clear HB
            have HO150 := n0_
            have HO153 := n1_
            have BK106 := n2_
            have BK109 := n3_
            have BK114 := n4_
            have BK119 := n5_
            have BK124 := n6_
            have BK129 := n7_
            have BK134 := n8_
            have BK139 := n9_
            have BK143 := n10_
            have BK147 := n11_
            have HB := n12_
            have BK160 := n13_
            have GW160 := n14_
            have GE160 := n15_
            have NB106_160 := n16_
            have NB160_106 := n17_
            have NB109_160 := n18_
            have NB160_109 := n19_
            have NB114_160 := n20_
            have NB160_114 := n21_
            have NB119_160 := n22_
            have NB160_119 := n23_
            have NB124_160 := n24_
            have NB160_124 := n25_
            have NB129_160 := n26_
            have NB160_129 := n27_
            have NB134_160 := n28_
            have NB160_134 := n29_
            have NB139_160 := n30_
            have NB160_139 := n31_
            have NB143_160 := n32_
            have NB160_143 := n33_
            have NB147_160 := n34_
            have NB160_147 := n35_
            clear n0_ n1_ n2_ n3_ n4_ n5_ n6_ n7_ n8_ n9_ n10_ n11_ n12_ n13_ n14_ n15_ n16_ n17_ n18_ n19_ n20_ n21_ n22_ n23_ n24_ n25_ n26_ n27_ n28_ n29_ n30_ n31_ n32_ n33_ n34_ n35_
            clear hb hbox hg
            refine hK.out _ _ ⟨(blk_cell BK143.out 0).trans rfl, (blk_cell BK143.out 1).trans rfl, (blk_cell BK143.out 2).trans rfl, (blk_cell BK147.out 0).trans rfl, (blk_cell BK147.out 1).trans rfl, (blk_cell BK147.out 2).trans rfl, HS6_⟩ (fun hHeld => ?_)
            clear hK K
            refine norm_ (a' := ?_) ?_ ?_
            rotate_left
            · show Act.put _ (some 25) _ = _
              simp only [Act.put, List.setIfInBounds_toArray, List.set_cons_zero, List.set_cons_succ, i64_w, i32_w]
              rfl
            exact norm_ z107_ (hCont (gb160) _ ⟨hHeld, (by (with_reducible repeat (first | apply Kd.R_alloc | apply Kd.R_drewN | apply Kd.R_drew)); exact Kd.R_mono HO150.out z108_), (by (with_reducible repeat (first | apply Kd.R_alloc | apply Kd.R_drewN | apply Kd.R_drew)); exact Kd.R_mono HO153.out z108_), z12_, z13_, z14_, z15_, z17_, z20_, z21_, z25_, z26_, z31_, z46_, GW160.out, GE160.out, NB106_160.out, NB160_106.out, NB109_160.out, NB160_109.out, NB114_160.out, NB160_114.out, NB119_160.out, NB160_119.out, NB124_160.out, NB160_124.out, NB129_160.out, NB160_129.out, NB134_160.out, NB160_134.out, NB139_160.out, NB160_139.out, NB143_160.out, NB160_143.out, NB147_160.out, NB160_147.out, z24_⟩)
          rintro gb160 w174 ⟨hS_, h0_, h1_, h2_, h3_, h4_, h5_, h6_, h7_, h8_, h9_, h10_, h11_, h12_, h13_, h14_, h15_, h16_, h17_, h18_, h19_, h20_, h21_, h22_, h23_, h24_, h25_, h26_, h27_, h28_, h29_, h30_, h31_, h32_, h33_, h34_, h35_⟩
          have n0_ : Aside0 (Kd.R Kd.string 9 w174 w.heap.size (fun k_ => some k_ ≠ (v152 : Value).ownBlock) (.slice (some ad155) y148.length co171) y148) := ⟨h0_⟩
          have n1_ : Aside0 (Kd.R Kd.string 9 w174 w.heap.size (fun k_ => some k_ ≠ (.slice (some ad155) y148.length co171 : Value).ownBlock) v152 y151) := ⟨h1_⟩
          have n2_ : Aside0 (w174.heap[gb106]? = some (.cells #[.int .i64 ((rd_T24 y101 t104).f0), .int .i64 ((rd_T24 y101 t104).f1), .string ((rd_T24 y101 t104).f2)] 24 (0, 0))) := ⟨h2_⟩
          have n3_ : Aside0 (w174.heap[gb109]? = some (.cells #[.int .i64 ((rd_T24 y101 t107).f0), .int .i64 ((rd_T24 y101 t107).f1), .string ((rd_T24 y101 t107).f2)] 24 (0, 0))) := ⟨h3_⟩
          have n4_ : Aside0 (w174.heap[gb114]? = some (.cells #[.int .i64 t110, .int .i64 t111, .string t112] 24 (0, 0))) := ⟨h4_⟩
          have n5_ : Aside0 (w174.heap[gb119]? = some (.cells #[.int .i64 t115, .int .i64 t116, .string t117] 24 (0, 0))) := ⟨h5_⟩
          have n6_ : Aside0 (w174.heap[gb124]? = some (.cells #[.int .i64 t120, .int .i64 t121, .string t122] 24 (0, 0))) := ⟨h6_⟩
          have n7_ : Aside0 (w174.heap[gb129]? = some (.cells #[.int .i64 t125, .int .i64 t126, .string t127] 24 (0, 0))) := ⟨h7_⟩
          have n8_ : Aside0 (w174.heap[gb134]? = some (.cells #[.int .i64 t130, .int .i64 t131, .string t132] 24 (0, 0))) := ⟨h8_⟩
          have n9_ : Aside0 (w174.heap[gb139]? = some (.cells #[.int .i64 t135, .int .i64 t136, .string t137] 24 (0, 0))) := ⟨h9_⟩
          have n10_ : Aside0 (w174.heap[gb143]? = some (.cells #[.int .i64 t140, .int .i64 t141, .string t142] 24 (0, 0))) := ⟨h10_⟩
          have n11_ : Aside0 (w174.heap[gb147]? = some (.cells #[.int .i64 t144, .int .i64 t145, .string t146] 24 (0, 0))) := ⟨h11_⟩
          have n12_ : Aside0 (w174.heap[gb160]? = some (.cells #[.int .i64 0, .int .i64 0, .string (⟨#[]⟩ : ByteArray)] 24 (0, 0))) := ⟨h12_⟩
          have n13_ : Aside0 (w.heap.size ≤ gb160) := ⟨h13_⟩
          have n14_ : Aside0 (w.heap.size ≤ gb160) := ⟨h14_⟩
          have n15_ : Aside0 (gb106 ≠ gb160) := ⟨h15_⟩
          have n16_ : Aside0 (gb160 ≠ gb106) := ⟨h16_⟩
          have n17_ : Aside0 (gb109 ≠ gb160) := ⟨h17_⟩
          have n18_ : Aside0 (gb160 ≠ gb109) := ⟨h18_⟩
          have n19_ : Aside0 (gb114 ≠ gb160) := ⟨h19_⟩
          have n20_ : Aside0 (gb160 ≠ gb114) := ⟨h20_⟩
          have n21_ : Aside0 (gb119 ≠ gb160) := ⟨h21_⟩
          have n22_ : Aside0 (gb160 ≠ gb119) := ⟨h22_⟩
          have n23_ : Aside0 (gb124 ≠ gb160) := ⟨h23_⟩
          have n24_ : Aside0 (gb160 ≠ gb124) := ⟨h24_⟩
          have n25_ : Aside0 (gb129 ≠ gb160) := ⟨h25_⟩
          have n26_ : Aside0 (gb160 ≠ gb129) := ⟨h26_⟩
          have n27_ : Aside0 (gb134 ≠ gb160) := ⟨h27_⟩
          have n28_ : Aside0 (gb160 ≠ gb134) := ⟨h28_⟩
          have n29_ : Aside0 (gb139 ≠ gb160) := ⟨h29_⟩
          have n30_ : Aside0 (gb160 ≠ gb139) := ⟨h30_⟩
          have n31_ : Aside0 (gb143 ≠ gb160) := ⟨h31_⟩
          have n32_ : Aside0 (gb160 ≠ gb143) := ⟨h32_⟩
          have n33_ : Aside0 (gb147 ≠ gb160) := ⟨h33_⟩
          have n34_ : Aside0 (gb160 ≠ gb147) := ⟨h34_⟩
          have n35_ : Aside0 (Below w.heap.size w w174) := ⟨h35_⟩
          clear HO150
          clear HO153
          clear BK106
          clear BK109
          clear BK114
          clear BK119
          clear BK124
          clear BK129
          clear BK134
          clear BK139
          clear BK143
          clear BK147
          clear HB
          clear h0_ h1_ h2_ h3_ h4_ h5_ h6_ h7_ h8_ h9_ h10_ h11_ h12_ h13_ h14_ h15_ h16_ h17_ h18_ h19_ h20_ h21_ h22_ h23_ h24_ h25_ h26_ h27_ h28_ h29_ h30_ h31_ h32_ h33_ h34_ h35_
          have HO150 := n0_
          have HO153 := n1_
          have BK106 := n2_
          have BK109 := n3_
          have BK114 := n4_
          have BK119 := n5_
          have BK124 := n6_
          have BK129 := n7_
          have BK134 := n8_
          have BK139 := n9_
          have BK143 := n10_
          have BK147 := n11_
          have BK160 := n12_
          have GW160 := n13_
          have GE160 := n14_
          have NB106_160 := n15_
          have NB160_106 := n16_
          have NB109_160 := n17_
          have NB160_109 := n18_
          have NB114_160 := n19_
          have NB160_114 := n20_
          have NB119_160 := n21_
          have NB160_119 := n22_
          have NB124_160 := n23_
          have NB160_124 := n24_
          have NB129_160 := n25_
          have NB160_129 := n26_
          have NB134_160 := n27_
          have NB160_134 := n28_
          have NB139_160 := n29_
          have NB160_139 := n30_
          have NB143_160 := n31_
          have NB160_143 := n32_
          have NB147_160 := n33_
          have NB160_147 := n34_
          have HB := n35_
          clear n0_ n1_ n2_ n3_ n4_ n5_ n6_ n7_ n8_ n9_ n10_ n11_ n12_ n13_ n14_ n15_ n16_ n17_ n18_ n19_ n20_ n21_ n22_ n23_ n24_ n25_ n26_ n27_ n28_ n29_ n30_ n31_ n32_ n33_ n34_ n35_
          have hHeld : w174.cell? ⟨gb143, 0, none⟩ = some (.int .i64 t140) ∧ w174.cell? ⟨gb143, 1, none⟩ = some (.int .i64 t141) ∧ w174.cell? ⟨gb143, 2, none⟩ = some (.string t142) ∧ w174.cell? ⟨gb147, 0, none⟩ = some (.int .i64 t144) ∧ w174.cell? ⟨gb147, 1, none⟩ = some (.int .i64 t145) ∧ w174.cell? ⟨gb147, 2, none⟩ = some (.string t146) ∧ w174.cell? (ad155.add (t154).toNat) = some (.string (rdOf ByteArray.empty y148 t154)) := hS_
          refine norm_ (a' := ?_) ?_ ?_
          rotate_left
          · simp only [putAll, Act.put, List.setIfInBounds_toArray, List.set_cons_zero, List.set_cons_succ]
            rfl
          refine one_ (i := 11) (N := none) #[true, true, true, true, true, true, true, true, true, true, true, true, false] rfl rfl (one_of HT_.out (by kernel_rfl)) (by decide) (fun K hK => ?_)
          have hs175 : w174.cell? ⟨gb160, 0, none⟩ = some (.int .i64 0) := (blk_cell BK160.out 0).trans rfl
          have hfs175 := blk_frozen BK160.out 0
          have hns175_0 := NB106_160.out
          have hns175_1 := NB109_160.out
          have hns175_2 := NB114_160.out
          have hns175_3 := NB119_160.out
          have hns175_4 := NB124_160.out
          have hns175_5 := NB129_160.out
          have hns175_6 := NB134_160.out
          have hns175_7 := NB139_160.out
          have hns175_8 := NB143_160.out
          have hns175_9 := NB147_160.out
          have hms175_0 := NB160_106.out
          have hms175_1 := NB160_109.out
          have hms175_2 := NB160_114.out
          have hms175_3 := NB160_119.out
          have hms175_4 := NB160_124.out
          have hms175_5 := NB160_129.out
          have hms175_6 := NB160_134.out
          have hms175_7 := NB160_139.out
          have hms175_8 := NB160_143.out
          have hms175_9 := NB160_147.out
          have hs176 : w174.cell? ⟨gb160, 1, none⟩ = some (.int .i64 0) := (blk_cell BK160.out 1).trans rfl
          have hfs176 := blk_frozen BK160.out 1
          have hns176_0 := NB106_160.out
          have hns176_1 := NB109_160.out
          have hns176_2 := NB114_160.out
          have hns176_3 := NB119_160.out
          have hns176_4 := NB124_160.out
          have hns176_5 := NB129_160.out
          have hns176_6 := NB134_160.out
          have hns176_7 := NB139_160.out
          have hns176_8 := NB143_160.out
          have hns176_9 := NB147_160.out
          have hms176_0 := NB160_106.out
          have hms176_1 := NB160_109.out
          have hms176_2 := NB160_114.out
          have hms176_3 := NB160_119.out
          have hms176_4 := NB160_124.out
          have hms176_5 := NB160_129.out
          have hms176_6 := NB160_134.out
          have hms176_7 := NB160_139.out
          have hms176_8 := NB160_143.out
          have hms176_9 := NB160_147.out
          have hs177 : w174.cell? ⟨gb160, 2, none⟩ = some (.string (⟨#[]⟩ : ByteArray)) := (blk_cell BK160.out 2).trans rfl
          have hfs177 := blk_frozen BK160.out 2
          have hns177_0 := NB106_160.out
          have hns177_1 := NB109_160.out
          have hns177_2 := NB114_160.out
          have hns177_3 := NB119_160.out
          have hns177_4 := NB124_160.out
          have hns177_5 := NB129_160.out
          have hns177_6 := NB134_160.out
          have hns177_7 := NB139_160.out
          have hns177_8 := NB143_160.out
          have hns177_9 := NB147_160.out
          have hms177_0 := NB160_106.out
          have hms177_1 := NB160_109.out
          have hms177_2 := NB160_114.out
          have hms177_3 := NB160_119.out
          have hms177_4 := NB160_124.out
          have hms177_5 := NB160_129.out
          have hms177_6 := NB160_134.out
          have hms177_7 := NB160_139.out
          have hms177_8 := NB160_143.out
          have hms177_9 := NB160_147.out
          refine skip_ (w1 := ?_) (by rfl) rfl ?_ ?_
          rotate_left
          · go_simp
            rfl
          refine hK.out _ _ ⟨((cell_far (p := ⟨gb160, _, none⟩) NB143_160.out _).trans (((cell_far (p := ⟨gb160, _, none⟩) NB143_160.out _).trans (((cell_far (p := ⟨gb160, _, none⟩) NB143_160.out _).trans (hHeld.1)))))), ((cell_far (p := ⟨gb160, _, none⟩) NB143_160.out _).trans (((cell_far (p := ⟨gb160, _, none⟩) NB143_160.out _).trans (((cell_far (p := ⟨gb160, _, none⟩) NB143_160.out _).trans (hHeld.2.1)))))), ((cell_far (p := ⟨gb160, _, none⟩) NB143_160.out _).trans (((cell_far (p := ⟨gb160, _, none⟩) NB143_160.out _).trans (((cell_far (p := ⟨gb160, _, none⟩) NB143_160.out _).trans (hHeld.2.2.1)))))), ((cell_far (p := ⟨gb160, _, none⟩) NB147_160.out _).trans (((cell_far (p := ⟨gb160, _, none⟩) NB147_160.out _).trans (((cell_far (p := ⟨gb160, _, none⟩) NB147_160.out _).trans (hHeld.2.2.2.1)))))), ((cell_far (p := ⟨gb160, _, none⟩) NB147_160.out _).trans (((cell_far (p := ⟨gb160, _, none⟩) NB147_160.out _).trans (((cell_far (p := ⟨gb160, _, none⟩) NB147_160.out _).trans (hHeld.2.2.2.2.1)))))), ((cell_far (p := ⟨gb160, _, none⟩) NB147_160.out _).trans (((cell_far (p := ⟨gb160, _, none⟩) NB147_160.out _).trans (((cell_far (p := ⟨gb160, _, none⟩) NB147_160.out _).trans (hHeld.2.2.2.2.2.1)))))), ((cell_far (p := ⟨gb160, _, none⟩) z65_ _).trans (((cell_far (p := ⟨gb160, _, none⟩) z65_ _).trans (((cell_far (p := ⟨gb160, _, none⟩) z65_ _).trans (hHeld.2.2.2.2.2.2))))))⟩ (fun hHeld => ?_)
          clear hK K
          refine pu_ 12 (N := some 26) #[true, true, true, true, true, true, true, true, true, true, true, true, true] HT_.out (h_ := ?_)
          refine done_ (done_of HT_.out (by kernel_rfl)) ?_
          try go_wp2
          have n0_ : Aside0 (Kd.R Kd.string 9 (((w174.setCell ⟨gb160, 0, none⟩ (.int .i64 t156)).setCell ⟨gb160, 1, none⟩ (.int .i64 t157)).setCell ⟨gb160, 2, none⟩ (.string t158)) w.heap.size (fun k_ => some k_ ≠ (v152 : Value).ownBlock) (.slice (some ad155) y148.length co171) y148) := ⟨by (with_reducible repeat (first | apply Kd.R_alloc | apply Kd.R_drewN | apply Kd.R_drew)); exact Kd.R_mono (Kd.R_far (p := ⟨gb160, 2, none⟩) (Kd.R_far (p := ⟨gb160, 1, none⟩) (Kd.R_far (p := ⟨gb160, 0, none⟩) (Kd.R_types HO150.out BK160.out (by decide)) (fun _ hk => hk.2) (.int .i64 t156)) (fun _ hk => hk.2) (.int .i64 t157)) (fun _ hk => hk.2) (.string t158)) (fun _ hk => hk.1)⟩
          have n1_ : Aside0 (Kd.R Kd.string 9 (((w174.setCell ⟨gb160, 0, none⟩ (.int .i64 t156)).setCell ⟨gb160, 1, none⟩ (.int .i64 t157)).setCell ⟨gb160, 2, none⟩ (.string t158)) w.heap.size (fun k_ => some k_ ≠ (.slice (some ad155) y148.length co171 : Value).ownBlock) v152 y151) := ⟨by (with_reducible repeat (first | apply Kd.R_alloc | apply Kd.R_drewN | apply Kd.R_drew)); exact Kd.R_mono (Kd.R_far (p := ⟨gb160, 2, none⟩) (Kd.R_far (p := ⟨gb160, 1, none⟩) (Kd.R_far (p := ⟨gb160, 0, none⟩) (Kd.R_types HO153.out BK160.out (by decide)) (fun _ hk => hk.2) (.int .i64 t156)) (fun _ hk => hk.2) (.int .i64 t157)) (fun _ hk => hk.2) (.string t158)) (fun _ hk => hk.1)⟩
          have n2_ : Aside0 ((((w174.setCell ⟨gb160, 0, none⟩ (.int .i64 t156)).setCell ⟨gb160, 1, none⟩ (.int .i64 t157)).setCell ⟨gb160, 2, none⟩ (.string t158)).heap[gb106]? = some (.cells #[.int .i64 ((rd_T24 y101 t104).f0), .int .i64 ((rd_T24 y101 t104).f1), .string ((rd_T24 y101 t104).f2)] 24 (0, 0))) := ⟨by (with_reducible repeat (first | refine blk_drewN ?_ _ | refine blk_drew ?_ | refine blk_alloc ?_ _)); refine blk_far ?_ NB106_160.out _; (with_reducible repeat (first | refine blk_drewN ?_ _ | refine blk_drew ?_ | refine blk_alloc ?_ _)); refine blk_far ?_ NB106_160.out _; (with_reducible repeat (first | refine blk_drewN ?_ _ | refine blk_drew ?_ | refine blk_alloc ?_ _)); refine blk_far ?_ NB106_160.out _; (with_reducible repeat (first | refine blk_drewN ?_ _ | refine blk_drew ?_ | refine blk_alloc ?_ _)); exact BK106.out⟩
          have n3_ : Aside0 ((((w174.setCell ⟨gb160, 0, none⟩ (.int .i64 t156)).setCell ⟨gb160, 1, none⟩ (.int .i64 t157)).setCell ⟨gb160, 2, none⟩ (.string t158)).heap[gb109]? = some (.cells #[.int .i64 ((rd_T24 y101 t107).f0), .int .i64 ((rd_T24 y101 t107).f1), .string ((rd_T24 y101 t107).f2)] 24 (0, 0))) := ⟨by (with_reducible repeat (first | refine blk_drewN ?_ _ | refine blk_drew ?_ | refine blk_alloc ?_ _)); refine blk_far ?_ NB109_160.out _; (with_reducible repeat (first | refine blk_drewN ?_ _ | refine blk_drew ?_ | refine blk_alloc ?_ _)); refine blk_far ?_ NB109_160.out _; (with_reducible repeat (first | refine blk_drewN ?_ _ | refine blk_drew ?_ | refine blk_alloc ?_ _)); refine blk_far ?_ NB109_160.out _; (with_reducible repeat (first | refine blk_drewN ?_ _ | refine blk_drew ?_ | refine blk_alloc ?_ _)); exact BK109.out⟩
          have n4_ : Aside0 ((((w174.setCell ⟨gb160, 0, none⟩ (.int .i64 t156)).setCell ⟨gb160, 1, none⟩ (.int .i64 t157)).setCell ⟨gb160, 2, none⟩ (.string t158)).heap[gb114]? = some (.cells #[.int .i64 t110, .int .i64 t111, .string t112] 24 (0, 0))) := ⟨by (with_reducible repeat (first | refine blk_drewN ?_ _ | refine blk_drew ?_ | refine blk_alloc ?_ _)); refine blk_far ?_ NB114_160.out _; (with_reducible repeat (first | refine blk_drewN ?_ _ | refine blk_drew ?_ | refine blk_alloc ?_ _)); refine blk_far ?_ NB114_160.out _; (with_reducible repeat (first | refine blk_drewN ?_ _ | refine blk_drew ?_ | refine blk_alloc ?_ _)); refine blk_far ?_ NB114_160.out _; (with_reducible repeat (first | refine blk_drewN ?_ _ | refine blk_drew ?_ | refine blk_alloc ?_ _)); exact BK114.out⟩
          have n5_ : Aside0 ((((w174.setCell ⟨gb160, 0, none⟩ (.int .i64 t156)).setCell ⟨gb160, 1, none⟩ (.int .i64 t157)).setCell ⟨gb160, 2, none⟩ (.string t158)).heap[gb119]? = some (.cells #[.int .i64 t115, .int .i64 t116, .string t117] 24 (0, 0))) := ⟨by (with_reducible repeat (first | refine blk_drewN ?_ _ | refine blk_drew ?_ | refine blk_alloc ?_ _)); refine blk_far ?_ NB119_160.out _; (with_reducible repeat (first | refine blk_drewN ?_ _ | refine blk_drew ?_ | refine blk_alloc ?_ _)); refine blk_far ?_ NB119_160.out _; (with_reducible repeat (first | refine blk_drewN ?_ _ | refine blk_drew ?_ | refine blk_alloc ?_ _)); refine blk_far ?_ NB119_160.out _; (with_reducible repeat (first | refine blk_drewN ?_ _ | refine blk_drew ?_ | refine blk_alloc ?_ _)); exact BK119.out⟩
          have n6_ : Aside0 ((((w174.setCell ⟨gb160, 0, none⟩ (.int .i64 t156)).setCell ⟨gb160, 1, none⟩ (.int .i64 t157)).setCell ⟨gb160, 2, none⟩ (.string t158)).heap[gb124]? = some (.cells #[.int .i64 t120, .int .i64 t121, .string t122] 24 (0, 0))) := ⟨by (with_reducible repeat (first | refine blk_drewN ?_ _ | refine blk_drew ?_ | refine blk_alloc ?_ _)); refine blk_far ?_ NB124_160.out _; (with_reducible repeat (first | refine blk_drewN ?_ _ | refine blk_drew ?_ | refine blk_alloc ?_ _)); refine blk_far ?_ NB124_160.out _; (with_reducible repeat (first | refine blk_drewN ?_ _ | refine blk_drew ?_ | refine blk_alloc ?_ _)); refine blk_far ?_ NB124_160.out _; (with_reducible repeat (first | refine blk_drewN ?_ _ | refine blk_drew ?_ | refine blk_alloc ?_ _)); exact BK124.out⟩
          have n7_ : Aside0 ((((w174.setCell ⟨gb160, 0, none⟩ (.int .i64 t156)).setCell ⟨gb160, 1, none⟩ (.int .i64 t157)).setCell ⟨gb160, 2, none⟩ (.string t158)).heap[gb129]? = some (.cells #[.int .i64 t125, .int .i64 t126, .string t127] 24 (0, 0))) := ⟨by (with_reducible repeat (first | refine blk_drewN ?_ _ | refine blk_drew ?_ | refine blk_alloc ?_ _)); refine blk_far ?_ NB129_160.out _; (with_reducible repeat (first | refine blk_drewN ?_ _ | refine blk_drew ?_ | refine blk_alloc ?_ _)); refine blk_far ?_ NB129_160.out _; (with_reducible repeat (first | refine blk_drewN ?_ _ | refine blk_drew ?_ | refine blk_alloc ?_ _)); refine blk_far ?_ NB129_160.out _; (with_reducible repeat (first | refine blk_drewN ?_ _ | refine blk_drew ?_ | refine blk_alloc ?_ _)); exact BK129.out⟩
          have n8_ : Aside0 ((((w174.setCell ⟨gb160, 0, none⟩ (.int .i64 t156)).setCell ⟨gb160, 1, none⟩ (.int .i64 t157)).setCell ⟨gb160, 2, none⟩ (.string t158)).heap[gb134]? = some (.cells #[.int .i64 t130, .int .i64 t131, .string t132] 24 (0, 0))) := ⟨by (with_reducible repeat (first | refine blk_drewN ?_ _ | refine blk_drew ?_ | refine blk_alloc ?_ _)); refine blk_far ?_ NB134_160.out _; (with_reducible repeat (first | refine blk_drewN ?_ _ | refine blk_drew ?_ | refine blk_alloc ?_ _)); refine blk_far ?_ NB134_160.out _; (with_reducible repeat (first | refine blk_drewN ?_ _ | refine blk_drew ?_ | refine blk_alloc ?_ _)); refine blk_far ?_ NB134_160.out _; (with_reducible repeat (first | refine blk_drewN ?_ _ | refine blk_drew ?_ | refine blk_alloc ?_ _)); exact BK134.out⟩
          have n9_ : Aside0 ((((w174.setCell ⟨gb160, 0, none⟩ (.int .i64 t156)).setCell ⟨gb160, 1, none⟩ (.int .i64 t157)).setCell ⟨gb160, 2, none⟩ (.string t158)).heap[gb139]? = some (.cells #[.int .i64 t135, .int .i64 t136, .string t137] 24 (0, 0))) := ⟨by (with_reducible repeat (first | refine blk_drewN ?_ _ | refine blk_drew ?_ | refine blk_alloc ?_ _)); refine blk_far ?_ NB139_160.out _; (with_reducible repeat (first | refine blk_drewN ?_ _ | refine blk_drew ?_ | refine blk_alloc ?_ _)); refine blk_far ?_ NB139_160.out _; (with_reducible repeat (first | refine blk_drewN ?_ _ | refine blk_drew ?_ | refine blk_alloc ?_ _)); refine blk_far ?_ NB139_160.out _; (with_reducible repeat (first | refine blk_drewN ?_ _ | refine blk_drew ?_ | refine blk_alloc ?_ _)); exact BK139.out⟩
          have n10_ : Aside0 ((((w174.setCell ⟨gb160, 0, none⟩ (.int .i64 t156)).setCell ⟨gb160, 1, none⟩ (.int .i64 t157)).setCell ⟨gb160, 2, none⟩ (.string t158)).heap[gb143]? = some (.cells #[.int .i64 t140, .int .i64 t141, .string t142] 24 (0, 0))) := ⟨by (with_reducible repeat (first | refine blk_drewN ?_ _ | refine blk_drew ?_ | refine blk_alloc ?_ _)); refine blk_far ?_ NB143_160.out _; (with_reducible repeat (first | refine blk_drewN ?_ _ | refine blk_drew ?_ | refine blk_alloc ?_ _)); refine blk_far ?_ NB143_160.out _; (with_reducible repeat (first | refine blk_drewN ?_ _ | refine blk_drew ?_ | refine blk_alloc ?_ _)); refine blk_far ?_ NB143_160.out _; (with_reducible repeat (first | refine blk_drewN ?_ _ | refine blk_drew ?_ | refine blk_alloc ?_ _)); exact BK143.out⟩
          have n11_ : Aside0 ((((w174.setCell ⟨gb160, 0, none⟩ (.int .i64 t156)).setCell ⟨gb160, 1, none⟩ (.int .i64 t157)).setCell ⟨gb160, 2, none⟩ (.string t158)).heap[gb147]? = some (.cells #[.int .i64 t144, .int .i64 t145, .string t146] 24 (0, 0))) := ⟨by (with_reducible repeat (first | refine blk_drewN ?_ _ | refine blk_drew ?_ | refine blk_alloc ?_ _)); refine blk_far ?_ NB147_160.out _; (with_reducible repeat (first | refine blk_drewN ?_ _ | refine blk_drew ?_ | refine blk_alloc ?_ _)); refine blk_far ?_ NB147_160.out _; (with_reducible repeat (first | refine blk_drewN ?_ _ | refine blk_drew ?_ | refine blk_alloc ?_ _)); refine blk_far ?_ NB147_160.out _; (with_reducible repeat (first | refine blk_drewN ?_ _ | refine blk_drew ?_ | refine blk_alloc ?_ _)); exact BK147.out⟩
          have n12_ : Aside0 ((((w174.setCell ⟨gb160, 0, none⟩ (.int .i64 t156)).setCell ⟨gb160, 1, none⟩ (.int .i64 t157)).setCell ⟨gb160, 2, none⟩ (.string t158)).heap[gb160]? = some (.cells #[.int .i64 t156, .int .i64 t157, .string t158] 24 (0, 0))) := ⟨by (with_reducible repeat (first | refine blk_drewN ?_ _ | refine blk_drew ?_ | refine blk_alloc ?_ _)); refine blk_put (cs := #[.int .i64 t156, .int .i64 t157, .string (⟨#[]⟩ : ByteArray)]) ?_ 2 _ rfl; (with_reducible repeat (first | refine blk_drewN ?_ _ | refine blk_drew ?_ | refine blk_alloc ?_ _)); refine blk_put (cs := #[.int .i64 t156, .int .i64 0, .string (⟨#[]⟩ : ByteArray)]) ?_ 1 _ rfl; (with_reducible repeat (first | refine blk_drewN ?_ _ | refine blk_drew ?_ | refine blk_alloc ?_ _)); refine blk_put (cs := #[.int .i64 0, .int .i64 0, .string (⟨#[]⟩ : ByteArray)]) ?_ 0 _ rfl; (with_reducible repeat (first | refine blk_drewN ?_ _ | refine blk_drew ?_ | refine blk_alloc ?_ _)); exact BK160.out⟩
          have n13_ : Aside0 (Below w.heap.size w (((w174.setCell ⟨gb160, 0, none⟩ (.int .i64 t156)).setCell ⟨gb160, 1, none⟩ (.int .i64 t157)).setCell ⟨gb160, 2, none⟩ (.string t158))) := ⟨z24_⟩
          (try clear HO150)
          (try clear HO153)
          (try clear BK106)
          (try clear BK109)
          (try clear BK114)
          (try clear BK119)
          (try clear BK124)
          (try clear BK129)
          (try clear BK134)
          (try clear BK139)
          (try clear BK143)
          (try clear BK147)
          (try clear BK160)
          (try clear HB)
          generalize (((w174.setCell ⟨gb160, 0, none⟩ (.int .i64 t156)).setCell ⟨gb160, 1, none⟩ (.int .i64 t157)).setCell ⟨gb160, 2, none⟩ (.string t158)) = w178 at n0_ n1_ n2_ n3_ n4_ n5_ n6_ n7_ n8_ n9_ n10_ n11_ n12_ n13_ ⊢
          have HO150 := n0_
          have HO153 := n1_
          have BK106 := n2_
          have BK109 := n3_
          have BK114 := n4_
          have BK119 := n5_
          have BK124 := n6_
          have BK129 := n7_
          have BK134 := n8_
          have BK139 := n9_
          have BK143 := n10_
          have BK147 := n11_
          have BK160 := n12_
          have HB := n13_
          clear n0_ n1_ n2_ n3_ n4_ n5_ n6_ n7_ n8_ n9_ n10_ n11_ n12_ n13_
          have n_ := a14_ (Kd.R_drew HO150.out) (Kd.R_drew HO153.out) (blk_drew BK106.out) (blk_drew BK109.out) (blk_drew BK114.out) (blk_drew BK119.out) (blk_drew BK124.out) (blk_drew BK129.out) (blk_drew BK134.out) (blk_drew BK139.out) (blk_drew BK143.out) (blk_drew BK147.out) (blk_drew BK160.out) (below_drew1 HB.out)
          clear HO150 HO153 BK106 BK109 BK114 BK119 BK124 BK129 BK134 BK139 BK143 BK147 BK160 HB
          obtain ⟨HO150, HO153, BK106, BK109, BK114, BK119, BK124, BK129, BK134, BK139, BK143, BK147, BK160, HB⟩ := n_
          obtain ⟨Ao180, co180, eo180⟩ := Kd.R_slice HO153.out
          (first | subst eo180 | (injection eo180 with f1_ f2_ f3_; have f4_ := f1_.symm; have f5_ := f3_.symm; clear f1_ f2_ f3_; subst f4_; subst f5_))
          have p161 : 0 ≤ (t154 : Int) := of_decide_eq_true z69_
          have q161 : t154 < (y151.length : Int) := of_decide_eq_true z69_
          obtain ⟨ad161, e161, hx161_0⟩ := Kd.at_string (Kd.R_reads' HO153.out).2.2 t154 p161 q161
          cases e161
          replace p161 := eq_true p161
          replace q161 := eq_true q161
          refine start_ (n := 13) (S := fun w' => w'.cell? ⟨gb143, 0, none⟩ = some (.int .i64 t140) ∧ w'.cell? ⟨gb143, 1, none⟩ = some (.int .i64 t141) ∧ w'.cell? ⟨gb143, 2, none⟩ = some (.string t142) ∧ w'.cell? ⟨gb147, 0, none⟩ = some (.int .i64 t144) ∧ w'.cell? ⟨gb147, 1, none⟩ = some (.int .i64 t145) ∧ w'.cell? ⟨gb147, 2, none⟩ = some (.string t146) ∧ w'.cell? (ad161.add (t154).toNat) = some (.string (rdOf ByteArray.empty y151 t154))) (ds := []) #[false, false, false, false, false, false, false, false, false, false, false, false, false] (by kernel_rfl) rfl rfl ⟨(blk_cell BK143.out 0).trans rfl, (blk_cell BK143.out 1).trans rfl, (blk_cell BK143.out 2).trans rfl, (blk_cell BK147.out 0).trans rfl, (blk_cell BK147.out 1).trans rfl, (blk_cell BK147.out 2).trans rfl, hx161_0⟩ (fun hHeld => ?_); refine with_tabW laws_FnThree.tab22 laws_FnThree.bits22 (fun HT_ HW_ => ?_)
          generalize w178.drew = w179 at HO150 HO153 BK106 BK109 BK114 BK119 BK124 BK129 BK134 BK139 BK143 BK147 BK160 HB hx161_0 hHeld ⊢
          refine pu_ 0 (N := some 136) #[true, false, false, false, false, false, false, false, false, false, false, false, false] HT_.out (h_ := ?_)
          refine pu_ 1 (N := some 137) #[true, true, false, false, false, false, false, false, false, false, false, false, false] HT_.out (h_ := ?_)
          refine pu_ 2 (N := some 138) #[true, true, true, false, false, false, false, false, false, false, false, false, false] HT_.out (h_ := ?_)
          refine tk_ 3 (N := some 139) #[true, true, true, true, false, false, false, false, false, false, false, false, false] HT_.out HW_.out hHeld (hy := by rintro w' ⟨s0, s1, s2, s3, s4, s5, s6⟩; go_simp; with_reducible rfl) (h_ := ?_)
          refine tk_ 4 (N := some 140) #[true, true, true, true, true, false, false, false, false, false, false, false, false] HT_.out HW_.out hHeld (hy := by rintro w' ⟨s0, s1, s2, s3, s4, s5, s6⟩; go_simp; with_reducible rfl) (h_ := ?_)
          refine tk_ 5 (N := some 141) #[true, true, true, true, true, true, false, false, false, false, false, false, false] HT_.out HW_.out hHeld (hy := by rintro w' ⟨s0, s1, s2, s3, s4, s5, s6⟩; go_simp; with_reducible rfl) (h_ := ?_)
          refine join_ (σ := Nat) 2 #[true, true, true, true, true, true, true, true, true, true, true, false, false] (fun s_ => [(142, .tuple #[.agg #[.int .i64 t162, .int .i64 t163, .string t164], .int .i64 t165]), (27, .pointer (some ⟨s_, 0, none⟩)), (135, .tuple #[.agg #[.int .i64 t162, .int .i64 t163, .string t164], .int .i64 t165]), (143, .agg #[.int .i64 t162, .int .i64 t163, .string t164]), (144, .int .i64 t165)]) (fun s_ w' => (w'.cell? ⟨gb143, 0, none⟩ = some (.int .i64 t140) ∧ w'.cell? ⟨gb143, 1, none⟩ = some (.int .i64 t141) ∧ w'.cell? ⟨gb143, 2, none⟩ = some (.string t142) ∧ w'.cell? ⟨gb147, 0, none⟩ = some (.int .i64 t144) ∧ w'.cell? ⟨gb147, 1, none⟩ = some (.int .i64 t145) ∧ w'.cell? ⟨gb147, 2, none⟩ = some (.string t146) ∧ w'.cell? (ad161.add (t154).toNat) = some (.string (rdOf ByteArray.empty y151 t154))) ∧ (Kd.R Kd.string 9 w' w.heap.size (fun k_ => some k_ ≠ (.slice (some ad161) y151.length co180 : Value).ownBlock) (.slice (some ad155) y148.length co171) y148) ∧ (Kd.R Kd.string 9 w' w.heap.size (fun k_ => some k_ ≠ (.slice (some ad155) y148.length co171 : Value).ownBlock) (.slice (some ad161) y151.length co180) y151) ∧ (w'.heap[gb106]? = some (.cells #[.int .i64 ((rd_T24 y101 t104).f0), .int .i64 ((rd_T24 y101 t104).f1), .string ((rd_T24 y101 t104).f2)] 24 (0, 0))) ∧ (w'.heap[gb109]? = some (.cells #[.int .i64 ((rd_T24 y101 t107).f0), .int .i64 ((rd_T24 y101 t107).f1), .string ((rd_T24 y101 t107).f2)] 24 (0, 0))) ∧ (w'.heap[gb114]? = some (.cells #[.int .i64 t110, .int .i64 t111, .string t112] 24 (0, 0))) ∧ (w'.heap[gb119]? = some (.cells #[.int .i64 t115, .int .i64 t116, .string t117] 24 (0, 0))) ∧ (w'.heap[gb124]? = some (.cells #[.int .i64 t120, .int .i64 t121, .string t122] 24 (0, 0))) ∧ (w'.heap[gb129]? = some (.cells #[.int .i64 t125, .int .i64 t126, .string t127] 24 (0, 0))) ∧ (w'.heap[gb134]? = some (.cells #[.int .i64 t130, .int .i64 t131, .string t132] 24 (0, 0))) ∧ (w'.heap[gb139]? = some (.cells #[.int .i64 t135, .int .i64 t136, .string t137] 24 (0, 0))) ∧ (w'.heap[gb143]? = some (.cells #[.int .i64 t140, .int .i64 t141, .string t142] 24 (0, 0))) ∧ (w'.heap[gb147]? = some (.cells #[.int .i64 t144, .int .i64 t145, .string t146] 24 (0, 0))) ∧ (w'.heap[gb160]? = some (.cells #[.int .i64 t156, .int .i64 t157, .string t158] 24 (0, 0))) ∧ (w'.heap[s_]? = some (.cells #[.int .i64 0, .int .i64 0, .string (⟨#[]⟩ : ByteArray)] 24 (0, 0))) ∧ (w.heap.size ≤ s_) ∧ (w.heap.size ≤ s_) ∧ (gb106 ≠ s_) ∧ (s_ ≠ gb106) ∧ (gb109 ≠ s_) ∧ (s_ ≠ gb109) ∧ (gb114 ≠ s_) ∧ (s_ ≠ gb114) ∧ (gb119 ≠ s_) ∧ (s_ ≠ gb119) ∧ (gb124 ≠ s_) ∧ (s_ ≠ gb124) ∧ (gb129 ≠ s_) ∧ (s_ ≠ gb129) ∧ (gb134 ≠ s_) ∧ (s_ ≠ gb134) ∧ (gb139 ≠ s_) ∧ (s_ ≠ gb139) ∧ (gb143 ≠ s_) ∧ (s_ ≠ gb143) ∧ (gb147 ≠ s_) ∧ (s_ ≠ gb147) ∧ (gb160 ≠ s_) ∧ (s_ ≠ gb160) ∧ (Below w.heap.size w w')) ?_ ?_
          rotate_left
          · intro hCont
            refine two_ (i := 6) (j := 10) (Ni := some 142) (Nj := some 27) #[true, true, true, true, true, true, true, false, false, false, false, false, false] #[true, true, true, true, true, true, false, false, false, false, true, false, false] rfl rfl rfl rfl (two_of HT_.out (by kernel_rfl)) (by decide) (by decide) (fun K hK => ?_) (fun K hK => ?_)
            · skip
              refine goes_ Try.func6 (by kernel_rfl) rfl #[.string (rdOf ByteArray.empty y151 t154), .agg #[.int .i64 t140, .int .i64 t141, .string t142], .agg #[.int .i64 t144, .int .i64 t145, .string t146]] (by rfl) rfl rfl z5_ ?_
              with_reducible refine (impl_BinaryValue.calls kj17 (rdOf ByteArray.empty y151 t154) t140 t141 t142 t144 t145 t146 t162 t163 t164 t165 _ A134.out).mono ?_
              rintro e w181 ⟨rfl, hb⟩
              have HS6_ := (hb.cell (World.block_lt_of_cell? _ _ (hHeld.2.2.2.2.2.2))).trans (hHeld.2.2.2.2.2.2)
              refine ⟨_, rfl, ?_⟩
              have n_ := a14_ (Kd.R_below z64_ hb) (Kd.R_below z71_ hb) (blk_below (g := gb106) (o := .cells #[.int .i64 ((rd_T24 y101 t104).f0), .int .i64 ((rd_T24 y101 t104).f1), .string ((rd_T24 y101 t104).f2)] 24 (0, 0)) z12_ hb) (blk_below (g := gb109) (o := .cells #[.int .i64 ((rd_T24 y101 t107).f0), .int .i64 ((rd_T24 y101 t107).f1), .string ((rd_T24 y101 t107).f2)] 24 (0, 0)) z13_ hb) (blk_below (g := gb114) (o := .cells #[.int .i64 t110, .int .i64 t111, .string t112] 24 (0, 0)) z14_ hb) (blk_below (g := gb119) (o := .cells #[.int .i64 t115, .int .i64 t116, .string t117] 24 (0, 0)) z15_ hb) (blk_below (g := gb124) (o := .cells #[.int .i64 t120, .int .i64 t121, .string t122] 24 (0, 0)) z17_ hb) (blk_below (g := gb129) (o := .cells #[.int .i64 t125, .int .i64 t126, .string t127] 24 (0, 0)) z20_ hb) (blk_below (g := gb134) (o := .cells #[.int .i64 t130, .int .i64 t131, .string t132] 24 (0, 0)) z21_ hb) (blk_below (g := gb139) (o := .cells #[.int .i64 t135, .int .i64 t136, .string t137] 24 (0, 0)) z25_ hb) (blk_below (g := gb143) (o := .cells #[.int .i64 t140, .int .i64 t141, .string t142] 24 (0, 0)) z26_ hb) (blk_below (g := gb147) (o := .cells #[.int .i64 t144, .int .i64 t145, .string t146] 24 (0, 0)) z31_ hb) (blk_below (g := gb160) (o := .cells #[.int .i64 t156, .int .i64 t157, .string t158] 24 (0, 0)) z46_ hb) (below_step z24_ hb)
              clear HO150 HO153 BK106 BK109 BK114 BK119 BK124 BK129 BK134 BK139 BK143 BK147 BK160 HB
              obtain ⟨HO150, HO153, BK106, BK109, BK114, BK119, BK124, BK129, BK134, BK139, BK143, BK147, BK160, HB⟩ := n_
              (try clear hb)
              (try clear hb2)
              (try clear hk)
              (try clear hi)
              refine hK.out _ _ ⟨(blk_cell BK143.out 0).trans rfl, (blk_cell BK143.out 1).trans rfl, (blk_cell BK143.out 2).trans rfl, (blk_cell BK147.out 0).trans rfl, (blk_cell BK147.out 1).trans rfl, (blk_cell BK147.out 2).trans rfl, HS6_⟩ (fun hHeld => ?_)
              clear hK K
              refine norm_ (a' := ?_) ?_ ?_
              rotate_left
              · show Act.put _ (some 142) _ = _
                simp only [Act.put, List.setIfInBounds_toArray, List.set_cons_zero, List.set_cons_succ, i64_w, i32_w]
                rfl
              refine pu_ 7 (N := some 135) #[true, true, true, true, true, true, true, true, false, false, false, false, false] HT_.out (h_ := ?_)
              refine pu_ 8 (N := some 143) #[true, true, true, true, true, true, true, true, true, false, false, false, false] HT_.out (h_ := ?_)
              refine pu_ 9 (N := some 144) #[true, true, true, true, true, true, true, true, true, true, false, false, false] HT_.out (h_ := ?_)
              refine one_ (i := 10) (N := some 27) #[true, true, true, true, true, true, true, true, true, true, true, false, false] rfl rfl (one_of HT_.out (by kernel_rfl)) (by decide) (fun K hK => ?_)
              refine box_step ?hg (N := 27) ?hd (cs := #[.int .i64 0, .int .i64 0, .string (⟨#[]⟩ : ByteArray)]) (t := 24) ?hr ?_; (case hd => rfl); (case hg => rfl); (case hr => first | (go_simp; done) | (go_simp; rfl))
              intro gb166 hg w182 hbox hb
              have HS6_ := (hb.cell (World.block_lt_of_cell? _ _ (hHeld.2.2.2.2.2.2))).trans (hHeld.2.2.2.2.2.2)
              have n0_ := ak_ (Kd.R_below z64_ hb)
              have n1_ := ak_ (Kd.R_below z71_ hb)
              have n2_ := ak_ (blk_below (g := gb106) (o := .cells #[.int .i64 ((rd_T24 y101 t104).f0), .int .i64 ((rd_T24 y101 t104).f1), .string ((rd_T24 y101 t104).f2)] 24 (0, 0)) z12_ hb)
              have n3_ := ak_ (blk_below (g := gb109) (o := .cells #[.int .i64 ((rd_T24 y101 t107).f0), .int .i64 ((rd_T24 y101 t107).f1), .string ((rd_T24 y101 t107).f2)] 24 (0, 0)) z13_ hb)
              have n4_ := ak_ (blk_below (g := gb114) (o := .cells #[.int .i64 t110, .int .i64 t111, .string t112] 24 (0, 0)) z14_ hb)
              have n5_ := ak_ (blk_below (g := gb119) (o := .cells #[.int .i64 t115, .int .i64 t116, .string t117] 24 (0, 0)) z15_ hb)
              have n6_ := ak_ (blk_below (g := gb124) (o := .cells #[.int .i64 t120, .int .i64 t121, .string t122] 24 (0, 0)) z17_ hb)
              have n7_ := ak_ (blk_below (g := gb129) (o := .cells #[.int .i64 t125, .int .i64 t126, .string t127] 24 (0, 0)) z20_ hb)
              have n8_ := ak_ (blk_below (g := gb134) (o := .cells #[.int .i64 t130, .int .i64 t131, .string t132] 24 (0, 0)) z21_ hb)
              have n9_ := ak_ (blk_below (g := gb139) (o := .cells #[.int .i64 t135, .int .i64 t136, .string t137] 24 (0, 0)) z25_ hb)
              have n10_ := ak_ (blk_below (g := gb143) (o := .cells #[.int .i64 t140, .int .i64 t141, .string t142] 24 (0, 0)) z26_ hb)
              have n11_ := ak_ (blk_below (g := gb147) (o := .cells #[.int .i64 t144, .int .i64 t145, .string t146] 24 (0, 0)) z31_ hb)
              have n12_ := ak_ (blk_below (g := gb160) (o := .cells #[.int .i64 t156, .int .i64 t157, .string t158] 24 (0, 0)) z46_ hb)
              have n13_ := ak_ (below_step z24_ hb)
              have n14_ := ak_ (hbox)
              have n15_ := ak_ ((gs_ w hg (below_size z24_)))
              have n16_ := ak_ ((gs_ w hg (below_size z24_)))
              have n17_ := ak_ ((z33_ : gb106 ≠ gb166))
              have n18_ := ak_ ((z34_ : gb166 ≠ gb106))
              have n19_ := ak_ ((z35_ : gb109 ≠ gb166))
              have n20_ := ak_ ((z36_ : gb166 ≠ gb109))
              have n21_ := ak_ ((z49_ : gb114 ≠ gb166))
              have n22_ := ak_ ((z50_ : gb166 ≠ gb114))
              have n23_ := ak_ ((z52_ : gb119 ≠ gb166))
              have n24_ := ak_ ((z53_ : gb166 ≠ gb119))
              have n25_ := ak_ ((z57_ : gb124 ≠ gb166))
              have n26_ := ak_ ((z58_ : gb166 ≠ gb124))
              have n27_ := ak_ ((z62_ : gb129 ≠ gb166))
              have n28_ := ak_ ((z63_ : gb166 ≠ gb129))
              have n29_ := ak_ ((z67_ : gb134 ≠ gb166))
              have n30_ := ak_ ((z68_ : gb166 ≠ gb134))
              have n31_ := ak_ ((z72_ : gb139 ≠ gb166))
              have n32_ := ak_ ((z73_ : gb166 ≠ gb139))
              have n33_ := ak_ ((z79_ : gb143 ≠ gb166))
              have n34_ := ak_ ((z80_ : gb166 ≠ gb143))
              have n35_ := ak_ ((z87_ : gb147 ≠ gb166))
              have n36_ := ak_ ((z88_ : gb166 ≠ gb147))
              have n37_ := ak_ ((z102_ : gb160 ≠ gb166))
              have n38_ := ak_ ((z103_ : gb166 ≠ gb160))
              clear HO150
              clear HO153
              clear BK106
              clear BK109
              clear BK114
              clear BK119
              clear BK124
              clear BK129
              clear BK134
              clear BK139
              clear BK143
              clear BK147
              clear BK160
              clear HB
              have HO150 := n0_
              have HO153 := n1_
              have BK106 := n2_
              have BK109 := n3_
              have BK114 := n4_
              have BK119 := n5_
              have BK124 := n6_
              have BK129 := n7_
              have BK134 := n8_
              have BK139 := n9_
              have BK143 := n10_
              have BK147 := n11_
              have BK160 := n12_
              have HB := n13_
              have BK166 := n14_
              have GW166 := n15_
              have GE166 := n16_
              have NB106_166 := n17_
              have NB166_106 := n18_
              have NB109_166 := n19_
              have NB166_109 := n20_
              have NB114_166 := n21_
              have NB166_114 := n22_
              have NB119_166 := n23_
              have NB166_119 := n24_
              have NB124_166 := n25_
              have NB166_124 := n26_
              have NB129_166 := n27_
              have NB166_129 := n28_
              have NB134_166 := n29_
              have NB166_134 := n30_
              have NB139_166 := n31_
              have NB166_139 := n32_
              have NB143_166 := n33_
              have NB166_143 := n34_
              have NB147_166 := n35_
              have NB166_147 := n36_
              have NB160_166 := n37_
              have NB166_160 := n38_
              clear n0_ n1_ n2_ n3_ n4_ n5_ n6_ n7_ n8_ n9_ n10_ n11_ n12_ n13_ n14_ n15_ n16_ n17_ n18_ n19_ n20_ n21_ n22_ n23_ n24_ n25_ n26_ n27_ n28_ n29_ n30_ n31_ n32_ n33_ n34_ n35_ n36_ n37_ n38_
              clear hb hbox hg
              refine hK.out _ _ ⟨(blk_cell BK143.out 0).trans rfl, (blk_cell BK143.out 1).trans rfl, (blk_cell BK143.out 2).trans rfl, (blk_cell BK147.out 0).trans rfl, (blk_cell BK147.out 1).trans rfl, (blk_cell BK147.out 2).trans rfl, HS6_⟩ (fun hHeld => ?_)
              clear hK K
              refine norm_ (a' := ?_) ?_ ?_
              rotate_left
              · show Act.put _ (some 27) _ = _
                simp only [Act.put, List.setIfInBounds_toArray, List.set_cons_zero, List.set_cons_succ, i64_w, i32_w]
                rfl
              exact norm_ z107_ (hCont (gb166) _ ⟨hHeld, z64_, z71_, z12_, z13_, z14_, z15_, z17_, z20_, z21_, z25_, z26_, z31_, z46_, z77_, GW166.out, GE166.out, NB106_166.out, NB166_106.out, NB109_166.out, NB166_109.out, NB114_166.out, NB166_114.out, NB119_166.out, NB166_119.out, NB124_166.out, NB166_124.out, NB129_166.out, NB166_129.out, NB134_166.out, NB166_134.out, NB139_166.out, NB166_139.out, NB143_166.out, NB166_143.out, NB147_166.out, NB166_147.out, NB160_166.out, NB166_160.out, z32_⟩)
            skip
            refine box_step ?hg (N := 27) ?hd (cs := #[.int .i64 0, .int .i64 0, .string (⟨#[]⟩ : ByteArray)]) (t := 24) ?hr ?_; (case hd => rfl); (case hg => rfl); (case hr => first | (go_simp; done) | (go_simp; rfl))
            intro gb166 hg w181 hbox hb
            have HS6_ := (hb.cell (World.block_lt_of_cell? _ _ (hHeld.2.2.2.2.2.2))).trans (hHeld.2.2.2.2.2.2)
            have n0_ := ak_ (Kd.R_below z64_ hb)
            have n1_ := ak_ (Kd.R_below z71_ hb)
            have n2_ := ak_ (blk_below (g := gb106) (o := .cells #[.int .i64 ((rd_T24 y101 t104).f0), .int .i64 ((rd_T24 y101 t104).f1), .string ((rd_T24 y101 t104).f2)] 24 (0, 0)) z12_ hb)
            have n3_ := ak_ (blk_below (g := gb109) (o := .cells #[.int .i64 ((rd_T24 y101 t107).f0), .int .i64 ((rd_T24 y101 t107).f1), .string ((rd_T24 y101 t107).f2)] 24 (0, 0)) z13_ hb)
            have n4_ := ak_ (blk_below (g := gb114) (o := .cells #[.int .i64 t110, .int .i64 t111, .string t112] 24 (0, 0)) z14_ hb)
            have n5_ := ak_ (blk_below (g := gb119) (o := .cells #[.int .i64 t115, .int .i64 t116, .string t117] 24 (0, 0)) z15_ hb)
            have n6_ := ak_ (blk_below (g := gb124) (o := .cells #[.int .i64 t120, .int .i64 t121, .string t122] 24 (0, 0)) z17_ hb)
            have n7_ := ak_ (blk_below (g := gb129) (o := .cells #[.int .i64 t125, .int .i64 t126, .string t127] 24 (0, 0)) z20_ hb)
            have n8_ := ak_ (blk_below (g := gb134) (o := .cells #[.int .i64 t130, .int .i64 t131, .string t132] 24 (0, 0)) z21_ hb)
            have n9_ := ak_ (blk_below (g := gb139) (o := .cells #[.int .i64 t135, .int .i64 t136, .string t137] 24 (0, 0)) z25_ hb)
            have n10_ := ak_ (blk_below (g := gb143) (o := .cells #[.int .i64 t140, .int .i64 t141, .string t142] 24 (0, 0)) z26_ hb)
            have n11_ := ak_ (blk_below (g := gb147) (o := .cells #[.int .i64 t144, .int .i64 t145, .string t146] 24 (0, 0)) z31_ hb)
            have n12_ := ak_ (blk_below (g := gb160) (o := .cells #[.int .i64 t156, .int .i64 t157, .string t158] 24 (0, 0)) z46_ hb)
            have n13_ := ak_ (below_step z24_ hb)
            have n14_ := ak_ (hbox)
            have n15_ := ak_ ((gs_ w hg (below_size z24_)))
            have n16_ := ak_ ((gs_ w hg (below_size z24_)))
            have n17_ := ak_ ((z33_ : gb106 ≠ gb166))
            have n18_ := ak_ ((z34_ : gb166 ≠ gb106))
            have n19_ := ak_ ((z35_ : gb109 ≠ gb166))
            have n20_ := ak_ ((z36_ : gb166 ≠ gb109))
            have n21_ := ak_ ((z49_ : gb114 ≠ gb166))
            have n22_ := ak_ ((z50_ : gb166 ≠ gb114))
            have n23_ := ak_ ((z52_ : gb119 ≠ gb166))
            have n24_ := ak_ ((z53_ : gb166 ≠ gb119))
            have n25_ := ak_ ((z57_ : gb124 ≠ gb166))
            have n26_ := ak_ ((z58_ : gb166 ≠ gb124))
            have n27_ := ak_ ((z62_ : gb129 ≠ gb166))
            have n28_ := ak_ ((z63_ : gb166 ≠ gb129))
            have n29_ := ak_ ((z67_ : gb134 ≠ gb166))
            have n30_ := ak_ ((z68_ : gb166 ≠ gb134))
            have n31_ := ak_ ((z72_ : gb139 ≠ gb166))
            have n32_ := ak_ ((z73_ : gb166 ≠ gb139))
            have n33_ := ak_ ((z79_ : gb143 ≠ gb166))
            have n34_ := ak_ ((z80_ : gb166 ≠ gb143))
            have n35_ := ak_ ((z87_ : gb147 ≠ gb166))
            have n36_ := ak_ ((z88_ : gb166 ≠ gb147))
            have n37_ := ak_ ((z102_ : gb160 ≠ gb166))
            have n38_ := ak_ ((z103_ : gb166 ≠ gb160))
            clear HO150
            clear HO153
            clear BK106
            clear BK109
            clear BK114
            clear BK119
            clear BK124
            clear BK129
            clear BK134
            clear BK139
            clear BK143
            clear BK147
            clear BK160
            clear HB
            have HO150 := n0_
            have HO153 := n1_
            have BK106 := n2_
            have BK109 := n3_
            have BK114 := n4_
            have BK119 := n5_
            have BK124 := n6_
            have BK129 := n7_
            have BK134 := n8_
            have BK139 := n9_
            have BK143 := n10_
            have BK147 := n11_
            have BK160 := n12_
            have HB := n13_
            have BK166 := n14_
            have GW166 := n15_
            have GE166 := n16_
            have NB106_166 := n17_
            have NB166_106 := n18_
            have NB109_166 := n19_
            have NB166_109 := n20_
            have NB114_166 := n21_
            have NB166_114 := n22_
            have NB119_166 := n23_
            have NB166_119 := n24_
            have NB124_166 := n25_
            have NB166_124 := n26_
            have NB129_166 := n27_
            have NB166_129 := n28_
            have NB134_166 := n29_
            have NB166_134 := n30_
            have NB139_166 := n31_
            have NB166_139 := n32_
            have NB143_166 := n33_
            have NB166_143 := n34_
            have NB147_166 := n35_
            have NB166_147 := n36_
            have NB160_166 := n37_
            have NB166_160 := n38_
            clear n0_ n1_ n2_ n3_ n4_ n5_ n6_ n7_ n8_ n9_ n10_ n11_ n12_ n13_ n14_ n15_ n16_ n17_ n18_ n19_ n20_ n21_ n22_ n23_ n24_ n25_ n26_ n27_ n28_ n29_ n30_ n31_ n32_ n33_ n34_ n35_ n36_ n37_ n38_
            clear hb hbox hg
            refine hK.out _ _ ⟨(blk_cell BK143.out 0).trans rfl, (blk_cell BK143.out 1).trans rfl, (blk_cell BK143.out 2).trans rfl, (blk_cell BK147.out 0).trans rfl, (blk_cell BK147.out 1).trans rfl, (blk_cell BK147.out 2).trans rfl, HS6_⟩ (fun hHeld => ?_)
            clear hK K
            refine norm_ (a' := ?_) ?_ ?_
            rotate_left
            · show Act.put _ (some 27) _ = _
              simp only [Act.put, List.setIfInBounds_toArray, List.set_cons_zero, List.set_cons_succ, i64_w, i32_w]
              rfl
            refine one_ (i := 6) (N := some 142) #[true, true, true, true, true, true, true, false, false, false, true, false, false] rfl rfl (one_of HT_.out (by kernel_rfl)) (by decide) (fun K hK => ?_)
            refine goes_ Try.func6 (by kernel_rfl) rfl #[.string (rdOf ByteArray.empty y151 t154), .agg #[.int .i64 t140, .int .i64 t141, .string t142], .agg #[.int .i64 t144, .int .i64 t145, .string t146]] (by rfl) rfl rfl z5_ ?_
            with_reducible refine (impl_BinaryValue.calls kj17 (rdOf ByteArray.empty y151 t154) t140 t141 t142 t144 t145 t146 t162 t163 t164 t165 _ A134.out).mono ?_
            rintro e w182 ⟨rfl, hb⟩
            have HS6_ := (hb.cell (World.block_lt_of_cell? _ _ (hHeld.2.2.2.2.2.2))).trans (hHeld.2.2.2.2.2.2)
            refine ⟨_, rfl, ?_⟩
            have n0_ := ak_ (Kd.R_below z64_ hb)
            have n1_ := ak_ (Kd.R_below z71_ hb)
            have n2_ := ak_ (blk_below (g := gb106) (o := .cells #[.int .i64 ((rd_T24 y101 t104).f0), .int .i64 ((rd_T24 y101 t104).f1), .string ((rd_T24 y101 t104).f2)] 24 (0, 0)) z12_ hb)
            have n3_ := ak_ (blk_below (g := gb109) (o := .cells #[.int .i64 ((rd_T24 y101 t107).f0), .int .i64 ((rd_T24 y101 t107).f1), .string ((rd_T24 y101 t107).f2)] 24 (0, 0)) z13_ hb)
            have n4_ := ak_ (blk_below (g := gb114) (o := .cells #[.int .i64 t110, .int .i64 t111, .string t112] 24 (0, 0)) z14_ hb)
            have n5_ := ak_ (blk_below (g := gb119) (o := .cells #[.int .i64 t115, .int .i64 t116, .string t117] 24 (0, 0)) z15_ hb)
            have n6_ := ak_ (blk_below (g := gb124) (o := .cells #[.int .i64 t120, .int .i64 t121, .string t122] 24 (0, 0)) z17_ hb)
            have n7_ := ak_ (blk_below (g := gb129) (o := .cells #[.int .i64 t125, .int .i64 t126, .string t127] 24 (0, 0)) z20_ hb)
            have n8_ := ak_ (blk_below (g := gb134) (o := .cells #[.int .i64 t130, .int .i64 t131, .string t132] 24 (0, 0)) z21_ hb)
            have n9_ := ak_ (blk_below (g := gb139) (o := .cells #[.int .i64 t135, .int .i64 t136, .string t137] 24 (0, 0)) z25_ hb)
            have n10_ := ak_ (blk_below (g := gb143) (o := .cells #[.int .i64 t140, .int .i64 t141, .string t142] 24 (0, 0)) z26_ hb)
            have n11_ := ak_ (blk_below (g := gb147) (o := .cells #[.int .i64 t144, .int .i64 t145, .string t146] 24 (0, 0)) z31_ hb)
            have n12_ := ak_ (blk_below (g := gb160) (o := .cells #[.int .i64 t156, .int .i64 t157, .string t158] 24 (0, 0)) z46_ hb)
            have n13_ := ak_ (blk_below (g := gb166) (o := .cells #[.int .i64 0, .int .i64 0, .string (⟨#[]⟩ : ByteArray)] 24 (0, 0)) z77_ hb)
            have n14_ := ak_ (below_step z32_ hb)
            clear HO150
            clear HO153
            clear BK106
            clear BK109
            clear BK114
            clear BK119
            clear BK124
            clear BK129
            clear BK134
            clear BK139
            clear BK143
            clear BK147
            clear BK160
            clear BK166
            clear HB
            have HO150 := n0_
            have HO153 := n1_
            have BK106 := n2_
            have BK109 := n3_
            have BK114 := n4_
            have BK119 := n5_
            have BK124 := n6_
            have BK129 := n7_
            have BK134 := n8_
            have BK139 := n9_
            have BK143 := n10_
            have BK147 := n11_
            have BK160 := n12_
            have BK166 := n13_
            have HB := n14_
            clear n0_ n1_ n2_ n3_ n4_ n5_ n6_ n7_ n8_ n9_ n10_ n11_ n12_ n13_ n14_
            (try clear hb)
            (try clear hb2)
            (try clear hk)
            (try clear hi)
            refine hK.out _ _ ⟨(blk_cell BK143.out 0).trans rfl, (blk_cell BK143.out 1).trans rfl, (blk_cell BK143.out 2).trans rfl, (blk_cell BK147.out 0).trans rfl, (blk_cell BK147.out 1).trans rfl, (blk_cell BK147.out 2).trans rfl, HS6_⟩ (fun hHeld => ?_)
            clear hK K
            refine norm_ (a' := ?_) ?_ ?_
            rotate_left
            · show Act.put _ (some 142) _ = _
              simp only [Act.put, List.setIfInBounds_toArray, List.set_cons_zero, List.set_cons_succ, i64_w, i32_w]
              rfl
            refine pu_ 7 (N := some 135) #[true, true, true, true, true, true, true, true, false, false, true, false, false] HT_.out (h_ := ?_)
            refine pu_ 8 (N := some 143) #[true, true, true, true, true, true, true, true, true, false, true, false, false] HT_.out (h_ := ?_)
            refine pu_ 9 (N := some 144) #[true, true, true, true, true, true, true, true, true, true, true, false, false] HT_.out (h_ := ?_)
            exact norm_ z107_ (hCont (gb166) _ ⟨hHeld, z64_, z71_, z12_, z13_, z14_, z15_, z17_, z20_, z21_, z25_, z26_, z31_, z46_, z77_, GW166.out, GE166.out, NB106_166.out, NB166_106.out, NB109_166.out, NB166_109.out, NB114_166.out, NB166_114.out, NB119_166.out, NB166_119.out, NB124_166.out, NB166_124.out, NB129_166.out, NB166_129.out, NB134_166.out, NB166_134.out, NB139_166.out, NB166_139.out, NB143_166.out, NB166_143.out, NB147_166.out, NB166_147.out, NB160_166.out, NB166_160.out, z32_⟩)
          rintro gb166 w183 ⟨hS_, h0_, h1_, h2_, h3_, h4_, h5_, h6_, h7_, h8_, h9_, h10_, h11_, h12_, h13_, h14_, h15_, h16_, h17_, h18_, h19_, h20_, h21_, h22_, h23_, h24_, h25_, h26_, h27_, h28_, h29_, h30_, h31_, h32_, h33_, h34_, h35_, h36_, h37_, h38_⟩
          have n0_ : Aside0 (Kd.R Kd.string 9 w183 w.heap.size (fun k_ => some k_ ≠ (.slice (some ad161) y151.length co180 : Value).ownBlock) (.slice (some ad155) y148.length co171) y148) := ⟨h0_⟩
          have n1_ : Aside0 (Kd.R Kd.string 9 w183 w.heap.size (fun k_ => some k_ ≠ (.slice (some ad155) y148.length co171 : Value).ownBlock) (.slice (some ad161) y151.length co180) y151) := ⟨h1_⟩
          have n2_ : Aside0 (w183.heap[gb106]? = some (.cells #[.int .i64 ((rd_T24 y101 t104).f0), .int .i64 ((rd_T24 y101 t104).f1), .string ((rd_T24 y101 t104).f2)] 24 (0, 0))) := ⟨h2_⟩
          have n3_ : Aside0 (w183.heap[gb109]? = some (.cells #[.int .i64 ((rd_T24 y101 t107).f0), .int .i64 ((rd_T24 y101 t107).f1), .string ((rd_T24 y101 t107).f2)] 24 (0, 0))) := ⟨h3_⟩
          have n4_ : Aside0 (w183.heap[gb114]? = some (.cells #[.int .i64 t110, .int .i64 t111, .string t112] 24 (0, 0))) := ⟨h4_⟩
          have n5_ : Aside0 (w183.heap[gb119]? = some (.cells #[.int .i64 t115, .int .i64 t116, .string t117] 24 (0, 0))) := ⟨h5_⟩
          have n6_ : Aside0 (w183.heap[gb124]? = some (.cells #[.int .i64 t120, .int .i64 t121, .string t122] 24 (0, 0))) := ⟨h6_⟩
          have n7_ : Aside0 (w183.heap[gb129]? = some (.cells #[.int .i64 t125, .int .i64 t126, .string t127] 24 (0, 0))) := ⟨h7_⟩
          have n8_ : Aside0 (w183.heap[gb134]? = some (.cells #[.int .i64 t130, .int .i64 t131, .string t132] 24 (0, 0))) := ⟨h8_⟩
          have n9_ : Aside0 (w183.heap[gb139]? = some (.cells #[.int .i64 t135, .int .i64 t136, .string t137] 24 (0, 0))) := ⟨h9_⟩
          have n10_ : Aside0 (w183.heap[gb143]? = some (.cells #[.int .i64 t140, .int .i64 t141, .string t142] 24 (0, 0))) := ⟨h10_⟩
          have n11_ : Aside0 (w183.heap[gb147]? = some (.cells #[.int .i64 t144, .int .i64 t145, .string t146] 24 (0, 0))) := ⟨h11_⟩
          have n12_ : Aside0 (w183.heap[gb160]? = some (.cells #[.int .i64 t156, .int .i64 t157, .string t158] 24 (0, 0))) := ⟨h12_⟩
          have n13_ : Aside0 (w183.heap[gb166]? = some (.cells #[.int .i64 0, .int .i64 0, .string (⟨#[]⟩ : ByteArray)] 24 (0, 0))) := ⟨h13_⟩
          have n14_ : Aside0 (w.heap.size ≤ gb166) := ⟨h14_⟩
          have n15_ : Aside0 (w.heap.size ≤ gb166) := ⟨h15_⟩
          have n16_ : Aside0 (gb106 ≠ gb166) := ⟨h16_⟩
          have n17_ : Aside0 (gb166 ≠ gb106) := ⟨h17_⟩
          have n18_ : Aside0 (gb109 ≠ gb166) := ⟨h18_⟩
          have n19_ : Aside0 (gb166 ≠ gb109) := ⟨h19_⟩
          have n20_ : Aside0 (gb114 ≠ gb166) := ⟨h20_⟩
          have n21_ : Aside0 (gb166 ≠ gb114) := ⟨h21_⟩
          have n22_ : Aside0 (gb119 ≠ gb166) := ⟨h22_⟩
          have n23_ : Aside0 (gb166 ≠ gb119) := ⟨h23_⟩
          have n24_ : Aside0 (gb124 ≠ gb166) := ⟨h24_⟩
          have n25_ : Aside0 (gb166 ≠ gb124) := ⟨h25_⟩
          have n26_ : Aside0 (gb129 ≠ gb166) := ⟨h26_⟩
          have n27_ : Aside0 (gb166 ≠ gb129) := ⟨h27_⟩
          have n28_ : Aside0 (gb134 ≠ gb166) := ⟨h28_⟩
          have n29_ : Aside0 (gb166 ≠ gb134) := ⟨h29_⟩
          have n30_ : Aside0 (gb139 ≠ gb166) := ⟨h30_⟩
          have n31_ : Aside0 (gb166 ≠ gb139) := ⟨h31_⟩
          have n32_ : Aside0 (gb143 ≠ gb166) := ⟨h32_⟩
          have n33_ : Aside0 (gb166 ≠ gb143) := ⟨h33_⟩
          have n34_ : Aside0 (gb147 ≠ gb166) := ⟨h34_⟩
          have n35_ : Aside0 (gb166 ≠ gb147) := ⟨h35_⟩
          have n36_ : Aside0 (gb160 ≠ gb166) := ⟨h36_⟩
          have n37_ : Aside0 (gb166 ≠ gb160) := ⟨h37_⟩
          have n38_ : Aside0 (Below w.heap.size w w183) := ⟨h38_⟩
          clear HO150
          clear HO153
          clear BK106
          clear BK109
          clear BK114
          clear BK119
          clear BK124
          clear BK129
          clear BK134
          clear BK139
          clear BK143
          clear BK147
          clear BK160
          clear HB
          clear h0_ h1_ h2_ h3_ h4_ h5_ h6_ h7_ h8_ h9_ h10_ h11_ h12_ h13_ h14_ h15_ h16_ h17_ h18_ h19_ h20_ h21_ h22_ h23_ h24_ h25_ h26_ h27_ h28_ h29_ h30_ h31_ h32_ h33_ h34_ h35_ h36_ h37_ h38_
          have HO150 := n0_
          have HO153 := n1_
          have BK106 := n2_
          have BK109 := n3_
          have BK114 := n4_
          have BK119 := n5_
          have BK124 := n6_
          have BK129 := n7_
          have BK134 := n8_
          have BK139 := n9_
          have BK143 := n10_
          have BK147 := n11_
          have BK160 := n12_
          have BK166 := n13_
          have GW166 := n14_
          have GE166 := n15_
          have NB106_166 := n16_
          have NB166_106 := n17_
          have NB109_166 := n18_
          have NB166_109 := n19_
          have NB114_166 := n20_
          have NB166_114 := n21_
          have NB119_166 := n22_
          have NB166_119 := n23_
          have NB124_166 := n24_
          have NB166_124 := n25_
          have NB129_166 := n26_
          have NB166_129 := n27_
          have NB134_166 := n28_
          have NB166_134 := n29_
          have NB139_166 := n30_
          have NB166_139 := n31_
          have NB143_166 := n32_
          have NB166_143 := n33_
          have NB147_166 := n34_
          have NB166_147 := n35_
          have NB160_166 := n36_
          have NB166_160 := n37_
          have HB := n38_
          clear n0_ n1_ n2_ n3_ n4_ n5_ n6_ n7_ n8_ n9_ n10_ n11_ n12_ n13_ n14_ n15_ n16_ n17_ n18_ n19_ n20_ n21_ n22_ n23_ n24_ n25_ n26_ n27_ n28_ n29_ n30_ n31_ n32_ n33_ n34_ n35_ n36_ n37_ n38_
          have hHeld : w183.cell? ⟨gb143, 0, none⟩ = some (.int .i64 t140) ∧ w183.cell? ⟨gb143, 1, none⟩ = some (.int .i64 t141) ∧ w183.cell? ⟨gb143, 2, none⟩ = some (.string t142) ∧ w183.cell? ⟨gb147, 0, none⟩ = some (.int .i64 t144) ∧ w183.cell? ⟨gb147, 1, none⟩ = some (.int .i64 t145) ∧ w183.cell? ⟨gb147, 2, none⟩ = some (.string t146) ∧ w183.cell? (ad161.add (t154).toNat) = some (.string (rdOf ByteArray.empty y151 t154)) := hS_
          refine norm_ (a' := ?_) ?_ ?_
          rotate_left
          · simp only [putAll, Act.put, List.setIfInBounds_toArray, List.set_cons_zero, List.set_cons_succ]
            rfl
          refine one_ (i := 11) (N := none) #[true, true, true, true, true, true, true, true, true, true, true, true, false] rfl rfl (one_of HT_.out (by kernel_rfl)) (by decide) (fun K hK => ?_)
          have hs184 : w183.cell? ⟨gb166, 0, none⟩ = some (.int .i64 0) := (blk_cell BK166.out 0).trans rfl
          have hfs184 := blk_frozen BK166.out 0
          have hns184_0 := NB106_166.out
          have hns184_1 := NB109_166.out
          have hns184_2 := NB114_166.out
          have hns184_3 := NB119_166.out
          have hns184_4 := NB124_166.out
          have hns184_5 := NB129_166.out
          have hns184_6 := NB134_166.out
          have hns184_7 := NB139_166.out
          have hns184_8 := NB143_166.out
          have hns184_9 := NB147_166.out
          have hns184_10 := NB160_166.out
          have hms184_0 := NB166_106.out
          have hms184_1 := NB166_109.out
          have hms184_2 := NB166_114.out
          have hms184_3 := NB166_119.out
          have hms184_4 := NB166_124.out
          have hms184_5 := NB166_129.out
          have hms184_6 := NB166_134.out
          have hms184_7 := NB166_139.out
          have hms184_8 := NB166_143.out
          have hms184_9 := NB166_147.out
          have hms184_10 := NB166_160.out
          have hs185 : w183.cell? ⟨gb166, 1, none⟩ = some (.int .i64 0) := (blk_cell BK166.out 1).trans rfl
          have hfs185 := blk_frozen BK166.out 1
          have hns185_0 := NB106_166.out
          have hns185_1 := NB109_166.out
          have hns185_2 := NB114_166.out
          have hns185_3 := NB119_166.out
          have hns185_4 := NB124_166.out
          have hns185_5 := NB129_166.out
          have hns185_6 := NB134_166.out
          have hns185_7 := NB139_166.out
          have hns185_8 := NB143_166.out
          have hns185_9 := NB147_166.out
          have hns185_10 := NB160_166.out
          have hms185_0 := NB166_106.out
          have hms185_1 := NB166_109.out
          have hms185_2 := NB166_114.out
          have hms185_3 := NB166_119.out
          have hms185_4 := NB166_124.out
          have hms185_5 := NB166_129.out
          have hms185_6 := NB166_134.out
          have hms185_7 := NB166_139.out
          have hms185_8 := NB166_143.out
          have hms185_9 := NB166_147.out
          have hms185_10 := NB166_160.out
          have hs186 : w183.cell? ⟨gb166, 2, none⟩ = some (.string (⟨#[]⟩ : ByteArray)) := (blk_cell BK166.out 2).trans rfl
          have hfs186 := blk_frozen BK166.out 2
          have hns186_0 := NB106_166.out
          have hns186_1 := NB109_166.out
          have hns186_2 := NB114_166.out
          have hns186_3 := NB119_166.out
          have hns186_4 := NB124_166.out
          have hns186_5 := NB129_166.out
          have hns186_6 := NB134_166.out
          have hns186_7 := NB139_166.out
          have hns186_8 := NB143_166.out
          have hns186_9 := NB147_166.out
          have hns186_10 := NB160_166.out
          have hms186_0 := NB166_106.out
          have hms186_1 := NB166_109.out
          have hms186_2 := NB166_114.out
          have hms186_3 := NB166_119.out
          have hms186_4 := NB166_124.out
          have hms186_5 := NB166_129.out
          have hms186_6 := NB166_134.out
          have hms186_7 := NB166_139.out
          have hms186_8 := NB166_143.out
          have hms186_9 := NB166_147.out
          have hms186_10 := NB166_160.out
          refine skip_ (w1 := ?_) (by rfl) rfl ?_ ?_
          rotate_left
          · go_simp
            rfl
          refine hK.out _ _ ⟨((cell_far (p := ⟨gb166, _, none⟩) NB143_166.out _).trans (((cell_far (p := ⟨gb166, _, none⟩) NB143_166.out _).trans (((cell_far (p := ⟨gb166, _, none⟩) NB143_166.out _).trans (hHeld.1)))))), ((cell_far (p := ⟨gb166, _, none⟩) NB143_166.out _).trans (((cell_far (p := ⟨gb166, _, none⟩) NB143_166.out _).trans (((cell_far (p := ⟨gb166, _, none⟩) NB143_166.out _).trans (hHeld.2.1)))))), ((cell_far (p := ⟨gb166, _, none⟩) NB143_166.out _).trans (((cell_far (p := ⟨gb166, _, none⟩) NB143_166.out _).trans (((cell_far (p := ⟨gb166, _, none⟩) NB143_166.out _).trans (hHeld.2.2.1)))))), ((cell_far (p := ⟨gb166, _, none⟩) NB147_166.out _).trans (((cell_far (p := ⟨gb166, _, none⟩) NB147_166.out _).trans (((cell_far (p := ⟨gb166, _, none⟩) NB147_166.out _).trans (hHeld.2.2.2.1)))))), ((cell_far (p := ⟨gb166, _, none⟩) NB147_166.out _).trans (((cell_far (p := ⟨gb166, _, none⟩) NB147_166.out _).trans (((cell_far (p := ⟨gb166, _, none⟩) NB147_166.out _).trans (hHeld.2.2.2.2.1)))))), ((cell_far (p := ⟨gb166, _, none⟩) NB147_166.out _).trans (((cell_far (p := ⟨gb166, _, none⟩) NB147_166.out _).trans (((cell_far (p := ⟨gb166, _, none⟩) NB147_166.out _).trans (hHeld.2.2.2.2.2.1)))))), ((cell_far (p := ⟨gb166, _, none⟩) z66_ _).trans (((cell_far (p := ⟨gb166, _, none⟩) z66_ _).trans (((cell_far (p := ⟨gb166, _, none⟩) z66_ _).trans (hHeld.2.2.2.2.2.2))))))⟩ (fun hHeld => ?_)
          clear hK K
          refine pu_ 12 (N := some 28) #[true, true, true, true, true, true, true, true, true, true, true, true, true] HT_.out (h_ := ?_)
          refine done_ (done_of HT_.out (by kernel_rfl)) ?_
          have hnb187 := NB160_106.out
          have hnc187 := NB106_160.out
          have hnb188 := NB160_109.out
          have hnc188 := NB109_160.out
          have hnb189 := NB160_114.out
          have hnc189 := NB114_160.out
          have hnb190 := NB160_119.out
          have hnc190 := NB119_160.out
          have hnb191 := NB160_124.out
          have hnc191 := NB124_160.out
          have hnb192 := NB160_129.out
          have hnc192 := NB129_160.out
          have hnb193 := NB160_134.out
          have hnc193 := NB134_160.out
          have hnb194 := NB160_139.out
          have hnc194 := NB139_160.out
          have hnb195 := NB160_143.out
          have hnc195 := NB143_160.out
          have hnb196 := NB160_147.out
          have hnc196 := NB147_160.out
          have hnb197 := NB160_166.out
          have hnc197 := NB166_160.out
          obtain ⟨hcz198_0, hcz198_1, hcz198_2, hfz198_0, hfz198_1, hfz198_2⟩ := bcf3 BK160.out
          try go_wp2_with (first | ((with_reducible refine gate_callee (f := 8) rfl ?_); refine goesL_ (some 147) rfl rfl Try.func8 (by kernel_rfl) rfl #[.string (⟨#[110, 111, 116]⟩ : ByteArray), .agg #[.int .i64 t156, .int .i64 t157, .string t158]] rfl z5_ ?_; (with_reducible refine (impl_UnaryValue.calls kj17 (⟨#[110, 111, 116]⟩ : ByteArray) t156 t157 t158 t167 t168 t169 t170 _ A135.out).mono ?_); rintro e w199 ⟨rfl, hb⟩; refine ⟨_, rfl, ?_⟩; have n0_ := ak_ (Kd.R_below (by (with_reducible repeat (first | apply Kd.R_alloc | apply Kd.R_drewN | apply Kd.R_drew)); exact (Kd.R_mono (Kd.R_far (p := ⟨gb166, 2, none⟩) (Kd.R_far (p := ⟨gb166, 1, none⟩) (Kd.R_far (p := ⟨gb166, 0, none⟩) (Kd.R_types HO150.out BK166.out (by decide)) (fun _ hk => hk.2) (.int .i64 t162)) (fun _ hk => hk.2) (.int .i64 t163)) (fun _ hk => hk.2) (.string t164)) (fun _ h_ => h_.1))) hb); have n1_ := ak_ (Kd.R_below (by (with_reducible repeat (first | apply Kd.R_alloc | apply Kd.R_drewN | apply Kd.R_drew)); exact (Kd.R_mono (Kd.R_far (p := ⟨gb166, 2, none⟩) (Kd.R_far (p := ⟨gb166, 1, none⟩) (Kd.R_far (p := ⟨gb166, 0, none⟩) (Kd.R_types HO153.out BK166.out (by decide)) (fun _ hk => hk.2) (.int .i64 t162)) (fun _ hk => hk.2) (.int .i64 t163)) (fun _ hk => hk.2) (.string t164)) (fun _ h_ => h_.1))) hb); have n2_ := ak_ (blk_below (g := gb106) (o := .cells #[.int .i64 ((rd_T24 y101 t104).f0), .int .i64 ((rd_T24 y101 t104).f1), .string ((rd_T24 y101 t104).f2)] 24 (0, 0)) (by (with_reducible repeat (first | refine blk_drewN ?_ _ | refine blk_drew ?_ | refine blk_alloc ?_ _)); refine blk_far ?_ NB106_166.out _; (with_reducible repeat (first | refine blk_drewN ?_ _ | refine blk_drew ?_ | refine blk_alloc ?_ _)); refine blk_far ?_ NB106_166.out _; (with_reducible repeat (first | refine blk_drewN ?_ _ | refine blk_drew ?_ | refine blk_alloc ?_ _)); refine blk_far ?_ NB106_166.out _; (with_reducible repeat (first | refine blk_drewN ?_ _ | refine blk_drew ?_ | refine blk_alloc ?_ _)); exact BK106.out) hb); have n3_ := ak_ (blk_below (g := gb109) (o := .cells #[.int .i64 ((rd_T24 y101 t107).f0), .int .i64 ((rd_T24 y101 t107).f1), .string ((rd_T24 y101 t107).f2)] 24 (0, 0)) (by (with_reducible repeat (first | refine blk_drewN ?_ _ | refine blk_drew ?_ | refine blk_alloc ?_ _)); refine blk_far ?_ NB109_166.out _; (with_reducible repeat (first | refine blk_drewN ?_ _ | refine blk_drew ?_ | refine blk_alloc ?_ _)); refine blk_far ?_ NB109_166.out _; (with_reducible repeat (first | refine blk_drewN ?_ _ | refine blk_drew ?_ | refine blk_alloc ?_ _)); refine blk_far ?_ NB109_166.out _; (with_reducible repeat (first | refine blk_drewN ?_ _ | refine blk_drew ?_ | refine blk_alloc ?_ _)); exact BK109.out) hb); have n4_ := ak_ (blk_below (g := gb114) (o := .cells #[.int .i64 t110, .int .i64 t111, .string t112] 24 (0, 0)) (by (with_reducible repeat (first | refine blk_drewN ?_ _ | refine blk_drew ?_ | refine blk_alloc ?_ _)); refine blk_far ?_ NB114_166.out _; (with_reducible repeat (first | refine blk_drewN ?_ _ | refine blk_drew ?_ | refine blk_alloc ?_ _)); refine blk_far ?_ NB114_166.out _; (with_reducible repeat (first | refine blk_drewN ?_ _ | refine blk_drew ?_ | refine blk_alloc ?_ _)); refine blk_far ?_ NB114_166.out _; (with_reducible repeat (first | refine blk_drewN ?_ _ | refine blk_drew ?_ | refine blk_alloc ?_ _)); exact BK114.out) hb); have n5_ := ak_ (blk_below (g := gb119) (o := .cells #[.int .i64 t115, .int .i64 t116, .string t117] 24 (0, 0)) (by (with_reducible repeat (first | refine blk_drewN ?_ _ | refine blk_drew ?_ | refine blk_alloc ?_ _)); refine blk_far ?_ NB119_166.out _; (with_reducible repeat (first | refine blk_drewN ?_ _ | refine blk_drew ?_ | refine blk_alloc ?_ _)); refine blk_far ?_ NB119_166.out _; (with_reducible repeat (first | refine blk_drewN ?_ _ | refine blk_drew ?_ | refine blk_alloc ?_ _)); refine blk_far ?_ NB119_166.out _; (with_reducible repeat (first | refine blk_drewN ?_ _ | refine blk_drew ?_ | refine blk_alloc ?_ _)); exact BK119.out) hb); have n6_ := ak_ (blk_below (g := gb124) (o := .cells #[.int .i64 t120, .int .i64 t121, .string t122] 24 (0, 0)) (by (with_reducible repeat (first | refine blk_drewN ?_ _ | refine blk_drew ?_ | refine blk_alloc ?_ _)); refine blk_far ?_ NB124_166.out _; (with_reducible repeat (first | refine blk_drewN ?_ _ | refine blk_drew ?_ | refine blk_alloc ?_ _)); refine blk_far ?_ NB124_166.out _; (with_reducible repeat (first | refine blk_drewN ?_ _ | refine blk_drew ?_ | refine blk_alloc ?_ _)); refine blk_far ?_ NB124_166.out _; (with_reducible repeat (first | refine blk_drewN ?_ _ | refine blk_drew ?_ | refine blk_alloc ?_ _)); exact BK124.out) hb); have n7_ := ak_ (blk_below (g := gb129) (o := .cells #[.int .i64 t125, .int .i64 t126, .string t127] 24 (0, 0)) (by (with_reducible repeat (first | refine blk_drewN ?_ _ | refine blk_drew ?_ | refine blk_alloc ?_ _)); refine blk_far ?_ NB129_166.out _; (with_reducible repeat (first | refine blk_drewN ?_ _ | refine blk_drew ?_ | refine blk_alloc ?_ _)); refine blk_far ?_ NB129_166.out _; (with_reducible repeat (first | refine blk_drewN ?_ _ | refine blk_drew ?_ | refine blk_alloc ?_ _)); refine blk_far ?_ NB129_166.out _; (with_reducible repeat (first | refine blk_drewN ?_ _ | refine blk_drew ?_ | refine blk_alloc ?_ _)); exact BK129.out) hb); have n8_ := ak_ (blk_below (g := gb134) (o := .cells #[.int .i64 t130, .int .i64 t131, .string t132] 24 (0, 0)) (by (with_reducible repeat (first | refine blk_drewN ?_ _ | refine blk_drew ?_ | refine blk_alloc ?_ _)); refine blk_far ?_ NB134_166.out _; (with_reducible repeat (first | refine blk_drewN ?_ _ | refine blk_drew ?_ | refine blk_alloc ?_ _)); refine blk_far ?_ NB134_166.out _; (with_reducible repeat (first | refine blk_drewN ?_ _ | refine blk_drew ?_ | refine blk_alloc ?_ _)); refine blk_far ?_ NB134_166.out _; (with_reducible repeat (first | refine blk_drewN ?_ _ | refine blk_drew ?_ | refine blk_alloc ?_ _)); exact BK134.out) hb); have n9_ := ak_ (blk_below (g := gb139) (o := .cells #[.int .i64 t135, .int .i64 t136, .string t137] 24 (0, 0)) (by (with_reducible repeat (first | refine blk_drewN ?_ _ | refine blk_drew ?_ | refine blk_alloc ?_ _)); refine blk_far ?_ NB139_166.out _; (with_reducible repeat (first | refine blk_drewN ?_ _ | refine blk_drew ?_ | refine blk_alloc ?_ _)); refine blk_far ?_ NB139_166.out _; (with_reducible repeat (first | refine blk_drewN ?_ _ | refine blk_drew ?_ | refine blk_alloc ?_ _)); refine blk_far ?_ NB139_166.out _; (with_reducible repeat (first | refine blk_drewN ?_ _ | refine blk_drew ?_ | refine blk_alloc ?_ _)); exact BK139.out) hb); have n10_ := ak_ (blk_below (g := gb143) (o := .cells #[.int .i64 t140, .int .i64 t141, .string t142] 24 (0, 0)) (by (with_reducible repeat (first | refine blk_drewN ?_ _ | refine blk_drew ?_ | refine blk_alloc ?_ _)); refine blk_far ?_ NB143_166.out _; (with_reducible repeat (first | refine blk_drewN ?_ _ | refine blk_drew ?_ | refine blk_alloc ?_ _)); refine blk_far ?_ NB143_166.out _; (with_reducible repeat (first | refine blk_drewN ?_ _ | refine blk_drew ?_ | refine blk_alloc ?_ _)); refine blk_far ?_ NB143_166.out _; (with_reducible repeat (first | refine blk_drewN ?_ _ | refine blk_drew ?_ | refine blk_alloc ?_ _)); exact BK143.out) hb); have n11_ := ak_ (blk_below (g := gb147) (o := .cells #[.int .i64 t144, .int .i64 t145, .string t146] 24 (0, 0)) (by (with_reducible repeat (first | refine blk_drewN ?_ _ | refine blk_drew ?_ | refine blk_alloc ?_ _)); refine blk_far ?_ NB147_166.out _; (with_reducible repeat (first | refine blk_drewN ?_ _ | refine blk_drew ?_ | refine blk_alloc ?_ _)); refine blk_far ?_ NB147_166.out _; (with_reducible repeat (first | refine blk_drewN ?_ _ | refine blk_drew ?_ | refine blk_alloc ?_ _)); refine blk_far ?_ NB147_166.out _; (with_reducible repeat (first | refine blk_drewN ?_ _ | refine blk_drew ?_ | refine blk_alloc ?_ _)); exact BK147.out) hb); have n12_ := ak_ (blk_below (g := gb160) (o := .cells #[.int .i64 t156, .int .i64 t157, .string t158] 24 (0, 0)) (by (with_reducible repeat (first | refine blk_drewN ?_ _ | refine blk_drew ?_ | refine blk_alloc ?_ _)); refine blk_far ?_ NB160_166.out _; (with_reducible repeat (first | refine blk_drewN ?_ _ | refine blk_drew ?_ | refine blk_alloc ?_ _)); refine blk_far ?_ NB160_166.out _; (with_reducible repeat (first | refine blk_drewN ?_ _ | refine blk_drew ?_ | refine blk_alloc ?_ _)); refine blk_far ?_ NB160_166.out _; (with_reducible repeat (first | refine blk_drewN ?_ _ | refine blk_drew ?_ | refine blk_alloc ?_ _)); exact BK160.out) hb); have n13_ := ak_ (blk_below (g := gb166) (o := .cells #[.int .i64 t162, .int .i64 t163, .string t164] 24 (0, 0)) (by (with_reducible repeat (first | refine blk_drewN ?_ _ | refine blk_drew ?_ | refine blk_alloc ?_ _)); refine blk_put (cs := #[.int .i64 t162, .int .i64 t163, .string (⟨#[]⟩ : ByteArray)]) ?_ 2 _ rfl; (with_reducible repeat (first | refine blk_drewN ?_ _ | refine blk_drew ?_ | refine blk_alloc ?_ _)); refine blk_put (cs := #[.int .i64 t162, .int .i64 0, .string (⟨#[]⟩ : ByteArray)]) ?_ 1 _ rfl; (with_reducible repeat (first | refine blk_drewN ?_ _ | refine blk_drew ?_ | refine blk_alloc ?_ _)); refine blk_put (cs := #[.int .i64 0, .int .i64 0, .string (⟨#[]⟩ : ByteArray)]) ?_ 0 _ rfl; (with_reducible repeat (first | refine blk_drewN ?_ _ | refine blk_drew ?_ | refine blk_alloc ?_ _)); exact BK166.out) hb); have n14_ := ak_ (below_step z32_ hb); clear HO150; clear HO153; clear BK106; clear BK109; clear BK114; clear BK119; clear BK124; clear BK129; clear BK134; clear BK139; clear BK143; clear BK147; clear BK160; clear BK166; clear HB; have HO150 := n0_; have HO153 := n1_; have BK106 := n2_; have BK109 := n3_; have BK114 := n4_; have BK119 := n5_; have BK124 := n6_; have BK129 := n7_; have BK134 := n8_; have BK139 := n9_; have BK143 := n10_; have BK147 := n11_; have BK160 := n12_; have BK166 := n13_; have HB := n14_; clear n0_ n1_ n2_ n3_ n4_ n5_ n6_ n7_ n8_ n9_ n10_ n11_ n12_ n13_ n14_; (try clear hb); (try clear hb2); (try clear hk); (try clear hi)) | ((with_reducible refine gate_dst (N := 29) rfl ?_); (try (refine gate_guard (by rfl) ?_; dsimp only)); refine bx_ 29 (cs := #[.int .i64 0, .int .i64 0, .string (⟨#[]⟩ : ByteArray)]) (t := 24) (h_ := ?_); intro gb171 hg w200 hbox hb; have n0_ := ak_ (Kd.R_below z64_ hb); have n1_ := ak_ (Kd.R_below z71_ hb); have n2_ := ak_ (blk_below (g := gb106) (o := .cells #[.int .i64 ((rd_T24 y101 t104).f0), .int .i64 ((rd_T24 y101 t104).f1), .string ((rd_T24 y101 t104).f2)] 24 (0, 0)) z12_ hb); have n3_ := ak_ (blk_below (g := gb109) (o := .cells #[.int .i64 ((rd_T24 y101 t107).f0), .int .i64 ((rd_T24 y101 t107).f1), .string ((rd_T24 y101 t107).f2)] 24 (0, 0)) z13_ hb); have n4_ := ak_ (blk_below (g := gb114) (o := .cells #[.int .i64 t110, .int .i64 t111, .string t112] 24 (0, 0)) z14_ hb); have n5_ := ak_ (blk_below (g := gb119) (o := .cells #[.int .i64 t115, .int .i64 t116, .string t117] 24 (0, 0)) z15_ hb); have n6_ := ak_ (blk_below (g := gb124) (o := .cells #[.int .i64 t120, .int .i64 t121, .string t122] 24 (0, 0)) z17_ hb); have n7_ := ak_ (blk_below (g := gb129) (o := .cells #[.int .i64 t125, .int .i64 t126, .string t127] 24 (0, 0)) z20_ hb); have n8_ := ak_ (blk_below (g := gb134) (o := .cells #[.int .i64 t130, .int .i64 t131, .string t132] 24 (0, 0)) z21_ hb); have n9_ := ak_ (blk_below (g := gb139) (o := .cells #[.int .i64 t135, .int .i64 t136, .string t137] 24 (0, 0)) z25_ hb); have n10_ := ak_ (blk_below (g := gb143) (o := .cells #[.int .i64 t140, .int .i64 t141, .string t142] 24 (0, 0)) z26_ hb); have n11_ := ak_ (blk_below (g := gb147) (o := .cells #[.int .i64 t144, .int .i64 t145, .string t146] 24 (0, 0)) z31_ hb); have n12_ := ak_ (blk_below (g := gb160) (o := .cells #[.int .i64 t156, .int .i64 t157, .string t158] 24 (0, 0)) z46_ hb); have n13_ := ak_ (blk_below (g := gb166) (o := .cells #[.int .i64 t162, .int .i64 t163, .string t164] 24 (0, 0)) z77_ hb); have n14_ := ak_ (below_step z32_ hb); have n15_ := ak_ (hbox); have n16_ := ak_ ((gs_ w hg (below_size z32_))); have n17_ := ak_ ((gs_ w hg (below_size z32_))); have n18_ := ak_ ((z33_ : gb106 ≠ gb171)); have n19_ := ak_ ((z34_ : gb171 ≠ gb106)); have n20_ := ak_ ((z35_ : gb109 ≠ gb171)); have n21_ := ak_ ((z36_ : gb171 ≠ gb109)); have n22_ := ak_ ((z49_ : gb114 ≠ gb171)); have n23_ := ak_ ((z50_ : gb171 ≠ gb114)); have n24_ := ak_ ((z52_ : gb119 ≠ gb171)); have n25_ := ak_ ((z53_ : gb171 ≠ gb119)); have n26_ := ak_ ((z57_ : gb124 ≠ gb171)); have n27_ := ak_ ((z58_ : gb171 ≠ gb124)); have n28_ := ak_ ((z62_ : gb129 ≠ gb171)); have n29_ := ak_ ((z63_ : gb171 ≠ gb129)); have n30_ := ak_ ((z67_ : gb134 ≠ gb171)); have n31_ := ak_ ((z68_ : gb171 ≠ gb134)); have n32_ := ak_ ((z72_ : gb139 ≠ gb171)); have n33_ := ak_ ((z73_ : gb171 ≠ gb139)); have n34_ := ak_ ((z79_ : gb143 ≠ gb171)); have n35_ := ak_ ((z80_ : gb171 ≠ gb143)); have n36_ := ak_ ((z87_ : gb147 ≠ gb171)); have n37_ := ak_ ((z88_ : gb171 ≠ gb147)); have n38_ := ak_ ((z102_ : gb160 ≠ gb171)); have n39_ := ak_ ((z103_ : gb171 ≠ gb160)); have n40_ := ak_ ((by rw [hg]; exact Nat.ne_of_lt (blk_lt (g := gb166) (o := .cells #[.int .i64 t162, .int .i64 t163, .string t164] 24 (0, 0)) z77_) : gb166 ≠ gb171)); have n41_ := ak_ ((by rw [hg]; exact Nat.ne_of_gt (blk_lt (g := gb166) (o := .cells #[.int .i64 t162, .int .i64 t163, .string t164] 24 (0, 0)) z77_) : gb171 ≠ gb166)); clear HO150; clear HO153; clear BK106; clear BK109; clear BK114; clear BK119; clear BK124; clear BK129; clear BK134; clear BK139; clear BK143; clear BK147; clear BK160; clear BK166; clear HB; have HO150 := n0_; have HO153 := n1_; have BK106 := n2_; have BK109 := n3_; have BK114 := n4_; have BK119 := n5_; have BK124 := n6_; have BK129 := n7_; have BK134 := n8_; have BK139 := n9_; have BK143 := n10_; have BK147 := n11_; have BK160 := n12_; have BK166 := n13_; have HB := n14_; have BK171 := n15_; have GW171 := n16_; have GE171 := n17_; have NB106_171 := n18_; have NB171_106 := n19_; have NB109_171 := n20_; have NB171_109 := n21_; have NB114_171 := n22_; have NB171_114 := n23_; have NB119_171 := n24_; have NB171_119 := n25_; have NB124_171 := n26_; have NB171_124 := n27_; have NB129_171 := n28_; have NB171_129 := n29_; have NB134_171 := n30_; have NB171_134 := n31_; have NB139_171 := n32_; have NB171_139 := n33_; have NB143_171 := n34_; have NB171_143 := n35_; have NB147_171 := n36_; have NB171_147 := n37_; have NB160_171 := n38_; have NB171_160 := n39_; have NB166_171 := n40_; have NB171_166 := n41_; clear n0_ n1_ n2_ n3_ n4_ n5_ n6_ n7_ n8_ n9_ n10_ n11_ n12_ n13_ n14_ n15_ n16_ n17_ n18_ n19_ n20_ n21_ n22_ n23_ n24_ n25_ n26_ n27_ n28_ n29_ n30_ n31_ n32_ n33_ n34_ n35_ n36_ n37_ n38_ n39_ n40_ n41_; clear hb hbox hg; have hnb201 := NB171_106.out; have hnc201 := NB106_171.out; have hnb202 := NB171_109.out; have hnc202 := NB109_171.out; have hnb203 := NB171_114.out; have hnc203 := NB114_171.out; have hnb204 := NB171_119.out; have hnc204 := NB119_171.out; have hnb205 := NB171_124.out; have hnc205 := NB124_171.out; have hnb206 := NB171_129.out; have hnc206 := NB129_171.out; have hnb207 := NB171_134.out; have hnc207 := NB134_171.out; have hnb208 := NB171_139.out; have hnc208 := NB139_171.out; have hnb209 := NB171_143.out; have hnc209 := NB143_171.out; have hnb210 := NB171_147.out; have hnc210 := NB147_171.out; have hnb211 := NB171_160.out; have hnc211 := NB160_171.out; have hnb212 := NB171_166.out; have hnc212 := NB166_171.out; obtain ⟨hcz213_0, hcz213_1, hcz213_2, hfz213_0, hfz213_1, hfz213_2⟩ := bcf3 BK171.out; obtain ⟨hcz214_0, hcz214_1, hcz214_2, hfz214_0, hfz214_1, hfz214_2⟩ := bcf3 BK160.out) | ((with_reducible refine gate_callee (f := 8) rfl ?_); refine goesL_ (some 152) rfl rfl Try.func8 (by kernel_rfl) rfl #[.string (⟨#[105, 115, 110, 117, 108, 108]⟩ : ByteArray), .agg #[.int .i64 t156, .int .i64 t157, .string t158]] rfl z5_ ?_; (with_reducible refine (impl_UnaryValue.calls kj17 (⟨#[105, 115, 110, 117, 108, 108]⟩ : ByteArray) t156 t157 t158 t172 t173 t174 t175 _ A136.out).mono ?_); rintro e w215 ⟨rfl, hb⟩; refine ⟨_, rfl, ?_⟩; have n0_ := ak_ (Kd.R_below (by (with_reducible repeat (first | apply Kd.R_alloc | apply Kd.R_drewN | apply Kd.R_drew)); exact (Kd.R_mono (Kd.R_far (p := ⟨gb171, 2, none⟩) (Kd.R_far (p := ⟨gb171, 1, none⟩) (Kd.R_far (p := ⟨gb171, 0, none⟩) (Kd.R_types HO150.out BK171.out (by decide)) (fun _ hk => hk.2) (.int .i64 t167)) (fun _ hk => hk.2) (.int .i64 t168)) (fun _ hk => hk.2) (.string t169)) (fun _ h_ => h_.1))) hb); have n1_ := ak_ (Kd.R_below (by (with_reducible repeat (first | apply Kd.R_alloc | apply Kd.R_drewN | apply Kd.R_drew)); exact (Kd.R_mono (Kd.R_far (p := ⟨gb171, 2, none⟩) (Kd.R_far (p := ⟨gb171, 1, none⟩) (Kd.R_far (p := ⟨gb171, 0, none⟩) (Kd.R_types HO153.out BK171.out (by decide)) (fun _ hk => hk.2) (.int .i64 t167)) (fun _ hk => hk.2) (.int .i64 t168)) (fun _ hk => hk.2) (.string t169)) (fun _ h_ => h_.1))) hb); have n2_ := ak_ (blk_below (g := gb106) (o := .cells #[.int .i64 ((rd_T24 y101 t104).f0), .int .i64 ((rd_T24 y101 t104).f1), .string ((rd_T24 y101 t104).f2)] 24 (0, 0)) (by (with_reducible repeat (first | refine blk_drewN ?_ _ | refine blk_drew ?_ | refine blk_alloc ?_ _)); refine blk_far ?_ NB106_171.out _; (with_reducible repeat (first | refine blk_drewN ?_ _ | refine blk_drew ?_ | refine blk_alloc ?_ _)); refine blk_far ?_ NB106_171.out _; (with_reducible repeat (first | refine blk_drewN ?_ _ | refine blk_drew ?_ | refine blk_alloc ?_ _)); refine blk_far ?_ NB106_171.out _; (with_reducible repeat (first | refine blk_drewN ?_ _ | refine blk_drew ?_ | refine blk_alloc ?_ _)); exact BK106.out) hb); have n3_ := ak_ (blk_below (g := gb109) (o := .cells #[.int .i64 ((rd_T24 y101 t107).f0), .int .i64 ((rd_T24 y101 t107).f1), .string ((rd_T24 y101 t107).f2)] 24 (0, 0)) (by (with_reducible repeat (first | refine blk_drewN ?_ _ | refine blk_drew ?_ | refine blk_alloc ?_ _)); refine blk_far ?_ NB109_171.out _; (with_reducible repeat (first | refine blk_drewN ?_ _ | refine blk_drew ?_ | refine blk_alloc ?_ _)); refine blk_far ?_ NB109_171.out _; (with_reducible repeat (first | refine blk_drewN ?_ _ | refine blk_drew ?_ | refine blk_alloc ?_ _)); refine blk_far ?_ NB109_171.out _; (with_reducible repeat (first | refine blk_drewN ?_ _ | refine blk_drew ?_ | refine blk_alloc ?_ _)); exact BK109.out) hb); have n4_ := ak_ (blk_below (g := gb114) (o := .cells #[.int .i64 t110, .int .i64 t111, .string t112] 24 (0, 0)) (by (with_reducible repeat (first | refine blk_drewN ?_ _ | refine blk_drew ?_ | refine blk_alloc ?_ _)); refine blk_far ?_ NB114_171.out _; (with_reducible repeat (first | refine blk_drewN ?_ _ | refine blk_drew ?_ | refine blk_alloc ?_ _)); refine blk_far ?_ NB114_171.out _; (with_reducible repeat (first | refine blk_drewN ?_ _ | refine blk_drew ?_ | refine blk_alloc ?_ _)); refine blk_far ?_ NB114_171.out _; (with_reducible repeat (first | refine blk_drewN ?_ _ | refine blk_drew ?_ | refine blk_alloc ?_ _)); exact BK114.out) hb); have n5_ := ak_ (blk_below (g := gb119) (o := .cells #[.int .i64 t115, .int .i64 t116, .string t117] 24 (0, 0)) (by (with_reducible repeat (first | refine blk_drewN ?_ _ | refine blk_drew ?_ | refine blk_alloc ?_ _)); refine blk_far ?_ NB119_171.out _; (with_reducible repeat (first | refine blk_drewN ?_ _ | refine blk_drew ?_ | refine blk_alloc ?_ _)); refine blk_far ?_ NB119_171.out _; (with_reducible repeat (first | refine blk_drewN ?_ _ | refine blk_drew ?_ | refine blk_alloc ?_ _)); refine blk_far ?_ NB119_171.out _; (with_reducible repeat (first | refine blk_drewN ?_ _ | refine blk_drew ?_ | refine blk_alloc ?_ _)); exact BK119.out) hb); have n6_ := ak_ (blk_below (g := gb124) (o := .cells #[.int .i64 t120, .int .i64 t121, .string t122] 24 (0, 0)) (by (with_reducible repeat (first | refine blk_drewN ?_ _ | refine blk_drew ?_ | refine blk_alloc ?_ _)); refine blk_far ?_ NB124_171.out _; (with_reducible repeat (first | refine blk_drewN ?_ _ | refine blk_drew ?_ | refine blk_alloc ?_ _)); refine blk_far ?_ NB124_171.out _; (with_reducible repeat (first | refine blk_drewN ?_ _ | refine blk_drew ?_ | refine blk_alloc ?_ _)); refine blk_far ?_ NB124_171.out _; (with_reducible repeat (first | refine blk_drewN ?_ _ | refine blk_drew ?_ | refine blk_alloc ?_ _)); exact BK124.out) hb); have n7_ := ak_ (blk_below (g := gb129) (o := .cells #[.int .i64 t125, .int .i64 t126, .string t127] 24 (0, 0)) (by (with_reducible repeat (first | refine blk_drewN ?_ _ | refine blk_drew ?_ | refine blk_alloc ?_ _)); refine blk_far ?_ NB129_171.out _; (with_reducible repeat (first | refine blk_drewN ?_ _ | refine blk_drew ?_ | refine blk_alloc ?_ _)); refine blk_far ?_ NB129_171.out _; (with_reducible repeat (first | refine blk_drewN ?_ _ | refine blk_drew ?_ | refine blk_alloc ?_ _)); refine blk_far ?_ NB129_171.out _; (with_reducible repeat (first | refine blk_drewN ?_ _ | refine blk_drew ?_ | refine blk_alloc ?_ _)); exact BK129.out) hb); have n8_ := ak_ (blk_below (g := gb134) (o := .cells #[.int .i64 t130, .int .i64 t131, .string t132] 24 (0, 0)) (by (with_reducible repeat (first | refine blk_drewN ?_ _ | refine blk_drew ?_ | refine blk_alloc ?_ _)); refine blk_far ?_ NB134_171.out _; (with_reducible repeat (first | refine blk_drewN ?_ _ | refine blk_drew ?_ | refine blk_alloc ?_ _)); refine blk_far ?_ NB134_171.out _; (with_reducible repeat (first | refine blk_drewN ?_ _ | refine blk_drew ?_ | refine blk_alloc ?_ _)); refine blk_far ?_ NB134_171.out _; (with_reducible repeat (first | refine blk_drewN ?_ _ | refine blk_drew ?_ | refine blk_alloc ?_ _)); exact BK134.out) hb); have n9_ := ak_ (blk_below (g := gb139) (o := .cells #[.int .i64 t135, .int .i64 t136, .string t137] 24 (0, 0)) (by (with_reducible repeat (first | refine blk_drewN ?_ _ | refine blk_drew ?_ | refine blk_alloc ?_ _)); refine blk_far ?_ NB139_171.out _; (with_reducible repeat (first | refine blk_drewN ?_ _ | refine blk_drew ?_ | refine blk_alloc ?_ _)); refine blk_far ?_ NB139_171.out _; (with_reducible repeat (first | refine blk_drewN ?_ _ | refine blk_drew ?_ | refine blk_alloc ?_ _)); refine blk_far ?_ NB139_171.out _; (with_reducible repeat (first | refine blk_drewN ?_ _ | refine blk_drew ?_ | refine blk_alloc ?_ _)); exact BK139.out) hb); have n10_ := ak_ (blk_below (g := gb143) (o := .cells #[.int .i64 t140, .int .i64 t141, .string t142] 24 (0, 0)) (by (with_reducible repeat (first | refine blk_drewN ?_ _ | refine blk_drew ?_ | refine blk_alloc ?_ _)); refine blk_far ?_ NB143_171.out _; (with_reducible repeat (first | refine blk_drewN ?_ _ | refine blk_drew ?_ | refine blk_alloc ?_ _)); refine blk_far ?_ NB143_171.out _; (with_reducible repeat (first | refine blk_drewN ?_ _ | refine blk_drew ?_ | refine blk_alloc ?_ _)); refine blk_far ?_ NB143_171.out _; (with_reducible repeat (first | refine blk_drewN ?_ _ | refine blk_drew ?_ | refine blk_alloc ?_ _)); exact BK143.out) hb); have n11_ := ak_ (blk_below (g := gb147) (o := .cells #[.int .i64 t144, .int .i64 t145, .string t146] 24 (0, 0)) (by (with_reducible repeat (first | refine blk_drewN ?_ _ | refine blk_drew ?_ | refine blk_alloc ?_ _)); refine blk_far ?_ NB147_171.out _; (with_reducible repeat (first | refine blk_drewN ?_ _ | refine blk_drew ?_ | refine blk_alloc ?_ _)); refine blk_far ?_ NB147_171.out _; (with_reducible repeat (first | refine blk_drewN ?_ _ | refine blk_drew ?_ | refine blk_alloc ?_ _)); refine blk_far ?_ NB147_171.out _; (with_reducible repeat (first | refine blk_drewN ?_ _ | refine blk_drew ?_ | refine blk_alloc ?_ _)); exact BK147.out) hb); have n12_ := ak_ (blk_below (g := gb160) (o := .cells #[.int .i64 t156, .int .i64 t157, .string t158] 24 (0, 0)) (by (with_reducible repeat (first | refine blk_drewN ?_ _ | refine blk_drew ?_ | refine blk_alloc ?_ _)); refine blk_far ?_ NB160_171.out _; (with_reducible repeat (first | refine blk_drewN ?_ _ | refine blk_drew ?_ | refine blk_alloc ?_ _)); refine blk_far ?_ NB160_171.out _; (with_reducible repeat (first | refine blk_drewN ?_ _ | refine blk_drew ?_ | refine blk_alloc ?_ _)); refine blk_far ?_ NB160_171.out _; (with_reducible repeat (first | refine blk_drewN ?_ _ | refine blk_drew ?_ | refine blk_alloc ?_ _)); exact BK160.out) hb); have n13_ := ak_ (blk_below (g := gb166) (o := .cells #[.int .i64 t162, .int .i64 t163, .string t164] 24 (0, 0)) (by (with_reducible repeat (first | refine blk_drewN ?_ _ | refine blk_drew ?_ | refine blk_alloc ?_ _)); refine blk_far ?_ NB166_171.out _; (with_reducible repeat (first | refine blk_drewN ?_ _ | refine blk_drew ?_ | refine blk_alloc ?_ _)); refine blk_far ?_ NB166_171.out _; (with_reducible repeat (first | refine blk_drewN ?_ _ | refine blk_drew ?_ | refine blk_alloc ?_ _)); refine blk_far ?_ NB166_171.out _; (with_reducible repeat (first | refine blk_drewN ?_ _ | refine blk_drew ?_ | refine blk_alloc ?_ _)); exact BK166.out) hb); have n14_ := ak_ (blk_below (g := gb171) (o := .cells #[.int .i64 t167, .int .i64 t168, .string t169] 24 (0, 0)) (by (with_reducible repeat (first | refine blk_drewN ?_ _ | refine blk_drew ?_ | refine blk_alloc ?_ _)); refine blk_put (cs := #[.int .i64 t167, .int .i64 t168, .string (⟨#[]⟩ : ByteArray)]) ?_ 2 _ rfl; (with_reducible repeat (first | refine blk_drewN ?_ _ | refine blk_drew ?_ | refine blk_alloc ?_ _)); refine blk_put (cs := #[.int .i64 t167, .int .i64 0, .string (⟨#[]⟩ : ByteArray)]) ?_ 1 _ rfl; (with_reducible repeat (first | refine blk_drewN ?_ _ | refine blk_drew ?_ | refine blk_alloc ?_ _)); refine blk_put (cs := #[.int .i64 0, .int .i64 0, .string (⟨#[]⟩ : ByteArray)]) ?_ 0 _ rfl; (with_reducible repeat (first | refine blk_drewN ?_ _ | refine blk_drew ?_ | refine blk_alloc ?_ _)); exact BK171.out) hb); have n15_ := ak_ (below_step z51_ hb); clear HO150; clear HO153; clear BK106; clear BK109; clear BK114; clear BK119; clear BK124; clear BK129; clear BK134; clear BK139; clear BK143; clear BK147; clear BK160; clear BK166; clear BK171; clear HB; have HO150 := n0_; have HO153 := n1_; have BK106 := n2_; have BK109 := n3_; have BK114 := n4_; have BK119 := n5_; have BK124 := n6_; have BK129 := n7_; have BK134 := n8_; have BK139 := n9_; have BK143 := n10_; have BK147 := n11_; have BK160 := n12_; have BK166 := n13_; have BK171 := n14_; have HB := n15_; clear n0_ n1_ n2_ n3_ n4_ n5_ n6_ n7_ n8_ n9_ n10_ n11_ n12_ n13_ n14_ n15_; (try clear hb); (try clear hb2); (try clear hk); (try clear hi)) | ((with_reducible refine gate_dst (N := 31) rfl ?_); (try (refine gate_guard (by rfl) ?_; dsimp only)); refine bx_ 31 (cs := #[.int .i64 0, .int .i64 0, .string (⟨#[]⟩ : ByteArray)]) (t := 24) (h_ := ?_); intro gb176 hg w216 hbox hb; have n0_ := ak_ (Kd.R_below z64_ hb); have n1_ := ak_ (Kd.R_below z71_ hb); have n2_ := ak_ (blk_below (g := gb106) (o := .cells #[.int .i64 ((rd_T24 y101 t104).f0), .int .i64 ((rd_T24 y101 t104).f1), .string ((rd_T24 y101 t104).f2)] 24 (0, 0)) z12_ hb); have n3_ := ak_ (blk_below (g := gb109) (o := .cells #[.int .i64 ((rd_T24 y101 t107).f0), .int .i64 ((rd_T24 y101 t107).f1), .string ((rd_T24 y101 t107).f2)] 24 (0, 0)) z13_ hb); have n4_ := ak_ (blk_below (g := gb114) (o := .cells #[.int .i64 t110, .int .i64 t111, .string t112] 24 (0, 0)) z14_ hb); have n5_ := ak_ (blk_below (g := gb119) (o := .cells #[.int .i64 t115, .int .i64 t116, .string t117] 24 (0, 0)) z15_ hb); have n6_ := ak_ (blk_below (g := gb124) (o := .cells #[.int .i64 t120, .int .i64 t121, .string t122] 24 (0, 0)) z17_ hb); have n7_ := ak_ (blk_below (g := gb129) (o := .cells #[.int .i64 t125, .int .i64 t126, .string t127] 24 (0, 0)) z20_ hb); have n8_ := ak_ (blk_below (g := gb134) (o := .cells #[.int .i64 t130, .int .i64 t131, .string t132] 24 (0, 0)) z21_ hb); have n9_ := ak_ (blk_below (g := gb139) (o := .cells #[.int .i64 t135, .int .i64 t136, .string t137] 24 (0, 0)) z25_ hb); have n10_ := ak_ (blk_below (g := gb143) (o := .cells #[.int .i64 t140, .int .i64 t141, .string t142] 24 (0, 0)) z26_ hb); have n11_ := ak_ (blk_below (g := gb147) (o := .cells #[.int .i64 t144, .int .i64 t145, .string t146] 24 (0, 0)) z31_ hb); have n12_ := ak_ (blk_below (g := gb160) (o := .cells #[.int .i64 t156, .int .i64 t157, .string t158] 24 (0, 0)) z46_ hb); have n13_ := ak_ (blk_below (g := gb166) (o := .cells #[.int .i64 t162, .int .i64 t163, .string t164] 24 (0, 0)) z77_ hb); have n14_ := ak_ (blk_below (g := gb171) (o := .cells #[.int .i64 t167, .int .i64 t168, .string t169] 24 (0, 0)) z113_ hb); have n15_ := ak_ (below_step z51_ hb); have n16_ := ak_ (hbox); have n17_ := ak_ ((gs_ w hg (below_size z51_))); have n18_ := ak_ ((gs_ w hg (below_size z51_))); have n19_ := ak_ ((z33_ : gb106 ≠ gb176)); have n20_ := ak_ ((z34_ : gb176 ≠ gb106)); have n21_ := ak_ ((z35_ : gb109 ≠ gb176)); have n22_ := ak_ ((z36_ : gb176 ≠ gb109)); have n23_ := ak_ ((z49_ : gb114 ≠ gb176)); have n24_ := ak_ ((z50_ : gb176 ≠ gb114)); have n25_ := ak_ ((z52_ : gb119 ≠ gb176)); have n26_ := ak_ ((z53_ : gb176 ≠ gb119)); have n27_ := ak_ ((z57_ : gb124 ≠ gb176)); have n28_ := ak_ ((z58_ : gb176 ≠ gb124)); have n29_ := ak_ ((z62_ : gb129 ≠ gb176)); have n30_ := ak_ ((z63_ : gb176 ≠ gb129)); have n31_ := ak_ ((z67_ : gb134 ≠ gb176)); have n32_ := ak_ ((z68_ : gb176 ≠ gb134)); have n33_ := ak_ ((z72_ : gb139 ≠ gb176)); have n34_ := ak_ ((z73_ : gb176 ≠ gb139)); have n35_ := ak_ ((z79_ : gb143 ≠ gb176)); have n36_ := ak_ ((z80_ : gb176 ≠ gb143)); have n37_ := ak_ ((z87_ : gb147 ≠ gb176)); have n38_ := ak_ ((z88_ : gb176 ≠ gb147)); have n39_ := ak_ ((z102_ : gb160 ≠ gb176)); have n40_ := ak_ ((z103_ : gb176 ≠ gb160)); have n41_ := ak_ ((by rw [hg]; exact Nat.ne_of_lt (blk_lt (g := gb166) (o := .cells #[.int .i64 t162, .int .i64 t163, .string t164] 24 (0, 0)) z77_) : gb166 ≠ gb176)); have n42_ := ak_ ((by rw [hg]; exact Nat.ne_of_gt (blk_lt (g := gb166) (o := .cells #[.int .i64 t162, .int .i64 t163, .string t164] 24 (0, 0)) z77_) : gb176 ≠ gb166)); have n43_ := ak_ ((by rw [hg]; exact Nat.ne_of_lt (blk_lt (g := gb171) (o := .cells #[.int .i64 t167, .int .i64 t168, .string t169] 24 (0, 0)) z113_) : gb171 ≠ gb176)); have n44_ := ak_ ((by rw [hg]; exact Nat.ne_of_gt (blk_lt (g := gb171) (o := .cells #[.int .i64 t167, .int .i64 t168, .string t169] 24 (0, 0)) z113_) : gb176 ≠ gb171)); clear HO150; clear HO153; clear BK106; clear BK109; clear BK114; clear BK119; clear BK124; clear BK129; clear BK134; clear BK139; clear BK143; clear BK147; clear BK160; clear BK166; clear BK171; clear HB; have HO150 := n0_; have HO153 := n1_; have BK106 := n2_; have BK109 := n3_; have BK114 := n4_; have BK119 := n5_; have BK124 := n6_; have BK129 := n7_; have BK134 := n8_; have BK139 := n9_; have BK143 := n10_; have BK147 := n11_; have BK160 := n12_; have BK166 := n13_; have BK171 := n14_; have HB := n15_; have BK176 := n16_; have GW176 := n17_; have GE176 := n18_; have NB106_176 := n19_; have NB176_106 := n20_; have NB109_176 := n21_; have NB176_109 := n22_; have NB114_176 := n23_; have NB176_114 := n24_; have NB119_176 := n25_; have NB176_119 := n26_; have NB124_176 := n27_; have NB176_124 := n28_; have NB129_176 := n29_; have NB176_129 := n30_; have NB134_176 := n31_; have NB176_134 := n32_; have NB139_176 := n33_; have NB176_139 := n34_; have NB143_176 := n35_; have NB176_143 := n36_; have NB147_176 := n37_; have NB176_147 := n38_; have NB160_176 := n39_; have NB176_160 := n40_; have NB166_176 := n41_; have NB176_166 := n42_; have NB171_176 := n43_; have NB176_171 := n44_; clear n0_ n1_ n2_ n3_ n4_ n5_ n6_ n7_ n8_ n9_ n10_ n11_ n12_ n13_ n14_ n15_ n16_ n17_ n18_ n19_ n20_ n21_ n22_ n23_ n24_ n25_ n26_ n27_ n28_ n29_ n30_ n31_ n32_ n33_ n34_ n35_ n36_ n37_ n38_ n39_ n40_ n41_ n42_ n43_ n44_; clear hb hbox hg; have hnb217 := NB176_106.out; have hnc217 := NB106_176.out; have hnb218 := NB176_109.out; have hnc218 := NB109_176.out; have hnb219 := NB176_114.out; have hnc219 := NB114_176.out; have hnb220 := NB176_119.out; have hnc220 := NB119_176.out; have hnb221 := NB176_124.out; have hnc221 := NB124_176.out; have hnb222 := NB176_129.out; have hnc222 := NB129_176.out; have hnb223 := NB176_134.out; have hnc223 := NB134_176.out; have hnb224 := NB176_139.out; have hnc224 := NB139_176.out; have hnb225 := NB176_143.out; have hnc225 := NB143_176.out; have hnb226 := NB176_147.out; have hnc226 := NB147_176.out; have hnb227 := NB176_160.out; have hnc227 := NB160_176.out; have hnb228 := NB176_166.out; have hnc228 := NB166_176.out; have hnb229 := NB176_171.out; have hnc229 := NB171_176.out; obtain ⟨hcz230_0, hcz230_1, hcz230_2, hfz230_0, hfz230_1, hfz230_2⟩ := bcf3 BK176.out; obtain ⟨hcz231_0, hcz231_1, hcz231_2, hfz231_0, hfz231_1, hfz231_2⟩ := bcf3 BK171.out; have hnb232 := NB166_106.out; have hnc232 := NB106_166.out; have hnb233 := NB166_109.out; have hnc233 := NB109_166.out; have hnb234 := NB166_114.out; have hnc234 := NB114_166.out; have hnb235 := NB166_119.out; have hnc235 := NB119_166.out; have hnb236 := NB166_124.out; have hnc236 := NB124_166.out; have hnb237 := NB166_129.out; have hnc237 := NB129_166.out; have hnb238 := NB166_134.out; have hnc238 := NB134_166.out; have hnb239 := NB166_139.out; have hnc239 := NB139_166.out; have hnb240 := NB166_143.out; have hnc240 := NB143_166.out; have hnb241 := NB166_147.out; have hnc241 := NB147_166.out; obtain ⟨hcz242_0, hcz242_1, hcz242_2, hfz242_0, hfz242_1, hfz242_2⟩ := bcf3 BK166.out; obtain ⟨hcz243_0, hcz243_1, hcz243_2, hfz243_0, hfz243_1, hfz243_2⟩ := bcf3 BK143.out))
          go_ret
          exact ⟨z8_, by repeat (first | (with_reducible first | exact HB.out | apply below_alloc | apply pw_below_drewN | apply below_drew1 | refine below_set ?_ GE106.out | refine below_set ?_ GE109.out | refine below_set ?_ GE114.out | refine below_set ?_ GE119.out | refine below_set ?_ GE124.out | refine below_set ?_ GE129.out | refine below_set ?_ GE134.out | refine below_set ?_ GE139.out | refine below_set ?_ GE143.out | refine below_set ?_ GE147.out | refine below_set ?_ GE160.out | refine below_set ?_ GE166.out | refine below_set ?_ GE171.out | refine below_set ?_ GE176.out) | exact HB.out)⟩
/-- THE ONE PURE STATEMENT of laws_FnThree: yours. -/
def laws_FnThree.Pure : Prop := ∀ (l0 : List Int) (l1 : List Int), l0.length ≤ maxLen → l0.length * 1 ≤ 140737488351232 → (∀ x ∈ l0, (Lit.int .u8 x).wf = true) → l1.length ≤ maxLen → l1.length * 1 ≤ 140737488351232 → (∀ x ∈ l1, (Lit.int .u8 x).wf = true) → ∃ k, laws_FnThree.f k l0 l1 = some true
theorem laws_FnThree.walk (P : laws_FnThree.Pure) (a0 : Option Addr) (len0 cap0 : Nat) (z0 : List Int) (a1 : Option Addr) (len1 cap1 : Nat) (z1 : List Int) (w : World) (w0 : (a0 = none ∧ len0 = 0 ∧ cap0 = 0 ∧ z0 = []) ∨ ∃ x, a0 = some x ∧ len0 ≤ cap0 ∧ cap0 ≤ maxLen ∧ z0.length = cap0 ∧ (∀ i, i < z0.length → w.cell? (x.add i) = some (.int .u8 (z0.getD i 0))) ∧ ∀ n ∈ z0, (Lit.int .u8 n).wf = true) (y0 : len0 * 1 ≤ 140737488351232) (w1 : (a1 = none ∧ len1 = 0 ∧ cap1 = 0 ∧ z1 = []) ∨ ∃ x, a1 = some x ∧ len1 ≤ cap1 ∧ cap1 ≤ maxLen ∧ z1.length = cap1 ∧ (∀ i, i < z1.length → w.cell? (x.add i) = some (.int .u8 (z1.getD i 0))) ∧ ∀ n ∈ z1, (Lit.int .u8 n).wf = true) (y1 : len1 * 1 ≤ 140737488351232) :
    Calls Try.prog 3 #[.slice a0 len0 cap0, .slice a1 len1 cap1] w fun e w' => e = .returned (.bool true) ∧ Below w.heap.size w w' := by
  obtain ⟨l0, rfl, hr0, hm0, hw0, hc0⟩ := ReadsInt.ofRowC w0
  obtain ⟨l1, rfl, hr1, hm1, hw1, hc1⟩ := ReadsInt.ofRowC w1
  obtain ⟨k, h⟩ := P l0 l1 hm0 y0 hw0 hm1 y1 hw1
  refine (laws_FnThree.calls k _ _ l0 _ _ l1 true w (Kd.C_of_reads (d := (0 : Int)) (h1 := fun _ => rfl) hr0) hc0 (Kd.C_of_reads (d := (0 : Int)) (h1 := fun _ => rfl) hr1) hc1 h).mono ?_
  rintro e w' ⟨rfl, hd⟩
  exact ⟨rfl, hd⟩

end Go.Proofs.Ytfbclbbhomhfaaa.X
