/- Contracts of functions, and what is told of them. -/
import Derived.Test.YtfbclbbhomhfaaaYFnThree3
set_option linter.unusedSimpArgs false
set_option linter.unusedVariables false
section
namespace Go.Proofs.Ytfbclbbhomhfaaa.X
open Go.RowKit Go.Proofs.YtfbclbbhomhfaaaW.PrintWords Go.Proofs.YtfbclbbhomhfaaaW.PrintLast Go.Proofs.YtfbclbbhomhfaaaW.PrintMore
attribute [local go_sem] max2_int min2_int max_two min_two max_three min_three max_four min_four   -- for this text's walks alone

section
/-! ### spec_l10Level: function 18 -/
mutual
def spec_l10Level.j0 : Nat → ByteArray → Bool → Option (Int)
  | 0, _, _ => none
  | k + 1, x3, x8 => if x8 = true then (some 4) else (if x3.toList = ([43] : List UInt8) then (spec_l10Level.j1 k x3 (x3.toList == ([43] : List UInt8))) else (spec_l10Level.j1 k x3 (x3.toList == ([45] : List UInt8))))
def spec_l10Level.j1 : Nat → ByteArray → Bool → Option (Int)
  | 0, _, _ => none
  | k + 1, x3, x15 => if x15 = true then (some 5) else (if x3.toList = ([42] : List UInt8) then (some 6) else (if x3.toList = ([47] : List UInt8) then (some 6) else (if x3.toList = ([37] : List UInt8) then (some 6) else (some 0))))
end
def spec_l10Level.f (k : Nat) (a0 : ByteArray) : Option (Int) := if a0.toList = ([111, 114] : List UInt8) then (some 1) else (if a0.toList = ([97, 110, 100] : List UInt8) then (some 2) else (if a0.toList = ([61] : List UInt8) then (spec_l10Level.j0 k a0 (a0.toList == ([61] : List UInt8))) else (if a0.toList = ([60, 62] : List UInt8) then (spec_l10Level.j0 k a0 (a0.toList == ([60, 62] : List UInt8))) else (if a0.toList = ([60] : List UInt8) then (spec_l10Level.j0 k a0 (a0.toList == ([60] : List UInt8))) else (if a0.toList = ([60, 61] : List UInt8) then (spec_l10Level.j0 k a0 (a0.toList == ([60, 61] : List UInt8))) else (if a0.toList = ([62] : List UInt8) then (spec_l10Level.j0 k a0 (a0.toList == ([62] : List UInt8))) else (spec_l10Level.j0 k a0 (a0.toList == ([62, 61] : List UInt8)))))))))
theorem spec_l10Level.mono_l : ∀ k, (∀ y0 y1, LeO (spec_l10Level.j0 k y0 y1) (spec_l10Level.j0 (k + 1) y0 y1)) ∧ (∀ y0 y1, LeO (spec_l10Level.j1 k y0 y1) (spec_l10Level.j1 (k + 1) y0 y1))
  | 0 => ⟨fun _ _ r h => by simp [spec_l10Level.j0] at h, fun _ _ r h => by simp [spec_l10Level.j1] at h⟩
  | k + 1 => by
    obtain ⟨ih0, ih1⟩ := spec_l10Level.mono_l k
    refine ⟨?_, ?_⟩
    rotate_left
    · intro y0 y1
      unfold spec_l10Level.j1
      repeat' first
      | (with_reducible exact ih0 _ _)
      | (with_reducible exact ih1 _ _)
      | (with_reducible exact LeO.refl _)
      | (with_reducible exact LeO.none _)
      | (with_reducible refine LeO.ite ?_ ?_)
      | (with_reducible refine LeO.bind ?_ (fun _ => ?_))
      | exact ih0 _ _
      | exact ih1 _ _
      | exact LeO.none _
      | refine LeO.ite ?_ ?_
      | refine LeO.bind ?_ (fun _ => ?_)
    intro y0 y1
    unfold spec_l10Level.j0
    repeat' first
    | (with_reducible exact ih0 _ _)
    | (with_reducible exact ih1 _ _)
    | (with_reducible exact LeO.refl _)
    | (with_reducible exact LeO.none _)
    | (with_reducible refine LeO.ite ?_ ?_)
    | (with_reducible refine LeO.bind ?_ (fun _ => ?_))
    | exact ih0 _ _
    | exact ih1 _ _
    | exact LeO.none _
    | refine LeO.ite ?_ ?_
    | refine LeO.bind ?_ (fun _ => ?_)
theorem spec_l10Level.mono : ∀ a0 k, LeO (spec_l10Level.f k a0) (spec_l10Level.f (k + 1) a0) := by
  intro a0 k
  obtain ⟨ih0, ih1⟩ := spec_l10Level.mono_l k
  unfold spec_l10Level.f
  repeat' first
      | (with_reducible exact ih0 _ _)
      | (with_reducible exact ih1 _ _)
      | (with_reducible exact LeO.refl _)
      | (with_reducible exact LeO.none _)
      | (with_reducible refine LeO.ite ?_ ?_)
      | (with_reducible refine LeO.bind ?_ (fun _ => ?_))
      | exact ih0 _ _
      | exact ih1 _ _
      | exact LeO.none _
      | refine LeO.ite ?_ ?_
      | refine LeO.bind ?_ (fun _ => ?_)
set_option maxHeartbeats 8000000 in
set_option maxRecDepth 100000 in
theorem spec_l10Level.calls (k : Nat) (a0 : ByteArray) (r : Int) (w : World) (h : spec_l10Level.f k a0 = some r) :
    Calls Try.prog 18 #[.string a0] w fun e w' => e = .returned (.int .i64 r) ∧ Drawn0 w w' := by
  have H : (if a0.toList = ([111, 114] : List UInt8) then (some 1) else (if a0.toList = ([97, 110, 100] : List UInt8) then (some 2) else (if a0.toList = ([61] : List UInt8) then (spec_l10Level.j0 k a0 (a0.toList == ([61] : List UInt8))) else (if a0.toList = ([60, 62] : List UInt8) then (spec_l10Level.j0 k a0 (a0.toList == ([60, 62] : List UInt8))) else (if a0.toList = ([60] : List UInt8) then (spec_l10Level.j0 k a0 (a0.toList == ([60] : List UInt8))) else (if a0.toList = ([60, 61] : List UInt8) then (spec_l10Level.j0 k a0 (a0.toList == ([60, 61] : List UInt8))) else (if a0.toList = ([62] : List UInt8) then (spec_l10Level.j0 k a0 (a0.toList == ([62] : List UInt8))) else (spec_l10Level.j0 k a0 (a0.toList == ([62, 61] : List UInt8)))))))))) = some r := h
  clear h
  by_cases c2 : a0.toList = ([111, 114] : List UInt8)
  · rw [if_pos c2] at H
    have c2b0 : (a0.toList == ([111, 114] : List UInt8)) = true := beq_iff_eq.mpr c2
    have c2b1 : (a0.toList != ([111, 114] : List UInt8)) = false := bne_eq_false_iff_eq.mpr c2
    clear c2
    obtain rfl := Option.some.inj H
    go_enter Try.func18, Try.ntmps18
    go_wp2
    go_ret
    exact ⟨z18_, z16_⟩
  rw [if_neg c2] at H
  have c2b0 : (a0.toList == ([111, 114] : List UInt8)) = false := beq_eq_false_iff_ne.mpr c2
  have c2b1 : (a0.toList != ([111, 114] : List UInt8)) = true := bne_iff_ne.mpr c2
  by_cases c3 : a0.toList = ([97, 110, 100] : List UInt8)
  · rw [if_pos c3] at H
    have c3b0 : (a0.toList == ([97, 110, 100] : List UInt8)) = true := beq_iff_eq.mpr c3
    have c3b1 : (a0.toList != ([97, 110, 100] : List UInt8)) = false := bne_eq_false_iff_eq.mpr c3
    clear c3
    obtain rfl := Option.some.inj H
    go_enter Try.func18, Try.ntmps18
    go_wp2
    go_ret
    exact ⟨z18_, z16_⟩
  rw [if_neg c3] at H
  have c3b0 : (a0.toList == ([97, 110, 100] : List UInt8)) = false := beq_eq_false_iff_ne.mpr c3
  have c3b1 : (a0.toList != ([97, 110, 100] : List UInt8)) = true := bne_iff_ne.mpr c3
  have HC4 := ak_ H
  clear H
  go_enter Try.func18, Try.ntmps18
  go_upto_if 8 with (fail)
  go_cut [8] (fun v8 wc => ∃ (kq : Nat) (x8_3 : Bool), v8 = .bool x8_3 ∧ Aside0 (spec_l10Level.j0 kq a0 x8_3 = some r) ∧ Aside0 (kq ≤ k) ∧ Drawn0 w wc)
  case first =>
    have H := HC4.out
    clear HC4
    by_cases c5 : a0.toList = ([61] : List UInt8)
    · rw [if_pos c5] at H
      have c5b0 : (a0.toList == ([61] : List UInt8)) = true := beq_iff_eq.mpr c5
      have c5b1 : (a0.toList != ([61] : List UInt8)) = false := bne_eq_false_iff_eq.mpr c5
      clear c5
      (first | rw [c5b0] | (simp only [i64_w, i32_w]; rw [c5b0]) | skip)
      have H' := ak_ H
      clear H
      go_wp2
      go_meet
      case rel => exact ⟨_, ((a0.toList == ([61] : List UInt8))), z18_, H', ⟨by first | omega | exact Nat.le_refl _⟩, z16_⟩
    rw [if_neg c5] at H
    have c5b0 : (a0.toList == ([61] : List UInt8)) = false := beq_eq_false_iff_ne.mpr c5
    have c5b1 : (a0.toList != ([61] : List UInt8)) = true := bne_iff_ne.mpr c5
    (first | rw [c5b0] | (simp only [i64_w, i32_w]; rw [c5b0]) | skip)
    by_cases c6 : a0.toList = ([60, 62] : List UInt8)
    · rw [if_pos c6] at H
      have c6b0 : (a0.toList == ([60, 62] : List UInt8)) = true := beq_iff_eq.mpr c6
      have c6b1 : (a0.toList != ([60, 62] : List UInt8)) = false := bne_eq_false_iff_eq.mpr c6
      clear c6
      have H' := ak_ H
      clear H
      go_wp2
      go_meet
      case rel => exact ⟨_, ((a0.toList == ([60, 62] : List UInt8))), z18_, H', ⟨by first | omega | exact Nat.le_refl _⟩, z16_⟩
    rw [if_neg c6] at H
    have c6b0 : (a0.toList == ([60, 62] : List UInt8)) = false := beq_eq_false_iff_ne.mpr c6
    have c6b1 : (a0.toList != ([60, 62] : List UInt8)) = true := bne_iff_ne.mpr c6
    by_cases c7 : a0.toList = ([60] : List UInt8)
    · rw [if_pos c7] at H
      have c7b0 : (a0.toList == ([60] : List UInt8)) = true := beq_iff_eq.mpr c7
      have c7b1 : (a0.toList != ([60] : List UInt8)) = false := bne_eq_false_iff_eq.mpr c7
      clear c7
      have H' := ak_ H
      clear H
      go_wp2
      go_meet
      case rel => exact ⟨_, ((a0.toList == ([60] : List UInt8))), z18_, H', ⟨by first | omega | exact Nat.le_refl _⟩, z16_⟩
    rw [if_neg c7] at H
    have c7b0 : (a0.toList == ([60] : List UInt8)) = false := beq_eq_false_iff_ne.mpr c7
    have c7b1 : (a0.toList != ([60] : List UInt8)) = true := bne_iff_ne.mpr c7
    by_cases c8 : a0.toList = ([60, 61] : List UInt8)
    · rw [if_pos c8] at H
      have c8b0 : (a0.toList == ([60, 61] : List UInt8)) = true := beq_iff_eq.mpr c8
      have c8b1 : (a0.toList != ([60, 61] : List UInt8)) = false := bne_eq_false_iff_eq.mpr c8
      clear c8
      have H' := ak_ H
      clear H
      go_wp2
      go_meet
      case rel => exact ⟨_, ((a0.toList == ([60, 61] : List UInt8))), z18_, H', ⟨by first | omega | exact Nat.le_refl _⟩, z16_⟩
    rw [if_neg c8] at H
    have c8b0 : (a0.toList == ([60, 61] : List UInt8)) = false := beq_eq_false_iff_ne.mpr c8
    have c8b1 : (a0.toList != ([60, 61] : List UInt8)) = true := bne_iff_ne.mpr c8
    by_cases c9 : a0.toList = ([62] : List UInt8)
    rotate_left
    · rw [if_neg c9] at H
      have c9b0 : (a0.toList == ([62] : List UInt8)) = false := beq_eq_false_iff_ne.mpr c9
      have c9b1 : (a0.toList != ([62] : List UInt8)) = true := bne_iff_ne.mpr c9
      have H' := ak_ H
      clear H
      go_wp2
      go_meet
      case rel => exact ⟨_, ((a0.toList == ([62, 61] : List UInt8))), z18_, H', ⟨by first | omega | exact Nat.le_refl _⟩, z16_⟩
    rw [if_pos c9] at H
    have c9b0 : (a0.toList == ([62] : List UInt8)) = true := beq_iff_eq.mpr c9
    have c9b1 : (a0.toList != ([62] : List UInt8)) = false := bne_eq_false_iff_eq.mpr c9
    clear c9
    have H' := ak_ H
    clear H
    go_wp2
    go_meet
    case rel => exact ⟨_, ((a0.toList == ([62] : List UInt8))), z18_, H', ⟨by first | omega | exact Nat.le_refl _⟩, z16_⟩
  case rest =>
    clear HC4
    try clear c1
    try clear c2
    try clear c2b0
    try clear c2b1
    try clear p2
    try clear c3
    try clear c3b0
    try clear c3b1
    try clear c5
    try clear c5b0
    try clear c5b1
    try clear c6
    try clear c6b0
    try clear c6b1
    try clear c7
    try clear c7b0
    try clear c7b1
    try clear c8
    try clear c8b0
    try clear c8b1
    try clear c9
    try clear c9b0
    try clear c9b1
    obtain ⟨kq, x8_3, rfl, HA, HJ3, ⟨mc3, rfl⟩⟩ := hcut
    cases kq with
    | zero => exact absurd HA.out (by simp [spec_l10Level.j0])
    | succ kj3 =>
      have H := HA.out
      clear HA
      simp only [spec_l10Level.j0] at H
      by_cases c10 : x8_3 = true
      · subst c10
        have H1 : (some 4) = some r := by rw [if_pos rfl] at H; exact H
        clear H
        have H := H1
        clear H1
        obtain rfl := Option.some.inj H
        go_wp2
        go_ret
        exact ⟨z18_, z16_⟩
      replace c10 := Bool.eq_false_iff.mpr c10
      subst c10
      have H1 : (if a0.toList = ([43] : List UInt8) then (spec_l10Level.j1 kj3 a0 (a0.toList == ([43] : List UInt8))) else (spec_l10Level.j1 kj3 a0 (a0.toList == ([45] : List UInt8)))) = some r := by rw [if_neg (show ¬ (false = true) by decide)] at H; exact H
      clear H
      have H := H1
      clear H1
      have HC11 := ak_ H
      clear H
      go_upto_if 15 with (fail)
      go_cut [15] (fun v15 wc => ∃ (kq : Nat) (x15_10 : Bool), v15 = .bool x15_10 ∧ Aside0 (spec_l10Level.j1 kq a0 x15_10 = some r) ∧ Aside0 (kq ≤ kj3) ∧ Drawn0 w wc)
      case first =>
        have H := HC11.out
        clear HC11
        by_cases c12 : a0.toList = ([43] : List UInt8)
        rotate_left
        · rw [if_neg c12] at H
          have c12b0 : (a0.toList == ([43] : List UInt8)) = false := beq_eq_false_iff_ne.mpr c12
          have c12b1 : (a0.toList != ([43] : List UInt8)) = true := bne_iff_ne.mpr c12
          (first | rw [c12b0] | (simp only [i64_w, i32_w]; rw [c12b0]) | skip)
          have H' := ak_ H
          clear H
          go_wp2
          go_meet
          case rel => exact ⟨_, ((a0.toList == ([45] : List UInt8))), z18_, H', ⟨by have := HJ3.out; first | omega | exact Nat.le_refl _⟩, z16_⟩
        rw [if_pos c12] at H
        have c12b0 : (a0.toList == ([43] : List UInt8)) = true := beq_iff_eq.mpr c12
        have c12b1 : (a0.toList != ([43] : List UInt8)) = false := bne_eq_false_iff_eq.mpr c12
        clear c12
        (first | rw [c12b0] | (simp only [i64_w, i32_w]; rw [c12b0]) | skip)
        have H' := ak_ H
        clear H
        go_wp2
        go_meet
        case rel => exact ⟨_, ((a0.toList == ([43] : List UInt8))), z18_, H', ⟨by have := HJ3.out; first | omega | exact Nat.le_refl _⟩, z16_⟩
      case rest =>
        clear HC11
        try clear c1
        try clear c2
        try clear c2b0
        try clear c2b1
        try clear p2
        try clear c3
        try clear c3b0
        try clear c3b1
        try clear c5
        try clear c5b0
        try clear c5b1
        try clear c6
        try clear c6b0
        try clear c6b1
        try clear c7
        try clear c7b0
        try clear c7b1
        try clear c8
        try clear c8b0
        try clear c8b1
        try clear c9
        try clear c9b0
        try clear c9b1
        try clear c10
        try clear c12
        try clear c12b0
        try clear c12b1
        try clear p2
        obtain ⟨kq, x15_10, rfl, HA, HJ10, ⟨mc10, rfl⟩⟩ := hcut
        cases kq with
        | zero => exact absurd HA.out (by simp [spec_l10Level.j1])
        | succ kj10 =>
          have H := HA.out
          clear HA
          simp only [spec_l10Level.j1] at H
          by_cases c13 : x15_10 = true
          · subst c13
            have H1 : (some 5) = some r := by rw [if_pos rfl] at H; exact H
            clear H
            have H := H1
            clear H1
            obtain rfl := Option.some.inj H
            go_wp2
            go_ret
            exact ⟨z18_, z16_⟩
          replace c13 := Bool.eq_false_iff.mpr c13
          subst c13
          have H1 : (if a0.toList = ([42] : List UInt8) then (some 6) else (if a0.toList = ([47] : List UInt8) then (some 6) else (if a0.toList = ([37] : List UInt8) then (some 6) else (some 0)))) = some r := by rw [if_neg (show ¬ (false = true) by decide)] at H; exact H
          clear H
          have H := H1
          clear H1
          by_cases c14 : a0.toList = ([42] : List UInt8)
          · rw [if_pos c14] at H
            have c14b0 : (a0.toList == ([42] : List UInt8)) = true := beq_iff_eq.mpr c14
            have c14b1 : (a0.toList != ([42] : List UInt8)) = false := bne_eq_false_iff_eq.mpr c14
            clear c14
            obtain rfl := Option.some.inj H
            go_wp2
            go_ret
            exact ⟨z18_, z16_⟩
          rw [if_neg c14] at H
          have c14b0 : (a0.toList == ([42] : List UInt8)) = false := beq_eq_false_iff_ne.mpr c14
          have c14b1 : (a0.toList != ([42] : List UInt8)) = true := bne_iff_ne.mpr c14
          by_cases c15 : a0.toList = ([47] : List UInt8)
          · rw [if_pos c15] at H
            have c15b0 : (a0.toList == ([47] : List UInt8)) = true := beq_iff_eq.mpr c15
            have c15b1 : (a0.toList != ([47] : List UInt8)) = false := bne_eq_false_iff_eq.mpr c15
            clear c15
            obtain rfl := Option.some.inj H
            go_wp2
            go_ret
            exact ⟨z18_, z16_⟩
          rw [if_neg c15] at H
          have c15b0 : (a0.toList == ([47] : List UInt8)) = false := beq_eq_false_iff_ne.mpr c15
          have c15b1 : (a0.toList != ([47] : List UInt8)) = true := bne_iff_ne.mpr c15
          by_cases c16 : a0.toList = ([37] : List UInt8)
          rotate_left
          · rw [if_neg c16] at H
            have c16b0 : (a0.toList == ([37] : List UInt8)) = false := beq_eq_false_iff_ne.mpr c16
            have c16b1 : (a0.toList != ([37] : List UInt8)) = true := bne_iff_ne.mpr c16
            obtain rfl := Option.some.inj H
            go_wp2
            go_ret
            exact ⟨z18_, z16_⟩

          rw [if_pos c16] at H
          have c16b0 : (a0.toList == ([37] : List UInt8)) = true := beq_iff_eq.mpr c16
          have c16b1 : (a0.toList != ([37] : List UInt8)) = false := bne_eq_false_iff_eq.mpr c16
          clear c16
          obtain rfl := Option.some.inj H
          go_wp2
          go_ret
          exact ⟨z18_, z16_⟩
end

section
/-! ### spec_l12Types: function 19 -/
def spec_l12Types.j0 : Nat → Int → Int → Bool → Int → Int → ByteArray → Int → Int → ByteArray → Option (Bool)
  | 0, _, _, _, _, _, _, _, _, _ => none
  | k + 1, x7, x9, x10, x102000, x102001, x102002, x103000, x103001, x103002 => if x10 = true then (if x102000 = x7 then (if x103000 = x7 then (some true) else (some (x103000 == 1))) else (if x102000 = 1 then (if x103000 = x7 then (some true) else (some (x103000 == 1))) else (some false))) else (if x9 = 4 then (if x102000 = x7 then (some true) else (if x103000 = x7 then (some true) else (some (x102000 == x103000)))) else (if x102000 = x7 then (if x103000 = x7 then (some true) else (some (x103000 == 2))) else (if x102000 = 2 then (if x103000 = x7 then (some true) else (some (x103000 == 2))) else (some false))))
def spec_l12Types.f (k : Nat) (a0 : ByteArray) (a1_0 : Int) (a1_1 : Int) (a1_2 : ByteArray) (a2_0 : Int) (a2_1 : Int) (a2_2 : ByteArray) : Option (Bool) := (spec_l10Level.f k a0).bind fun t103 => (if t103 = 1 then (spec_l12Types.j0 k 0 t103 (t103 == 1) a1_0 a1_1 a1_2 a2_0 a2_1 a2_2) else (spec_l12Types.j0 k 0 t103 (t103 == 2) a1_0 a1_1 a1_2 a2_0 a2_1 a2_2))
theorem spec_l12Types.mono_l : ∀ k, (∀ y0 y1 y2 y3 y4 y5 y6 y7 y8, LeO (spec_l12Types.j0 k y0 y1 y2 y3 y4 y5 y6 y7 y8) (spec_l12Types.j0 (k + 1) y0 y1 y2 y3 y4 y5 y6 y7 y8))
  | 0 => fun _ _ _ _ _ _ _ _ _ r h => by simp [spec_l12Types.j0] at h
  | k + 1 => by
    have ih0 := spec_l12Types.mono_l k
    intro y0 y1 y2 y3 y4 y5 y6 y7 y8
    unfold spec_l12Types.j0
    repeat' first
    | (with_reducible exact ih0 _ _ _ _ _ _ _ _ _)
    | (with_reducible exact spec_l10Level.mono _ _)
    | (with_reducible exact LeO.refl _)
    | (with_reducible exact LeO.none _)
    | (with_reducible refine LeO.ite ?_ ?_)
    | (with_reducible refine LeO.bind ?_ (fun _ => ?_))
    | exact ih0 _ _ _ _ _ _ _ _ _
    | exact spec_l10Level.mono _ _
    | exact LeO.none _
    | refine LeO.ite ?_ ?_
    | refine LeO.bind ?_ (fun _ => ?_)
theorem spec_l12Types.mono : ∀ a0 a1 a2 a3 a4 a5 a6 k, LeO (spec_l12Types.f k a0 a1 a2 a3 a4 a5 a6) (spec_l12Types.f (k + 1) a0 a1 a2 a3 a4 a5 a6) := by
  intro a0 a1 a2 a3 a4 a5 a6 k
  have ih0 := spec_l12Types.mono_l k
  unfold spec_l12Types.f
  repeat' first
      | (with_reducible exact ih0 _ _ _ _ _ _ _ _ _)
      | (with_reducible exact spec_l10Level.mono _ _)
      | (with_reducible exact LeO.refl _)
      | (with_reducible exact LeO.none _)
      | (with_reducible refine LeO.ite ?_ ?_)
      | (with_reducible refine LeO.bind ?_ (fun _ => ?_))
      | exact ih0 _ _ _ _ _ _ _ _ _
      | exact spec_l10Level.mono _ _
      | exact LeO.none _
      | refine LeO.ite ?_ ?_
      | refine LeO.bind ?_ (fun _ => ?_)
set_option maxHeartbeats 8000000 in
set_option maxRecDepth 100000 in
theorem spec_l12Types.calls (k : Nat) (a0 : ByteArray) (a1_0 : Int) (a1_1 : Int) (a1_2 : ByteArray) (a2_0 : Int) (a2_1 : Int) (a2_2 : ByteArray) (r : Bool) (w : World) (h : spec_l12Types.f k a0 a1_0 a1_1 a1_2 a2_0 a2_1 a2_2 = some r) :
    Calls Try.prog 19 #[.string a0, .agg #[.int .i64 a1_0, .int .i64 a1_1, .string a1_2], .agg #[.int .i64 a2_0, .int .i64 a2_1, .string a2_2]] w fun e w' => e = .returned (.bool r) ∧ Below w.heap.size w w' := by
  have hu24 := Try.underlying24
  have HB := ak_ (Below.refl w.heap.size w)
  have H : ((spec_l10Level.f k a0).bind fun t103 => (if t103 = 1 then (spec_l12Types.j0 k 0 t103 (t103 == 1) a1_0 a1_1 a1_2 a2_0 a2_1 a2_2) else (spec_l12Types.j0 k 0 t103 (t103 == 2) a1_0 a1_1 a1_2 a2_0 a2_1 a2_2))) = some r := h
  clear h
  replace H := Option.bind_eq_some_iff.mp H
  obtain ⟨t103, A40, H⟩ := H
  have A4 := ak_ A40
  clear A40
  have HC5 := ak_ H
  clear H
  go_enter Try.func19, Try.ntmps19
  go_upto_if 10 with (first | ((with_reducible refine gate_dst (N := 4) rfl ?_); refine bx_ 4 (cs := #[.int .i64 a1_0, .int .i64 a1_1, .string a1_2]) (t := 24) (h_ := ?_); intro gb101 hg w6 hbox hb; have n_ := a4_ (below_step z1_ hb) (hbox) ((gs_ w hg (below_size z1_))) ((gs_ w hg (below_size z1_))); clear HB; obtain ⟨HB, BK101, GW101, GE101⟩ := n_; clear hb hbox hg) | ((with_reducible refine gate_dst (N := 5) rfl ?_); refine bx_ 5 (cs := #[.int .i64 a2_0, .int .i64 a2_1, .string a2_2]) (t := 24) (h_ := ?_); intro gb102 hg w7 hbox hb; have n_ := a7_ (blk_below (g := gb101) (o := .cells #[.int .i64 a1_0, .int .i64 a1_1, .string a1_2] 24 (0, 0)) z0_ hb) (below_step z3_ hb) (hbox) ((gs_ w hg (below_size z3_))) ((gs_ w hg (below_size z3_))) ((z10_ : gb101 ≠ gb102)) ((z11_ : gb102 ≠ gb101)); clear BK101 HB; obtain ⟨BK101, HB, BK102, GW102, GE102, NB101_102, NB102_101⟩ := n_; clear hb hbox hg) | ((with_reducible refine gate_callee (f := 18) rfl ?_); refine goesL_ (some 9) rfl rfl Try.func18 (by kernel_rfl) rfl #[.string a0] rfl z5_ ?_; (with_reducible refine (spec_l10Level.calls k a0 t103 _ A4.out).mono ?_); rintro e w' ⟨rfl, ⟨nd, rfl⟩⟩; refine ⟨_, rfl, ?_⟩))
  (try simp only [Act.put, List.setIfInBounds_toArray, List.set_cons_zero, List.set_cons_succ])
  go_cut [10] (fun v10 wc => ∃ (kq : Nat) (x10_4 : Bool), v10 = .bool x10_4 ∧ Aside0 (spec_l12Types.j0 kq 0 t103 x10_4 a1_0 a1_1 a1_2 a2_0 a2_1 a2_2 = some r) ∧ Aside0 (kq ≤ k) ∧ Aside0 (wc.heap[gb101]? = some (.cells #[.int .i64 a1_0, .int .i64 a1_1, .string a1_2] 24 (0, 0))) ∧ Aside0 (wc.heap[gb102]? = some (.cells #[.int .i64 a2_0, .int .i64 a2_1, .string a2_2] 24 (0, 0))) ∧ Aside0 (Below w.heap.size w wc))
  case first =>
    have H := HC5.out
    clear HC5
    by_cases c8 : t103 = 1
    rotate_left
    · rw [if_neg c8] at H
      have c8b0 : (t103 == 1) = false := beq_eq_false_iff_ne.mpr c8
      have c8b1 : (t103 != 1) = true := bne_iff_ne.mpr c8
      (first | rw [c8b0] | (simp only [i64_w, i32_w]; rw [c8b0]) | skip)
      have H' := ak_ H
      clear H
      go_wp2
      go_meet
      case rel => exact ⟨_, ((t103 == 2)), z18_, H', ⟨by first | omega | exact Nat.le_refl _⟩, ⟨z0_⟩, ⟨z6_⟩, ⟨z4_⟩⟩
    rw [if_pos c8] at H
    have c8b0 : (t103 == 1) = true := beq_iff_eq.mpr c8
    have c8b1 : (t103 != 1) = false := bne_eq_false_iff_eq.mpr c8
    clear c8
    (first | rw [c8b0] | (simp only [i64_w, i32_w]; rw [c8b0]) | skip)
    have H' := ak_ H
    clear H
    go_wp2
    go_meet
    case rel => exact ⟨_, ((t103 == 1)), z18_, H', ⟨by first | omega | exact Nat.le_refl _⟩, ⟨z0_⟩, ⟨z6_⟩, ⟨z4_⟩⟩
  case rest =>
    clear HC5
    try clear c1
    try clear p2
    try clear c8
    try clear c8b0
    try clear c8b1
    obtain ⟨kq, x10_4, rfl, HA, HJ4, BK101, BK102, HB⟩ := hcut
    cases kq with
    | zero => exact absurd HA.out (by simp [spec_l12Types.j0])
    | succ kj4 =>
      have H := HA.out
      clear HA
      simp only [spec_l12Types.j0] at H
      by_cases c9 : x10_4 = true
      · subst c9
        have H1 : (if a1_0 = 0 then (if a2_0 = 0 then (some true) else (some (a2_0 == 1))) else (if a1_0 = 1 then (if a2_0 = 0 then (some true) else (some (a2_0 == 1))) else (some false))) = some r := by rw [if_pos rfl] at H; exact H
        clear H
        have H := H1
        clear H1
        by_cases c10 : a1_0 = 0
        · rw [if_pos c10] at H
          have c10b0 : (a1_0 == 0) = true := beq_iff_eq.mpr c10
          have c10b1 : (a1_0 != 0) = false := bne_eq_false_iff_eq.mpr c10
          clear c10
          by_cases c11 : a2_0 = 0
          · rw [if_pos c11] at H
            have c11b0 : (a2_0 == 0) = true := beq_iff_eq.mpr c11
            have c11b1 : (a2_0 != 0) = false := bne_eq_false_iff_eq.mpr c11
            clear c11
            obtain rfl := Option.some.inj H
            have hnb12 := NB101_102.out
            have hnc12 := NB102_101.out
            obtain ⟨hcz13_0, hcz13_1, hcz13_2, hfz13_0, hfz13_1, hfz13_2⟩ := bcf3 BK101.out
            obtain ⟨hcz14_0, hcz14_1, hcz14_2, hfz14_0, hfz14_1, hfz14_2⟩ := bcf3 BK102.out
            go_wp2
            go_ret
            exact ⟨z8_, z4_⟩
          · rw [if_neg c11] at H
            have c11b0 : (a2_0 == 0) = false := beq_eq_false_iff_ne.mpr c11
            have c11b1 : (a2_0 != 0) = true := bne_iff_ne.mpr c11
            obtain rfl := Option.some.inj H
            have hnb15 := NB101_102.out
            have hnc15 := NB102_101.out
            obtain ⟨hcz16_0, hcz16_1, hcz16_2, hfz16_0, hfz16_1, hfz16_2⟩ := bcf3 BK101.out
            obtain ⟨hcz17_0, hcz17_1, hcz17_2, hfz17_0, hfz17_1, hfz17_2⟩ := bcf3 BK102.out
            go_wp2
            go_ret
            exact ⟨z8_, z4_⟩
        · rw [if_neg c10] at H
          have c10b0 : (a1_0 == 0) = false := beq_eq_false_iff_ne.mpr c10
          have c10b1 : (a1_0 != 0) = true := bne_iff_ne.mpr c10
          by_cases c18 : a1_0 = 1
          · rw [if_pos c18] at H
            have c18b0 : (a1_0 == 1) = true := beq_iff_eq.mpr c18
            have c18b1 : (a1_0 != 1) = false := bne_eq_false_iff_eq.mpr c18
            clear c18
            by_cases c19 : a2_0 = 0
            · rw [if_pos c19] at H
              have c19b0 : (a2_0 == 0) = true := beq_iff_eq.mpr c19
              have c19b1 : (a2_0 != 0) = false := bne_eq_false_iff_eq.mpr c19
              clear c19
              obtain rfl := Option.some.inj H
              have hnb20 := NB101_102.out
              have hnc20 := NB102_101.out
              obtain ⟨hcz21_0, hcz21_1, hcz21_2, hfz21_0, hfz21_1, hfz21_2⟩ := bcf3 BK101.out
              obtain ⟨hcz22_0, hcz22_1, hcz22_2, hfz22_0, hfz22_1, hfz22_2⟩ := bcf3 BK102.out
              go_wp2
              go_ret
              exact ⟨z8_, z4_⟩
            · rw [if_neg c19] at H
              have c19b0 : (a2_0 == 0) = false := beq_eq_false_iff_ne.mpr c19
              have c19b1 : (a2_0 != 0) = true := bne_iff_ne.mpr c19
              obtain rfl := Option.some.inj H
              have hnb23 := NB101_102.out
              have hnc23 := NB102_101.out
              obtain ⟨hcz24_0, hcz24_1, hcz24_2, hfz24_0, hfz24_1, hfz24_2⟩ := bcf3 BK101.out
              obtain ⟨hcz25_0, hcz25_1, hcz25_2, hfz25_0, hfz25_1, hfz25_2⟩ := bcf3 BK102.out
              go_wp2
              go_ret
              exact ⟨z8_, z4_⟩
          · rw [if_neg c18] at H
            have c18b0 : (a1_0 == 1) = false := beq_eq_false_iff_ne.mpr c18
            have c18b1 : (a1_0 != 1) = true := bne_iff_ne.mpr c18
            obtain rfl := Option.some.inj H
            have hnb26 := NB101_102.out
            have hnc26 := NB102_101.out
            obtain ⟨hcz27_0, hcz27_1, hcz27_2, hfz27_0, hfz27_1, hfz27_2⟩ := bcf3 BK101.out
            go_wp2
            go_ret
            exact ⟨z8_, z4_⟩
      replace c9 := Bool.eq_false_iff.mpr c9
      subst c9
      have H1 : (if t103 = 4 then (if a1_0 = 0 then (some true) else (if a2_0 = 0 then (some true) else (some (a1_0 == a2_0)))) else (if a1_0 = 0 then (if a2_0 = 0 then (some true) else (some (a2_0 == 2))) else (if a1_0 = 2 then (if a2_0 = 0 then (some true) else (some (a2_0 == 2))) else (some false)))) = some r := by rw [if_neg (show ¬ (false = true) by decide)] at H; exact H
      clear H
      have H := H1
      clear H1
      by_cases c28 : t103 = 4
      · rw [if_pos c28] at H
        have c28b0 : (t103 == 4) = true := beq_iff_eq.mpr c28
        have c28b1 : (t103 != 4) = false := bne_eq_false_iff_eq.mpr c28
        clear c28
        by_cases c29 : a1_0 = 0
        · rw [if_pos c29] at H
          have c29b0 : (a1_0 == 0) = true := beq_iff_eq.mpr c29
          have c29b1 : (a1_0 != 0) = false := bne_eq_false_iff_eq.mpr c29
          clear c29
          obtain rfl := Option.some.inj H
          have hnb30 := NB101_102.out
          have hnc30 := NB102_101.out
          obtain ⟨hcz31_0, hcz31_1, hcz31_2, hfz31_0, hfz31_1, hfz31_2⟩ := bcf3 BK101.out
          go_wp2
          go_ret
          exact ⟨z8_, z4_⟩
        · rw [if_neg c29] at H
          have c29b0 : (a1_0 == 0) = false := beq_eq_false_iff_ne.mpr c29
          have c29b1 : (a1_0 != 0) = true := bne_iff_ne.mpr c29
          by_cases c32 : a2_0 = 0
          · rw [if_pos c32] at H
            have c32b0 : (a2_0 == 0) = true := beq_iff_eq.mpr c32
            have c32b1 : (a2_0 != 0) = false := bne_eq_false_iff_eq.mpr c32
            clear c32
            obtain rfl := Option.some.inj H
            have hnb33 := NB101_102.out
            have hnc33 := NB102_101.out
            obtain ⟨hcz34_0, hcz34_1, hcz34_2, hfz34_0, hfz34_1, hfz34_2⟩ := bcf3 BK101.out
            obtain ⟨hcz35_0, hcz35_1, hcz35_2, hfz35_0, hfz35_1, hfz35_2⟩ := bcf3 BK102.out
            go_wp2
            go_ret
            exact ⟨z8_, z4_⟩
          · rw [if_neg c32] at H
            have c32b0 : (a2_0 == 0) = false := beq_eq_false_iff_ne.mpr c32
            have c32b1 : (a2_0 != 0) = true := bne_iff_ne.mpr c32
            obtain rfl := Option.some.inj H
            have hnb36 := NB101_102.out
            have hnc36 := NB102_101.out
            obtain ⟨hcz37_0, hcz37_1, hcz37_2, hfz37_0, hfz37_1, hfz37_2⟩ := bcf3 BK101.out
            obtain ⟨hcz38_0, hcz38_1, hcz38_2, hfz38_0, hfz38_1, hfz38_2⟩ := bcf3 BK102.out
            go_wp2
            go_ret
            exact ⟨z8_, z4_⟩
      rw [if_neg c28] at H
      have c28b0 : (t103 == 4) = false := beq_eq_false_iff_ne.mpr c28
      have c28b1 : (t103 != 4) = true := bne_iff_ne.mpr c28
      by_cases c39 : a1_0 = 0
      · rw [if_pos c39] at H
        have c39b0 : (a1_0 == 0) = true := beq_iff_eq.mpr c39
        have c39b1 : (a1_0 != 0) = false := bne_eq_false_iff_eq.mpr c39
        clear c39
        by_cases c40 : a2_0 = 0
        · rw [if_pos c40] at H
          have c40b0 : (a2_0 == 0) = true := beq_iff_eq.mpr c40
          have c40b1 : (a2_0 != 0) = false := bne_eq_false_iff_eq.mpr c40
          clear c40
          obtain rfl := Option.some.inj H
          have hnb41 := NB101_102.out
          have hnc41 := NB102_101.out
          obtain ⟨hcz42_0, hcz42_1, hcz42_2, hfz42_0, hfz42_1, hfz42_2⟩ := bcf3 BK101.out
          obtain ⟨hcz43_0, hcz43_1, hcz43_2, hfz43_0, hfz43_1, hfz43_2⟩ := bcf3 BK102.out
          go_wp2
          go_ret
          exact ⟨z8_, z4_⟩
        · rw [if_neg c40] at H
          have c40b0 : (a2_0 == 0) = false := beq_eq_false_iff_ne.mpr c40
          have c40b1 : (a2_0 != 0) = true := bne_iff_ne.mpr c40
          obtain rfl := Option.some.inj H
          have hnb44 := NB101_102.out
          have hnc44 := NB102_101.out
          obtain ⟨hcz45_0, hcz45_1, hcz45_2, hfz45_0, hfz45_1, hfz45_2⟩ := bcf3 BK101.out
          obtain ⟨hcz46_0, hcz46_1, hcz46_2, hfz46_0, hfz46_1, hfz46_2⟩ := bcf3 BK102.out
          go_wp2
          go_ret
          exact ⟨z8_, z4_⟩
      rw [if_neg c39] at H
      have c39b0 : (a1_0 == 0) = false := beq_eq_false_iff_ne.mpr c39
      have c39b1 : (a1_0 != 0) = true := bne_iff_ne.mpr c39
      by_cases c47 : a1_0 = 2
      rotate_left
      · rw [if_neg c47] at H
        have c47b0 : (a1_0 == 2) = false := beq_eq_false_iff_ne.mpr c47
        have c47b1 : (a1_0 != 2) = true := bne_iff_ne.mpr c47
        obtain rfl := Option.some.inj H
        have hnb55 := NB101_102.out
        have hnc55 := NB102_101.out
        obtain ⟨hcz56_0, hcz56_1, hcz56_2, hfz56_0, hfz56_1, hfz56_2⟩ := bcf3 BK101.out
        go_wp2
        go_ret
        exact ⟨z8_, z4_⟩

      rw [if_pos c47] at H
      have c47b0 : (a1_0 == 2) = true := beq_iff_eq.mpr c47
      have c47b1 : (a1_0 != 2) = false := bne_eq_false_iff_eq.mpr c47
      clear c47
      by_cases c48 : a2_0 = 0
      rotate_left
      · rw [if_neg c48] at H
        have c48b0 : (a2_0 == 0) = false := beq_eq_false_iff_ne.mpr c48
        have c48b1 : (a2_0 != 0) = true := bne_iff_ne.mpr c48
        obtain rfl := Option.some.inj H
        have hnb52 := NB101_102.out
        have hnc52 := NB102_101.out
        obtain ⟨hcz53_0, hcz53_1, hcz53_2, hfz53_0, hfz53_1, hfz53_2⟩ := bcf3 BK101.out
        obtain ⟨hcz54_0, hcz54_1, hcz54_2, hfz54_0, hfz54_1, hfz54_2⟩ := bcf3 BK102.out
        go_wp2
        go_ret
        exact ⟨z8_, z4_⟩
      rw [if_pos c48] at H
      have c48b0 : (a2_0 == 0) = true := beq_iff_eq.mpr c48
      have c48b1 : (a2_0 != 0) = false := bne_eq_false_iff_eq.mpr c48
      clear c48
      obtain rfl := Option.some.inj H
      have hnb49 := NB101_102.out
      have hnc49 := NB102_101.out
      obtain ⟨hcz50_0, hcz50_1, hcz50_2, hfz50_0, hfz50_1, hfz50_2⟩ := bcf3 BK101.out
      obtain ⟨hcz51_0, hcz51_1, hcz51_2, hfz51_0, hfz51_1, hfz51_2⟩ := bcf3 BK102.out
      go_wp2
      go_ret
      exact ⟨z8_, z4_⟩
end

section
/-! ### spec_l01Bit: function 70 -/
def spec_l01Bit.f (a0 : Bool) : Option (Int) := if a0 = true then (some 1) else (some 0)
set_option maxHeartbeats 8000000 in
set_option maxRecDepth 100000 in
theorem spec_l01Bit.calls (a0 : Bool) (r : Int) (w : World) (h : spec_l01Bit.f a0 = some r) :
    Calls Try.prog 70 #[.bool a0] w fun e w' => e = .returned (.int .i64 r) ∧ Drawn0 w w' := by
  have H : (if a0 = true then (some 1) else (some 0)) = some r := h
  clear h
  by_cases c2 : a0 = true
  · subst c2
    have H1 : (some 1) = some r := by rw [if_pos rfl] at H; exact H
    clear H
    have H := H1
    clear H1
    obtain rfl := Option.some.inj H
    go_enter Try.func70, Try.ntmps70
    go_wp2
    go_ret
    exact ⟨z18_, z16_⟩
  replace c2 := Bool.eq_false_iff.mpr c2
  subst c2
  have H1 : (some 0) = some r := by rw [if_neg (show ¬ (false = true) by decide)] at H; exact H
  clear H
  have H := H1
  clear H1
  obtain rfl := Option.some.inj H
  go_enter Try.func70, Try.ntmps70
  go_wp2
  go_ret
  exact ⟨z18_, z16_⟩
end

section
/-! ### spec_l12Bool: function 44 -/
def spec_l12Bool.f (a0 : Bool) : Option (Int × Int × ByteArray) := (spec_l01Bit.f a0).bind fun t102 => (some (1, t102, (⟨#[]⟩ : ByteArray)))
set_option maxHeartbeats 8000000 in
set_option maxRecDepth 100000 in
theorem spec_l12Bool.calls (a0 : Bool) (r1 : Int) (r2 : Int) (r3 : ByteArray) (w : World) (h : spec_l12Bool.f a0 = some (r1, r2, r3)) :
    Calls Try.prog 44 #[.bool a0] w fun e w' => e = .returned (.agg #[.int .i64 r1, .int .i64 r2, .string r3]) ∧ Below w.heap.size w w' := by
  have hu24 := Try.underlying24
  have HB := ak_ (Below.refl w.heap.size w)
  have H : ((spec_l01Bit.f a0).bind fun t102 => (some (1, t102, (⟨#[]⟩ : ByteArray)))) = some (r1, r2, r3) := h
  clear h
  replace H := Option.bind_eq_some_iff.mp H
  obtain ⟨t102, A20, H⟩ := H
  have A2 := ak_ A20
  clear A20
  simp only [Option.some.injEq, Prod.mk.injEq] at H
  obtain ⟨rfl, rfl, rfl⟩ := H
  go_enter Try.func44, Try.ntmps44
  go_wp2_with (first | ((with_reducible refine gate_dst (N := 2) rfl ?_); refine bx_ 2 (cs := #[.int .i64 0, .int .i64 0, .string (⟨#[]⟩ : ByteArray)]) (t := 24) (h_ := ?_); intro gb101 hg w3 hbox hb; have n_ := a4_ (below_step z1_ hb) (hbox) ((gs_ w hg (below_size z1_))) ((gs_ w hg (below_size z1_))); clear HB; obtain ⟨HB, BK101, GW101, GE101⟩ := n_; clear hb hbox hg) | ((with_reducible refine gate_callee (f := 70) rfl ?_); refine goesL_ (some 4) rfl rfl Try.func70 (by kernel_rfl) rfl #[.bool a0] rfl z5_ ?_; (with_reducible refine (spec_l01Bit.calls a0 t102 _ A2.out).mono ?_); rintro e w' ⟨rfl, ⟨nd, rfl⟩⟩; refine ⟨_, rfl, ?_⟩; (try (rw [drewN_self w3]; generalize hq_ : World.drewN w3 _ = w3; have n0_ : Aside0 (w3.heap[gb101]? = some (.cells #[.int .i64 0, .int .i64 0, .string (⟨#[]⟩ : ByteArray)] 24 (0, 0))) := ⟨by rw [← hq_]; exact z0_⟩; have n1_ : Aside0 (Below w.heap.size w w3) := ⟨by rw [← hq_]; exact z3_⟩; clear BK101 HB hq_; have BK101 := n0_; have HB := n1_; clear n0_ n1_)); obtain ⟨hcz4_0, hcz4_1, hcz4_2, hfz4_0, hfz4_1, hfz4_2⟩ := bcf3 BK101.out))
  refine bodyPost_ret (results_cell_row rfl _ _ gb101 24 #[.int .i64 1, .int .i64 t102, .string (⟨#[]⟩ : ByteArray)] (0, 0) _ rfl (by (with_reducible repeat (first | refine blk_drewN ?_ _ | refine blk_drew ?_ | refine blk_alloc ?_ _)); refine blk_put (cs := #[.int .i64 1, .int .i64 t102, .string (⟨#[]⟩ : ByteArray)]) ?_ 2 _ rfl; (with_reducible repeat (first | refine blk_drewN ?_ _ | refine blk_drew ?_ | refine blk_alloc ?_ _)); refine blk_put (cs := #[.int .i64 1, .int .i64 0, .string (⟨#[]⟩ : ByteArray)]) ?_ 1 _ rfl; (with_reducible repeat (first | refine blk_drewN ?_ _ | refine blk_drew ?_ | refine blk_alloc ?_ _)); refine blk_put (cs := #[.int .i64 0, .int .i64 0, .string (⟨#[]⟩ : ByteArray)]) ?_ 0 _ rfl; (with_reducible repeat (first | refine blk_drewN ?_ _ | refine blk_drew ?_ | refine blk_alloc ?_ _)); exact BK101.out) Try.underlying24 rfl (by kernel_rfl)) rfl ?_
  exact ⟨z8_, z3_⟩
end

section
attribute [local go_sem high] eqA24
/-! ### spec_l12Logic: function 43 -/
def spec_l12Logic.j0 : Nat → ByteArray → Bool → Int → Int → ByteArray → Int → Int → ByteArray → Int → Int → ByteArray → Option (Int × Int × ByteArray)
  | 0, _, _, _, _, _, _, _, _, _, _, _ => none
  | k + 1, x0, x18, x102000, x102001, x102002, x103000, x103001, x103002, x108000, x108001, x108002 => if x18 = true then (some (x108000, x108001, x108002)) else (if x102000 = 0 then (some (0, 0, (⟨#[]⟩ : ByteArray))) else (if x103000 = 0 then (some (0, 0, (⟨#[]⟩ : ByteArray))) else ((spec_l12Bool.f (x0.toList == ([97, 110, 100] : List UInt8))).bind fun bt108 => (some (bt108.1, bt108.2.1, bt108.2.2)))))
def spec_l12Logic.f (k : Nat) (a0 : ByteArray) (a1_0 : Int) (a1_1 : Int) (a1_2 : ByteArray) (a2_0 : Int) (a2_1 : Int) (a2_2 : ByteArray) : Option (Int × Int × ByteArray) := (spec_l12Bool.f (a0.toList == ([111, 114] : List UInt8))).bind fun bt104 => (if (a1_0 == bt104.1 && (a1_1 == bt104.2.1 && (a1_2.toList == bt104.2.2.toList))) = true then (spec_l12Logic.j0 k a0 true a1_0 a1_1 a1_2 a2_0 a2_1 a2_2 bt104.1 bt104.2.1 bt104.2.2) else (spec_l12Logic.j0 k a0 (a2_0 == bt104.1 && (a2_1 == bt104.2.1 && (a2_2.toList == bt104.2.2.toList))) a1_0 a1_1 a1_2 a2_0 a2_1 a2_2 bt104.1 bt104.2.1 bt104.2.2))
theorem spec_l12Logic.mono_l : ∀ k, (∀ y0 y1 y2 y3 y4 y5 y6 y7 y8 y9 y10, LeO (spec_l12Logic.j0 k y0 y1 y2 y3 y4 y5 y6 y7 y8 y9 y10) (spec_l12Logic.j0 (k + 1) y0 y1 y2 y3 y4 y5 y6 y7 y8 y9 y10))
  | 0 => fun _ _ _ _ _ _ _ _ _ _ _ r h => by simp [spec_l12Logic.j0] at h
  | k + 1 => by
    have ih0 := spec_l12Logic.mono_l k
    intro y0 y1 y2 y3 y4 y5 y6 y7 y8 y9 y10
    unfold spec_l12Logic.j0
    repeat' first
    | (with_reducible exact ih0 _ _ _ _ _ _ _ _ _ _ _)
    | (with_reducible exact LeO.refl _)
    | (with_reducible exact LeO.none _)
    | (with_reducible refine LeO.ite ?_ ?_)
    | (with_reducible refine LeO.bind ?_ (fun _ => ?_))
    | exact ih0 _ _ _ _ _ _ _ _ _ _ _
    | exact LeO.none _
    | refine LeO.ite ?_ ?_
    | refine LeO.bind ?_ (fun _ => ?_)
theorem spec_l12Logic.mono : ∀ a0 a1 a2 a3 a4 a5 a6 k, LeO (spec_l12Logic.f k a0 a1 a2 a3 a4 a5 a6) (spec_l12Logic.f (k + 1) a0 a1 a2 a3 a4 a5 a6) := by
  intro a0 a1 a2 a3 a4 a5 a6 k
  have ih0 := spec_l12Logic.mono_l k
  unfold spec_l12Logic.f
  repeat' first
      | (with_reducible exact ih0 _ _ _ _ _ _ _ _ _ _ _)
      | (with_reducible exact LeO.refl _)
      | (with_reducible exact LeO.none _)
      | (with_reducible refine LeO.ite ?_ ?_)
      | (with_reducible refine LeO.bind ?_ (fun _ => ?_))
      | exact ih0 _ _ _ _ _ _ _ _ _ _ _
      | exact LeO.none _
      | refine LeO.ite ?_ ?_
      | refine LeO.bind ?_ (fun _ => ?_)
set_option maxHeartbeats 8000000 in
set_option maxRecDepth 100000 in
theorem spec_l12Logic.calls (k : Nat) (a0 : ByteArray) (a1_0 : Int) (a1_1 : Int) (a1_2 : ByteArray) (a2_0 : Int) (a2_1 : Int) (a2_2 : ByteArray) (r1 : Int) (r2 : Int) (r3 : ByteArray) (w : World) (h : spec_l12Logic.f k a0 a1_0 a1_1 a1_2 a2_0 a2_1 a2_2 = some (r1, r2, r3)) :
    Calls Try.prog 43 #[.string a0, .agg #[.int .i64 a1_0, .int .i64 a1_1, .string a1_2], .agg #[.int .i64 a2_0, .int .i64 a2_1, .string a2_2]] w fun e w' => e = .returned (.agg #[.int .i64 r1, .int .i64 r2, .string r3]) ∧ Below w.heap.size w w' := by
  have hu24 := Try.underlying24
  have HB := ak_ (Below.refl w.heap.size w)
  have H : ((spec_l12Bool.f (a0.toList == ([111, 114] : List UInt8))).bind fun bt104 => (if (a1_0 == bt104.1 && (a1_1 == bt104.2.1 && (a1_2.toList == bt104.2.2.toList))) = true then (spec_l12Logic.j0 k a0 true a1_0 a1_1 a1_2 a2_0 a2_1 a2_2 bt104.1 bt104.2.1 bt104.2.2) else (spec_l12Logic.j0 k a0 (a2_0 == bt104.1 && (a2_1 == bt104.2.1 && (a2_2.toList == bt104.2.2.toList))) a1_0 a1_1 a1_2 a2_0 a2_1 a2_2 bt104.1 bt104.2.1 bt104.2.2))) = some (r1, r2, r3) := h
  clear h
  replace H := Option.bind_eq_some_iff.mp H
  obtain ⟨⟨t104, t105, t106⟩, A40, H⟩ := H
  replace H : (if (a1_0 == t104 && (a1_1 == t105 && (a1_2.toList == t106.toList))) = true then (spec_l12Logic.j0 k a0 true a1_0 a1_1 a1_2 a2_0 a2_1 a2_2 t104 t105 t106) else (spec_l12Logic.j0 k a0 (a2_0 == t104 && (a2_1 == t105 && (a2_2.toList == t106.toList))) a1_0 a1_1 a1_2 a2_0 a2_1 a2_2 t104 t105 t106)) = some (r1, r2, r3) := H
  have A4 := ak_ A40
  clear A40
  have HC5 := ak_ H
  clear H
  go_enter Try.func43, Try.ntmps43
  go_upto_region 2 with (first | ((with_reducible refine gate_dst (N := 4) rfl ?_); refine bx_ 4 (cs := #[.int .i64 a1_0, .int .i64 a1_1, .string a1_2]) (t := 24) (h_ := ?_); intro gb101 hg w6 hbox hb; have n_ := a4_ (below_step z1_ hb) (hbox) ((gs_ w hg (below_size z1_))) ((gs_ w hg (below_size z1_))); clear HB; obtain ⟨HB, BK101, GW101, GE101⟩ := n_; clear hb hbox hg) | ((with_reducible refine gate_dst (N := 5) rfl ?_); refine bx_ 5 (cs := #[.int .i64 a2_0, .int .i64 a2_1, .string a2_2]) (t := 24) (h_ := ?_); intro gb102 hg w7 hbox hb; have n_ := a7_ (blk_below (g := gb101) (o := .cells #[.int .i64 a1_0, .int .i64 a1_1, .string a1_2] 24 (0, 0)) z0_ hb) (below_step z3_ hb) (hbox) ((gs_ w hg (below_size z3_))) ((gs_ w hg (below_size z3_))) ((z10_ : gb101 ≠ gb102)) ((z11_ : gb102 ≠ gb101)); clear BK101 HB; obtain ⟨BK101, HB, BK102, GW102, GE102, NB101_102, NB102_101⟩ := n_; clear hb hbox hg) | ((with_reducible refine gate_dst (N := 6) rfl ?_); refine bx_ 6 (cs := #[.int .i64 0, .int .i64 0, .string (⟨#[]⟩ : ByteArray)]) (t := 24) (h_ := ?_); intro gb103 hg w8 hbox hb; have n_ := a10_ (blk_below (g := gb101) (o := .cells #[.int .i64 a1_0, .int .i64 a1_1, .string a1_2] 24 (0, 0)) z0_ hb) (blk_below (g := gb102) (o := .cells #[.int .i64 a2_0, .int .i64 a2_1, .string a2_2] 24 (0, 0)) z6_ hb) (below_step z4_ hb) (hbox) ((gs_ w hg (below_size z4_))) ((gs_ w hg (below_size z4_))) ((z10_ : gb101 ≠ gb103)) ((z11_ : gb103 ≠ gb101)) ((z44_ : gb102 ≠ gb103)) ((z45_ : gb103 ≠ gb102)); clear BK101 BK102 HB; obtain ⟨BK101, BK102, HB, BK103, GW103, GE103, NB101_103, NB103_101, NB102_103, NB103_102⟩ := n_; clear hb hbox hg) | ((with_reducible refine gate_callee (f := 44) rfl ?_); refine goesL_ (some 10) rfl rfl Try.func44 (by kernel_rfl) rfl #[.bool (a0.toList == ([111, 114] : List UInt8))] rfl z5_ ?_; (with_reducible refine (spec_l12Bool.calls (a0.toList == ([111, 114] : List UInt8)) t104 t105 t106 _ A4.out).mono ?_); rintro e w9 ⟨rfl, hb⟩; refine ⟨_, rfl, ?_⟩; have n_ := a4_ (blk_below (g := gb101) (o := .cells #[.int .i64 a1_0, .int .i64 a1_1, .string a1_2] 24 (0, 0)) z0_ hb) (blk_below (g := gb102) (o := .cells #[.int .i64 a2_0, .int .i64 a2_1, .string a2_2] 24 (0, 0)) z6_ hb) (blk_below (g := gb103) (o := .cells #[.int .i64 0, .int .i64 0, .string (⟨#[]⟩ : ByteArray)] 24 (0, 0)) z9_ hb) (below_step z2_ hb); clear BK101 BK102 BK103 HB; obtain ⟨BK101, BK102, BK103, HB⟩ := n_; (try clear hb); (try clear hb2); (try clear hk); (try clear hi)) | ((with_reducible refine gate_dst (N := 7) rfl ?_); refine bx_ 7 (cs := #[.int .i64 0, .int .i64 0, .string (⟨#[]⟩ : ByteArray)]) (t := 24) (h_ := ?_); intro gb107 hg w10 hbox hb; have n_ := a13_ (blk_below (g := gb101) (o := .cells #[.int .i64 a1_0, .int .i64 a1_1, .string a1_2] 24 (0, 0)) z0_ hb) (blk_below (g := gb102) (o := .cells #[.int .i64 a2_0, .int .i64 a2_1, .string a2_2] 24 (0, 0)) z6_ hb) (blk_below (g := gb103) (o := .cells #[.int .i64 0, .int .i64 0, .string (⟨#[]⟩ : ByteArray)] 24 (0, 0)) z9_ hb) (below_step z2_ hb) (hbox) ((gs_ w hg (below_size z2_))) ((gs_ w hg (below_size z2_))) ((z10_ : gb101 ≠ gb107)) ((z11_ : gb107 ≠ gb101)) ((z44_ : gb102 ≠ gb107)) ((z45_ : gb107 ≠ gb102)) ((by rw [hg]; exact Nat.ne_of_lt (blk_lt (g := gb103) (o := .cells #[.int .i64 0, .int .i64 0, .string (⟨#[]⟩ : ByteArray)] 24 (0, 0)) z9_) : gb103 ≠ gb107)) ((by rw [hg]; exact Nat.ne_of_gt (blk_lt (g := gb103) (o := .cells #[.int .i64 0, .int .i64 0, .string (⟨#[]⟩ : ByteArray)] 24 (0, 0)) z9_) : gb107 ≠ gb103)); clear BK101 BK102 BK103 HB; obtain ⟨BK101, BK102, BK103, HB, BK107, GW107, GE107, NB101_107, NB107_101, NB102_107, NB107_102, NB103_107, NB107_103⟩ := n_; clear hb hbox hg; have hnb11 := NB107_101.out; have hnc11 := NB101_107.out; have hnb12 := NB107_102.out; have hnc12 := NB102_107.out; have hnb13 := NB107_103.out; have hnc13 := NB103_107.out; obtain ⟨hcz14_0, hcz14_1, hcz14_2, hfz14_0, hfz14_1, hfz14_2⟩ := bcf3 BK107.out))
  (try simp only [Act.put, List.setIfInBounds_toArray, List.set_cons_zero, List.set_cons_succ])
  go_cut [18] (fun v18 wc => ∃ (kq : Nat) (x18_4 : Bool), v18 = .bool x18_4 ∧ Aside0 (spec_l12Logic.j0 kq a0 x18_4 a1_0 a1_1 a1_2 a2_0 a2_1 a2_2 t104 t105 t106 = some (r1, r2, r3)) ∧ Aside0 (kq ≤ k) ∧ Aside0 (wc.heap[gb101]? = some (.cells #[.int .i64 a1_0, .int .i64 a1_1, .string a1_2] 24 (0, 0))) ∧ Aside0 (wc.heap[gb102]? = some (.cells #[.int .i64 a2_0, .int .i64 a2_1, .string a2_2] 24 (0, 0))) ∧ Aside0 (wc.heap[gb103]? = some (.cells #[.int .i64 0, .int .i64 0, .string (⟨#[]⟩ : ByteArray)] 24 (0, 0))) ∧ Aside0 (wc.heap[gb107]? = some (.cells #[.int .i64 t104, .int .i64 t105, .string t106] 24 (0, 0))) ∧ Aside0 (Below w.heap.size w wc))
  case first =>
    have H := HC5.out
    clear HC5
    by_cases c15 : (a1_0 == t104 && (a1_1 == t105 && (a1_2.toList == t106.toList))) = true
    · rw [if_pos c15] at H
      have c15b0 : (a1_0 == t104 && (a1_1 == t105 && (a1_2.toList == t106.toList))) = true := c15
      (try (have c15b1 : decide (a1_0 = t104 && (a1_1 == t105 && (a1_2.toList == t106.toList))) = true := by simpa using c15))
      (try (have c15b2 : (a1_0 == t104 && (a1_1 == t105 && (a1_2.toList == t106.toList))) = true := by simpa using c15))
      clear c15
      (first | rw [c15b0] | (simp only [i64_w, i32_w]; rw [c15b0]) | skip)
      have H' := ak_ H
      clear H
      have hnb16 := NB101_102.out
      have hnc16 := NB102_101.out
      have hnb17 := NB101_103.out
      have hnc17 := NB103_101.out
      have hnb18 := NB101_107.out
      have hnc18 := NB107_101.out
      obtain ⟨hcz19_0, hcz19_1, hcz19_2, hfz19_0, hfz19_1, hfz19_2⟩ := bcf3 BK101.out
      have hnb20 := NB107_102.out
      have hnc20 := NB102_107.out
      have hnb21 := NB107_103.out
      have hnc21 := NB103_107.out
      obtain ⟨hcz22_0, hcz22_1, hcz22_2, hfz22_0, hfz22_1, hfz22_2⟩ := bcf3 BK107.out
      go_wp2
      go_meet
      case rel => exact ⟨_, (true), z18_, H', ⟨by first | omega | exact Nat.le_refl _⟩, ⟨z90_⟩, ⟨z91_⟩, ⟨z92_⟩, ⟨z84_⟩, ⟨z54_⟩⟩
    rw [if_neg c15] at H
    have c15b0 : (a1_0 == t104 && (a1_1 == t105 && (a1_2.toList == t106.toList))) = false := by simpa using c15
    (try (have c15b1 : decide (a1_0 = t104 && (a1_1 == t105 && (a1_2.toList == t106.toList))) = false := by simpa using c15))
    (try (have c15b2 : (a1_0 == t104 && (a1_1 == t105 && (a1_2.toList == t106.toList))) = false := by simpa using c15))
    (try (have c15b3 : ¬ (a1_0 = t104 && (a1_1 == t105 && (a1_2.toList == t106.toList))) := by simpa using c15))
    clear c15
    (first | rw [c15b0] | (simp only [i64_w, i32_w]; rw [c15b0]) | skip)
    have H' := ak_ H
    clear H
    have hnb23 := NB101_102.out
    have hnc23 := NB102_101.out
    have hnb24 := NB101_103.out
    have hnc24 := NB103_101.out
    have hnb25 := NB101_107.out
    have hnc25 := NB107_101.out
    obtain ⟨hcz26_0, hcz26_1, hcz26_2, hfz26_0, hfz26_1, hfz26_2⟩ := bcf3 BK101.out
    have hnb27 := NB107_102.out
    have hnc27 := NB102_107.out
    have hnb28 := NB107_103.out
    have hnc28 := NB103_107.out
    obtain ⟨hcz29_0, hcz29_1, hcz29_2, hfz29_0, hfz29_1, hfz29_2⟩ := bcf3 BK107.out
    have hnb30 := NB102_103.out
    have hnc30 := NB103_102.out
    obtain ⟨hcz31_0, hcz31_1, hcz31_2, hfz31_0, hfz31_1, hfz31_2⟩ := bcf3 BK102.out
    go_wp2
    go_meet
    case rel => exact ⟨_, ((a2_0 == t104 && (a2_1 == t105 && (a2_2.toList == t106.toList)))), z18_, H', ⟨by first | omega | exact Nat.le_refl _⟩, ⟨z90_⟩, ⟨z91_⟩, ⟨z92_⟩, ⟨z84_⟩, ⟨z54_⟩⟩
  case rest =>
    clear HC5
    try clear c1
    try clear c2
    try clear p2
    try clear c3
    try clear c4
    try clear c11
    try clear c12
    try clear c13
    try clear c15
    try clear c15b0
    try clear c15b1
    try clear c15b2
    try clear c16
    try clear c17
    try clear c18
    try clear c20
    try clear c21
    try clear c23
    try clear c24
    try clear c25
    try clear c27
    try clear c28
    try clear c30
    try clear hcz14_0
    try clear hcz14_1
    try clear hcz14_2
    try clear hcz19_0
    try clear hcz19_1
    try clear hcz19_2
    try clear hcz22_0
    try clear hcz22_1
    try clear hcz22_2
    try clear hcz26_0
    try clear hcz26_1
    try clear hcz26_2
    try clear hcz29_0
    try clear hcz29_1
    try clear hcz29_2
    try clear hcz31_0
    try clear hcz31_1
    try clear hcz31_2
    try clear hfz14_0
    try clear hfz14_1
    try clear hfz14_2
    try clear hfz19_0
    try clear hfz19_1
    try clear hfz19_2
    try clear hfz22_0
    try clear hfz22_1
    try clear hfz22_2
    try clear hfz26_0
    try clear hfz26_1
    try clear hfz26_2
    try clear hfz29_0
    try clear hfz29_1
    try clear hfz29_2
    try clear hfz31_0
    try clear hfz31_1
    try clear hfz31_2
    obtain ⟨kq, x18_4, rfl, HA, HJ4, BK101, BK102, BK103, BK107, HB⟩ := hcut
    cases kq with
    | zero => exact absurd HA.out (by simp [spec_l12Logic.j0])
    | succ kj4 =>
      have H := HA.out
      clear HA
      simp only [spec_l12Logic.j0] at H
      by_cases c32 : x18_4 = true
      · subst c32
        have H1 : (some (t104, t105, t106)) = some (r1, r2, r3) := by rw [if_pos rfl] at H; exact H
        clear H
        have H := H1
        clear H1
        simp only [Option.some.injEq, Prod.mk.injEq] at H
        obtain ⟨rfl, rfl, rfl⟩ := H
        have hnb33 := NB107_101.out
        have hnc33 := NB101_107.out
        have hnb34 := NB107_102.out
        have hnc34 := NB102_107.out
        have hnb35 := NB107_103.out
        have hnc35 := NB103_107.out
        obtain ⟨hcz36_0, hcz36_1, hcz36_2, hfz36_0, hfz36_1, hfz36_2⟩ := bcf3 BK107.out
        have hnb37 := NB103_101.out
        have hnc37 := NB101_103.out
        have hnb38 := NB103_102.out
        have hnc38 := NB102_103.out
        obtain ⟨hcz39_0, hcz39_1, hcz39_2, hfz39_0, hfz39_1, hfz39_2⟩ := bcf3 BK103.out
        go_wp2
        refine bodyPost_ret (results_cell_row rfl _ _ gb103 24 #[.int .i64 t104, .int .i64 t105, .string t106] (0, 0) _ rfl (by (with_reducible repeat (first | refine blk_drewN ?_ _ | refine blk_drew ?_ | refine blk_alloc ?_ _)); refine blk_put (cs := #[.int .i64 t104, .int .i64 t105, .string (⟨#[]⟩ : ByteArray)]) ?_ 2 _ rfl; (with_reducible repeat (first | refine blk_drewN ?_ _ | refine blk_drew ?_ | refine blk_alloc ?_ _)); refine blk_put (cs := #[.int .i64 t104, .int .i64 0, .string (⟨#[]⟩ : ByteArray)]) ?_ 1 _ rfl; (with_reducible repeat (first | refine blk_drewN ?_ _ | refine blk_drew ?_ | refine blk_alloc ?_ _)); refine blk_put (cs := #[.int .i64 0, .int .i64 0, .string (⟨#[]⟩ : ByteArray)]) ?_ 0 _ rfl; (with_reducible repeat (first | refine blk_drewN ?_ _ | refine blk_drew ?_ | refine blk_alloc ?_ _)); exact BK103.out) Try.underlying24 rfl (by kernel_rfl)) rfl ?_
        exact ⟨z8_, z54_⟩
      replace c32 := Bool.eq_false_iff.mpr c32
      subst c32
      have H1 : (if a1_0 = 0 then (some (0, 0, (⟨#[]⟩ : ByteArray))) else (if a2_0 = 0 then (some (0, 0, (⟨#[]⟩ : ByteArray))) else ((spec_l12Bool.f (a0.toList == ([97, 110, 100] : List UInt8))).bind fun bt108 => (some (bt108.1, bt108.2.1, bt108.2.2))))) = some (r1, r2, r3) := by rw [if_neg (show ¬ (false = true) by decide)] at H; exact H
      clear H
      have H := H1
      clear H1
      by_cases c40 : a1_0 = 0
      · rw [if_pos c40] at H
        have c40b0 : (a1_0 == 0) = true := beq_iff_eq.mpr c40
        have c40b1 : (a1_0 != 0) = false := bne_eq_false_iff_eq.mpr c40
        clear c40
        simp only [Option.some.injEq, Prod.mk.injEq] at H
        obtain ⟨rfl, rfl, rfl⟩ := H
        have hnb41 := NB101_102.out
        have hnc41 := NB102_101.out
        have hnb42 := NB101_103.out
        have hnc42 := NB103_101.out
        have hnb43 := NB101_107.out
        have hnc43 := NB107_101.out
        obtain ⟨hcz44_0, hcz44_1, hcz44_2, hfz44_0, hfz44_1, hfz44_2⟩ := bcf3 BK101.out
        have hnb45 := NB103_102.out
        have hnc45 := NB102_103.out
        have hnb46 := NB103_107.out
        have hnc46 := NB107_103.out
        obtain ⟨hcz47_0, hcz47_1, hcz47_2, hfz47_0, hfz47_1, hfz47_2⟩ := bcf3 BK103.out
        go_wp2
        refine bodyPost_ret (results_cell_row rfl _ _ gb103 24 #[.int .i64 0, .int .i64 0, .string (⟨#[]⟩ : ByteArray)] (0, 0) _ rfl z7_ Try.underlying24 rfl (by kernel_rfl)) rfl ?_
        exact ⟨z8_, z54_⟩
      rw [if_neg c40] at H
      have c40b0 : (a1_0 == 0) = false := beq_eq_false_iff_ne.mpr c40
      have c40b1 : (a1_0 != 0) = true := bne_iff_ne.mpr c40
      by_cases c48 : a2_0 = 0
      · rw [if_pos c48] at H
        have c48b0 : (a2_0 == 0) = true := beq_iff_eq.mpr c48
        have c48b1 : (a2_0 != 0) = false := bne_eq_false_iff_eq.mpr c48
        clear c48
        simp only [Option.some.injEq, Prod.mk.injEq] at H
        obtain ⟨rfl, rfl, rfl⟩ := H
        have hnb49 := NB101_102.out
        have hnc49 := NB102_101.out
        have hnb50 := NB101_103.out
        have hnc50 := NB103_101.out
        have hnb51 := NB101_107.out
        have hnc51 := NB107_101.out
        obtain ⟨hcz52_0, hcz52_1, hcz52_2, hfz52_0, hfz52_1, hfz52_2⟩ := bcf3 BK101.out
        have hnb53 := NB102_103.out
        have hnc53 := NB103_102.out
        have hnb54 := NB102_107.out
        have hnc54 := NB107_102.out
        obtain ⟨hcz55_0, hcz55_1, hcz55_2, hfz55_0, hfz55_1, hfz55_2⟩ := bcf3 BK102.out
        have hnb56 := NB103_107.out
        have hnc56 := NB107_103.out
        obtain ⟨hcz57_0, hcz57_1, hcz57_2, hfz57_0, hfz57_1, hfz57_2⟩ := bcf3 BK103.out
        go_wp2
        refine bodyPost_ret (results_cell_row rfl _ _ gb103 24 #[.int .i64 0, .int .i64 0, .string (⟨#[]⟩ : ByteArray)] (0, 0) _ rfl z7_ Try.underlying24 rfl (by kernel_rfl)) rfl ?_
        exact ⟨z8_, z54_⟩
      rw [if_neg c48] at H
      have c48b0 : (a2_0 == 0) = false := beq_eq_false_iff_ne.mpr c48
      have c48b1 : (a2_0 != 0) = true := bne_iff_ne.mpr c48
      replace H := Option.bind_eq_some_iff.mp H
      obtain ⟨⟨t108, t109, t110⟩, A580, H⟩ := H
      replace H : (some (t108, t109, t110)) = some (r1, r2, r3) := H
      have A58 := ak_ A580
      clear A580
      simp only [Option.some.injEq, Prod.mk.injEq] at H
      obtain ⟨rfl, rfl, rfl⟩ := H
      have hnb59 := NB101_102.out
      have hnc59 := NB102_101.out
      have hnb60 := NB101_103.out
      have hnc60 := NB103_101.out
      have hnb61 := NB101_107.out
      have hnc61 := NB107_101.out
      obtain ⟨hcz62_0, hcz62_1, hcz62_2, hfz62_0, hfz62_1, hfz62_2⟩ := bcf3 BK101.out
      have hnb63 := NB102_103.out
      have hnc63 := NB103_102.out
      have hnb64 := NB102_107.out
      have hnc64 := NB107_102.out
      obtain ⟨hcz65_0, hcz65_1, hcz65_2, hfz65_0, hfz65_1, hfz65_2⟩ := bcf3 BK102.out
      go_wp2_with (first | ((with_reducible refine gate_callee (f := 44) rfl ?_); refine goesL_ (some 31) rfl rfl Try.func44 (by kernel_rfl) rfl #[.bool (a0.toList == ([97, 110, 100] : List UInt8))] rfl z5_ ?_; (with_reducible refine (spec_l12Bool.calls (a0.toList == ([97, 110, 100] : List UInt8)) t108 t109 t110 _ A58.out).mono ?_); rintro e w66 ⟨rfl, hb⟩; refine ⟨_, rfl, ?_⟩; have n_ := a5_ (blk_below (g := gb101) (o := .cells #[.int .i64 a1_0, .int .i64 a1_1, .string a1_2] 24 (0, 0)) z0_ hb) (blk_below (g := gb102) (o := .cells #[.int .i64 a2_0, .int .i64 a2_1, .string a2_2] 24 (0, 0)) z6_ hb) (blk_below (g := gb103) (o := .cells #[.int .i64 0, .int .i64 0, .string (⟨#[]⟩ : ByteArray)] 24 (0, 0)) z9_ hb) (blk_below (g := gb107) (o := .cells #[.int .i64 t104, .int .i64 t105, .string t106] 24 (0, 0)) (by (with_reducible repeat (first | refine blk_drewN ?_ _ | refine blk_drew ?_ | refine blk_alloc ?_ _)); exact BK107.out) hb) (below_step z54_ hb); clear BK101 BK102 BK103 BK107 HB; obtain ⟨BK101, BK102, BK103, BK107, HB⟩ := n_; (try clear hb); (try clear hb2); (try clear hk); (try clear hi); have hnb67 := NB103_107.out; have hnc67 := NB107_103.out; obtain ⟨hcz68_0, hcz68_1, hcz68_2, hfz68_0, hfz68_1, hfz68_2⟩ := bcf3 BK103.out))
      refine bodyPost_ret (results_cell_row rfl _ _ gb103 24 #[.int .i64 t108, .int .i64 t109, .string t110] (0, 0) _ rfl z83_ Try.underlying24 rfl (by kernel_rfl)) rfl ?_
      exact ⟨z8_, z54_⟩
end

end Go.Proofs.Ytfbclbbhomhfaaa.X
end
