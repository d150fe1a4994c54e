/- Contracts of functions, and what is told of them. -/
import Derived.Test.YtfbclbbhomhfaaaYFnAggs2
set_option linter.unusedSimpArgs false
set_option linter.unusedVariables false
set_option maxHeartbeats 8000000
set_option maxRecDepth 100000
section
namespace Go.Proofs.Ytfbclbbhomhfaaa.X
open Go.RowKit Go.Proofs.YtfbclbbhomhfaaaW.PrintWords Go.Proofs.YtfbclbbhomhfaaaW.PrintLast Go.Proofs.YtfbclbbhomhfaaaW.PrintMore
attribute [local go_sem] max2_int min2_int max_two min_two max_three min_three max_four min_four

section
/-! ### cmp_Or_int: function 65 -/
def cmp_Or_int.l0 : Nat → Int → List Int → Int → Int → Option (Int)
 | 0, _, _, _, _ => none
 | k + 1, x3, x6, x7, x8 => if x8 < x7 then (if 0 ≤ x8 then (if x8 < (x6.length : Int) then (if (rd x6 x8) = x3 then (cmp_Or_int.l0 k x3 x6 x7 (wrap64 (x8 + 1))) else (some (rd x6 x8))) else (none)) else (none)) else (some x3)
def cmp_Or_int.f (k : Nat) (l0 : List Int) : Option (Int) := cmp_Or_int.l0 k 0 l0 (l0.length : Int) 0
theorem cmp_Or_int.mono_l : ∀ k, (∀ y0 y1 y2 y3, LeO (cmp_Or_int.l0 k y0 y1 y2 y3) (cmp_Or_int.l0 (k + 1) y0 y1 y2 y3))
 | 0 => fun _ _ _ _ r h => by simp [cmp_Or_int.l0] at h
 | k + 1 => by
  have ih0 := cmp_Or_int.mono_l k
  intro y0 y1 y2 y3
  unfold cmp_Or_int.l0
  repeat' first | with_reducible (first | exact ih0 _ _ _ _ | exact LeO.refl _ | exact LeO.none _ | refine LeO.ite ?_ ?_ | refine LeO.bind ?_ (fun _ => ?_)) | exact ih0 _ _ _ _ | exact LeO.none _ | refine LeO.ite ?_ ?_ | refine LeO.bind ?_ (fun _ => ?_)
theorem cmp_Or_int.mono : ∀ a0 k, LeO (cmp_Or_int.f k a0) (cmp_Or_int.f (k + 1) a0) := by
 intro a0 k
 have ih0 := cmp_Or_int.mono_l k
 unfold cmp_Or_int.f
 repeat' first
   | (with_reducible exact ih0 _ _ _ _)
   | (with_reducible exact LeO.refl _)
   | (with_reducible exact LeO.none _)
   | (with_reducible refine LeO.ite ?_ ?_)
   | (with_reducible refine LeO.bind ?_ (fun _ => ?_))
   | exact ih0 _ _ _ _
   | exact LeO.none _
   | refine LeO.ite ?_ ?_
   | refine LeO.bind ?_ (fun _ => ?_)
theorem cmp_Or_int.calls (k : Nat) (A0 : Option Addr) (c0 : Nat) (l0 : List Int) (r : Int) (w : World) (hr0 : Kd.C (Kd.int .i64) w A0 l0.length l0) (hc0 : l0.length ≤ c0) (h : cmp_Or_int.f k l0 = some r) :
  Calls Try.prog 65 #[.slice A0 l0.length c0] w fun e w' => e = .returned (.int .i64 r) ∧ Drawn0 w w' := by
 have HR0 := ak_ hr0
 have HC0 := ak_ hc0
 clear hr0 hc0
 have H : (cmp_Or_int.l0 k 0 l0 (l0.length : Int) 0) = some r := h
 clear h
 have H' := ak_ H
 clear H
 go_enter Try.func65, Try.ntmps65
 go_wp2
 go_loopg [8] k (fun kq v8 w' => ∃ (x8_1 : Int), v8 = .int .i64 x8_1 ∧ Aside0 (cmp_Or_int.l0 kq 0 l0 (l0.length : Int) x8_1 = some r) ∧ Aside0 (kq ≤ k) ∧ Drawn0 w w')
 case atStart => exact ⟨(0), z12_, H', ⟨Nat.le_refl _⟩, z26_⟩
 case round =>
  clear H'
  obtain ⟨x8_1, rfl, HA, HK1, ⟨m1, rfl⟩⟩ := hrel
  cases gk with
  | zero => exact absurd HA.out (by simp [cmp_Or_int.l0])
  | succ k1 =>
   have H := HA.out
   clear HA
   simp only [cmp_Or_int.l0] at H
   by_cases c2 : x8_1 < (l0.length : Int)
   rotate_left
   ·rw [if_neg c2] at H
    have c2b0 := decide_eq_false c2
    clear c2
    obtain rfl := Option.some.inj H
    go_wp2
    go_ret
    exact ⟨z12_, z26_⟩

   rw [if_pos c2] at H
   have c2b0 := decide_eq_true c2
   clear c2
   by_cases c3 : 0 ≤ x8_1
   rotate_left
   ·rw [if_neg c3] at H
    exact absurd H (by simp)
   rw [if_pos c3] at H
   have c3b0 := decide_eq_true c3
   clear c3
   by_cases c4 : x8_1 < (l0.length : Int)
   rotate_left
   ·rw [if_neg c4] at H
    exact absurd H (by simp)
   rw [if_pos c4] at H
   have c4b0 := decide_eq_true c4
   clear c4
   by_cases c5 : (rd l0 x8_1) = 0
   rotate_left
   ·rw [if_neg c5] at H
    have c5b0 : ((rd l0 x8_1) == 0) = false := beq_eq_false_iff_ne.mpr c5
    have c5b1 : ((rd l0 x8_1) != 0) = true := bne_iff_ne.mpr c5
    obtain rfl := Option.some.inj H
    have p101 : 0 ≤ (x8_1 : Int) := of_decide_eq_true z11_
    have q101 : x8_1 < (l0.length : Int) := of_decide_eq_true z11_
    obtain ⟨ad101, e101, hx101_0⟩ := Kd.at_int HR0.out x8_1 p101 q101
    cases e101
    replace p101 := eq_true p101
    replace q101 := eq_true q101
    go_wp2
    go_ret
    exact ⟨z12_, z26_⟩
   rw [if_pos c5] at H
   have c5b0 : ((rd l0 x8_1) == 0) = true := beq_iff_eq.mpr c5
   have c5b1 : ((rd l0 x8_1) != 0) = false := bne_eq_false_iff_eq.mpr c5
   clear c5
   have H' := ak_ H
   clear H
   have p101 : 0 ≤ (x8_1 : Int) := of_decide_eq_true z11_
   have q101 : x8_1 < (l0.length : Int) := of_decide_eq_true z11_
   obtain ⟨ad101, e101, hx101_0⟩ := Kd.at_int HR0.out x8_1 p101 q101
   cases e101
   replace p101 := eq_true p101
   replace q101 := eq_true q101
   go_wp2
   go_roundg k1
   case measure => have := HK1.out; omega
   case rel => exact ⟨(wrap64 (x8_1 + 1)), z12_, H', ⟨by have := HK1.out; omega⟩, z26_⟩
end

section
/-! ### cmp_isNaN_int: function 75 -/
def cmp_isNaN_int.f (a0 : Int) : Option (Bool) := some (a0 != a0)
theorem cmp_isNaN_int.calls (a0 : Int) (r : Bool) (w : World) (h : cmp_isNaN_int.f a0 = some r) :
  Calls Try.prog 75 #[.int .i64 a0] w fun e w' => e = .returned (.bool r) ∧ Drawn0 w w' := by
 have H : (some (a0 != a0)) = some r := h
 clear h
 obtain rfl := Option.some.inj H
 go_enter Try.func75, Try.ntmps75
 go_wp2
 go_ret
 exact ⟨z12_, z26_⟩
end

section
/-! ### cmp_Compare_int: function 66 -/
def cmp_Compare_int.f (a0 : Int) (a1 : Int) : Option (Int) := (cmp_isNaN_int.f a0).bind fun t101 => ((cmp_isNaN_int.f a1).bind fun t102 => (if t101 = true then (if t102 = true then (some 0) else (some (-1))) else (if t102 = true then (some 1) else (if a0 < a1 then (some (-1)) else (if a0 > a1 then (some 1) else (some 0))))))
theorem cmp_Compare_int.calls (a0 : Int) (a1 : Int) (r : Int) (w : World) (h : cmp_Compare_int.f a0 a1 = some r) :
  Calls Try.prog 66 #[.int .i64 a0, .int .i64 a1] w fun e w' => e = .returned (.int .i64 r) ∧ Drawn0 w w' := by
 have H := h
 unfold cmp_Compare_int.f at H
 clear h
 replace H := Option.bind_eq_some_iff.mp H
 obtain ⟨t101, A30, H⟩ := H
 have A3 := ak_ A30
 clear A30
 replace H := Option.bind_eq_some_iff.mp H
 obtain ⟨t102, A40, H⟩ := H
 have A4 := ak_ A40
 clear A40
 by_cases c5 : t101 = true
 ·subst c5
  have H1 : (if t102 = true then (some 0) else (some (-1))) = some r := by rw [if_pos rfl] at H; exact H
  clear H
  have H := H1
  clear H1
  by_cases c6 : t102 = true
  ·subst c6
   have H1 : (some 0) = some r := by rw [if_pos rfl] at H; exact H
   clear H
   have H := H1
   clear H1
   obtain rfl := Option.some.inj H
   go_enter Try.func66, Try.ntmps66
   go_wp2_with (first | ((with_reducible refine gate_callee (f := 75) rfl ?_); refine goesL_ (some 8) rfl rfl Try.func75 (by kernel_rfl) rfl #[.int .i64 a0] rfl z3_ ?_; (with_reducible refine (cmp_isNaN_int.calls a0 true _ A3.out).mono ?_); rintro e w' ⟨rfl, ⟨nd, rfl⟩⟩; refine ⟨_, rfl, ?_⟩) | ((with_reducible refine gate_callee (f := 75) rfl ?_); refine goesL_ (some 10) rfl rfl Try.func75 (by kernel_rfl) rfl #[.int .i64 a1] rfl z3_ ?_; (with_reducible refine (cmp_isNaN_int.calls a1 true _ A4.out).mono ?_); rintro e w' ⟨rfl, ⟨nd, rfl⟩⟩; refine ⟨_, rfl, ?_⟩))
   go_ret
   exact ⟨z12_, z26_⟩
  ·replace c6 := Bool.eq_false_iff.mpr c6
   subst c6
   have H1 : (some (-1)) = some r := by rw [if_neg (show ¬ (false = true) by decide)] at H; exact H
   clear H
   have H := H1
   clear H1
   obtain rfl := Option.some.inj H
   go_enter Try.func66, Try.ntmps66
   go_wp2_with (first | ((with_reducible refine gate_callee (f := 75) rfl ?_); refine goesL_ (some 8) rfl rfl Try.func75 (by kernel_rfl) rfl #[.int .i64 a0] rfl z3_ ?_; (with_reducible refine (cmp_isNaN_int.calls a0 true _ A3.out).mono ?_); rintro e w' ⟨rfl, ⟨nd, rfl⟩⟩; refine ⟨_, rfl, ?_⟩) | ((with_reducible refine gate_callee (f := 75) rfl ?_); refine goesL_ (some 10) rfl rfl Try.func75 (by kernel_rfl) rfl #[.int .i64 a1] rfl z3_ ?_; (with_reducible refine (cmp_isNaN_int.calls a1 false _ A4.out).mono ?_); rintro e w' ⟨rfl, ⟨nd, rfl⟩⟩; refine ⟨_, rfl, ?_⟩))
   go_ret
   exact ⟨z12_, z26_⟩
 replace c5 := Bool.eq_false_iff.mpr c5
 subst c5
 have H1 : (if t102 = true then (some 1) else (if a0 < a1 then (some (-1)) else (if a0 > a1 then (some 1) else (some 0)))) = some r := by rw [if_neg (show ¬ (false = true) by decide)] at H; exact H
 clear H
 have H := H1
 clear H1
 by_cases c7 : t102 = true
 ·subst c7
  have H1 : (some 1) = some r := by rw [if_pos rfl] at H; exact H
  clear H
  have H := H1
  clear H1
  obtain rfl := Option.some.inj H
  go_enter Try.func66, Try.ntmps66
  go_wp2_with (first | ((with_reducible refine gate_callee (f := 75) rfl ?_); refine goesL_ (some 8) rfl rfl Try.func75 (by kernel_rfl) rfl #[.int .i64 a0] rfl z3_ ?_; (with_reducible refine (cmp_isNaN_int.calls a0 false _ A3.out).mono ?_); rintro e w' ⟨rfl, ⟨nd, rfl⟩⟩; refine ⟨_, rfl, ?_⟩) | ((with_reducible refine gate_callee (f := 75) rfl ?_); refine goesL_ (some 10) rfl rfl Try.func75 (by kernel_rfl) rfl #[.int .i64 a1] rfl z3_ ?_; (with_reducible refine (cmp_isNaN_int.calls a1 true _ A4.out).mono ?_); rintro e w' ⟨rfl, ⟨nd, rfl⟩⟩; refine ⟨_, rfl, ?_⟩))
  go_ret
  exact ⟨z12_, z26_⟩
 replace c7 := Bool.eq_false_iff.mpr c7
 subst c7
 have H1 : (if a0 < a1 then (some (-1)) else (if a0 > a1 then (some 1) else (some 0))) = some r := by rw [if_neg (show ¬ (false = true) by decide)] at H; exact H
 clear H
 have H := H1
 clear H1
 by_cases c8 : a0 < a1
 ·rw [if_pos c8] at H
  have c8b0 := decide_eq_true c8
  clear c8
  obtain rfl := Option.some.inj H
  go_enter Try.func66, Try.ntmps66
  go_wp2_with (first | ((with_reducible refine gate_callee (f := 75) rfl ?_); refine goesL_ (some 8) rfl rfl Try.func75 (by kernel_rfl) rfl #[.int .i64 a0] rfl z3_ ?_; (with_reducible refine (cmp_isNaN_int.calls a0 false _ A3.out).mono ?_); rintro e w' ⟨rfl, ⟨nd, rfl⟩⟩; refine ⟨_, rfl, ?_⟩) | ((with_reducible refine gate_callee (f := 75) rfl ?_); refine goesL_ (some 10) rfl rfl Try.func75 (by kernel_rfl) rfl #[.int .i64 a1] rfl z3_ ?_; (with_reducible refine (cmp_isNaN_int.calls a1 false _ A4.out).mono ?_); rintro e w' ⟨rfl, ⟨nd, rfl⟩⟩; refine ⟨_, rfl, ?_⟩))
  go_ret
  exact ⟨z12_, z26_⟩
 rw [if_neg c8] at H
 have c8b0 := decide_eq_false c8
 clear c8
 by_cases c9 : a0 > a1
 ·rw [if_pos c9] at H
  have c9b0 : decide (a1 < a0) = true := decide_eq_true c9
  clear c9
  obtain rfl := Option.some.inj H
  go_enter Try.func66, Try.ntmps66
  go_wp2_with (first | ((with_reducible refine gate_callee (f := 75) rfl ?_); refine goesL_ (some 8) rfl rfl Try.func75 (by kernel_rfl) rfl #[.int .i64 a0] rfl z3_ ?_; (with_reducible refine (cmp_isNaN_int.calls a0 false _ A3.out).mono ?_); rintro e w' ⟨rfl, ⟨nd, rfl⟩⟩; refine ⟨_, rfl, ?_⟩) | ((with_reducible refine gate_callee (f := 75) rfl ?_); refine goesL_ (some 10) rfl rfl Try.func75 (by kernel_rfl) rfl #[.int .i64 a1] rfl z3_ ?_; (with_reducible refine (cmp_isNaN_int.calls a1 false _ A4.out).mono ?_); rintro e w' ⟨rfl, ⟨nd, rfl⟩⟩; refine ⟨_, rfl, ?_⟩))
  go_ret
  exact ⟨z12_, z26_⟩
 rw [if_neg c9] at H
 have c9b0 : decide (a1 < a0) = false := decide_eq_false c9
 clear c9
 obtain rfl := Option.some.inj H
 go_enter Try.func66, Try.ntmps66
 go_wp2_with (first | ((with_reducible refine gate_callee (f := 75) rfl ?_); refine goesL_ (some 8) rfl rfl Try.func75 (by kernel_rfl) rfl #[.int .i64 a0] rfl z3_ ?_; (with_reducible refine (cmp_isNaN_int.calls a0 false _ A3.out).mono ?_); rintro e w' ⟨rfl, ⟨nd, rfl⟩⟩; refine ⟨_, rfl, ?_⟩) | ((with_reducible refine gate_callee (f := 75) rfl ?_); refine goesL_ (some 10) rfl rfl Try.func75 (by kernel_rfl) rfl #[.int .i64 a1] rfl z3_ ?_; (with_reducible refine (cmp_isNaN_int.calls a1 false _ A4.out).mono ?_); rintro e w' ⟨rfl, ⟨nd, rfl⟩⟩; refine ⟨_, rfl, ?_⟩))
 go_ret
 exact ⟨z12_, z26_⟩
end

section
/-! ### cmp_isNaN_string: function 76 -/
def cmp_isNaN_string.f (a0 : ByteArray) : Option (Bool) := some (a0.toList != a0.toList)
theorem cmp_isNaN_string.calls (a0 : ByteArray) (r : Bool) (w : World) (h : cmp_isNaN_string.f a0 = some r) :
  Calls Try.prog 76 #[.string a0] w fun e w' => e = .returned (.bool r) ∧ Drawn0 w w' := by
 have H : (some (a0.toList != a0.toList)) = some r := h
 clear h
 obtain rfl := Option.some.inj H
 go_enter Try.func76, Try.ntmps76
 go_wp2
 go_ret
 exact ⟨z12_, z26_⟩
end

section
attribute [local go_sem] str_gtr str_leq str_geq
/-! ### cmp_Compare_string: function 67 -/
def cmp_Compare_string.f (a0 : ByteArray) (a1 : ByteArray) : Option (Int) := (cmp_isNaN_string.f a0).bind fun t101 => ((cmp_isNaN_string.f a1).bind fun t102 => (if t101 = true then (if t102 = true then (some 0) else (some (-1))) else (if t102 = true then (some 1) else (if (Op.bytesLess a0.toList a1.toList) = true then (some (-1)) else (if (Op.bytesLess a1.toList a0.toList) = true then (some 1) else (some 0))))))
theorem cmp_Compare_string.calls (a0 : ByteArray) (a1 : ByteArray) (r : Int) (w : World) (h : cmp_Compare_string.f a0 a1 = some r) :
  Calls Try.prog 67 #[.string a0, .string a1] w fun e w' => e = .returned (.int .i64 r) ∧ Drawn0 w w' := by
 have H := h
 unfold cmp_Compare_string.f at H
 clear h
 replace H := Option.bind_eq_some_iff.mp H
 obtain ⟨t101, A30, H⟩ := H
 have A3 := ak_ A30
 clear A30
 replace H := Option.bind_eq_some_iff.mp H
 obtain ⟨t102, A40, H⟩ := H
 have A4 := ak_ A40
 clear A40
 by_cases c5 : t101 = true
 ·subst c5
  have H1 : (if t102 = true then (some 0) else (some (-1))) = some r := by rw [if_pos rfl] at H; exact H
  clear H
  have H := H1
  clear H1
  by_cases c6 : t102 = true
  ·subst c6
   have H1 : (some 0) = some r := by rw [if_pos rfl] at H; exact H
   clear H
   have H := H1
   clear H1
   obtain rfl := Option.some.inj H
   go_enter Try.func67, Try.ntmps67
   go_wp2_with (first | ((with_reducible refine gate_callee (f := 76) rfl ?_); refine goesL_ (some 8) rfl rfl Try.func76 (by kernel_rfl) rfl #[.string a0] rfl z3_ ?_; (with_reducible refine (cmp_isNaN_string.calls a0 true _ A3.out).mono ?_); rintro e w' ⟨rfl, ⟨nd, rfl⟩⟩; refine ⟨_, rfl, ?_⟩) | ((with_reducible refine gate_callee (f := 76) rfl ?_); refine goesL_ (some 10) rfl rfl Try.func76 (by kernel_rfl) rfl #[.string a1] rfl z3_ ?_; (with_reducible refine (cmp_isNaN_string.calls a1 true _ A4.out).mono ?_); rintro e w' ⟨rfl, ⟨nd, rfl⟩⟩; refine ⟨_, rfl, ?_⟩))
   go_ret
   exact ⟨z12_, z26_⟩
  ·replace c6 := Bool.eq_false_iff.mpr c6
   subst c6
   have H1 : (some (-1)) = some r := by rw [if_neg (show ¬ (false = true) by decide)] at H; exact H
   clear H
   have H := H1
   clear H1
   obtain rfl := Option.some.inj H
   go_enter Try.func67, Try.ntmps67
   go_wp2_with (first | ((with_reducible refine gate_callee (f := 76) rfl ?_); refine goesL_ (some 8) rfl rfl Try.func76 (by kernel_rfl) rfl #[.string a0] rfl z3_ ?_; (with_reducible refine (cmp_isNaN_string.calls a0 true _ A3.out).mono ?_); rintro e w' ⟨rfl, ⟨nd, rfl⟩⟩; refine ⟨_, rfl, ?_⟩) | ((with_reducible refine gate_callee (f := 76) rfl ?_); refine goesL_ (some 10) rfl rfl Try.func76 (by kernel_rfl) rfl #[.string a1] rfl z3_ ?_; (with_reducible refine (cmp_isNaN_string.calls a1 false _ A4.out).mono ?_); rintro e w' ⟨rfl, ⟨nd, rfl⟩⟩; refine ⟨_, rfl, ?_⟩))
   go_ret
   exact ⟨z12_, z26_⟩
 replace c5 := Bool.eq_false_iff.mpr c5
 subst c5
 have H1 : (if t102 = true then (some 1) else (if (Op.bytesLess a0.toList a1.toList) = true then (some (-1)) else (if (Op.bytesLess a1.toList a0.toList) = true then (some 1) else (some 0)))) = some r := by rw [if_neg (show ¬ (false = true) by decide)] at H; exact H
 clear H
 have H := H1
 clear H1
 by_cases c7 : t102 = true
 ·subst c7
  have H1 : (some 1) = some r := by rw [if_pos rfl] at H; exact H
  clear H
  have H := H1
  clear H1
  obtain rfl := Option.some.inj H
  go_enter Try.func67, Try.ntmps67
  go_wp2_with (first | ((with_reducible refine gate_callee (f := 76) rfl ?_); refine goesL_ (some 8) rfl rfl Try.func76 (by kernel_rfl) rfl #[.string a0] rfl z3_ ?_; (with_reducible refine (cmp_isNaN_string.calls a0 false _ A3.out).mono ?_); rintro e w' ⟨rfl, ⟨nd, rfl⟩⟩; refine ⟨_, rfl, ?_⟩) | ((with_reducible refine gate_callee (f := 76) rfl ?_); refine goesL_ (some 10) rfl rfl Try.func76 (by kernel_rfl) rfl #[.string a1] rfl z3_ ?_; (with_reducible refine (cmp_isNaN_string.calls a1 true _ A4.out).mono ?_); rintro e w' ⟨rfl, ⟨nd, rfl⟩⟩; refine ⟨_, rfl, ?_⟩))
  go_ret
  exact ⟨z12_, z26_⟩
 replace c7 := Bool.eq_false_iff.mpr c7
 subst c7
 have H1 : (if (Op.bytesLess a0.toList a1.toList) = true then (some (-1)) else (if (Op.bytesLess a1.toList a0.toList) = true then (some 1) else (some 0))) = some r := by rw [if_neg (show ¬ (false = true) by decide)] at H; exact H
 clear H
 have H := H1
 clear H1
 by_cases c8 : (Op.bytesLess a0.toList a1.toList) = true
 ·rw [if_pos c8] at H
  have c8b0 : (Op.bytesLess a0.toList a1.toList) = true := c8
  clear c8
  obtain rfl := Option.some.inj H
  go_enter Try.func67, Try.ntmps67
  go_wp2_with (first | ((with_reducible refine gate_callee (f := 76) rfl ?_); refine goesL_ (some 8) rfl rfl Try.func76 (by kernel_rfl) rfl #[.string a0] rfl z3_ ?_; (with_reducible refine (cmp_isNaN_string.calls a0 false _ A3.out).mono ?_); rintro e w' ⟨rfl, ⟨nd, rfl⟩⟩; refine ⟨_, rfl, ?_⟩) | ((with_reducible refine gate_callee (f := 76) rfl ?_); refine goesL_ (some 10) rfl rfl Try.func76 (by kernel_rfl) rfl #[.string a1] rfl z3_ ?_; (with_reducible refine (cmp_isNaN_string.calls a1 false _ A4.out).mono ?_); rintro e w' ⟨rfl, ⟨nd, rfl⟩⟩; refine ⟨_, rfl, ?_⟩))
  go_ret
  exact ⟨z12_, z26_⟩
 rw [if_neg c8] at H
 have c8b0 : (Op.bytesLess a0.toList a1.toList) = false := by simpa using c8
 clear c8
 by_cases c9 : (Op.bytesLess a1.toList a0.toList) = true
 ·rw [if_pos c9] at H
  have c9b0 : (Op.bytesLess a1.toList a0.toList) = true := c9
  clear c9
  obtain rfl := Option.some.inj H
  go_enter Try.func67, Try.ntmps67
  go_wp2_with (first | ((with_reducible refine gate_callee (f := 76) rfl ?_); refine goesL_ (some 8) rfl rfl Try.func76 (by kernel_rfl) rfl #[.string a0] rfl z3_ ?_; (with_reducible refine (cmp_isNaN_string.calls a0 false _ A3.out).mono ?_); rintro e w' ⟨rfl, ⟨nd, rfl⟩⟩; refine ⟨_, rfl, ?_⟩) | ((with_reducible refine gate_callee (f := 76) rfl ?_); refine goesL_ (some 10) rfl rfl Try.func76 (by kernel_rfl) rfl #[.string a1] rfl z3_ ?_; (with_reducible refine (cmp_isNaN_string.calls a1 false _ A4.out).mono ?_); rintro e w' ⟨rfl, ⟨nd, rfl⟩⟩; refine ⟨_, rfl, ?_⟩))
  go_ret
  exact ⟨z12_, z26_⟩
 rw [if_neg c9] at H
 have c9b0 : (Op.bytesLess a1.toList a0.toList) = false := by simpa using c9
 clear c9
 obtain rfl := Option.some.inj H
 go_enter Try.func67, Try.ntmps67
 go_wp2_with (first | ((with_reducible refine gate_callee (f := 76) rfl ?_); refine goesL_ (some 8) rfl rfl Try.func76 (by kernel_rfl) rfl #[.string a0] rfl z3_ ?_; (with_reducible refine (cmp_isNaN_string.calls a0 false _ A3.out).mono ?_); rintro e w' ⟨rfl, ⟨nd, rfl⟩⟩; refine ⟨_, rfl, ?_⟩) | ((with_reducible refine gate_callee (f := 76) rfl ?_); refine goesL_ (some 10) rfl rfl Try.func76 (by kernel_rfl) rfl #[.string a1] rfl z3_ ?_; (with_reducible refine (cmp_isNaN_string.calls a1 false _ A4.out).mono ?_); rintro e w' ⟨rfl, ⟨nd, rfl⟩⟩; refine ⟨_, rfl, ?_⟩))
 go_ret
 exact ⟨z12_, z26_⟩
end

section
/-! ### impl_compareValues: function 40 -/
def impl_compareValues.f (k : Nat) (a0_0 : Int) (a0_1 : Int) (a0_2 : ByteArray) (a1_0 : Int) (a1_1 : Int) (a1_2 : ByteArray) : Option (Int) := (cmp_Compare_int.f a0_0 a1_0).bind fun t103 => ((cmp_Compare_int.f a0_1 a1_1).bind fun t104 => ((cmp_Compare_string.f a0_2 a1_2).bind fun t105 => ((cmp_Or_int.f k (([t103, t104, t105] : List Int))).bind fun t109 => (some t109))))
theorem impl_compareValues.mono : ∀ a0 a1 a2 a3 a4 a5 k, LeO (impl_compareValues.f k a0 a1 a2 a3 a4 a5) (impl_compareValues.f (k + 1) a0 a1 a2 a3 a4 a5) := by
 intro a0 a1 a2 a3 a4 a5 k
 unfold impl_compareValues.f
 repeat' first
   | (with_reducible exact cmp_Or_int.mono _ _)
   | (with_reducible exact LeO.refl _)
   | (with_reducible exact LeO.none _)
   | (with_reducible refine LeO.ite ?_ ?_)
   | (with_reducible refine LeO.bind ?_ (fun _ => ?_))
   | exact cmp_Or_int.mono _ _
   | exact LeO.none _
   | refine LeO.ite ?_ ?_
   | refine LeO.bind ?_ (fun _ => ?_)
def impl_compareValues.T1 : Bool × List (List Nat × List Nat) := (true, [([], []), ([0], [0]), ([], []), ([2], [2]), ([1, 3], [1, 3]), ([], []), ([5], [5]), ([], []), ([7], [7]), ([6, 8, 4], [6, 8]), ([], []), ([10], [10]), ([], []), ([12], [12]), ([11, 13, 9], [11, 13]), ([4, 9, 14], [4, 9, 14]), ([15, 14], [15]), ([16, 16, 0, 1, 2, 3, 4, 5, 6, 7, 8, 9, 10, 11, 12, 13, 14, 15, 16], [16])])
def impl_compareValues.B1 : List Nat := [0, 1, 0, 4, 15, 0, 32, 0, 128, 511, 0, 1024, 0, 4096, 16383, 32767, 65535, 131071]
theorem impl_compareValues.tab1 : rtab .any (opsOf Try.f40 1) = impl_compareValues.T1 := by kernel_rfl
theorem impl_compareValues.bits1 : waitsOk impl_compareValues.T1.2 impl_compareValues.B1 = true := by kernel_rfl
theorem impl_compareValues.calls (k : Nat) (a0_0 : Int) (a0_1 : Int) (a0_2 : ByteArray) (a1_0 : Int) (a1_1 : Int) (a1_2 : ByteArray) (r : Int) (w : World) (h : impl_compareValues.f k a0_0 a0_1 a0_2 a1_0 a1_1 a1_2 = some r) :
  Calls Try.prog 40 #[.agg #[.int .i64 a0_0, .int .i64 a0_1, .string a0_2], .agg #[.int .i64 a1_0, .int .i64 a1_1, .string a1_2]] w fun e w' => e = .returned (.int .i64 r) ∧ Below w.heap.size w w' := by
 have hu24 := Try.underlying24
 have HB := ak_ (Below.refl w.heap.size w)
 have H := h
 unfold impl_compareValues.f at H
 clear h
 replace H := Option.bind_eq_some_iff.mp H
 obtain ⟨t103, A30, H⟩ := H
 have A3 := ak_ A30
 clear A30
 replace H := Option.bind_eq_some_iff.mp H
 obtain ⟨t104, A40, H⟩ := H
 have A4 := ak_ A40
 clear A40
 replace H := Option.bind_eq_some_iff.mp H
 obtain ⟨t105, A50, H⟩ := H
 have A5 := ak_ A50
 clear A50
 obtain ⟨y106, hy106⟩ : ∃ y_ : List Int, y_ = (([t103, t104, t105] : List Int)) := ⟨_, rfl⟩
 replace H : ((cmp_Or_int.f k y106).bind fun t109 => (some t109)) = some r := by first | (rw [hy106]; with_reducible exact H) | (have H2_ := (Option.bind_some _ _).symm.trans H; rw [hy106]; with_reducible exact H2_) | (have H2_ := (Option.bind_some _ _).symm.trans H; with_reducible exact H2_) | with_reducible exact H | (rw [hy106]; exact H) | exact H
 have Ny106 := ak_ hy106
 clear hy106
 replace H := Option.bind_eq_some_iff.mp H
 obtain ⟨t109, A60, H⟩ := H
 have A6 := ak_ A60
 clear A60
 obtain rfl := Option.some.inj H
 go_enter Try.func40, Try.ntmps40
 try go_wp2_with (first | ((with_reducible refine gate_dst (N := 2) rfl ?_); refine bx_ 2 (cs := #[.int .i64 a0_0, .int .i64 a0_1, .string a0_2]) (t := 24) (h_ := ?_); intro gb101 hg w7 hbox hb; have n_ := a4_ (below_step z0_ hb) (hbox) ((gs_ w hg (below_size z0_))) ((gs_ w hg (below_size z0_))); clear HB; obtain ⟨HB, BK101, GW101, GE101⟩ := n_; clear hb hbox hg) | ((with_reducible refine gate_dst (N := 3) rfl ?_); refine bx_ 3 (cs := #[.int .i64 a1_0, .int .i64 a1_1, .string a1_2]) (t := 24) (h_ := ?_); intro gb102 hg w8 hbox hb; have n_ := a7_ (blk_below (g := gb101) (o := .cells #[.int .i64 a0_0, .int .i64 a0_1, .string a0_2] 24 (0, 0)) z2_ hb) (below_step z1_ hb) (hbox) ((gs_ w hg (below_size z1_))) ((gs_ w hg (below_size z1_))) ((z72_ : gb101 ≠ gb102)) ((z73_ : gb102 ≠ gb101)); clear BK101 HB; obtain ⟨BK101, HB, BK102, GW102, GE102, NB101_102, NB102_101⟩ := n_; clear hb hbox hg))
 have n_ := a3_ (blk_drew BK101.out) (blk_drew BK102.out) (below_drew1 HB.out)
 clear BK101 BK102 HB
 obtain ⟨BK101, BK102, HB⟩ := n_
 refine start_ (n := 18) (S := fun w' => w'.cell? ⟨gb101, 0, none⟩ = some (.int .i64 a0_0) ∧ w'.cell? ⟨gb101, 1, none⟩ = some (.int .i64 a0_1) ∧ w'.cell? ⟨gb101, 2, none⟩ = some (.string a0_2) ∧ w'.cell? ⟨gb102, 0, none⟩ = some (.int .i64 a1_0) ∧ w'.cell? ⟨gb102, 1, none⟩ = some (.int .i64 a1_1) ∧ w'.cell? ⟨gb102, 2, none⟩ = some (.string a1_2)) (ds := []) #[false, false, false, false, false, false, false, false, false, false, false, false, false, false, false, false, false, false] (by kernel_rfl) rfl rfl ⟨(blk_cell BK101.out 0).trans rfl, (blk_cell BK101.out 1).trans rfl, (blk_cell BK101.out 2).trans rfl, (blk_cell BK102.out 0).trans rfl, (blk_cell BK102.out 1).trans rfl, (blk_cell BK102.out 2).trans rfl⟩ (fun hHeld => ?_); refine with_tabW impl_compareValues.tab1 impl_compareValues.bits1 (fun HT_ HW_ => ?_)
 generalize w8.drew = w9 at BK101 BK102 HB hHeld ⊢
 refine pu_ 0 (N := some 5) #[true, false, false, false, false, false, false, false, false, false, false, false, false, false, false, false, false, false] HT_.out (h_ := ?_)
 refine pu_ 2 (N := some 7) #[true, false, true, false, false, false, false, false, false, false, false, false, false, false, false, false, false, false] HT_.out (h_ := ?_)
 refine pu_ 5 (N := some 10) #[true, false, true, false, false, true, false, false, false, false, false, false, false, false, false, false, false, false] HT_.out (h_ := ?_)
 refine pu_ 7 (N := some 12) #[true, false, true, false, false, true, false, true, false, false, false, false, false, false, false, false, false, false] HT_.out (h_ := ?_)
 refine pu_ 10 (N := some 15) #[true, false, true, false, false, true, false, true, false, false, true, false, false, false, false, false, false, false] HT_.out (h_ := ?_)
 refine pu_ 12 (N := some 17) #[true, false, true, false, false, true, false, true, false, false, true, false, true, false, false, false, false, false] HT_.out (h_ := ?_)
 refine tk_ 1 (N := some 6) #[true, true, true, false, false, true, false, true, false, false, true, false, true, false, false, false, false, false] HT_.out HW_.out hHeld (hy := by rintro w' ⟨s0, s1, s2, s3, s4, s5⟩; go_simp; with_reducible rfl) (h_ := ?_)
 refine tk_ 3 (N := some 8) #[true, true, true, true, false, true, false, true, false, false, true, false, true, false, false, false, false, false] HT_.out HW_.out hHeld (hy := by rintro w' ⟨s0, s1, s2, s3, s4, s5⟩; go_simp; with_reducible rfl) (h_ := ?_)
 refine tk_ 6 (N := some 11) #[true, true, true, true, false, true, true, true, false, false, true, false, true, false, false, false, false, false] HT_.out HW_.out hHeld (hy := by rintro w' ⟨s0, s1, s2, s3, s4, s5⟩; go_simp; with_reducible rfl) (h_ := ?_)
 refine tk_ 8 (N := some 13) #[true, true, true, true, false, true, true, true, true, false, true, false, true, false, false, false, false, false] HT_.out HW_.out hHeld (hy := by rintro w' ⟨s0, s1, s2, s3, s4, s5⟩; go_simp; with_reducible rfl) (h_ := ?_)
 refine tk_ 11 (N := some 16) #[true, true, true, true, false, true, true, true, true, false, true, true, true, false, false, false, false, false] HT_.out HW_.out hHeld (hy := by rintro w' ⟨s0, s1, s2, s3, s4, s5⟩; go_simp; with_reducible rfl) (h_ := ?_)
 refine tk_ 13 (N := some 18) #[true, true, true, true, false, true, true, true, true, false, true, true, true, true, false, false, false, false] HT_.out HW_.out hHeld (hy := by rintro w' ⟨s0, s1, s2, s3, s4, s5⟩; go_simp; with_reducible rfl) (h_ := ?_)
 refine one_ (i := 4) (N := some 9) #[true, true, true, true, true, true, true, true, true, false, true, true, true, true, false, false, false, false] rfl rfl (one_of HT_.out (by kernel_rfl)) (by decide) (fun K hK => ?_)
 refine goes_ Try.func66 (by kernel_rfl) rfl #[.int .i64 a0_0, .int .i64 a1_0] (by rfl) rfl rfl z3_ ?_
 with_reducible refine (cmp_Compare_int.calls a0_0 a1_0 t103 _ A3.out).mono ?_
 rintro e w' ⟨rfl, ⟨nd, rfl⟩⟩
 refine ⟨_, rfl, ?_⟩
 refine hK.out _ _ ⟨(blk_cell BK101.out 0).trans rfl, (blk_cell BK101.out 1).trans rfl, (blk_cell BK101.out 2).trans rfl, (blk_cell BK102.out 0).trans rfl, (blk_cell BK102.out 1).trans rfl, (blk_cell BK102.out 2).trans rfl⟩ (fun hHeld => ?_)
 clear hK K
 refine norm_ (a' := ?_) ?_ ?_
 rotate_left
 ·show Act.put _ (some 9) _ = _
  simp only [Act.put, sz1_, sz2_, sz3_, i64_w, i32_w]
  rfl
 refine one_ (i := 9) (N := some 14) #[true, true, true, true, true, true, true, true, true, true, true, true, true, true, false, false, false, false] rfl rfl (one_of HT_.out (by kernel_rfl)) (by decide) (fun K hK => ?_)
 refine goes_ Try.func66 (by kernel_rfl) rfl #[.int .i64 a0_1, .int .i64 a1_1] (by rfl) rfl rfl z3_ ?_
 with_reducible refine (cmp_Compare_int.calls a0_1 a1_1 t104 _ A4.out).mono ?_
 rintro e w' ⟨rfl, ⟨nd, rfl⟩⟩
 refine ⟨_, rfl, ?_⟩
 refine hK.out _ _ ⟨(blk_cell BK101.out 0).trans rfl, (blk_cell BK101.out 1).trans rfl, (blk_cell BK101.out 2).trans rfl, (blk_cell BK102.out 0).trans rfl, (blk_cell BK102.out 1).trans rfl, (blk_cell BK102.out 2).trans rfl⟩ (fun hHeld => ?_)
 clear hK K
 refine norm_ (a' := ?_) ?_ ?_
 rotate_left
 ·show Act.put _ (some 14) _ = _
  simp only [Act.put, sz1_, sz2_, sz3_, i64_w, i32_w]
  rfl
 refine one_ (i := 14) (N := some 19) #[true, true, true, true, true, true, true, true, true, true, true, true, true, true, true, false, false, false] rfl rfl (one_of HT_.out (by kernel_rfl)) (by decide) (fun K hK => ?_)
 refine goes_ Try.func67 (by kernel_rfl) rfl #[.string a0_2, .string a1_2] (by rfl) rfl rfl z3_ ?_
 with_reducible refine (cmp_Compare_string.calls a0_2 a1_2 t105 _ A5.out).mono ?_
 rintro e w' ⟨rfl, ⟨nd, rfl⟩⟩
 refine ⟨_, rfl, ?_⟩
 refine hK.out _ _ ⟨(blk_cell BK101.out 0).trans rfl, (blk_cell BK101.out 1).trans rfl, (blk_cell BK101.out 2).trans rfl, (blk_cell BK102.out 0).trans rfl, (blk_cell BK102.out 1).trans rfl, (blk_cell BK102.out 2).trans rfl⟩ (fun hHeld => ?_)
 clear hK K
 refine norm_ (a' := ?_) ?_ ?_
 rotate_left
 ·show Act.put _ (some 19) _ = _
  simp only [Act.put, sz1_, sz2_, sz3_, i64_w, i32_w]
  rfl
 refine one_ (i := 15) (N := some 20) #[true, true, true, true, true, true, true, true, true, true, true, true, true, true, true, true, false, false] rfl rfl (one_of HT_.out (by kernel_rfl)) (by decide) (fun K hK => ?_)
 refine Kd.R_lit_step (Kd.int .i64) _ 3 ?hg (N := 20) ?hd (xs := ([t103, t104, t105] : List Int)) (inner := [.int .i64 t103, .int .i64 t104, .int .i64 t105]) (ok := fun _ => True) (okp := fun _ => True) ?hr ?hp (fun _ hk => hk) trivial (Below.refl _ _) (Nat.le_refl _) (by simp) ?_; (case hd => rfl); (case hg => rfl); (case hr => first | (go_simp; done) | (go_simp; rfl)); (case hp => exact (Reps.one (show Kd.M (Kd.int .i64) _ _ _ t103 [.int .i64 t103] from rfl) (Reps.one (show Kd.M (Kd.int .i64) _ _ _ t104 [.int .i64 t104] from rfl) (Reps.one (show Kd.M (Kd.int .i64) _ _ _ t105 [.int .i64 t105] from rfl) (Reps.none _ _)))))
 intro v107 w10 ho11 hb hg_ hnew_
 clear hg_ hnew_
 (first | rw [← Ny106.out] at ho11 | (simp only [Int.reduceToNat] at ho11; rw [← Ny106.out] at ho11))
 have n_ := a4_ (Kd.R_lower ho11 (below_size z5_)) (blk_below (g := gb101) (o := .cells #[.int .i64 a0_0, .int .i64 a0_1, .string a0_2] 24 (0, 0)) z2_ hb) (blk_below (g := gb102) (o := .cells #[.int .i64 a1_0, .int .i64 a1_1, .string a1_2] 24 (0, 0)) z13_ hb) (below_step z5_ hb)
 clear BK101 BK102 HB
 obtain ⟨HO108, BK101, BK102, HB⟩ := n_
 clear hb ho11
 obtain ⟨Ao12, co12, eo12⟩ := Kd.R_slice HO108.out
 (first | subst eo12 | (injection eo12 with f1_ f2_ f3_; have f4_ := f1_.symm; have f5_ := f3_.symm; clear f1_ f2_ f3_; subst f4_; subst f5_))
 refine hK.out _ _ ⟨(blk_cell BK101.out 0).trans rfl, (blk_cell BK101.out 1).trans rfl, (blk_cell BK101.out 2).trans rfl, (blk_cell BK102.out 0).trans rfl, (blk_cell BK102.out 1).trans rfl, (blk_cell BK102.out 2).trans rfl⟩ (fun hHeld => ?_)
 clear hK K
 refine norm_ (a' := ?_) ?_ ?_
 rotate_left
 ·show Act.put _ (some 20) _ = _
  simp only [Act.put, sz1_, sz2_, sz3_, i64_w, i32_w]
  rfl
 refine one_ (i := 16) (N := some 21) #[true, true, true, true, true, true, true, true, true, true, true, true, true, true, true, true, true, false] rfl rfl (one_of HT_.out (by kernel_rfl)) (by decide) (fun K hK => ?_)
 refine goes_ Try.func65 (by kernel_rfl) rfl #[.slice Ao12 y106.length co12] (by rfl) rfl rfl z3_ ?_
 with_reducible refine (cmp_Or_int.calls k _ _ y106 t109 _ ?side1 ?side2 A6.out).mono ?_
 (case side1 => exact cz_ ((Kd.R_reads' HO108.out).2.2))
 (case side2 => exact (Kd.R_reads' HO108.out).2.1)
 rintro e w' ⟨rfl, ⟨nd, rfl⟩⟩
 refine ⟨_, rfl, ?_⟩
 refine hK.out _ _ ⟨(blk_cell BK101.out 0).trans rfl, (blk_cell BK101.out 1).trans rfl, (blk_cell BK101.out 2).trans rfl, (blk_cell BK102.out 0).trans rfl, (blk_cell BK102.out 1).trans rfl, (blk_cell BK102.out 2).trans rfl⟩ (fun hHeld => ?_)
 clear hK K
 refine norm_ (a' := ?_) ?_ ?_
 rotate_left
 ·show Act.put _ (some 21) _ = _
  simp only [Act.put, sz1_, sz2_, sz3_, i64_w, i32_w]
  rfl
 refine pu_ 17 (N := some 4) #[true, true, true, true, true, true, true, true, true, true, true, true, true, true, true, true, true, true] HT_.out (h_ := ?_)
 refine done_ (done_of HT_.out (by kernel_rfl)) ?_
 try go_wp2
 go_ret
 exact ⟨z10_, z5_⟩
end

section
/-! ### impl_Value_58: function 58 -/
-- XIMP Derived.Deep.RegionHeld3
theorem impl_Value_58.any (gf : Nat) (lb : Array Value) (c : S24 → S24 → Int) (A0 : Option Addr) (c0 : Nat) (x0 : S24) (l0 : List S24) (w : World) (hr0 : Kd.C k24 w A0 (x0 :: l0).length (x0 :: l0))
  (eg : ∀ args w, (callFunc gf args).run Try.prog w = .ok (.enter gf args) w)
  (hp : ∀ (W : World) (x y : S24), Below w.heap.size w W → Calls Try.prog gf (#[.agg #[.int .i64 x.f0, .int .i64 x.f1, .string x.f2], .agg #[.int .i64 y.f0, .int .i64 y.f1, .string y.f2]] ++ lb) W fun e w' => e = .returned (.int .i64 (c x y)) ∧ Below W.heap.size W w') :
  Calls Try.prog 58 #[.slice A0 (x0 :: l0).length c0, .func (.func gf) #[] lb] w fun e w' => e = .returned (.agg #[.int .i64 (pickO (fun x m => decide (c x m < 0)) x0 l0).f0, .int .i64 (pickO (fun x m => decide (c x m < 0)) x0 l0).f1, .string (pickO (fun x m => decide (c x m < 0)) x0 l0).f2]) ∧ Below w.heap.size w w' := by
 have hbig := C_len hr0
 have hu24 := Try.underlying24
 obtain ⟨ad, rfl, hc0, hc1, hc2⟩ := at_T24 hr0 (0 : Int) (by omega) (by simp)
 have hy : rd_T24 (x0 :: l0) 0 = x0 := rfl
 have e0 : ad.add ((0 : Int).toNat * 3) = ad := by simp [Addr.add]
 rw [hy, e0] at hc0 hc1 hc2
 clear e0
 have own_al : ∀ {a : Addr} {v : Value}, w.cell? a = some v → ∀ o, (w.alloc o).cell? a = some v := fun h o => ((below_alloc (Below.refl _ w) o).cell (World.block_lt_of_cell? w _ h)).trans h
 have hca0 := own_al hc0
 have hca1 := own_al hc1
 have hca2 := own_al hc2
 clear own_al hc0 hc1 hc2
 have hlen1 : ¬ (((x0 :: l0).length : Int) < 1) := by simp only [List.length_cons]; omega
 have hlen0 : (0 : Int) < ((x0 :: l0).length : Int) := by simp
 generalize hn : (x0 :: l0).length = n at *
 have HN := ak_ hn
 have HR := ak_ hr0
 clear hn hr0 hy
 go_enter Try.func58, Try.ntmps58
 go_wp2
 have hl : ((((w.alloc (.cells #[.int .i64 0, .int .i64 0, .string { data := #[] }] 24)).alloc (.cells #[.int .i64 x0.f0, .int .i64 x0.f1, .string x0.f2] 24)))).heap[w.heap.size]? = some (.cells #[.int .i64 0, .int .i64 0, .string { data := #[] }] 24 (0, 0)) := by
  rw [(below_alloc (Below.refl _ (w.alloc (.cells #[.int .i64 0, .int .i64 0, .string { data := #[] }] 24))) _).block _ (by simp)]
  exact heap_alloc_new w _
 have hm : ((((w.alloc (.cells #[.int .i64 0, .int .i64 0, .string { data := #[] }] 24)).alloc (.cells #[.int .i64 x0.f0, .int .i64 x0.f1, .string x0.f2] 24)))).heap[w.heap.size + 1]? = some (.cells #[.int .i64 x0.f0, .int .i64 x0.f1, .string x0.f2] 24 (0, 0)) := by
  have := heap_alloc_new (w.alloc (.cells #[.int .i64 0, .int .i64 0, .string { data := #[] }] 24)) (.cells #[.int .i64 x0.f0, .int .i64 x0.f1, .string x0.f2] 24)
  simpa using this
 have hb : Below w.heap.size w ((w.alloc (.cells #[.int .i64 0, .int .i64 0, .string { data := #[] }] 24)).alloc (.cells #[.int .i64 x0.f0, .int .i64 x0.f1, .string x0.f2] 24)) := ((Below.refl _ _).alloc (Nat.le_refl _) _).alloc (by simp) _
 have HL := ak_ hl
 have HM := ak_ hm
 have HB := ak_ hb
 clear hl hm hb hca0 hca1 hca2
 generalize ((w.alloc (.cells #[.int .i64 0, .int .i64 0, .string { data := #[] }] 24)).alloc (.cells #[.int .i64 x0.f0, .int .i64 x0.f1, .string x0.f2] 24)) = W0 at *
 go_loopg [6] n (fun gg s6 wr => ∃ (i : Int) (m : S24), 1 ≤ i ∧ i ≤ n ∧ n - i.toNat ≤ gg ∧ s6 = .int .i64 i ∧ Aside0 (Below w.heap.size w wr) ∧ Aside0 (wr.heap[w.heap.size]? = some (.cells #[.int .i64 0, .int .i64 0, .string { data := #[] }] 24 (0, 0))) ∧
   Aside0 (wr.heap[w.heap.size + 1]? = some (.cells #[.int .i64 m.f0, .int .i64 m.f1, .string m.f2] 24 (0, 0))) ∧ Aside0 (pickO (fun x m => decide (c x m < 0)) x0 l0 = pickO (fun x m => decide (c x m < 0)) m (l0.drop (i.toNat - 1))))
 case atStart => exact ⟨1, x0, by omega, by omega, by omega, rfl, HB, HL, HM, ⟨by rw [show (1 : Int).toNat - 1 = 0 from rfl, List.drop_zero]⟩⟩
 case round =>
  obtain ⟨i, m, hi1, hi2, hg, rfl, BW, BL, BM, HP⟩ := hrel
  have hn2 := HN.out
  rw [List.length_cons] at hn2
  by_cases hltz : i < (n : Int)
  rotate_left
  ·have HQ : pickO (fun x m => decide (c x m < 0)) x0 l0 = m := by
    rw [HP.out, List.drop_of_length_le (by omega)]; rfl
   have HQ2 := ak_ HQ
   have hm0 : wr.cell? ⟨w.heap.size + 1, 0, none⟩ = some (.int .i64 m.f0) := blk_cell BM.out 0
   have hm1 : wr.cell? ⟨w.heap.size + 1, 1, none⟩ = some (.int .i64 m.f1) := blk_cell BM.out 1
   have hm2 : wr.cell? ⟨w.heap.size + 1, 2, none⟩ = some (.string m.f2) := blk_cell BM.out 2
   have hl0 : wr.cell? ⟨w.heap.size, 0, none⟩ = some (.int .i64 0) := blk_cell BL.out 0
   have hl1 : wr.cell? ⟨w.heap.size, 1, none⟩ = some (.int .i64 0) := blk_cell BL.out 1
   have hl2 : wr.cell? ⟨w.heap.size, 2, none⟩ = some (.string { data := #[] }) := blk_cell BL.out 2
   have hf0 := blk_frozen BL.out 0
   have hf1 := blk_frozen BL.out 1
   have hf2 := blk_frozen BL.out 2
   clear hp HP HQ hn2 hg hi1
   have hltz' : (decide (i < (n : Int))) = false := decide_eq_false hltz
   go_wp2
   refine bodyPost_ret (results_cell_row rfl _ _ w.heap.size 24 #[.int .i64 m.f0, .int .i64 m.f1, .string m.f2] (0, 0) _ rfl (blk_put (blk_put (blk_put BL.out 0 _ rfl) 1 _ rfl) 2 _ rfl) Try.underlying24 rfl (by kernel_rfl)) rfl ?_
   exact ⟨by rw [HQ2.out], below_set (below_set (below_set BW.out (by omega)) (by omega)) (by omega)⟩

  have h0z : (0 : Int) ≤ i := by omega
  have hlt : i.toNat - 1 < l0.length := by omega
  obtain ⟨ad', e', hx0, hx1, hx2⟩ := at_T24 HR.out i h0z hltz
  obtain rfl := Option.some.inj e'
  have hy : rd_T24 (x0 :: l0) i = l0[i.toNat - 1] := by
   obtain ⟨k, hk⟩ : ∃ k, i.toNat = k + 1 := ⟨i.toNat - 1, by omega⟩
   simp [rd_T24, hk, show k < l0.length by omega]
  rw [hy] at hx0 hx1 hx2
  replace hx0 := (BW.out.cell (World.block_lt_of_cell? w _ hx0)).trans hx0
  replace hx1 := (BW.out.cell (World.block_lt_of_cell? w _ hx1)).trans hx1
  replace hx2 := (BW.out.cell (World.block_lt_of_cell? w _ hx2)).trans hx2
  have hm0 : wr.cell? ⟨w.heap.size + 1, 0, none⟩ = some (.int .i64 m.f0) := blk_cell BM.out 0
  have hm1 : wr.cell? ⟨w.heap.size + 1, 1, none⟩ = some (.int .i64 m.f1) := blk_cell BM.out 1
  have hm2 : wr.cell? ⟨w.heap.size + 1, 2, none⟩ = some (.string m.f2) := blk_cell BM.out 2
  obtain ⟨x, HX⟩ : ∃ x, Aside0 (l0[i.toNat - 1] = x) := ⟨_, ⟨rfl⟩⟩
  rw [HX.out] at hx0 hx1 hx2
  have hcall := fun (W : World) (h : Below w.heap.size w W) => hp W x m h
  have HN2 := ak_ hn2
  have HLT := ak_ hlt
  have HPn := ak_ (show pickO (fun x m => decide (c x m < 0)) x0 l0 = pickO (fun x m => decide (c x m < 0)) (if decide (c x m < 0) then x else m) (l0.drop ((i + 1).toNat - 1)) from by
   rw [HP.out, List.drop_eq_getElem_cons hlt, HX.out, show (i + 1).toNat - 1 = i.toNat - 1 + 1 by omega]; rfl)
  clear hp hy hn2 HX HP
  clear hlt
  go_wp2_with fail
  go_region_held3 (fun W => W.cell? (ad.add (i.toNat * 3)) = some (.int .i64 x.f0) ∧ W.cell? ⟨(ad.add (i.toNat * 3)).block, (ad.add (i.toNat * 3)).off + 1, none⟩ = some (.int .i64 x.f1) ∧
    W.cell? ⟨(ad.add (i.toNat * 3)).block, (ad.add (i.toNat * 3)).off + 2, none⟩ = some (.string x.f2) ∧ W.cell? ⟨w.heap.size + 1, 0, none⟩ = some (.int .i64 m.f0) ∧ W.cell? ⟨w.heap.size + 1, 1, none⟩ = some (.int .i64 m.f1) ∧ W.cell? ⟨w.heap.size + 1, 2, none⟩ = some (.string m.f2))
   (first | go_keep | (go_split_ands; refine ⟨?_, ?_, ?_, ?_, ?_, ?_⟩ <;> exact pw_cell_below hb' (by assumption)))
   (first | (go_at_fn gf; refine (hcall _ (by repeat (first | exact BW.out | apply pw_below_drewN | apply below_drew1))).mono ?_; rintro e w' ⟨rfl, hb'⟩))
  have hb2 : Below wr.heap.size wr w' := below_step (below_drew1 (Below.refl _ wr)) hb'
  rename_i hHeld
  clear hHeld
  have BW2 := ak_ (below_step BW.out hb2)
  have BL2 := ak_ (blk_below BL.out hb2)
  have BM2 := ak_ (blk_below BM.out hb2)
  replace hx0 : w'.cell? _ = _ := pw_cell_below hb2 hx0
  replace hx1 : w'.cell? _ = _ := pw_cell_below hb2 hx1
  replace hx2 : w'.cell? _ = _ := pw_cell_below hb2 hx2
  replace hm0 : w'.cell? _ = _ := pw_cell_below hb2 hm0
  replace hm1 : w'.cell? _ = _ := pw_cell_below hb2 hm1
  replace hm2 : w'.cell? _ = _ := pw_cell_below hb2 hm2
  have hf0 := blk_frozen BM2.out 0
  have hf1 := blk_frozen BM2.out 1
  have hf2 := blk_frozen BM2.out 2
  clear hb' hb2 BW BL BM hcall
  by_cases hcx : c x m < 0
  rotate_left
  ·have HQ := ak_ (show pickO (fun x m => decide (c x m < 0)) x0 l0 = pickO (fun x m => decide (c x m < 0)) m (l0.drop ((i + 1).toNat - 1)) from by rw [HPn.out, decide_eq_false hcx, if_neg (by decide)])
   clear HPn
   go_wp2
   go_roundg (n - (i + 1).toNat)
   case measure => omega
   case rel => exact ⟨i + 1, m, by omega, by omega, by omega, by go_num, BW2, BL2, BM2, HQ⟩
  have HQ := ak_ (show pickO (fun x m => decide (c x m < 0)) x0 l0 = pickO (fun x m => decide (c x m < 0)) x (l0.drop ((i + 1).toNat - 1)) from by rw [HPn.out, decide_eq_true hcx, if_pos rfl])
  clear HPn
  go_wp2
  go_roundg (n - (i + 1).toNat)
  case measure => omega
  case rel =>
   refine ⟨i + 1, x, by omega, by omega, by omega, by go_num, ⟨?_⟩, ⟨?_⟩, ⟨?_⟩, HQ⟩
   ·exact below_set (below_set (below_set BW2.out (by omega)) (by omega)) (by omega)
   ·exact blk_far (blk_far (blk_far BL2.out (by simp) _) (by simp) _) (by simp) _
   ·exact blk_put (blk_put (blk_put BM2.out 0 _ rfl) 1 _ rfl) 2 _ rfl
end

section
attribute [local go_sem] str_gtr str_leq str_geq
/-! ### impl_minValue: function 900001 -/
theorem impl_minValue.all (x y : S24) : impl_compareValues.f 4 x.f0 x.f1 x.f2 y.f0 y.f1 y.f2 = some (cmpVal (x.f0, x.f1, x.f2) (y.f0, y.f1, y.f2)) := by
 unfold impl_compareValues.f cmp_Compare_int.f cmp_Compare_string.f cmp_isNaN_int.f cmp_isNaN_string.f
 have e1 : ∀ a : Int, (a != a) = false := fun a => by simp
 have e2 : ∀ a : ByteArray, (a.toList != a.toList) = false := fun a => by simp
 simp only [e1, e2, Option.bind_some, Bool.false_eq_true, if_false]
 have h1 : ∀ a b : Int, (if a < b then some (-1 : Int) else if a > b then some 1 else some 0) = some (cmpInt a b) := fun a b => by unfold cmpInt; split <;> first | rfl | (split <;> rfl)
 have h2 : ∀ a b : ByteArray, (if (Op.bytesLess a.toList b.toList) = true then some (-1 : Int) else if (Op.bytesLess b.toList a.toList) = true then some 1 else some 0) = some (cmpStr a b) := fun a b => by unfold cmpStr; split <;> first | rfl | (split <;> rfl)
 rw [h1, h1, h2]
 try simp only [Option.bind_some]
 unfold cmpVal
 generalize cmpInt x.f0 y.f0 = a
 generalize cmpInt x.f1 y.f1 = b
 generalize cmpStr x.f2 y.f2 = c
 have h3 : (([a, b, c] : List Int).length : Int) = 3 := rfl
 have r0 : rd [a, b, c] 0 = a := rfl
 have r1 : rd [a, b, c] 1 = b := rfl
 have r2 : rd [a, b, c] 2 = c := rfl
 have w1 : wrap64 (0 + 1) = 1 := by unfold wrap64; omega
 have w2 : wrap64 (1 + 1) = 2 := by unfold wrap64; omega
 have w3 : wrap64 (2 + 1) = 3 := by unfold wrap64; omega
 unfold cmp_Or_int.f
 rw [h3, cmp_Or_int.l0, if_pos (by decide), if_pos (by decide), h3, if_pos (by decide), r0, w1]
 by_cases ha : a = 0
 rotate_left
 ·rw [if_neg ha, if_pos ha]; rfl
 rw [if_pos ha, if_neg (by simpa using ha), cmp_Or_int.l0, if_pos (by decide), if_pos (by decide), h3, if_pos (by decide), r1, w2]
 by_cases hb : b = 0
 rotate_left
 ·rw [if_neg hb, if_pos hb]; rfl
 rw [if_pos hb, if_neg (by simpa using hb), cmp_Or_int.l0, if_pos (by decide), if_pos (by decide), h3, if_pos (by decide), r2, w3]
 by_cases hc : c = 0
 ·rw [if_pos hc, cmp_Or_int.l0, if_neg (by decide), hc]; rfl
 ·rw [if_neg hc]; rfl
def impl_minValue.f : List S24 → Option (Int × Int × ByteArray)
 | [] => none
 | x :: xs => some ((pickO (fun x m => decide (cmpVal (x.f0, x.f1, x.f2) (m.f0, m.f1, m.f2) < 0)) x xs).f0, (pickO (fun x m => decide (cmpVal (x.f0, x.f1, x.f2) (m.f0, m.f1, m.f2) < 0)) x xs).f1, (pickO (fun x m => decide (cmpVal (x.f0, x.f1, x.f2) (m.f0, m.f1, m.f2) < 0)) x xs).f2)
theorem impl_minValue.calls (A0 : Option Addr) (c0 : Nat) (l0 : List S24) (r1 : Int) (r2 : Int) (r3 : ByteArray) (w : World) (hr0 : Kd.C k24 w A0 l0.length l0) (hc0 : l0.length ≤ c0) (h : impl_minValue.f l0 = some (r1, r2, r3)) :
  Calls Try.prog 58 #[.slice A0 l0.length c0, .func (.func 40) #[] #[]] w fun e w' => e = .returned (.agg #[.int .i64 r1, .int .i64 r2, .string r3]) ∧ Below w.heap.size w w' := by
 cases l0 with
 | nil => cases h
 | cons x xs =>
  simp only [impl_minValue.f, Option.some.injEq, Prod.mk.injEq] at h
  obtain ⟨rfl, rfl, rfl⟩ := h
  refine impl_Value_58.any 40 #[] (fun x y => cmpVal (x.f0, x.f1, x.f2) (y.f0, y.f1, y.f2)) A0 c0 x xs w hr0 (fun _ _ => by kernel_rfl) ?_
  intro W x y hb
  simp only [Array.append_empty]
  exact impl_compareValues.calls 4 _ _ _ _ _ _ _ W (impl_minValue.all x y)
end

section
/-! ### impl_Value_59: function 59 -/
-- XIMP Derived.Deep.RegionHeld3
theorem impl_Value_59.any (gf : Nat) (lb : Array Value) (c : S24 → S24 → Int) (A0 : Option Addr) (c0 : Nat) (x0 : S24) (l0 : List S24) (w : World) (hr0 : Kd.C k24 w A0 (x0 :: l0).length (x0 :: l0))
  (eg : ∀ args w, (callFunc gf args).run Try.prog w = .ok (.enter gf args) w)
  (hp : ∀ (W : World) (x y : S24), Below w.heap.size w W → Calls Try.prog gf (#[.agg #[.int .i64 x.f0, .int .i64 x.f1, .string x.f2], .agg #[.int .i64 y.f0, .int .i64 y.f1, .string y.f2]] ++ lb) W fun e w' => e = .returned (.int .i64 (c x y)) ∧ Below W.heap.size W w') :
  Calls Try.prog 59 #[.slice A0 (x0 :: l0).length c0, .func (.func gf) #[] lb] w fun e w' => e = .returned (.agg #[.int .i64 (pickO (fun x m => decide (c x m > 0)) x0 l0).f0, .int .i64 (pickO (fun x m => decide (c x m > 0)) x0 l0).f1, .string (pickO (fun x m => decide (c x m > 0)) x0 l0).f2]) ∧ Below w.heap.size w w' := by
 have hbig := C_len hr0
 have hu24 := Try.underlying24
 obtain ⟨ad, rfl, hc0, hc1, hc2⟩ := at_T24 hr0 (0 : Int) (by omega) (by simp)
 have hy : rd_T24 (x0 :: l0) 0 = x0 := rfl
 have e0 : ad.add ((0 : Int).toNat * 3) = ad := by simp [Addr.add]
 rw [hy, e0] at hc0 hc1 hc2
 clear e0
 have own_al : ∀ {a : Addr} {v : Value}, w.cell? a = some v → ∀ o, (w.alloc o).cell? a = some v := fun h o => ((below_alloc (Below.refl _ w) o).cell (World.block_lt_of_cell? w _ h)).trans h
 have hca0 := own_al hc0
 have hca1 := own_al hc1
 have hca2 := own_al hc2
 clear own_al hc0 hc1 hc2
 have hlen1 : ¬ (((x0 :: l0).length : Int) < 1) := by simp only [List.length_cons]; omega
 have hlen0 : (0 : Int) < ((x0 :: l0).length : Int) := by simp
 generalize hn : (x0 :: l0).length = n at *
 have HN := ak_ hn
 have HR := ak_ hr0
 clear hn hr0 hy
 go_enter Try.func59, Try.ntmps59
 go_wp2
 have hl : ((((w.alloc (.cells #[.int .i64 0, .int .i64 0, .string { data := #[] }] 24)).alloc (.cells #[.int .i64 x0.f0, .int .i64 x0.f1, .string x0.f2] 24)))).heap[w.heap.size]? = some (.cells #[.int .i64 0, .int .i64 0, .string { data := #[] }] 24 (0, 0)) := by
  rw [(below_alloc (Below.refl _ (w.alloc (.cells #[.int .i64 0, .int .i64 0, .string { data := #[] }] 24))) _).block _ (by simp)]
  exact heap_alloc_new w _
 have hm : ((((w.alloc (.cells #[.int .i64 0, .int .i64 0, .string { data := #[] }] 24)).alloc (.cells #[.int .i64 x0.f0, .int .i64 x0.f1, .string x0.f2] 24)))).heap[w.heap.size + 1]? = some (.cells #[.int .i64 x0.f0, .int .i64 x0.f1, .string x0.f2] 24 (0, 0)) := by
  have := heap_alloc_new (w.alloc (.cells #[.int .i64 0, .int .i64 0, .string { data := #[] }] 24)) (.cells #[.int .i64 x0.f0, .int .i64 x0.f1, .string x0.f2] 24)
  simpa using this
 have hb : Below w.heap.size w ((w.alloc (.cells #[.int .i64 0, .int .i64 0, .string { data := #[] }] 24)).alloc (.cells #[.int .i64 x0.f0, .int .i64 x0.f1, .string x0.f2] 24)) := ((Below.refl _ _).alloc (Nat.le_refl _) _).alloc (by simp) _
 have HL := ak_ hl
 have HM := ak_ hm
 have HB := ak_ hb
 clear hl hm hb hca0 hca1 hca2
 generalize ((w.alloc (.cells #[.int .i64 0, .int .i64 0, .string { data := #[] }] 24)).alloc (.cells #[.int .i64 x0.f0, .int .i64 x0.f1, .string x0.f2] 24)) = W0 at *
 go_loopg [6] n (fun gg s6 wr => ∃ (i : Int) (m : S24), 1 ≤ i ∧ i ≤ n ∧ n - i.toNat ≤ gg ∧ s6 = .int .i64 i ∧ Aside0 (Below w.heap.size w wr) ∧ Aside0 (wr.heap[w.heap.size]? = some (.cells #[.int .i64 0, .int .i64 0, .string { data := #[] }] 24 (0, 0))) ∧
   Aside0 (wr.heap[w.heap.size + 1]? = some (.cells #[.int .i64 m.f0, .int .i64 m.f1, .string m.f2] 24 (0, 0))) ∧ Aside0 (pickO (fun x m => decide (c x m > 0)) x0 l0 = pickO (fun x m => decide (c x m > 0)) m (l0.drop (i.toNat - 1))))
 case atStart => exact ⟨1, x0, by omega, by omega, by omega, rfl, HB, HL, HM, ⟨by rw [show (1 : Int).toNat - 1 = 0 from rfl, List.drop_zero]⟩⟩
 case round =>
  obtain ⟨i, m, hi1, hi2, hg, rfl, BW, BL, BM, HP⟩ := hrel
  have hn2 := HN.out
  rw [List.length_cons] at hn2
  by_cases hltz : i < (n : Int)
  rotate_left
  ·have HQ : pickO (fun x m => decide (c x m > 0)) x0 l0 = m := by
    rw [HP.out, List.drop_of_length_le (by omega)]; rfl
   have HQ2 := ak_ HQ
   have hm0 : wr.cell? ⟨w.heap.size + 1, 0, none⟩ = some (.int .i64 m.f0) := blk_cell BM.out 0
   have hm1 : wr.cell? ⟨w.heap.size + 1, 1, none⟩ = some (.int .i64 m.f1) := blk_cell BM.out 1
   have hm2 : wr.cell? ⟨w.heap.size + 1, 2, none⟩ = some (.string m.f2) := blk_cell BM.out 2
   have hl0 : wr.cell? ⟨w.heap.size, 0, none⟩ = some (.int .i64 0) := blk_cell BL.out 0
   have hl1 : wr.cell? ⟨w.heap.size, 1, none⟩ = some (.int .i64 0) := blk_cell BL.out 1
   have hl2 : wr.cell? ⟨w.heap.size, 2, none⟩ = some (.string { data := #[] }) := blk_cell BL.out 2
   have hf0 := blk_frozen BL.out 0
   have hf1 := blk_frozen BL.out 1
   have hf2 := blk_frozen BL.out 2
   clear hp HP HQ hn2 hg hi1
   have hltz' : (decide (i < (n : Int))) = false := decide_eq_false hltz
   go_wp2
   refine bodyPost_ret (results_cell_row rfl _ _ w.heap.size 24 #[.int .i64 m.f0, .int .i64 m.f1, .string m.f2] (0, 0) _ rfl (blk_put (blk_put (blk_put BL.out 0 _ rfl) 1 _ rfl) 2 _ rfl) Try.underlying24 rfl (by kernel_rfl)) rfl ?_
   exact ⟨by rw [HQ2.out], below_set (below_set (below_set BW.out (by omega)) (by omega)) (by omega)⟩

  have h0z : (0 : Int) ≤ i := by omega
  have hlt : i.toNat - 1 < l0.length := by omega
  obtain ⟨ad', e', hx0, hx1, hx2⟩ := at_T24 HR.out i h0z hltz
  obtain rfl := Option.some.inj e'
  have hy : rd_T24 (x0 :: l0) i = l0[i.toNat - 1] := by
   obtain ⟨k, hk⟩ : ∃ k, i.toNat = k + 1 := ⟨i.toNat - 1, by omega⟩
   simp [rd_T24, hk, show k < l0.length by omega]
  rw [hy] at hx0 hx1 hx2
  replace hx0 := (BW.out.cell (World.block_lt_of_cell? w _ hx0)).trans hx0
  replace hx1 := (BW.out.cell (World.block_lt_of_cell? w _ hx1)).trans hx1
  replace hx2 := (BW.out.cell (World.block_lt_of_cell? w _ hx2)).trans hx2
  have hm0 : wr.cell? ⟨w.heap.size + 1, 0, none⟩ = some (.int .i64 m.f0) := blk_cell BM.out 0
  have hm1 : wr.cell? ⟨w.heap.size + 1, 1, none⟩ = some (.int .i64 m.f1) := blk_cell BM.out 1
  have hm2 : wr.cell? ⟨w.heap.size + 1, 2, none⟩ = some (.string m.f2) := blk_cell BM.out 2
  obtain ⟨x, HX⟩ : ∃ x, Aside0 (l0[i.toNat - 1] = x) := ⟨_, ⟨rfl⟩⟩
  rw [HX.out] at hx0 hx1 hx2
  have hcall := fun (W : World) (h : Below w.heap.size w W) => hp W x m h
  have HN2 := ak_ hn2
  have HLT := ak_ hlt
  have HPn := ak_ (show pickO (fun x m => decide (c x m > 0)) x0 l0 = pickO (fun x m => decide (c x m > 0)) (if decide (c x m > 0) then x else m) (l0.drop ((i + 1).toNat - 1)) from by
   rw [HP.out, List.drop_eq_getElem_cons hlt, HX.out, show (i + 1).toNat - 1 = i.toNat - 1 + 1 by omega]; rfl)
  clear hp hy hn2 HX HP
  clear hlt
  go_wp2_with fail
  go_region_held3 (fun W => W.cell? (ad.add (i.toNat * 3)) = some (.int .i64 x.f0) ∧ W.cell? ⟨(ad.add (i.toNat * 3)).block, (ad.add (i.toNat * 3)).off + 1, none⟩ = some (.int .i64 x.f1) ∧
    W.cell? ⟨(ad.add (i.toNat * 3)).block, (ad.add (i.toNat * 3)).off + 2, none⟩ = some (.string x.f2) ∧ W.cell? ⟨w.heap.size + 1, 0, none⟩ = some (.int .i64 m.f0) ∧ W.cell? ⟨w.heap.size + 1, 1, none⟩ = some (.int .i64 m.f1) ∧ W.cell? ⟨w.heap.size + 1, 2, none⟩ = some (.string m.f2))
   (first | go_keep | (go_split_ands; refine ⟨?_, ?_, ?_, ?_, ?_, ?_⟩ <;> exact pw_cell_below hb' (by assumption)))
   (first | (go_at_fn gf; refine (hcall _ (by repeat (first | exact BW.out | apply pw_below_drewN | apply below_drew1))).mono ?_; rintro e w' ⟨rfl, hb'⟩))
  have hb2 : Below wr.heap.size wr w' := below_step (below_drew1 (Below.refl _ wr)) hb'
  rename_i hHeld
  clear hHeld
  have BW2 := ak_ (below_step BW.out hb2)
  have BL2 := ak_ (blk_below BL.out hb2)
  have BM2 := ak_ (blk_below BM.out hb2)
  replace hx0 : w'.cell? _ = _ := pw_cell_below hb2 hx0
  replace hx1 : w'.cell? _ = _ := pw_cell_below hb2 hx1
  replace hx2 : w'.cell? _ = _ := pw_cell_below hb2 hx2
  replace hm0 : w'.cell? _ = _ := pw_cell_below hb2 hm0
  replace hm1 : w'.cell? _ = _ := pw_cell_below hb2 hm1
  replace hm2 : w'.cell? _ = _ := pw_cell_below hb2 hm2
  have hf0 := blk_frozen BM2.out 0
  have hf1 := blk_frozen BM2.out 1
  have hf2 := blk_frozen BM2.out 2
  clear hb' hb2 BW BL BM hcall
  by_cases hcx : c x m > 0
  rotate_left
  ·have HQ := ak_ (show pickO (fun x m => decide (c x m > 0)) x0 l0 = pickO (fun x m => decide (c x m > 0)) m (l0.drop ((i + 1).toNat - 1)) from by rw [HPn.out, decide_eq_false hcx, if_neg (by decide)])
   clear HPn
   go_wp2
   go_roundg (n - (i + 1).toNat)
   case measure => omega
   case rel => exact ⟨i + 1, m, by omega, by omega, by omega, by go_num, BW2, BL2, BM2, HQ⟩
  have HQ := ak_ (show pickO (fun x m => decide (c x m > 0)) x0 l0 = pickO (fun x m => decide (c x m > 0)) x (l0.drop ((i + 1).toNat - 1)) from by rw [HPn.out, decide_eq_true hcx, if_pos rfl])
  clear HPn
  go_wp2
  go_roundg (n - (i + 1).toNat)
  case measure => omega
  case rel =>
   refine ⟨i + 1, x, by omega, by omega, by omega, by go_num, ⟨?_⟩, ⟨?_⟩, ⟨?_⟩, HQ⟩
   ·exact below_set (below_set (below_set BW2.out (by omega)) (by omega)) (by omega)
   ·exact blk_far (blk_far (blk_far BL2.out (by simp) _) (by simp) _) (by simp) _
   ·exact blk_put (blk_put (blk_put BM2.out 0 _ rfl) 1 _ rfl) 2 _ rfl
end

end Go.Proofs.Ytfbclbbhomhfaaa.X
end
