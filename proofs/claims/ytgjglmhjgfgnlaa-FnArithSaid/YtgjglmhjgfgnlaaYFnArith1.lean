/- Contracts of functions, and what is told of them. -/
import Derived.Test.YtgjglmhjgfgnlaaYFnArith0
import Derived.OpenShut
import Derived.Laws.Strings
import Derived.Laws.Bits64b
section
-- WRITTEN BY xprint.py, a program of this session, over the translation of the seat. Lean checks it.
namespace Go.Proofs.Ytgjglmhjgfgnlaa.X
open Go.RowKit Go.Proofs.YtgjglmhjgfgnlaaW.PrintWords Go.Proofs.YtgjglmhjgfgnlaaW.PrintLast Go.Proofs.YtgjglmhjgfgnlaaW.PrintMore
attribute [local go_sem] max2_int min2_int max_two min_two max_three min_three max_four min_four   -- for this text's walks alone
set_option linter.unusedVariables false
set_option linter.unusedSimpArgs false

/-! ### laws_FnArith: function 6 -/
mutual
def laws_FnArith.j0 : Nat → List Int → List Int → Bool → Option (Bool)
  | 0, _, _, _ => none
  | k + 1, x0, x1, x25 => if x25 = true then (some true) else ((spec_ValueOf.f k x0).bind fun bt193 => ((spec_ValueOf.f k x1).bind fun bt196 => ((impl_AddInts.f bt193.2.1 bt196.2.1).bind fun bt199 => ((spec_AddInts.f bt193.2.1 bt196.2.1).bind fun bt201 => ((impl_MulInts.f bt193.2.1 bt196.2.1).bind fun bt203 => ((spec_MulInts.f bt193.2.1 bt196.2.1).bind fun bt205 => ((impl_DivInts.f bt193.2.1 bt196.2.1).bind fun bt207 => (if bt199.1 = bt201.1 then (if bt199.2 = bt201.2 then (if bt203.1 = bt205.1 then (if bt203.2 = bt205.2 then (if bt199.2 = 0 then (if (wrap64 (bt199.1 - bt196.2.1)) = bt193.2.1 then (if bt203.2 = 0 then (if bt196.2.1 = 0 then (laws_FnArith.j1 k bt193.2.1 bt196.2.1 bt207.1 bt207.2.1 bt207.2.2 false) else (laws_FnArith.j1 k bt193.2.1 bt196.2.1 bt207.1 bt207.2.1 bt207.2.2 ((wrap64 (Int.tdiv bt203.1 bt196.2.1)) != bt193.2.1))) else (laws_FnArith.j1 k bt193.2.1 bt196.2.1 bt207.1 bt207.2.1 bt207.2.2 false)) else (laws_FnArith.j1 k bt193.2.1 bt196.2.1 bt207.1 bt207.2.1 bt207.2.2 true)) else (if bt203.2 = 0 then (if bt196.2.1 = 0 then (laws_FnArith.j1 k bt193.2.1 bt196.2.1 bt207.1 bt207.2.1 bt207.2.2 false) else (laws_FnArith.j1 k bt193.2.1 bt196.2.1 bt207.1 bt207.2.1 bt207.2.2 ((wrap64 (Int.tdiv bt203.1 bt196.2.1)) != bt193.2.1))) else (laws_FnArith.j1 k bt193.2.1 bt196.2.1 bt207.1 bt207.2.1 bt207.2.2 false))) else (laws_FnArith.j1 k bt193.2.1 bt196.2.1 bt207.1 bt207.2.1 bt207.2.2 true)) else (laws_FnArith.j1 k bt193.2.1 bt196.2.1 bt207.1 bt207.2.1 bt207.2.2 true)) else (laws_FnArith.j1 k bt193.2.1 bt196.2.1 bt207.1 bt207.2.1 bt207.2.2 true)) else (laws_FnArith.j1 k bt193.2.1 bt196.2.1 bt207.1 bt207.2.1 bt207.2.2 true)))))))))
def laws_FnArith.j1 : Nat → Int → Int → Int → Int → Int → Bool → Option (Bool)
  | 0, _, _, _, _, _, _ => none
  | k + 1, x5, x6, x15, x16, x17, x106 => if x106 = true then (some false) else (if x6 = 0 then (some (x17 == 13)) else (if x17 = 0 then (if (wrap64 ((wrap64 (x15 * x6)) + x16)) = x5 then (if x16 = 0 then (if (mx x16 (wrap64 (-x16))) < (mx x6 (wrap64 (-x6))) then (some true) else (if x6 = (-9223372036854775808) then (some ((wrap64 ((wrap64 (x15 * x6)) + x16)) == x5)) else (some false))) else (if ((decide (x16 < 0)) == (decide (x5 < 0))) = true then (if (mx x16 (wrap64 (-x16))) < (mx x6 (wrap64 (-x6))) then (some true) else (if x6 = (-9223372036854775808) then (some ((wrap64 ((wrap64 (x15 * x6)) + x16)) == x5)) else (some false))) else (if x6 = (-9223372036854775808) then (some ((wrap64 ((wrap64 (x15 * x6)) + x16)) == x5)) else (some false)))) else (if x6 = (-9223372036854775808) then (some ((wrap64 ((wrap64 (x15 * x6)) + x16)) == x5)) else (some false))) else (if x17 = 4 then (some (x6 == (-1))) else (some false))))
end
def laws_FnArith.f (k : Nat) (l0 : List Int) (l1 : List Int) : Option (Bool) := if (l0.length : Int) > 1048576 then (laws_FnArith.j0 k l0 l1 true) else (laws_FnArith.j0 k l0 l1 (decide ((l1.length : Int) > 1048576)))
theorem laws_FnArith.mono_l : ∀ k, (∀ y0 y1 y2, LeO (laws_FnArith.j0 k y0 y1 y2) (laws_FnArith.j0 (k + 1) y0 y1 y2)) ∧ (∀ y0 y1 y2 y3 y4 y5, LeO (laws_FnArith.j1 k y0 y1 y2 y3 y4 y5) (laws_FnArith.j1 (k + 1) y0 y1 y2 y3 y4 y5))
  | 0 => ⟨fun _ _ _ r h => by simp [laws_FnArith.j0] at h, fun _ _ _ _ _ _ r h => by simp [laws_FnArith.j1] at h⟩
  | k + 1 => by
    obtain ⟨ih0, ih1⟩ := laws_FnArith.mono_l k
    refine ⟨?_, ?_⟩
    · intro y0 y1 y2
      unfold laws_FnArith.j0
      repeat' first
      | (with_reducible exact ih0 _ _ _)
      | (with_reducible exact ih1 _ _ _ _ _ _)
      | (with_reducible exact spec_ValueOf.mono _ _)
      | (with_reducible exact LeO.refl _)
      | (with_reducible exact LeO.none _)
      | (with_reducible refine LeO.ite ?_ ?_)
      | (with_reducible refine LeO.bind ?_ (fun _ => ?_))
      | exact ih0 _ _ _
      | exact ih1 _ _ _ _ _ _
      | exact spec_ValueOf.mono _ _
      | exact LeO.none _
      | refine LeO.ite ?_ ?_
      | refine LeO.bind ?_ (fun _ => ?_)
    · intro y0 y1 y2 y3 y4 y5
      unfold laws_FnArith.j1
      repeat' first
      | (with_reducible exact ih0 _ _ _)
      | (with_reducible exact ih1 _ _ _ _ _ _)
      | (with_reducible exact spec_ValueOf.mono _ _)
      | (with_reducible exact LeO.refl _)
      | (with_reducible exact LeO.none _)
      | (with_reducible refine LeO.ite ?_ ?_)
      | (with_reducible refine LeO.bind ?_ (fun _ => ?_))
      | exact ih0 _ _ _
      | exact ih1 _ _ _ _ _ _
      | exact spec_ValueOf.mono _ _
      | exact LeO.none _
      | refine LeO.ite ?_ ?_
      | refine LeO.bind ?_ (fun _ => ?_)
theorem laws_FnArith.mono : ∀ a0 a1 k, LeO (laws_FnArith.f k a0 a1) (laws_FnArith.f (k + 1) a0 a1) := by
  intro a0 a1 k
  obtain ⟨ih0, ih1⟩ := laws_FnArith.mono_l k
  unfold laws_FnArith.f
  repeat' first
      | (with_reducible exact ih0 _ _ _)
      | (with_reducible exact ih1 _ _ _ _ _ _)
      | (with_reducible exact spec_ValueOf.mono _ _)
      | (with_reducible exact LeO.refl _)
      | (with_reducible exact LeO.none _)
      | (with_reducible refine LeO.ite ?_ ?_)
      | (with_reducible refine LeO.bind ?_ (fun _ => ?_))
      | exact ih0 _ _ _
      | exact ih1 _ _ _ _ _ _
      | exact spec_ValueOf.mono _ _
      | exact LeO.none _
      | refine LeO.ite ?_ ?_
      | refine LeO.bind ?_ (fun _ => ?_)
set_option maxHeartbeats 8000000 in
set_option maxRecDepth 100000 in
theorem laws_FnArith.calls (k : Nat) (A0 : Option Addr) (c0 : Nat) (l0 : List Int) (A1 : Option Addr) (c1 : Nat) (l1 : List Int) (r : Bool) (w : World) (hr0 : Kd.C (Kd.int .u8) w A0 l0.length l0) (hc0 : l0.length ≤ c0) (hr1 : Kd.C (Kd.int .u8) w A1 l1.length l1) (hc1 : l1.length ≤ c1) (h : laws_FnArith.f k l0 l1 = some r) :
    Calls Try.prog 6 #[.slice A0 l0.length c0, .slice A1 l1.length c1] w fun e w' => e = .returned (.bool r) ∧ Below w.heap.size w w' := by
  have hfl29_1 : ∀ (b0_ b1_ b2_ : Value) (W : World), (Instr.field 29 (.agg #[b0_, b1_, b2_]) 1).run Try.prog W = .ok b1_ W := fun _ _ _ _ => by rfl
  have HR0 := Aside0.mk hr0
  have HC0 := Aside0.mk hc0
  clear hr0 hc0
  have HR1 := Aside0.mk hr1
  have HC1 := Aside0.mk hc1
  clear hr1 hc1
  have HB := Aside0.mk (Below.refl w.heap.size w)
  have H : (if (l0.length : Int) > 1048576 then (laws_FnArith.j0 k l0 l1 true) else (laws_FnArith.j0 k l0 l1 (decide ((l1.length : Int) > 1048576)))) = some r := h
  clear h
  have HC3 := Aside0.mk H
  clear H
  go_enter Try.func6, Try.ntmps6
  go_upto_region 1 with (fail)
  go_cut [25] (fun v25 wc => ∃ (kq : Nat) (x25_2 : Bool), v25 = .bool x25_2 ∧ Aside0 (laws_FnArith.j0 kq l0 l1 x25_2 = some r) ∧ Aside0 (kq ≤ k) ∧ Aside0 (Below w.heap.size w wc))
  case first =>
    have H := HC3.out
    clear HC3
    by_cases c4 : (l0.length : Int) > 1048576
    · rw [if_pos c4] at H
      have c4b0 : decide (1048576 < (l0.length : Int)) = true := decide_eq_true c4
      have c4b1 : decide (1048576 < l0.length) = true := decide_eq_true (by omega)
      clear c4
      (first | rw [c4b0] | (simp only [i64_w, i32_w]; rw [c4b0]) | skip)
      have H' := Aside0.mk H
      clear H
      go_wp2
      go_meet
      case rel => exact ⟨_, (true), (by first | rfl | (simp; done) | (simp [*]; done)), H', ⟨by first | omega | exact Nat.le_refl _⟩, ⟨by repeat (first | (with_reducible first | exact HB.out | apply below_alloc | apply pw_below_drewN | apply below_drew1) | exact HB.out)⟩⟩
    · rw [if_neg c4] at H
      have c4b0 : decide (1048576 < (l0.length : Int)) = false := decide_eq_false c4
      have c4b1 : decide (1048576 < l0.length) = false := decide_eq_false (by omega)
      clear c4
      (first | rw [c4b0] | (simp only [i64_w, i32_w]; rw [c4b0]) | skip)
      have H' := Aside0.mk H
      clear H
      go_wp2
      go_meet
      case rel => exact ⟨_, (decide ((l1.length : Int) > 1048576)), (by first | rfl | (simp; done) | (simp [*]; done)), H', ⟨by first | omega | exact Nat.le_refl _⟩, ⟨by repeat (first | (with_reducible first | exact HB.out | apply below_alloc | apply pw_below_drewN | apply below_drew1) | exact HB.out)⟩⟩
  case rest =>
    clear HC3
    try clear c1
    try clear p2
    try clear c4
    try clear c4b0
    try clear c4b1
    obtain ⟨kq, x25_2, rfl, HA, HJ2, HB⟩ := hcut
    cases kq with
    | zero => exact absurd HA.out (by simp [laws_FnArith.j0])
    | succ kj2 =>
      have H := HA.out
      clear HA
      simp only [laws_FnArith.j0] at H
      by_cases c5 : x25_2 = true
      · subst c5
        have H1 : (some true) = some r := by rw [if_pos rfl] at H; exact H
        clear H
        have H := H1
        clear H1
        obtain rfl := Option.some.inj H
        go_wp2
        go_ret
        exact ⟨by first | rfl | (simp [errW_none, errW_some] <;> rfl) | (simp [*, errW_none, errW_some] <;> rfl), by repeat (first | (with_reducible first | exact HB.out | apply below_alloc | apply pw_below_drewN | apply below_drew1) | exact HB.out)⟩
      · replace c5 := Bool.eq_false_iff.mpr c5
        subst c5
        have H1 : ((spec_ValueOf.f kj2 l0).bind fun bt193 => ((spec_ValueOf.f kj2 l1).bind fun bt196 => ((impl_AddInts.f bt193.2.1 bt196.2.1).bind fun bt199 => ((spec_AddInts.f bt193.2.1 bt196.2.1).bind fun bt201 => ((impl_MulInts.f bt193.2.1 bt196.2.1).bind fun bt203 => ((spec_MulInts.f bt193.2.1 bt196.2.1).bind fun bt205 => ((impl_DivInts.f bt193.2.1 bt196.2.1).bind fun bt207 => (if bt199.1 = bt201.1 then (if bt199.2 = bt201.2 then (if bt203.1 = bt205.1 then (if bt203.2 = bt205.2 then (if bt199.2 = 0 then (if (wrap64 (bt199.1 - bt196.2.1)) = bt193.2.1 then (if bt203.2 = 0 then (if bt196.2.1 = 0 then (laws_FnArith.j1 kj2 bt193.2.1 bt196.2.1 bt207.1 bt207.2.1 bt207.2.2 false) else (laws_FnArith.j1 kj2 bt193.2.1 bt196.2.1 bt207.1 bt207.2.1 bt207.2.2 ((wrap64 (Int.tdiv bt203.1 bt196.2.1)) != bt193.2.1))) else (laws_FnArith.j1 kj2 bt193.2.1 bt196.2.1 bt207.1 bt207.2.1 bt207.2.2 false)) else (laws_FnArith.j1 kj2 bt193.2.1 bt196.2.1 bt207.1 bt207.2.1 bt207.2.2 true)) else (if bt203.2 = 0 then (if bt196.2.1 = 0 then (laws_FnArith.j1 kj2 bt193.2.1 bt196.2.1 bt207.1 bt207.2.1 bt207.2.2 false) else (laws_FnArith.j1 kj2 bt193.2.1 bt196.2.1 bt207.1 bt207.2.1 bt207.2.2 ((wrap64 (Int.tdiv bt203.1 bt196.2.1)) != bt193.2.1))) else (laws_FnArith.j1 kj2 bt193.2.1 bt196.2.1 bt207.1 bt207.2.1 bt207.2.2 false))) else (laws_FnArith.j1 kj2 bt193.2.1 bt196.2.1 bt207.1 bt207.2.1 bt207.2.2 true)) else (laws_FnArith.j1 kj2 bt193.2.1 bt196.2.1 bt207.1 bt207.2.1 bt207.2.2 true)) else (laws_FnArith.j1 kj2 bt193.2.1 bt196.2.1 bt207.1 bt207.2.1 bt207.2.2 true)) else (laws_FnArith.j1 kj2 bt193.2.1 bt196.2.1 bt207.1 bt207.2.1 bt207.2.2 true))))))))) = some r := by rw [if_neg (show ¬ (false = true) by decide)] at H; exact H
        clear H
        have H := H1
        clear H1
        replace H := Option.bind_eq_some_iff.mp H
        obtain ⟨⟨t193, t194, t195⟩, A60, H⟩ := H
        replace H : ((spec_ValueOf.f kj2 l1).bind fun bt196 => ((impl_AddInts.f t194 bt196.2.1).bind fun bt199 => ((spec_AddInts.f t194 bt196.2.1).bind fun bt201 => ((impl_MulInts.f t194 bt196.2.1).bind fun bt203 => ((spec_MulInts.f t194 bt196.2.1).bind fun bt205 => ((impl_DivInts.f t194 bt196.2.1).bind fun bt207 => (if bt199.1 = bt201.1 then (if bt199.2 = bt201.2 then (if bt203.1 = bt205.1 then (if bt203.2 = bt205.2 then (if bt199.2 = 0 then (if (wrap64 (bt199.1 - bt196.2.1)) = t194 then (if bt203.2 = 0 then (if bt196.2.1 = 0 then (laws_FnArith.j1 kj2 t194 bt196.2.1 bt207.1 bt207.2.1 bt207.2.2 false) else (laws_FnArith.j1 kj2 t194 bt196.2.1 bt207.1 bt207.2.1 bt207.2.2 ((wrap64 (Int.tdiv bt203.1 bt196.2.1)) != t194))) else (laws_FnArith.j1 kj2 t194 bt196.2.1 bt207.1 bt207.2.1 bt207.2.2 false)) else (laws_FnArith.j1 kj2 t194 bt196.2.1 bt207.1 bt207.2.1 bt207.2.2 true)) else (if bt203.2 = 0 then (if bt196.2.1 = 0 then (laws_FnArith.j1 kj2 t194 bt196.2.1 bt207.1 bt207.2.1 bt207.2.2 false) else (laws_FnArith.j1 kj2 t194 bt196.2.1 bt207.1 bt207.2.1 bt207.2.2 ((wrap64 (Int.tdiv bt203.1 bt196.2.1)) != t194))) else (laws_FnArith.j1 kj2 t194 bt196.2.1 bt207.1 bt207.2.1 bt207.2.2 false))) else (laws_FnArith.j1 kj2 t194 bt196.2.1 bt207.1 bt207.2.1 bt207.2.2 true)) else (laws_FnArith.j1 kj2 t194 bt196.2.1 bt207.1 bt207.2.1 bt207.2.2 true)) else (laws_FnArith.j1 kj2 t194 bt196.2.1 bt207.1 bt207.2.1 bt207.2.2 true)) else (laws_FnArith.j1 kj2 t194 bt196.2.1 bt207.1 bt207.2.1 bt207.2.2 true)))))))) = some r := H
        have A6 := Aside0.mk A60
        clear A60
        replace H := Option.bind_eq_some_iff.mp H
        obtain ⟨⟨t196, t197, t198⟩, A70, H⟩ := H
        replace H : ((impl_AddInts.f t194 t197).bind fun bt199 => ((spec_AddInts.f t194 t197).bind fun bt201 => ((impl_MulInts.f t194 t197).bind fun bt203 => ((spec_MulInts.f t194 t197).bind fun bt205 => ((impl_DivInts.f t194 t197).bind fun bt207 => (if bt199.1 = bt201.1 then (if bt199.2 = bt201.2 then (if bt203.1 = bt205.1 then (if bt203.2 = bt205.2 then (if bt199.2 = 0 then (if (wrap64 (bt199.1 - t197)) = t194 then (if bt203.2 = 0 then (if t197 = 0 then (laws_FnArith.j1 kj2 t194 t197 bt207.1 bt207.2.1 bt207.2.2 false) else (laws_FnArith.j1 kj2 t194 t197 bt207.1 bt207.2.1 bt207.2.2 ((wrap64 (Int.tdiv bt203.1 t197)) != t194))) else (laws_FnArith.j1 kj2 t194 t197 bt207.1 bt207.2.1 bt207.2.2 false)) else (laws_FnArith.j1 kj2 t194 t197 bt207.1 bt207.2.1 bt207.2.2 true)) else (if bt203.2 = 0 then (if t197 = 0 then (laws_FnArith.j1 kj2 t194 t197 bt207.1 bt207.2.1 bt207.2.2 false) else (laws_FnArith.j1 kj2 t194 t197 bt207.1 bt207.2.1 bt207.2.2 ((wrap64 (Int.tdiv bt203.1 t197)) != t194))) else (laws_FnArith.j1 kj2 t194 t197 bt207.1 bt207.2.1 bt207.2.2 false))) else (laws_FnArith.j1 kj2 t194 t197 bt207.1 bt207.2.1 bt207.2.2 true)) else (laws_FnArith.j1 kj2 t194 t197 bt207.1 bt207.2.1 bt207.2.2 true)) else (laws_FnArith.j1 kj2 t194 t197 bt207.1 bt207.2.1 bt207.2.2 true)) else (laws_FnArith.j1 kj2 t194 t197 bt207.1 bt207.2.1 bt207.2.2 true))))))) = some r := H
        have A7 := Aside0.mk A70
        clear A70
        replace H := Option.bind_eq_some_iff.mp H
        obtain ⟨⟨t199, t200⟩, A80, H⟩ := H
        replace H : ((spec_AddInts.f t194 t197).bind fun bt201 => ((impl_MulInts.f t194 t197).bind fun bt203 => ((spec_MulInts.f t194 t197).bind fun bt205 => ((impl_DivInts.f t194 t197).bind fun bt207 => (if t199 = bt201.1 then (if t200 = bt201.2 then (if bt203.1 = bt205.1 then (if bt203.2 = bt205.2 then (if t200 = 0 then (if (wrap64 (t199 - t197)) = t194 then (if bt203.2 = 0 then (if t197 = 0 then (laws_FnArith.j1 kj2 t194 t197 bt207.1 bt207.2.1 bt207.2.2 false) else (laws_FnArith.j1 kj2 t194 t197 bt207.1 bt207.2.1 bt207.2.2 ((wrap64 (Int.tdiv bt203.1 t197)) != t194))) else (laws_FnArith.j1 kj2 t194 t197 bt207.1 bt207.2.1 bt207.2.2 false)) else (laws_FnArith.j1 kj2 t194 t197 bt207.1 bt207.2.1 bt207.2.2 true)) else (if bt203.2 = 0 then (if t197 = 0 then (laws_FnArith.j1 kj2 t194 t197 bt207.1 bt207.2.1 bt207.2.2 false) else (laws_FnArith.j1 kj2 t194 t197 bt207.1 bt207.2.1 bt207.2.2 ((wrap64 (Int.tdiv bt203.1 t197)) != t194))) else (laws_FnArith.j1 kj2 t194 t197 bt207.1 bt207.2.1 bt207.2.2 false))) else (laws_FnArith.j1 kj2 t194 t197 bt207.1 bt207.2.1 bt207.2.2 true)) else (laws_FnArith.j1 kj2 t194 t197 bt207.1 bt207.2.1 bt207.2.2 true)) else (laws_FnArith.j1 kj2 t194 t197 bt207.1 bt207.2.1 bt207.2.2 true)) else (laws_FnArith.j1 kj2 t194 t197 bt207.1 bt207.2.1 bt207.2.2 true)))))) = some r := H
        have A8 := Aside0.mk A80
        clear A80
        replace H := Option.bind_eq_some_iff.mp H
        obtain ⟨⟨t201, t202⟩, A90, H⟩ := H
        replace H : ((impl_MulInts.f t194 t197).bind fun bt203 => ((spec_MulInts.f t194 t197).bind fun bt205 => ((impl_DivInts.f t194 t197).bind fun bt207 => (if t199 = t201 then (if t200 = t202 then (if bt203.1 = bt205.1 then (if bt203.2 = bt205.2 then (if t200 = 0 then (if (wrap64 (t199 - t197)) = t194 then (if bt203.2 = 0 then (if t197 = 0 then (laws_FnArith.j1 kj2 t194 t197 bt207.1 bt207.2.1 bt207.2.2 false) else (laws_FnArith.j1 kj2 t194 t197 bt207.1 bt207.2.1 bt207.2.2 ((wrap64 (Int.tdiv bt203.1 t197)) != t194))) else (laws_FnArith.j1 kj2 t194 t197 bt207.1 bt207.2.1 bt207.2.2 false)) else (laws_FnArith.j1 kj2 t194 t197 bt207.1 bt207.2.1 bt207.2.2 true)) else (if bt203.2 = 0 then (if t197 = 0 then (laws_FnArith.j1 kj2 t194 t197 bt207.1 bt207.2.1 bt207.2.2 false) else (laws_FnArith.j1 kj2 t194 t197 bt207.1 bt207.2.1 bt207.2.2 ((wrap64 (Int.tdiv bt203.1 t197)) != t194))) else (laws_FnArith.j1 kj2 t194 t197 bt207.1 bt207.2.1 bt207.2.2 false))) else (laws_FnArith.j1 kj2 t194 t197 bt207.1 bt207.2.1 bt207.2.2 true)) else (laws_FnArith.j1 kj2 t194 t197 bt207.1 bt207.2.1 bt207.2.2 true)) else (laws_FnArith.j1 kj2 t194 t197 bt207.1 bt207.2.1 bt207.2.2 true)) else (laws_FnArith.j1 kj2 t194 t197 bt207.1 bt207.2.1 bt207.2.2 true))))) = some r := H
        have A9 := Aside0.mk A90
        clear A90
        replace H := Option.bind_eq_some_iff.mp H
        obtain ⟨⟨t203, t204⟩, A100, H⟩ := H
        replace H : ((spec_MulInts.f t194 t197).bind fun bt205 => ((impl_DivInts.f t194 t197).bind fun bt207 => (if t199 = t201 then (if t200 = t202 then (if t203 = bt205.1 then (if t204 = bt205.2 then (if t200 = 0 then (if (wrap64 (t199 - t197)) = t194 then (if t204 = 0 then (if t197 = 0 then (laws_FnArith.j1 kj2 t194 t197 bt207.1 bt207.2.1 bt207.2.2 false) else (laws_FnArith.j1 kj2 t194 t197 bt207.1 bt207.2.1 bt207.2.2 ((wrap64 (Int.tdiv t203 t197)) != t194))) else (laws_FnArith.j1 kj2 t194 t197 bt207.1 bt207.2.1 bt207.2.2 false)) else (laws_FnArith.j1 kj2 t194 t197 bt207.1 bt207.2.1 bt207.2.2 true)) else (if t204 = 0 then (if t197 = 0 then (laws_FnArith.j1 kj2 t194 t197 bt207.1 bt207.2.1 bt207.2.2 false) else (laws_FnArith.j1 kj2 t194 t197 bt207.1 bt207.2.1 bt207.2.2 ((wrap64 (Int.tdiv t203 t197)) != t194))) else (laws_FnArith.j1 kj2 t194 t197 bt207.1 bt207.2.1 bt207.2.2 false))) else (laws_FnArith.j1 kj2 t194 t197 bt207.1 bt207.2.1 bt207.2.2 true)) else (laws_FnArith.j1 kj2 t194 t197 bt207.1 bt207.2.1 bt207.2.2 true)) else (laws_FnArith.j1 kj2 t194 t197 bt207.1 bt207.2.1 bt207.2.2 true)) else (laws_FnArith.j1 kj2 t194 t197 bt207.1 bt207.2.1 bt207.2.2 true)))) = some r := H
        have A10 := Aside0.mk A100
        clear A100
        replace H := Option.bind_eq_some_iff.mp H
        obtain ⟨⟨t205, t206⟩, A110, H⟩ := H
        replace H : ((impl_DivInts.f t194 t197).bind fun bt207 => (if t199 = t201 then (if t200 = t202 then (if t203 = t205 then (if t204 = t206 then (if t200 = 0 then (if (wrap64 (t199 - t197)) = t194 then (if t204 = 0 then (if t197 = 0 then (laws_FnArith.j1 kj2 t194 t197 bt207.1 bt207.2.1 bt207.2.2 false) else (laws_FnArith.j1 kj2 t194 t197 bt207.1 bt207.2.1 bt207.2.2 ((wrap64 (Int.tdiv t203 t197)) != t194))) else (laws_FnArith.j1 kj2 t194 t197 bt207.1 bt207.2.1 bt207.2.2 false)) else (laws_FnArith.j1 kj2 t194 t197 bt207.1 bt207.2.1 bt207.2.2 true)) else (if t204 = 0 then (if t197 = 0 then (laws_FnArith.j1 kj2 t194 t197 bt207.1 bt207.2.1 bt207.2.2 false) else (laws_FnArith.j1 kj2 t194 t197 bt207.1 bt207.2.1 bt207.2.2 ((wrap64 (Int.tdiv t203 t197)) != t194))) else (laws_FnArith.j1 kj2 t194 t197 bt207.1 bt207.2.1 bt207.2.2 false))) else (laws_FnArith.j1 kj2 t194 t197 bt207.1 bt207.2.1 bt207.2.2 true)) else (laws_FnArith.j1 kj2 t194 t197 bt207.1 bt207.2.1 bt207.2.2 true)) else (laws_FnArith.j1 kj2 t194 t197 bt207.1 bt207.2.1 bt207.2.2 true)) else (laws_FnArith.j1 kj2 t194 t197 bt207.1 bt207.2.1 bt207.2.2 true))) = some r := H
        have A11 := Aside0.mk A110
        clear A110
        replace H := Option.bind_eq_some_iff.mp H
        obtain ⟨⟨t207, t208, t209⟩, A120, H⟩ := H
        replace H : (if t199 = t201 then (if t200 = t202 then (if t203 = t205 then (if t204 = t206 then (if t200 = 0 then (if (wrap64 (t199 - t197)) = t194 then (if t204 = 0 then (if t197 = 0 then (laws_FnArith.j1 kj2 t194 t197 t207 t208 t209 false) else (laws_FnArith.j1 kj2 t194 t197 t207 t208 t209 ((wrap64 (Int.tdiv t203 t197)) != t194))) else (laws_FnArith.j1 kj2 t194 t197 t207 t208 t209 false)) else (laws_FnArith.j1 kj2 t194 t197 t207 t208 t209 true)) else (if t204 = 0 then (if t197 = 0 then (laws_FnArith.j1 kj2 t194 t197 t207 t208 t209 false) else (laws_FnArith.j1 kj2 t194 t197 t207 t208 t209 ((wrap64 (Int.tdiv t203 t197)) != t194))) else (laws_FnArith.j1 kj2 t194 t197 t207 t208 t209 false))) else (laws_FnArith.j1 kj2 t194 t197 t207 t208 t209 true)) else (laws_FnArith.j1 kj2 t194 t197 t207 t208 t209 true)) else (laws_FnArith.j1 kj2 t194 t197 t207 t208 t209 true)) else (laws_FnArith.j1 kj2 t194 t197 t207 t208 t209 true)) = some r := H
        have A12 := Aside0.mk A120
        clear A120
        have HC13 := Aside0.mk H
        clear H
        go_upto_region 10 with (first | ((with_reducible refine gate_callee (f := 16) rfl ?_); refine goesL_ (some 27) rfl rfl Try.func16 (by kernel_rfl) rfl #[.slice A0 l0.length c0] rfl (by (try simp only [List.map_toArray, List.map_cons, List.map_nil]); first | done | rfl | (simp only [List.length_drop, List.length_take]; rfl)) ?_; (with_reducible refine (spec_ValueOf.calls kj2 _ _ l0 t193 t194 t195 _ ?side1 ?side2 A6.out).mono ?_); (case side1 => repeat (first | exact (Kd.C_below HR0.out HB.out) | (with_reducible refine Kd.C_alloc ?_ _) | (with_reducible refine Kd.C_drewN ?_ _) | (with_reducible refine Kd.C_drew ?_))); (case side2 => exact HC0.out); rintro e w14 ⟨rfl, hb⟩; refine ⟨_, rfl, ?_⟩; have n0_ := Aside0.mk (below_step (by repeat (first | (with_reducible first | exact HB.out | apply below_alloc | apply pw_below_drewN | apply below_drew1) | exact HB.out)) hb); clear HB; have HB := n0_; clear n0_; (try clear hb); (try clear hb2); (try clear hk); (try clear hi)) | ((with_reducible refine gate_callee (f := 16) rfl ?_); refine goesL_ (some 30) rfl rfl Try.func16 (by kernel_rfl) rfl #[.slice A1 l1.length c1] rfl (by (try simp only [List.map_toArray, List.map_cons, List.map_nil]); first | done | rfl | (simp only [List.length_drop, List.length_take]; rfl)) ?_; (with_reducible refine (spec_ValueOf.calls kj2 _ _ l1 t196 t197 t198 _ ?side1 ?side2 A7.out).mono ?_); (case side1 => repeat (first | exact (Kd.C_below HR1.out HB.out) | (with_reducible refine Kd.C_alloc ?_ _) | (with_reducible refine Kd.C_drewN ?_ _) | (with_reducible refine Kd.C_drew ?_))); (case side2 => exact HC1.out); rintro e w15 ⟨rfl, hb⟩; refine ⟨_, rfl, ?_⟩; have n0_ := Aside0.mk (below_step (by repeat (first | (with_reducible first | exact HB.out | apply below_alloc | apply pw_below_drewN | apply below_drew1) | exact HB.out)) hb); clear HB; have HB := n0_; clear n0_; (try clear hb); (try clear hb2); (try clear hk); (try clear hi)) | ((with_reducible refine gate_callee (f := 11) rfl ?_); refine goesL_ (some 35) rfl rfl Try.func11 (by kernel_rfl) rfl #[.int .i64 t194, .int .i64 t197] rfl (by (try simp only [List.map_toArray, List.map_cons, List.map_nil]); first | done | rfl | (simp only [List.length_drop, List.length_take]; rfl)) ?_; (with_reducible refine (impl_AddInts.calls t194 t197 t199 t200 _ A8.out).mono ?_); rintro e w' ⟨rfl, ⟨nd, rfl⟩⟩; refine ⟨_, rfl, ?_⟩) | ((with_reducible refine gate_callee (f := 10) rfl ?_); refine goesL_ (some 41) rfl rfl Try.func10 (by kernel_rfl) rfl #[.int .i64 t194, .int .i64 t197] rfl (by (try simp only [List.map_toArray, List.map_cons, List.map_nil]); first | done | rfl | (simp only [List.length_drop, List.length_take]; rfl)) ?_; (with_reducible refine (spec_AddInts.calls t194 t197 t201 t202 _ A9.out).mono ?_); rintro e w' ⟨rfl, ⟨nd, rfl⟩⟩; refine ⟨_, rfl, ?_⟩) | ((with_reducible refine gate_callee (f := 15) rfl ?_); refine goesL_ (some 47) rfl rfl Try.func15 (by kernel_rfl) rfl #[.int .i64 t194, .int .i64 t197] rfl (by (try simp only [List.map_toArray, List.map_cons, List.map_nil]); first | done | rfl | (simp only [List.length_drop, List.length_take]; rfl)) ?_; (with_reducible refine (impl_MulInts.calls t194 t197 t203 t204 _ A10.out).mono ?_); rintro e w' ⟨rfl, ⟨nd, rfl⟩⟩; refine ⟨_, rfl, ?_⟩) | ((with_reducible refine gate_callee (f := 14) rfl ?_); refine goesL_ (some 53) rfl rfl Try.func14 (by kernel_rfl) rfl #[.int .i64 t194, .int .i64 t197] rfl (by (try simp only [List.map_toArray, List.map_cons, List.map_nil]); first | done | rfl | (simp only [List.length_drop, List.length_take]; rfl)) ?_; (with_reducible refine (spec_MulInts.calls t194 t197 t205 t206 _ A11.out).mono ?_); rintro e w' ⟨rfl, ⟨nd, rfl⟩⟩; refine ⟨_, rfl, ?_⟩) | ((with_reducible refine gate_callee (f := 13) rfl ?_); refine goesL_ (some 59) rfl rfl Try.func13 (by kernel_rfl) rfl #[.int .i64 t194, .int .i64 t197] rfl (by (try simp only [List.map_toArray, List.map_cons, List.map_nil]); first | done | rfl | (simp only [List.length_drop, List.length_take]; rfl)) ?_; (with_reducible refine (impl_DivInts.calls t194 t197 t207 t208 t209 _ A12.out).mono ?_); rintro e w' ⟨rfl, ⟨nd, rfl⟩⟩; refine ⟨_, rfl, ?_⟩))
        (try simp only [Act.put, List.setIfInBounds_toArray, List.set_cons_zero, List.set_cons_succ])
        go_cut [106] (fun v106 wc => ∃ (kq : Nat) (x106_12 : Bool), v106 = .bool x106_12 ∧ Aside0 (laws_FnArith.j1 kq t194 t197 t207 t208 t209 x106_12 = some r) ∧ Aside0 (kq ≤ kj2) ∧ Aside0 (Below w.heap.size w wc))
        case first =>
          have H := HC13.out
          clear HC13
          by_cases c16 : t199 = t201
          · rw [if_pos c16] at H
            have c16b0 : (t199 == t201) = true := beq_iff_eq.mpr c16
            have c16b1 : (t199 != t201) = false := bne_eq_false_iff_eq.mpr c16
            clear c16
            (first | rw [c16b0] | (simp only [i64_w, i32_w]; rw [c16b0]) | skip)
            by_cases c17 : t200 = t202
            · rw [if_pos c17] at H
              have c17b0 : (t200 == t202) = true := beq_iff_eq.mpr c17
              have c17b1 : (t200 != t202) = false := bne_eq_false_iff_eq.mpr c17
              clear c17
              by_cases c18 : t203 = t205
              · rw [if_pos c18] at H
                have c18b0 : (t203 == t205) = true := beq_iff_eq.mpr c18
                have c18b1 : (t203 != t205) = false := bne_eq_false_iff_eq.mpr c18
                clear c18
                by_cases c19 : t204 = t206
                · rw [if_pos c19] at H
                  have c19b0 : (t204 == t206) = true := beq_iff_eq.mpr c19
                  have c19b1 : (t204 != t206) = false := bne_eq_false_iff_eq.mpr c19
                  clear c19
                  by_cases c20 : t200 = 0
                  · rw [if_pos c20] at H
                    have c20b0 : (t200 == 0) = true := beq_iff_eq.mpr c20
                    have c20b1 : (t200 != 0) = false := bne_eq_false_iff_eq.mpr c20
                    clear c20
                    by_cases c21 : (wrap64 (t199 - t197)) = t194
                    · rw [if_pos c21] at H
                      have c21b0 : ((wrap64 (t199 - t197)) == t194) = true := beq_iff_eq.mpr c21
                      have c21b1 : ((wrap64 (t199 - t197)) != t194) = false := bne_eq_false_iff_eq.mpr c21
                      clear c21
                      by_cases c22 : t204 = 0
                      · rw [if_pos c22] at H
                        have c22b0 : (t204 == 0) = true := beq_iff_eq.mpr c22
                        have c22b1 : (t204 != 0) = false := bne_eq_false_iff_eq.mpr c22
                        clear c22
                        by_cases c23 : t197 = 0
                        · rw [if_pos c23] at H
                          have c23b0 : (t197 == 0) = true := beq_iff_eq.mpr c23
                          have c23b1 : (t197 != 0) = false := bne_eq_false_iff_eq.mpr c23
                          clear c23
                          have H' := Aside0.mk H
                          clear H
                          go_wp2
                          go_meet
                          case rel => exact ⟨_, (false), (by first | rfl | (simp; done) | (simp [*]; done)), H', ⟨by have := HJ2.out; first | omega | exact Nat.le_refl _⟩, ⟨by repeat (first | (with_reducible first | exact HB.out | apply below_alloc | apply pw_below_drewN | apply below_drew1) | exact HB.out)⟩⟩
                        · rw [if_neg c23] at H
                          have c23b0 : (t197 == 0) = false := beq_eq_false_iff_ne.mpr c23
                          have c23b1 : (t197 != 0) = true := bne_iff_ne.mpr c23
                          have H' := Aside0.mk H
                          clear H
                          go_wp2
                          go_meet
                          case rel => exact ⟨_, (((wrap64 (Int.tdiv t203 t197)) != t194)), (by first | rfl | (simp; done) | (simp [*]; done)), H', ⟨by have := HJ2.out; first | omega | exact Nat.le_refl _⟩, ⟨by repeat (first | (with_reducible first | exact HB.out | apply below_alloc | apply pw_below_drewN | apply below_drew1) | exact HB.out)⟩⟩
                      · rw [if_neg c22] at H
                        have c22b0 : (t204 == 0) = false := beq_eq_false_iff_ne.mpr c22
                        have c22b1 : (t204 != 0) = true := bne_iff_ne.mpr c22
                        have H' := Aside0.mk H
                        clear H
                        go_wp2
                        go_meet
                        case rel => exact ⟨_, (false), (by first | rfl | (simp; done) | (simp [*]; done)), H', ⟨by have := HJ2.out; first | omega | exact Nat.le_refl _⟩, ⟨by repeat (first | (with_reducible first | exact HB.out | apply below_alloc | apply pw_below_drewN | apply below_drew1) | exact HB.out)⟩⟩
                    · rw [if_neg c21] at H
                      have c21b0 : ((wrap64 (t199 - t197)) == t194) = false := beq_eq_false_iff_ne.mpr c21
                      have c21b1 : ((wrap64 (t199 - t197)) != t194) = true := bne_iff_ne.mpr c21
                      have H' := Aside0.mk H
                      clear H
                      go_wp2
                      go_meet
                      case rel => exact ⟨_, (true), (by first | rfl | (simp; done) | (simp [*]; done)), H', ⟨by have := HJ2.out; first | omega | exact Nat.le_refl _⟩, ⟨by repeat (first | (with_reducible first | exact HB.out | apply below_alloc | apply pw_below_drewN | apply below_drew1) | exact HB.out)⟩⟩
                  · rw [if_neg c20] at H
                    have c20b0 : (t200 == 0) = false := beq_eq_false_iff_ne.mpr c20
                    have c20b1 : (t200 != 0) = true := bne_iff_ne.mpr c20
                    by_cases c24 : t204 = 0
                    · rw [if_pos c24] at H
                      have c24b0 : (t204 == 0) = true := beq_iff_eq.mpr c24
                      have c24b1 : (t204 != 0) = false := bne_eq_false_iff_eq.mpr c24
                      clear c24
                      by_cases c25 : t197 = 0
                      · rw [if_pos c25] at H
                        have c25b0 : (t197 == 0) = true := beq_iff_eq.mpr c25
                        have c25b1 : (t197 != 0) = false := bne_eq_false_iff_eq.mpr c25
                        clear c25
                        have H' := Aside0.mk H
                        clear H
                        go_wp2
                        go_meet
                        case rel => exact ⟨_, (false), (by first | rfl | (simp; done) | (simp [*]; done)), H', ⟨by have := HJ2.out; first | omega | exact Nat.le_refl _⟩, ⟨by repeat (first | (with_reducible first | exact HB.out | apply below_alloc | apply pw_below_drewN | apply below_drew1) | exact HB.out)⟩⟩
                      · rw [if_neg c25] at H
                        have c25b0 : (t197 == 0) = false := beq_eq_false_iff_ne.mpr c25
                        have c25b1 : (t197 != 0) = true := bne_iff_ne.mpr c25
                        have H' := Aside0.mk H
                        clear H
                        go_wp2
                        go_meet
                        case rel => exact ⟨_, (((wrap64 (Int.tdiv t203 t197)) != t194)), (by first | rfl | (simp; done) | (simp [*]; done)), H', ⟨by have := HJ2.out; first | omega | exact Nat.le_refl _⟩, ⟨by repeat (first | (with_reducible first | exact HB.out | apply below_alloc | apply pw_below_drewN | apply below_drew1) | exact HB.out)⟩⟩
                    · rw [if_neg c24] at H
                      have c24b0 : (t204 == 0) = false := beq_eq_false_iff_ne.mpr c24
                      have c24b1 : (t204 != 0) = true := bne_iff_ne.mpr c24
                      have H' := Aside0.mk H
                      clear H
                      go_wp2
                      go_meet
                      case rel => exact ⟨_, (false), (by first | rfl | (simp; done) | (simp [*]; done)), H', ⟨by have := HJ2.out; first | omega | exact Nat.le_refl _⟩, ⟨by repeat (first | (with_reducible first | exact HB.out | apply below_alloc | apply pw_below_drewN | apply below_drew1) | exact HB.out)⟩⟩
                · rw [if_neg c19] at H
                  have c19b0 : (t204 == t206) = false := beq_eq_false_iff_ne.mpr c19
                  have c19b1 : (t204 != t206) = true := bne_iff_ne.mpr c19
                  have H' := Aside0.mk H
                  clear H
                  go_wp2
                  go_meet
                  case rel => exact ⟨_, (true), (by first | rfl | (simp; done) | (simp [*]; done)), H', ⟨by have := HJ2.out; first | omega | exact Nat.le_refl _⟩, ⟨by repeat (first | (with_reducible first | exact HB.out | apply below_alloc | apply pw_below_drewN | apply below_drew1) | exact HB.out)⟩⟩
              · rw [if_neg c18] at H
                have c18b0 : (t203 == t205) = false := beq_eq_false_iff_ne.mpr c18
                have c18b1 : (t203 != t205) = true := bne_iff_ne.mpr c18
                have H' := Aside0.mk H
                clear H
                go_wp2
                go_meet
                case rel => exact ⟨_, (true), (by first | rfl | (simp; done) | (simp [*]; done)), H', ⟨by have := HJ2.out; first | omega | exact Nat.le_refl _⟩, ⟨by repeat (first | (with_reducible first | exact HB.out | apply below_alloc | apply pw_below_drewN | apply below_drew1) | exact HB.out)⟩⟩
            · rw [if_neg c17] at H
              have c17b0 : (t200 == t202) = false := beq_eq_false_iff_ne.mpr c17
              have c17b1 : (t200 != t202) = true := bne_iff_ne.mpr c17
              have H' := Aside0.mk H
              clear H
              go_wp2
              go_meet
              case rel => exact ⟨_, (true), (by first | rfl | (simp; done) | (simp [*]; done)), H', ⟨by have := HJ2.out; first | omega | exact Nat.le_refl _⟩, ⟨by repeat (first | (with_reducible first | exact HB.out | apply below_alloc | apply pw_below_drewN | apply below_drew1) | exact HB.out)⟩⟩
          · rw [if_neg c16] at H
            have c16b0 : (t199 == t201) = false := beq_eq_false_iff_ne.mpr c16
            have c16b1 : (t199 != t201) = true := bne_iff_ne.mpr c16
            (first | rw [c16b0] | (simp only [i64_w, i32_w]; rw [c16b0]) | skip)
            have H' := Aside0.mk H
            clear H
            go_wp2
            go_meet
            case rel => exact ⟨_, (true), (by first | rfl | (simp; done) | (simp [*]; done)), H', ⟨by have := HJ2.out; first | omega | exact Nat.le_refl _⟩, ⟨by repeat (first | (with_reducible first | exact HB.out | apply below_alloc | apply pw_below_drewN | apply below_drew1) | exact HB.out)⟩⟩
        case rest =>
          clear HC13
          try clear c1
          try clear c2
          try clear p2
          try clear c4
          try clear c4b0
          try clear c4b1
          try clear c5
          try clear c6
          try clear p6
          try clear c10
          try clear c11
          try clear c13
          try clear c14
          try clear c15
          try clear c16
          try clear c16b0
          try clear c16b1
          try clear c17
          try clear c17b0
          try clear c17b1
          try clear c18
          try clear c18b0
          try clear c18b1
          try clear c19
          try clear c19b0
          try clear c19b1
          try clear c20
          try clear c20b0
          try clear c20b1
          try clear c21
          try clear c21b0
          try clear c21b1
          try clear c22
          try clear c22b0
          try clear c22b1
          try clear c23
          try clear c23b0
          try clear c23b1
          try clear c24
          try clear c24b0
          try clear c24b1
          try clear c25
          try clear c25b0
          try clear c25b1
          try clear p2
          obtain ⟨kq, x106_12, rfl, HA, HJ12, HB⟩ := hcut
          cases kq with
          | zero => exact absurd HA.out (by simp [laws_FnArith.j1])
          | succ kj12 =>
            have H := HA.out
            clear HA
            simp only [laws_FnArith.j1] at H
            by_cases c26 : x106_12 = true
            · subst c26
              have H1 : (some false) = some r := by rw [if_pos rfl] at H; exact H
              clear H
              have H := H1
              clear H1
              obtain rfl := Option.some.inj H
              go_wp2
              go_ret
              exact ⟨by first | rfl | (simp [errW_none, errW_some] <;> rfl) | (simp [*, errW_none, errW_some] <;> rfl), by repeat (first | (with_reducible first | exact HB.out | apply below_alloc | apply pw_below_drewN | apply below_drew1) | exact HB.out)⟩
            · replace c26 := Bool.eq_false_iff.mpr c26
              subst c26
              have H1 : (if t197 = 0 then (some (t209 == 13)) else (if t209 = 0 then (if (wrap64 ((wrap64 (t207 * t197)) + t208)) = t194 then (if t208 = 0 then (if (mx t208 (wrap64 (-t208))) < (mx t197 (wrap64 (-t197))) then (some true) else (if t197 = (-9223372036854775808) then (some ((wrap64 ((wrap64 (t207 * t197)) + t208)) == t194)) else (some false))) else (if ((decide (t208 < 0)) == (decide (t194 < 0))) = true then (if (mx t208 (wrap64 (-t208))) < (mx t197 (wrap64 (-t197))) then (some true) else (if t197 = (-9223372036854775808) then (some ((wrap64 ((wrap64 (t207 * t197)) + t208)) == t194)) else (some false))) else (if t197 = (-9223372036854775808) then (some ((wrap64 ((wrap64 (t207 * t197)) + t208)) == t194)) else (some false)))) else (if t197 = (-9223372036854775808) then (some ((wrap64 ((wrap64 (t207 * t197)) + t208)) == t194)) else (some false))) else (if t209 = 4 then (some (t197 == (-1))) else (some false)))) = some r := by rw [if_neg (show ¬ (false = true) by decide)] at H; exact H
              clear H
              have H := H1
              clear H1
              by_cases c27 : t197 = 0
              · rw [if_pos c27] at H
                have c27b0 : (t197 == 0) = true := beq_iff_eq.mpr c27
                have c27b1 : (t197 != 0) = false := bne_eq_false_iff_eq.mpr c27
                clear c27
                obtain rfl := Option.some.inj H
                go_wp2
                go_ret
                exact ⟨by first | rfl | (simp [errW_none, errW_some] <;> rfl) | (simp [*, errW_none, errW_some] <;> rfl), by repeat (first | (with_reducible first | exact HB.out | apply below_alloc | apply pw_below_drewN | apply below_drew1) | exact HB.out)⟩
              · rw [if_neg c27] at H
                have c27b0 : (t197 == 0) = false := beq_eq_false_iff_ne.mpr c27
                have c27b1 : (t197 != 0) = true := bne_iff_ne.mpr c27
                by_cases c28 : t209 = 0
                · rw [if_pos c28] at H
                  have c28b0 : (t209 == 0) = true := beq_iff_eq.mpr c28
                  have c28b1 : (t209 != 0) = false := bne_eq_false_iff_eq.mpr c28
                  clear c28
                  by_cases c29 : (wrap64 ((wrap64 (t207 * t197)) + t208)) = t194
                  · rw [if_pos c29] at H
                    have c29b0 : ((wrap64 ((wrap64 (t207 * t197)) + t208)) == t194) = true := beq_iff_eq.mpr c29
                    have c29b1 : ((wrap64 ((wrap64 (t207 * t197)) + t208)) != t194) = false := bne_eq_false_iff_eq.mpr c29
                    clear c29
                    by_cases c30 : t208 = 0
                    · rw [if_pos c30] at H
                      have c30b0 : (t208 == 0) = true := beq_iff_eq.mpr c30
                      have c30b1 : (t208 != 0) = false := bne_eq_false_iff_eq.mpr c30
                      clear c30
                      obtain ⟨ji31, hji31⟩ : ∃ j_ : Int, (mx t208 (wrap64 (-t208))) = j_ := ⟨_, rfl⟩
                      replace H : (if (ji31) < (mx t197 (wrap64 (-t197))) then (some true) else (if t197 = (-9223372036854775808) then (some ((wrap64 ((wrap64 (t207 * t197)) + t208)) == t194)) else (some false))) = some r := by first | (rw [hji31] at H; exact H) | (simp only [hji31] at H ⊢; exact H)
                      have hji31_ : (if t208 < (wrap64 (-t208)) then (wrap64 (-t208)) else t208) = ji31 := hji31
                      obtain ⟨ji32, hji32⟩ : ∃ j_ : Int, (mx t197 (wrap64 (-t197))) = j_ := ⟨_, rfl⟩
                      replace H : (if (ji31) < (ji32) then (some true) else (if t197 = (-9223372036854775808) then (some ((wrap64 ((wrap64 (t207 * t197)) + t208)) == t194)) else (some false))) = some r := by first | (rw [hji32] at H; exact H) | (simp only [hji32] at H ⊢; exact H)
                      have hji32_ : (if t197 < (wrap64 (-t197)) then (wrap64 (-t197)) else t197) = ji32 := hji32
                      by_cases c33 : (ji31) < (ji32)
                      · rw [if_pos c33] at H
                        have c33b0 : decide ((ji31) < (ji32)) = true := decide_eq_true c33
                        clear c33
                        obtain rfl := Option.some.inj H
                        go_wp2
                        go_ret
                        exact ⟨by first | rfl | (simp [errW_none, errW_some] <;> rfl) | (simp only [← hji31, ← hji32]; first | rfl | (simp [errW_none, errW_some] <;> rfl)) | (simp [*, errW_none, errW_some] <;> rfl), by repeat (first | (with_reducible first | exact HB.out | apply below_alloc | apply pw_below_drewN | apply below_drew1) | exact HB.out)⟩
                      · rw [if_neg c33] at H
                        have c33b0 : decide ((ji31) < (ji32)) = false := decide_eq_false c33
                        clear c33
                        by_cases c34 : t197 = (-9223372036854775808)
                        · rw [if_pos c34] at H
                          have c34b0 : (t197 == (-9223372036854775808)) = true := beq_iff_eq.mpr c34
                          have c34b1 : (t197 != (-9223372036854775808)) = false := bne_eq_false_iff_eq.mpr c34
                          clear c34
                          obtain rfl := Option.some.inj H
                          go_wp2
                          go_ret
                          exact ⟨by first | rfl | (simp [errW_none, errW_some] <;> rfl) | (simp only [← hji31, ← hji32]; first | rfl | (simp [errW_none, errW_some] <;> rfl)) | (simp [*, errW_none, errW_some] <;> rfl), by repeat (first | (with_reducible first | exact HB.out | apply below_alloc | apply pw_below_drewN | apply below_drew1) | exact HB.out)⟩
                        · rw [if_neg c34] at H
                          have c34b0 : (t197 == (-9223372036854775808)) = false := beq_eq_false_iff_ne.mpr c34
                          have c34b1 : (t197 != (-9223372036854775808)) = true := bne_iff_ne.mpr c34
                          obtain rfl := Option.some.inj H
                          go_wp2
                          go_ret
                          exact ⟨by first | rfl | (simp [errW_none, errW_some] <;> rfl) | (simp only [← hji31, ← hji32]; first | rfl | (simp [errW_none, errW_some] <;> rfl)) | (simp [*, errW_none, errW_some] <;> rfl), by repeat (first | (with_reducible first | exact HB.out | apply below_alloc | apply pw_below_drewN | apply below_drew1) | exact HB.out)⟩
                    · rw [if_neg c30] at H
                      have c30b0 : (t208 == 0) = false := beq_eq_false_iff_ne.mpr c30
                      have c30b1 : (t208 != 0) = true := bne_iff_ne.mpr c30
                      by_cases c35 : ((decide (t208 < 0)) == (decide (t194 < 0))) = true
                      · rw [if_pos c35] at H
                        have c35b0 : ((decide (t208 < 0)) == (decide (t194 < 0))) = true := c35
                        (try (have c35b1 : decide ((decide (t208 < 0)) = (decide (t194 < 0))) = true := by simpa using c35))
                        (try (have c35b2 : ((decide (t208 < 0)) == (decide (t194 < 0))) = true := by simpa using c35))
                        clear c35
                        obtain ⟨ji36, hji36⟩ : ∃ j_ : Int, (mx t208 (wrap64 (-t208))) = j_ := ⟨_, rfl⟩
                        replace H : (if (ji36) < (mx t197 (wrap64 (-t197))) then (some true) else (if t197 = (-9223372036854775808) then (some ((wrap64 ((wrap64 (t207 * t197)) + t208)) == t194)) else (some false))) = some r := by first | (rw [hji36] at H; exact H) | (simp only [hji36] at H ⊢; exact H)
                        have hji36_ : (if t208 < (wrap64 (-t208)) then (wrap64 (-t208)) else t208) = ji36 := hji36
                        obtain ⟨ji37, hji37⟩ : ∃ j_ : Int, (mx t197 (wrap64 (-t197))) = j_ := ⟨_, rfl⟩
                        replace H : (if (ji36) < (ji37) then (some true) else (if t197 = (-9223372036854775808) then (some ((wrap64 ((wrap64 (t207 * t197)) + t208)) == t194)) else (some false))) = some r := by first | (rw [hji37] at H; exact H) | (simp only [hji37] at H ⊢; exact H)
                        have hji37_ : (if t197 < (wrap64 (-t197)) then (wrap64 (-t197)) else t197) = ji37 := hji37
                        by_cases c38 : (ji36) < (ji37)
                        · rw [if_pos c38] at H
                          have c38b0 : decide ((ji36) < (ji37)) = true := decide_eq_true c38
                          clear c38
                          obtain rfl := Option.some.inj H
                          go_wp2
                          go_ret
                          exact ⟨by first | rfl | (simp [errW_none, errW_some] <;> rfl) | (simp only [← hji36, ← hji37]; first | rfl | (simp [errW_none, errW_some] <;> rfl)) | (simp [*, errW_none, errW_some] <;> rfl), by repeat (first | (with_reducible first | exact HB.out | apply below_alloc | apply pw_below_drewN | apply below_drew1) | exact HB.out)⟩
                        · rw [if_neg c38] at H
                          have c38b0 : decide ((ji36) < (ji37)) = false := decide_eq_false c38
                          clear c38
                          by_cases c39 : t197 = (-9223372036854775808)
                          · rw [if_pos c39] at H
                            have c39b0 : (t197 == (-9223372036854775808)) = true := beq_iff_eq.mpr c39
                            have c39b1 : (t197 != (-9223372036854775808)) = false := bne_eq_false_iff_eq.mpr c39
                            clear c39
                            obtain rfl := Option.some.inj H
                            go_wp2
                            go_ret
                            exact ⟨by first | rfl | (simp [errW_none, errW_some] <;> rfl) | (simp only [← hji36, ← hji37]; first | rfl | (simp [errW_none, errW_some] <;> rfl)) | (simp [*, errW_none, errW_some] <;> rfl), by repeat (first | (with_reducible first | exact HB.out | apply below_alloc | apply pw_below_drewN | apply below_drew1) | exact HB.out)⟩
                          · rw [if_neg c39] at H
                            have c39b0 : (t197 == (-9223372036854775808)) = false := beq_eq_false_iff_ne.mpr c39
                            have c39b1 : (t197 != (-9223372036854775808)) = true := bne_iff_ne.mpr c39
                            obtain rfl := Option.some.inj H
                            go_wp2
                            go_ret
                            exact ⟨by first | rfl | (simp [errW_none, errW_some] <;> rfl) | (simp only [← hji36, ← hji37]; first | rfl | (simp [errW_none, errW_some] <;> rfl)) | (simp [*, errW_none, errW_some] <;> rfl), by repeat (first | (with_reducible first | exact HB.out | apply below_alloc | apply pw_below_drewN | apply below_drew1) | exact HB.out)⟩
                      · rw [if_neg c35] at H
                        have c35b0 : ((decide (t208 < 0)) == (decide (t194 < 0))) = false := by simpa using c35
                        (try (have c35b1 : decide ((decide (t208 < 0)) = (decide (t194 < 0))) = false := by simpa using c35))
                        (try (have c35b2 : ((decide (t208 < 0)) == (decide (t194 < 0))) = false := by simpa using c35))
                        (try (have c35b3 : ¬ ((decide (t208 < 0)) = (decide (t194 < 0))) := by simpa using c35))
                        clear c35
                        by_cases c40 : t197 = (-9223372036854775808)
                        · rw [if_pos c40] at H
                          have c40b0 : (t197 == (-9223372036854775808)) = true := beq_iff_eq.mpr c40
                          have c40b1 : (t197 != (-9223372036854775808)) = false := bne_eq_false_iff_eq.mpr c40
                          clear c40
                          obtain rfl := Option.some.inj H
                          go_wp2
                          go_ret
                          exact ⟨by first | rfl | (simp [errW_none, errW_some] <;> rfl) | (simp [*, errW_none, errW_some] <;> rfl), by repeat (first | (with_reducible first | exact HB.out | apply below_alloc | apply pw_below_drewN | apply below_drew1) | exact HB.out)⟩
                        · rw [if_neg c40] at H
                          have c40b0 : (t197 == (-9223372036854775808)) = false := beq_eq_false_iff_ne.mpr c40
                          have c40b1 : (t197 != (-9223372036854775808)) = true := bne_iff_ne.mpr c40
                          obtain rfl := Option.some.inj H
                          go_wp2
                          go_ret
                          exact ⟨by first | rfl | (simp [errW_none, errW_some] <;> rfl) | (simp [*, errW_none, errW_some] <;> rfl), by repeat (first | (with_reducible first | exact HB.out | apply below_alloc | apply pw_below_drewN | apply below_drew1) | exact HB.out)⟩
                  · rw [if_neg c29] at H
                    have c29b0 : ((wrap64 ((wrap64 (t207 * t197)) + t208)) == t194) = false := beq_eq_false_iff_ne.mpr c29
                    have c29b1 : ((wrap64 ((wrap64 (t207 * t197)) + t208)) != t194) = true := bne_iff_ne.mpr c29
                    by_cases c41 : t197 = (-9223372036854775808)
                    · rw [if_pos c41] at H
                      have c41b0 : (t197 == (-9223372036854775808)) = true := beq_iff_eq.mpr c41
                      have c41b1 : (t197 != (-9223372036854775808)) = false := bne_eq_false_iff_eq.mpr c41
                      clear c41
                      obtain rfl := Option.some.inj H
                      go_wp2
                      go_ret
                      exact ⟨by first | rfl | (simp [errW_none, errW_some] <;> rfl) | (simp [*, errW_none, errW_some] <;> rfl), by repeat (first | (with_reducible first | exact HB.out | apply below_alloc | apply pw_below_drewN | apply below_drew1) | exact HB.out)⟩
                    · rw [if_neg c41] at H
                      have c41b0 : (t197 == (-9223372036854775808)) = false := beq_eq_false_iff_ne.mpr c41
                      have c41b1 : (t197 != (-9223372036854775808)) = true := bne_iff_ne.mpr c41
                      obtain rfl := Option.some.inj H
                      go_wp2
                      go_ret
                      exact ⟨by first | rfl | (simp [errW_none, errW_some] <;> rfl) | (simp [*, errW_none, errW_some] <;> rfl), by repeat (first | (with_reducible first | exact HB.out | apply below_alloc | apply pw_below_drewN | apply below_drew1) | exact HB.out)⟩
                · rw [if_neg c28] at H
                  have c28b0 : (t209 == 0) = false := beq_eq_false_iff_ne.mpr c28
                  have c28b1 : (t209 != 0) = true := bne_iff_ne.mpr c28
                  by_cases c42 : t209 = 4
                  · rw [if_pos c42] at H
                    have c42b0 : (t209 == 4) = true := beq_iff_eq.mpr c42
                    have c42b1 : (t209 != 4) = false := bne_eq_false_iff_eq.mpr c42
                    clear c42
                    obtain rfl := Option.some.inj H
                    go_wp2
                    go_ret
                    exact ⟨by first | rfl | (simp [errW_none, errW_some] <;> rfl) | (simp [*, errW_none, errW_some] <;> rfl), by repeat (first | (with_reducible first | exact HB.out | apply below_alloc | apply pw_below_drewN | apply below_drew1) | exact HB.out)⟩
                  · rw [if_neg c42] at H
                    have c42b0 : (t209 == 4) = false := beq_eq_false_iff_ne.mpr c42
                    have c42b1 : (t209 != 4) = true := bne_iff_ne.mpr c42
                    obtain rfl := Option.some.inj H
                    go_wp2
                    go_ret
                    exact ⟨by first | rfl | (simp [errW_none, errW_some] <;> rfl) | (simp [*, errW_none, errW_some] <;> rfl), by repeat (first | (with_reducible first | exact HB.out | apply below_alloc | apply pw_below_drewN | apply below_drew1) | exact HB.out)⟩

/-- THE ONE PURE STATEMENT of laws_FnArith: yours. -/
def laws_FnArith.Pure : Prop := ∀ (l0 : List Int) (l1 : List Int), l0.length ≤ maxLen → l0.length * 1 ≤ 140737488351232 → (∀ x ∈ l0, (Lit.int .u8 x).wf = true) → l1.length ≤ maxLen → l1.length * 1 ≤ 140737488351232 → (∀ x ∈ l1, (Lit.int .u8 x).wf = true) → ∃ k, laws_FnArith.f k l0 l1 = some true
theorem laws_FnArith.walk (P : laws_FnArith.Pure) (a0 : Option Addr) (len0 cap0 : Nat) (z0 : List Int) (a1 : Option Addr) (len1 cap1 : Nat) (z1 : List Int) (w : World) (w0 : (a0 = none ∧ len0 = 0 ∧ cap0 = 0 ∧ z0 = []) ∨ ∃ x, a0 = some x ∧ len0 ≤ cap0 ∧ cap0 ≤ maxLen ∧ z0.length = cap0 ∧ (∀ i, i < z0.length → w.cell? (x.add i) = some (.int .u8 (z0.getD i 0))) ∧ ∀ n ∈ z0, (Lit.int .u8 n).wf = true) (y0 : len0 * 1 ≤ 140737488351232) (w1 : (a1 = none ∧ len1 = 0 ∧ cap1 = 0 ∧ z1 = []) ∨ ∃ x, a1 = some x ∧ len1 ≤ cap1 ∧ cap1 ≤ maxLen ∧ z1.length = cap1 ∧ (∀ i, i < z1.length → w.cell? (x.add i) = some (.int .u8 (z1.getD i 0))) ∧ ∀ n ∈ z1, (Lit.int .u8 n).wf = true) (y1 : len1 * 1 ≤ 140737488351232) :
    Calls Try.prog 6 #[.slice a0 len0 cap0, .slice a1 len1 cap1] w fun e w' => e = .returned (.bool true) ∧ Below w.heap.size w w' := by
  obtain ⟨l0, rfl, hr0, hm0, hw0, hc0⟩ := ReadsInt.ofRowC w0
  obtain ⟨l1, rfl, hr1, hm1, hw1, hc1⟩ := ReadsInt.ofRowC w1
  obtain ⟨k, h⟩ := P l0 l1 hm0 y0 hw0 hm1 y1 hw1
  refine (laws_FnArith.calls k _ _ l0 _ _ l1 true w (Kd.C_of_reads (d := (0 : Int)) (h1 := fun _ => rfl) hr0) hc0 (Kd.C_of_reads (d := (0 : Int)) (h1 := fun _ => rfl) hr1) hc1 h).mono ?_
  rintro e w' ⟨rfl, hd⟩
  exact ⟨rfl, hd⟩

end Go.Proofs.Ytgjglmhjgfgnlaa.X
end

section
-- WRITTEN BY xprint.py, a program of this session, over the translation of the seat. Lean checks it.
namespace Go.Proofs.Ytgjglmhjgfgnlaa.X
open Go.RowKit Go.Proofs.YtgjglmhjgfgnlaaW.PrintWords Go.Proofs.YtgjglmhjgfgnlaaW.PrintLast Go.Proofs.YtgjglmhjgfgnlaaW.PrintMore
attribute [local go_sem] max2_int min2_int max_two min_two max_three min_three max_four min_four   -- for this text's walks alone
set_option linter.unusedVariables false
set_option linter.unusedSimpArgs false

/-- THE ONE PURE STATEMENT of laws_FnArith. -/
def laws_FnArith.Need : Prop := ∀ (l0 : List Int) (l1 : List Int), (l0.length ≤ maxLen ∧ ∀ x0_ ∈ l0, (Lit.int .u8 x0_).wf = true) → (l1.length ≤ maxLen ∧ ∀ x0_ ∈ l1, (Lit.int .u8 x0_).wf = true) → ∃ k, laws_FnArith.f k l0 l1 = some true
end Go.Proofs.Ytgjglmhjgfgnlaa.X
end

section
/- Small facts on numbers and texts. -/
namespace Go.Proofs.Ytgjglmhjgfgnlaa.Pure
open Go.RowKit Go.Proofs.Ytgjglmhjgfgnlaa.X Go.Proofs.YtgjglmhjgfgnlaaW.PrintWords Go.Proofs.YtgjglmhjgfgnlaaW.PrintLast
set_option linter.unusedVariables false
set_option linter.unusedSimpArgs false
theorem wrap_in (a : Int) (ha : -9223372036854775808 ≤ a ∧ a ≤ 9223372036854775807) : wrap64 a = a := by unfold wrap64; omega
theorem wrap_range (a : Int) : -9223372036854775808 ≤ wrap64 a ∧ wrap64 a ≤ 9223372036854775807 := by unfold wrap64; omega
theorem i64_of {n : Int} (h : (Lit.int .i64 n).wf = true) : -9223372036854775808 ≤ n ∧ n ≤ 9223372036854775807 := bounds_i64 h
theorem u8_of {n : Int} (h : (Lit.int .u8 n).wf = true) : 0 ≤ n ∧ n ≤ 255 := bounds_u8 h
theorem toList_eq (s : ByteArray) : s.toList = s.data.toList := ByteArray.toList_eq s
theorem toList_inj {s t : ByteArray} (h : s.toList = t.toList) : s = t := by
  rw [toList_eq, toList_eq] at h
  have := Array.ext' h
  cases s; cases t; simp_all
theorem toList_iff {s t : ByteArray} : s.toList = t.toList ↔ s = t := ⟨toList_inj, fun h => by rw [h]⟩
theorem toList_mk (l : List UInt8) : (⟨⟨l⟩⟩ : ByteArray).toList = l := by rw [toList_eq]
theorem length_toList (s : ByteArray) : s.toList.length = s.size := by rw [toList_eq]; rfl
theorem empty_iff {s : ByteArray} : s.toList = [] ↔ s = (⟨#[]⟩ : ByteArray) := by
  rw [← toList_iff, show (⟨#[]⟩ : ByteArray).toList = [] from toList_mk []]
end Go.Proofs.Ytgjglmhjgfgnlaa.Pure
end

section
-- WRITTEN BY xprint.py, a program of this session, over the translation of the seat. Lean checks it.
namespace Go.Proofs.Ytgjglmhjgfgnlaa.X
open Go.RowKit Go.Proofs.YtgjglmhjgfgnlaaW.PrintWords Go.Proofs.YtgjglmhjgfgnlaaW.PrintLast Go.Proofs.YtgjglmhjgfgnlaaW.PrintMore
attribute [local go_sem] max2_int min2_int max_two min_two max_three min_three max_four min_four   -- for this text's walks alone
set_option linter.unusedVariables false
set_option linter.unusedSimpArgs false

/-! ### spec_l01In: function 69 -/
def spec_l01In.f (a0 : Int) (a1 : Int) (a2 : Int) : Option (Bool) := if a0 ≥ a1 then (some (decide (a0 ≤ a2))) else (some false)
set_option maxHeartbeats 8000000 in
set_option maxRecDepth 100000 in
theorem spec_l01In.calls (a0 : Int) (a1 : Int) (a2 : Int) (r : Bool) (w : World) (h : spec_l01In.f a0 a1 a2 = some r) :
    Calls Try.prog 69 #[.int .i64 a0, .int .i64 a1, .int .i64 a2] w fun e w' => e = .returned (.bool r) ∧ Drawn0 w w' := by
  have H : (if a0 ≥ a1 then (some (decide (a0 ≤ a2))) else (some false)) = some r := h
  clear h
  by_cases c4 : a0 ≥ a1
  · rw [if_pos c4] at H
    have c4b0 : decide (a1 ≤ a0) = true := decide_eq_true c4
    clear c4
    obtain rfl := Option.some.inj H
    go_enter Try.func69, Try.ntmps69
    go_wp2
    go_ret
    exact ⟨by first | rfl | (simp; done) | (simp [*]; done), by repeat (first | exact Drawn0.refl _ | apply Drawn0.step)⟩
  · rw [if_neg c4] at H
    have c4b0 : decide (a1 ≤ a0) = false := decide_eq_false c4
    clear c4
    obtain rfl := Option.some.inj H
    go_enter Try.func69, Try.ntmps69
    go_wp2
    go_ret
    exact ⟨by first | rfl | (simp; done) | (simp [*]; done), by repeat (first | exact Drawn0.refl _ | apply Drawn0.step)⟩

end Go.Proofs.Ytgjglmhjgfgnlaa.X
end

section
-- WRITTEN BY xprint.py, a program of this session, over the translation of the seat. Lean checks it.
namespace Go.Proofs.Ytgjglmhjgfgnlaa.X
open Go.RowKit Go.Proofs.YtgjglmhjgfgnlaaW.PrintWords Go.Proofs.YtgjglmhjgfgnlaaW.PrintLast Go.Proofs.YtgjglmhjgfgnlaaW.PrintMore
attribute [local go_sem] max2_int min2_int max_two min_two max_three min_three max_four min_four   -- for this text's walks alone
set_option linter.unusedVariables false
set_option linter.unusedSimpArgs false

/-! ### spec_ValueOK: function 42 -/
def spec_ValueOK.f (a0_0 : Int) (a0_1 : Int) (a0_2 : ByteArray) : Option (Bool) := if a0_0 = 0 then (if a0_1 = 0 then (some (a0_2.toList == ([] : List UInt8))) else (some false)) else (if a0_0 = 1 then ((spec_l01In.f a0_1 0 1).bind fun t212 => (if t212 = true then (some (a0_2.toList == ([] : List UInt8))) else (some false))) else (if a0_0 = 2 then (some (a0_2.toList == ([] : List UInt8))) else (if a0_0 = 3 then (if a0_1 = 0 then (some (decide ((a0_2.size : Int) ≤ 60))) else (some false)) else (if a0_0 = 4 then (if a0_1 = 0 then (some (decide ((a0_2.size : Int) ≤ 60))) else (some false)) else (some false)))))
set_option maxHeartbeats 8000000 in
set_option maxRecDepth 100000 in
theorem spec_ValueOK.calls (a0_0 : Int) (a0_1 : Int) (a0_2 : ByteArray) (r : Bool) (w : World) (h : spec_ValueOK.f a0_0 a0_1 a0_2 = some r) :
    Calls Try.prog 42 #[.agg #[.int .i64 a0_0, .int .i64 a0_1, .string a0_2]] w fun e w' => e = .returned (.bool r) ∧ Below w.heap.size w w' := by
  have hu29 := Try.underlying29
  have HB := Aside0.mk (Below.refl w.heap.size w)
  have H : (if a0_0 = 0 then (if a0_1 = 0 then (some (a0_2.toList == ([] : List UInt8))) else (some false)) else (if a0_0 = 1 then ((spec_l01In.f a0_1 0 1).bind fun t212 => (if t212 = true then (some (a0_2.toList == ([] : List UInt8))) else (some false))) else (if a0_0 = 2 then (some (a0_2.toList == ([] : List UInt8))) else (if a0_0 = 3 then (if a0_1 = 0 then (some (decide ((a0_2.size : Int) ≤ 60))) else (some false)) else (if a0_0 = 4 then (if a0_1 = 0 then (some (decide ((a0_2.size : Int) ≤ 60))) else (some false)) else (some false)))))) = some r := h
  clear h
  by_cases c2 : a0_0 = 0
  · rw [if_pos c2] at H
    have c2b0 : (a0_0 == 0) = true := beq_iff_eq.mpr c2
    have c2b1 : (a0_0 != 0) = false := bne_eq_false_iff_eq.mpr c2
    clear c2
    by_cases c3 : a0_1 = 0
    · rw [if_pos c3] at H
      have c3b0 : (a0_1 == 0) = true := beq_iff_eq.mpr c3
      have c3b1 : (a0_1 != 0) = false := bne_eq_false_iff_eq.mpr c3
      clear c3
      obtain rfl := Option.some.inj H
      go_enter Try.func42, Try.ntmps42
      go_wp2_with (first | ((with_reducible refine gate_dst (N := 1) rfl ?_); (try (refine gate_guard (by rfl) ?_; dsimp only)); refine box_event ?hg (N := 1) ?hd (cs := #[.int .i64 a0_0, .int .i64 a0_1, .string a0_2]) (t := 29) ?hr ?_; (case hd => rfl); (case hg => rfl); (case hr => first | (go_simp; done) | (go_simp; rfl)); intro gb211 hg w4 hbox hb; have n0_ := Aside0.mk (below_step (by repeat (first | (with_reducible first | exact HB.out | apply below_alloc | apply pw_below_drewN | apply below_drew1) | exact HB.out)) hb); have n1_ := Aside0.mk (hbox); have n2_ := Aside0.mk ((by rw [hg]; exact (below_size (by repeat (first | (with_reducible first | exact HB.out | apply below_alloc | apply pw_below_drewN | apply below_drew1) | exact HB.out))) : w.heap.size ≤ gb211)); have n3_ := Aside0.mk ((by rw [hg]; exact (below_size (by repeat (first | (with_reducible first | exact HB.out | apply below_alloc | apply pw_below_drewN | apply below_drew1) | exact HB.out))) : w.heap.size ≤ gb211)); clear HB; have HB := n0_; have BK211 := n1_; have GW211 := n2_; have GE211 := n3_; clear n0_ n1_ n2_ n3_; clear hb hbox hg; have hcz5_0 : w4.cell? ⟨gb211, 0, none⟩ = some (.int .i64 a0_0) := (blk_cell BK211.out 0).trans rfl; have hcz5_1 : w4.cell? ⟨gb211, 1, none⟩ = some (.int .i64 a0_1) := (blk_cell BK211.out 1).trans rfl; have hcz5_2 : w4.cell? ⟨gb211, 2, none⟩ = some (.string a0_2) := (blk_cell BK211.out 2).trans rfl; have hfz5_0 := blk_frozen BK211.out 0; have hfz5_1 := blk_frozen BK211.out 1; have hfz5_2 := blk_frozen BK211.out 2))
      go_ret
      exact ⟨by first | rfl | (simp [errW_none, errW_some] <;> rfl) | (simp [*, errW_none, errW_some] <;> rfl), by repeat (first | (with_reducible first | exact HB.out | apply below_alloc | apply pw_below_drewN | apply below_drew1 | refine below_set ?_ GE211.out) | exact HB.out)⟩
    · rw [if_neg c3] at H
      have c3b0 : (a0_1 == 0) = false := beq_eq_false_iff_ne.mpr c3
      have c3b1 : (a0_1 != 0) = true := bne_iff_ne.mpr c3
      obtain rfl := Option.some.inj H
      go_enter Try.func42, Try.ntmps42
      go_wp2_with (first | ((with_reducible refine gate_dst (N := 1) rfl ?_); (try (refine gate_guard (by rfl) ?_; dsimp only)); refine box_event ?hg (N := 1) ?hd (cs := #[.int .i64 a0_0, .int .i64 a0_1, .string a0_2]) (t := 29) ?hr ?_; (case hd => rfl); (case hg => rfl); (case hr => first | (go_simp; done) | (go_simp; rfl)); intro gb211 hg w6 hbox hb; have n0_ := Aside0.mk (below_step (by repeat (first | (with_reducible first | exact HB.out | apply below_alloc | apply pw_below_drewN | apply below_drew1) | exact HB.out)) hb); have n1_ := Aside0.mk (hbox); have n2_ := Aside0.mk ((by rw [hg]; exact (below_size (by repeat (first | (with_reducible first | exact HB.out | apply below_alloc | apply pw_below_drewN | apply below_drew1) | exact HB.out))) : w.heap.size ≤ gb211)); have n3_ := Aside0.mk ((by rw [hg]; exact (below_size (by repeat (first | (with_reducible first | exact HB.out | apply below_alloc | apply pw_below_drewN | apply below_drew1) | exact HB.out))) : w.heap.size ≤ gb211)); clear HB; have HB := n0_; have BK211 := n1_; have GW211 := n2_; have GE211 := n3_; clear n0_ n1_ n2_ n3_; clear hb hbox hg; have hcz7_0 : w6.cell? ⟨gb211, 0, none⟩ = some (.int .i64 a0_0) := (blk_cell BK211.out 0).trans rfl; have hcz7_1 : w6.cell? ⟨gb211, 1, none⟩ = some (.int .i64 a0_1) := (blk_cell BK211.out 1).trans rfl; have hcz7_2 : w6.cell? ⟨gb211, 2, none⟩ = some (.string a0_2) := (blk_cell BK211.out 2).trans rfl; have hfz7_0 := blk_frozen BK211.out 0; have hfz7_1 := blk_frozen BK211.out 1; have hfz7_2 := blk_frozen BK211.out 2))
      go_ret
      exact ⟨by first | rfl | (simp [errW_none, errW_some] <;> rfl) | (simp [*, errW_none, errW_some] <;> rfl), by repeat (first | (with_reducible first | exact HB.out | apply below_alloc | apply pw_below_drewN | apply below_drew1 | refine below_set ?_ GE211.out) | exact HB.out)⟩
  · rw [if_neg c2] at H
    have c2b0 : (a0_0 == 0) = false := beq_eq_false_iff_ne.mpr c2
    have c2b1 : (a0_0 != 0) = true := bne_iff_ne.mpr c2
    by_cases c8 : a0_0 = 1
    · rw [if_pos c8] at H
      have c8b0 : (a0_0 == 1) = true := beq_iff_eq.mpr c8
      have c8b1 : (a0_0 != 1) = false := bne_eq_false_iff_eq.mpr c8
      clear c8
      replace H := Option.bind_eq_some_iff.mp H
      obtain ⟨t212, A90, H⟩ := H
      replace H : (if t212 = true then (some (a0_2.toList == ([] : List UInt8))) else (some false)) = some r := H
      have A9 := Aside0.mk A90
      clear A90
      by_cases c10 : t212 = true
      · subst c10
        have H1 : (some (a0_2.toList == ([] : List UInt8))) = some r := by rw [if_pos rfl] at H; exact H
        clear H
        have H := H1
        clear H1
        obtain rfl := Option.some.inj H
        go_enter Try.func42, Try.ntmps42
        go_wp2_with (first | ((with_reducible refine gate_dst (N := 1) rfl ?_); (try (refine gate_guard (by rfl) ?_; dsimp only)); refine box_event ?hg (N := 1) ?hd (cs := #[.int .i64 a0_0, .int .i64 a0_1, .string a0_2]) (t := 29) ?hr ?_; (case hd => rfl); (case hg => rfl); (case hr => first | (go_simp; done) | (go_simp; rfl)); intro gb211 hg w11 hbox hb; have n0_ := Aside0.mk (below_step (by repeat (first | (with_reducible first | exact HB.out | apply below_alloc | apply pw_below_drewN | apply below_drew1) | exact HB.out)) hb); have n1_ := Aside0.mk (hbox); have n2_ := Aside0.mk ((by rw [hg]; exact (below_size (by repeat (first | (with_reducible first | exact HB.out | apply below_alloc | apply pw_below_drewN | apply below_drew1) | exact HB.out))) : w.heap.size ≤ gb211)); have n3_ := Aside0.mk ((by rw [hg]; exact (below_size (by repeat (first | (with_reducible first | exact HB.out | apply below_alloc | apply pw_below_drewN | apply below_drew1) | exact HB.out))) : w.heap.size ≤ gb211)); clear HB; have HB := n0_; have BK211 := n1_; have GW211 := n2_; have GE211 := n3_; clear n0_ n1_ n2_ n3_; clear hb hbox hg; have hcz12_0 : w11.cell? ⟨gb211, 0, none⟩ = some (.int .i64 a0_0) := (blk_cell BK211.out 0).trans rfl; have hcz12_1 : w11.cell? ⟨gb211, 1, none⟩ = some (.int .i64 a0_1) := (blk_cell BK211.out 1).trans rfl; have hcz12_2 : w11.cell? ⟨gb211, 2, none⟩ = some (.string a0_2) := (blk_cell BK211.out 2).trans rfl; have hfz12_0 := blk_frozen BK211.out 0; have hfz12_1 := blk_frozen BK211.out 1; have hfz12_2 := blk_frozen BK211.out 2) | ((with_reducible refine gate_callee (f := 69) rfl ?_); refine goesL_ (some 19) rfl rfl Try.func69 (by kernel_rfl) rfl #[.int .i64 a0_1, .int .i64 0, .int .i64 1] rfl (by (try simp only [List.map_toArray, List.map_cons, List.map_nil]); first | done | rfl | (simp only [List.length_drop, List.length_take]; rfl)) ?_; (with_reducible refine (spec_l01In.calls a0_1 0 1 true _ A9.out).mono ?_); rintro e w' ⟨rfl, ⟨nd, rfl⟩⟩; refine ⟨_, rfl, ?_⟩))
        go_ret
        exact ⟨by first | rfl | (simp [errW_none, errW_some] <;> rfl) | (simp [*, errW_none, errW_some] <;> rfl), by repeat (first | (with_reducible first | exact HB.out | apply below_alloc | apply pw_below_drewN | apply below_drew1 | refine below_set ?_ GE211.out) | exact HB.out)⟩
      · replace c10 := Bool.eq_false_iff.mpr c10
        subst c10
        have H1 : (some false) = some r := by rw [if_neg (show ¬ (false = true) by decide)] at H; exact H
        clear H
        have H := H1
        clear H1
        obtain rfl := Option.some.inj H
        go_enter Try.func42, Try.ntmps42
        go_wp2_with (first | ((with_reducible refine gate_dst (N := 1) rfl ?_); (try (refine gate_guard (by rfl) ?_; dsimp only)); refine box_event ?hg (N := 1) ?hd (cs := #[.int .i64 a0_0, .int .i64 a0_1, .string a0_2]) (t := 29) ?hr ?_; (case hd => rfl); (case hg => rfl); (case hr => first | (go_simp; done) | (go_simp; rfl)); intro gb211 hg w13 hbox hb; have n0_ := Aside0.mk (below_step (by repeat (first | (with_reducible first | exact HB.out | apply below_alloc | apply pw_below_drewN | apply below_drew1) | exact HB.out)) hb); have n1_ := Aside0.mk (hbox); have n2_ := Aside0.mk ((by rw [hg]; exact (below_size (by repeat (first | (with_reducible first | exact HB.out | apply below_alloc | apply pw_below_drewN | apply below_drew1) | exact HB.out))) : w.heap.size ≤ gb211)); have n3_ := Aside0.mk ((by rw [hg]; exact (below_size (by repeat (first | (with_reducible first | exact HB.out | apply below_alloc | apply pw_below_drewN | apply below_drew1) | exact HB.out))) : w.heap.size ≤ gb211)); clear HB; have HB := n0_; have BK211 := n1_; have GW211 := n2_; have GE211 := n3_; clear n0_ n1_ n2_ n3_; clear hb hbox hg; have hcz14_0 : w13.cell? ⟨gb211, 0, none⟩ = some (.int .i64 a0_0) := (blk_cell BK211.out 0).trans rfl; have hcz14_1 : w13.cell? ⟨gb211, 1, none⟩ = some (.int .i64 a0_1) := (blk_cell BK211.out 1).trans rfl; have hcz14_2 : w13.cell? ⟨gb211, 2, none⟩ = some (.string a0_2) := (blk_cell BK211.out 2).trans rfl; have hfz14_0 := blk_frozen BK211.out 0; have hfz14_1 := blk_frozen BK211.out 1; have hfz14_2 := blk_frozen BK211.out 2) | ((with_reducible refine gate_callee (f := 69) rfl ?_); refine goesL_ (some 19) rfl rfl Try.func69 (by kernel_rfl) rfl #[.int .i64 a0_1, .int .i64 0, .int .i64 1] rfl (by (try simp only [List.map_toArray, List.map_cons, List.map_nil]); first | done | rfl | (simp only [List.length_drop, List.length_take]; rfl)) ?_; (with_reducible refine (spec_l01In.calls a0_1 0 1 false _ A9.out).mono ?_); rintro e w' ⟨rfl, ⟨nd, rfl⟩⟩; refine ⟨_, rfl, ?_⟩))
        go_ret
        exact ⟨by first | rfl | (simp [errW_none, errW_some] <;> rfl) | (simp [*, errW_none, errW_some] <;> rfl), by repeat (first | (with_reducible first | exact HB.out | apply below_alloc | apply pw_below_drewN | apply below_drew1 | refine below_set ?_ GE211.out) | exact HB.out)⟩
    · rw [if_neg c8] at H
      have c8b0 : (a0_0 == 1) = false := beq_eq_false_iff_ne.mpr c8
      have c8b1 : (a0_0 != 1) = true := bne_iff_ne.mpr c8
      by_cases c15 : a0_0 = 2
      · rw [if_pos c15] at H
        have c15b0 : (a0_0 == 2) = true := beq_iff_eq.mpr c15
        have c15b1 : (a0_0 != 2) = false := bne_eq_false_iff_eq.mpr c15
        clear c15
        obtain rfl := Option.some.inj H
        go_enter Try.func42, Try.ntmps42
        go_wp2_with (first | ((with_reducible refine gate_dst (N := 1) rfl ?_); (try (refine gate_guard (by rfl) ?_; dsimp only)); refine box_event ?hg (N := 1) ?hd (cs := #[.int .i64 a0_0, .int .i64 a0_1, .string a0_2]) (t := 29) ?hr ?_; (case hd => rfl); (case hg => rfl); (case hr => first | (go_simp; done) | (go_simp; rfl)); intro gb211 hg w16 hbox hb; have n0_ := Aside0.mk (below_step (by repeat (first | (with_reducible first | exact HB.out | apply below_alloc | apply pw_below_drewN | apply below_drew1) | exact HB.out)) hb); have n1_ := Aside0.mk (hbox); have n2_ := Aside0.mk ((by rw [hg]; exact (below_size (by repeat (first | (with_reducible first | exact HB.out | apply below_alloc | apply pw_below_drewN | apply below_drew1) | exact HB.out))) : w.heap.size ≤ gb211)); have n3_ := Aside0.mk ((by rw [hg]; exact (below_size (by repeat (first | (with_reducible first | exact HB.out | apply below_alloc | apply pw_below_drewN | apply below_drew1) | exact HB.out))) : w.heap.size ≤ gb211)); clear HB; have HB := n0_; have BK211 := n1_; have GW211 := n2_; have GE211 := n3_; clear n0_ n1_ n2_ n3_; clear hb hbox hg; have hcz17_0 : w16.cell? ⟨gb211, 0, none⟩ = some (.int .i64 a0_0) := (blk_cell BK211.out 0).trans rfl; have hcz17_1 : w16.cell? ⟨gb211, 1, none⟩ = some (.int .i64 a0_1) := (blk_cell BK211.out 1).trans rfl; have hcz17_2 : w16.cell? ⟨gb211, 2, none⟩ = some (.string a0_2) := (blk_cell BK211.out 2).trans rfl; have hfz17_0 := blk_frozen BK211.out 0; have hfz17_1 := blk_frozen BK211.out 1; have hfz17_2 := blk_frozen BK211.out 2))
        go_ret
        exact ⟨by first | rfl | (simp [errW_none, errW_some] <;> rfl) | (simp [*, errW_none, errW_some] <;> rfl), by repeat (first | (with_reducible first | exact HB.out | apply below_alloc | apply pw_below_drewN | apply below_drew1 | refine below_set ?_ GE211.out) | exact HB.out)⟩
      · rw [if_neg c15] at H
        have c15b0 : (a0_0 == 2) = false := beq_eq_false_iff_ne.mpr c15
        have c15b1 : (a0_0 != 2) = true := bne_iff_ne.mpr c15
        by_cases c18 : a0_0 = 3
        · rw [if_pos c18] at H
          have c18b0 : (a0_0 == 3) = true := beq_iff_eq.mpr c18
          have c18b1 : (a0_0 != 3) = false := bne_eq_false_iff_eq.mpr c18
          clear c18
          by_cases c19 : a0_1 = 0
          · rw [if_pos c19] at H
            have c19b0 : (a0_1 == 0) = true := beq_iff_eq.mpr c19
            have c19b1 : (a0_1 != 0) = false := bne_eq_false_iff_eq.mpr c19
            clear c19
            obtain rfl := Option.some.inj H
            go_enter Try.func42, Try.ntmps42
            go_wp2_with (first | ((with_reducible refine gate_dst (N := 1) rfl ?_); (try (refine gate_guard (by rfl) ?_; dsimp only)); refine box_event ?hg (N := 1) ?hd (cs := #[.int .i64 a0_0, .int .i64 a0_1, .string a0_2]) (t := 29) ?hr ?_; (case hd => rfl); (case hg => rfl); (case hr => first | (go_simp; done) | (go_simp; rfl)); intro gb211 hg w20 hbox hb; have n0_ := Aside0.mk (below_step (by repeat (first | (with_reducible first | exact HB.out | apply below_alloc | apply pw_below_drewN | apply below_drew1) | exact HB.out)) hb); have n1_ := Aside0.mk (hbox); have n2_ := Aside0.mk ((by rw [hg]; exact (below_size (by repeat (first | (with_reducible first | exact HB.out | apply below_alloc | apply pw_below_drewN | apply below_drew1) | exact HB.out))) : w.heap.size ≤ gb211)); have n3_ := Aside0.mk ((by rw [hg]; exact (below_size (by repeat (first | (with_reducible first | exact HB.out | apply below_alloc | apply pw_below_drewN | apply below_drew1) | exact HB.out))) : w.heap.size ≤ gb211)); clear HB; have HB := n0_; have BK211 := n1_; have GW211 := n2_; have GE211 := n3_; clear n0_ n1_ n2_ n3_; clear hb hbox hg; have hcz21_0 : w20.cell? ⟨gb211, 0, none⟩ = some (.int .i64 a0_0) := (blk_cell BK211.out 0).trans rfl; have hcz21_1 : w20.cell? ⟨gb211, 1, none⟩ = some (.int .i64 a0_1) := (blk_cell BK211.out 1).trans rfl; have hcz21_2 : w20.cell? ⟨gb211, 2, none⟩ = some (.string a0_2) := (blk_cell BK211.out 2).trans rfl; have hfz21_0 := blk_frozen BK211.out 0; have hfz21_1 := blk_frozen BK211.out 1; have hfz21_2 := blk_frozen BK211.out 2))
            go_ret
            exact ⟨by first | rfl | (simp [errW_none, errW_some] <;> rfl) | (simp [*, errW_none, errW_some] <;> rfl), by repeat (first | (with_reducible first | exact HB.out | apply below_alloc | apply pw_below_drewN | apply below_drew1 | refine below_set ?_ GE211.out) | exact HB.out)⟩
          · rw [if_neg c19] at H
            have c19b0 : (a0_1 == 0) = false := beq_eq_false_iff_ne.mpr c19
            have c19b1 : (a0_1 != 0) = true := bne_iff_ne.mpr c19
            obtain rfl := Option.some.inj H
            go_enter Try.func42, Try.ntmps42
            go_wp2_with (first | ((with_reducible refine gate_dst (N := 1) rfl ?_); (try (refine gate_guard (by rfl) ?_; dsimp only)); refine box_event ?hg (N := 1) ?hd (cs := #[.int .i64 a0_0, .int .i64 a0_1, .string a0_2]) (t := 29) ?hr ?_; (case hd => rfl); (case hg => rfl); (case hr => first | (go_simp; done) | (go_simp; rfl)); intro gb211 hg w22 hbox hb; have n0_ := Aside0.mk (below_step (by repeat (first | (with_reducible first | exact HB.out | apply below_alloc | apply pw_below_drewN | apply below_drew1) | exact HB.out)) hb); have n1_ := Aside0.mk (hbox); have n2_ := Aside0.mk ((by rw [hg]; exact (below_size (by repeat (first | (with_reducible first | exact HB.out | apply below_alloc | apply pw_below_drewN | apply below_drew1) | exact HB.out))) : w.heap.size ≤ gb211)); have n3_ := Aside0.mk ((by rw [hg]; exact (below_size (by repeat (first | (with_reducible first | exact HB.out | apply below_alloc | apply pw_below_drewN | apply below_drew1) | exact HB.out))) : w.heap.size ≤ gb211)); clear HB; have HB := n0_; have BK211 := n1_; have GW211 := n2_; have GE211 := n3_; clear n0_ n1_ n2_ n3_; clear hb hbox hg; have hcz23_0 : w22.cell? ⟨gb211, 0, none⟩ = some (.int .i64 a0_0) := (blk_cell BK211.out 0).trans rfl; have hcz23_1 : w22.cell? ⟨gb211, 1, none⟩ = some (.int .i64 a0_1) := (blk_cell BK211.out 1).trans rfl; have hcz23_2 : w22.cell? ⟨gb211, 2, none⟩ = some (.string a0_2) := (blk_cell BK211.out 2).trans rfl; have hfz23_0 := blk_frozen BK211.out 0; have hfz23_1 := blk_frozen BK211.out 1; have hfz23_2 := blk_frozen BK211.out 2))
            go_ret
            exact ⟨by first | rfl | (simp [errW_none, errW_some] <;> rfl) | (simp [*, errW_none, errW_some] <;> rfl), by repeat (first | (with_reducible first | exact HB.out | apply below_alloc | apply pw_below_drewN | apply below_drew1 | refine below_set ?_ GE211.out) | exact HB.out)⟩
        · rw [if_neg c18] at H
          have c18b0 : (a0_0 == 3) = false := beq_eq_false_iff_ne.mpr c18
          have c18b1 : (a0_0 != 3) = true := bne_iff_ne.mpr c18
          by_cases c24 : a0_0 = 4
          · rw [if_pos c24] at H
            have c24b0 : (a0_0 == 4) = true := beq_iff_eq.mpr c24
            have c24b1 : (a0_0 != 4) = false := bne_eq_false_iff_eq.mpr c24
            clear c24
            by_cases c25 : a0_1 = 0
            · rw [if_pos c25] at H
              have c25b0 : (a0_1 == 0) = true := beq_iff_eq.mpr c25
              have c25b1 : (a0_1 != 0) = false := bne_eq_false_iff_eq.mpr c25
              clear c25
              obtain rfl := Option.some.inj H
              go_enter Try.func42, Try.ntmps42
              go_wp2_with (first | ((with_reducible refine gate_dst (N := 1) rfl ?_); (try (refine gate_guard (by rfl) ?_; dsimp only)); refine box_event ?hg (N := 1) ?hd (cs := #[.int .i64 a0_0, .int .i64 a0_1, .string a0_2]) (t := 29) ?hr ?_; (case hd => rfl); (case hg => rfl); (case hr => first | (go_simp; done) | (go_simp; rfl)); intro gb211 hg w26 hbox hb; have n0_ := Aside0.mk (below_step (by repeat (first | (with_reducible first | exact HB.out | apply below_alloc | apply pw_below_drewN | apply below_drew1) | exact HB.out)) hb); have n1_ := Aside0.mk (hbox); have n2_ := Aside0.mk ((by rw [hg]; exact (below_size (by repeat (first | (with_reducible first | exact HB.out | apply below_alloc | apply pw_below_drewN | apply below_drew1) | exact HB.out))) : w.heap.size ≤ gb211)); have n3_ := Aside0.mk ((by rw [hg]; exact (below_size (by repeat (first | (with_reducible first | exact HB.out | apply below_alloc | apply pw_below_drewN | apply below_drew1) | exact HB.out))) : w.heap.size ≤ gb211)); clear HB; have HB := n0_; have BK211 := n1_; have GW211 := n2_; have GE211 := n3_; clear n0_ n1_ n2_ n3_; clear hb hbox hg; have hcz27_0 : w26.cell? ⟨gb211, 0, none⟩ = some (.int .i64 a0_0) := (blk_cell BK211.out 0).trans rfl; have hcz27_1 : w26.cell? ⟨gb211, 1, none⟩ = some (.int .i64 a0_1) := (blk_cell BK211.out 1).trans rfl; have hcz27_2 : w26.cell? ⟨gb211, 2, none⟩ = some (.string a0_2) := (blk_cell BK211.out 2).trans rfl; have hfz27_0 := blk_frozen BK211.out 0; have hfz27_1 := blk_frozen BK211.out 1; have hfz27_2 := blk_frozen BK211.out 2))
              go_ret
              exact ⟨by first | rfl | (simp [errW_none, errW_some] <;> rfl) | (simp [*, errW_none, errW_some] <;> rfl), by repeat (first | (with_reducible first | exact HB.out | apply below_alloc | apply pw_below_drewN | apply below_drew1 | refine below_set ?_ GE211.out) | exact HB.out)⟩
            · rw [if_neg c25] at H
              have c25b0 : (a0_1 == 0) = false := beq_eq_false_iff_ne.mpr c25
              have c25b1 : (a0_1 != 0) = true := bne_iff_ne.mpr c25
              obtain rfl := Option.some.inj H
              go_enter Try.func42, Try.ntmps42
              go_wp2_with (first | ((with_reducible refine gate_dst (N := 1) rfl ?_); (try (refine gate_guard (by rfl) ?_; dsimp only)); refine box_event ?hg (N := 1) ?hd (cs := #[.int .i64 a0_0, .int .i64 a0_1, .string a0_2]) (t := 29) ?hr ?_; (case hd => rfl); (case hg => rfl); (case hr => first | (go_simp; done) | (go_simp; rfl)); intro gb211 hg w28 hbox hb; have n0_ := Aside0.mk (below_step (by repeat (first | (with_reducible first | exact HB.out | apply below_alloc | apply pw_below_drewN | apply below_drew1) | exact HB.out)) hb); have n1_ := Aside0.mk (hbox); have n2_ := Aside0.mk ((by rw [hg]; exact (below_size (by repeat (first | (with_reducible first | exact HB.out | apply below_alloc | apply pw_below_drewN | apply below_drew1) | exact HB.out))) : w.heap.size ≤ gb211)); have n3_ := Aside0.mk ((by rw [hg]; exact (below_size (by repeat (first | (with_reducible first | exact HB.out | apply below_alloc | apply pw_below_drewN | apply below_drew1) | exact HB.out))) : w.heap.size ≤ gb211)); clear HB; have HB := n0_; have BK211 := n1_; have GW211 := n2_; have GE211 := n3_; clear n0_ n1_ n2_ n3_; clear hb hbox hg; have hcz29_0 : w28.cell? ⟨gb211, 0, none⟩ = some (.int .i64 a0_0) := (blk_cell BK211.out 0).trans rfl; have hcz29_1 : w28.cell? ⟨gb211, 1, none⟩ = some (.int .i64 a0_1) := (blk_cell BK211.out 1).trans rfl; have hcz29_2 : w28.cell? ⟨gb211, 2, none⟩ = some (.string a0_2) := (blk_cell BK211.out 2).trans rfl; have hfz29_0 := blk_frozen BK211.out 0; have hfz29_1 := blk_frozen BK211.out 1; have hfz29_2 := blk_frozen BK211.out 2))
              go_ret
              exact ⟨by first | rfl | (simp [errW_none, errW_some] <;> rfl) | (simp [*, errW_none, errW_some] <;> rfl), by repeat (first | (with_reducible first | exact HB.out | apply below_alloc | apply pw_below_drewN | apply below_drew1 | refine below_set ?_ GE211.out) | exact HB.out)⟩
          · rw [if_neg c24] at H
            have c24b0 : (a0_0 == 4) = false := beq_eq_false_iff_ne.mpr c24
            have c24b1 : (a0_0 != 4) = true := bne_iff_ne.mpr c24
            obtain rfl := Option.some.inj H
            go_enter Try.func42, Try.ntmps42
            go_wp2_with (first | ((with_reducible refine gate_dst (N := 1) rfl ?_); (try (refine gate_guard (by rfl) ?_; dsimp only)); refine box_event ?hg (N := 1) ?hd (cs := #[.int .i64 a0_0, .int .i64 a0_1, .string a0_2]) (t := 29) ?hr ?_; (case hd => rfl); (case hg => rfl); (case hr => first | (go_simp; done) | (go_simp; rfl)); intro gb211 hg w30 hbox hb; have n0_ := Aside0.mk (below_step (by repeat (first | (with_reducible first | exact HB.out | apply below_alloc | apply pw_below_drewN | apply below_drew1) | exact HB.out)) hb); have n1_ := Aside0.mk (hbox); have n2_ := Aside0.mk ((by rw [hg]; exact (below_size (by repeat (first | (with_reducible first | exact HB.out | apply below_alloc | apply pw_below_drewN | apply below_drew1) | exact HB.out))) : w.heap.size ≤ gb211)); have n3_ := Aside0.mk ((by rw [hg]; exact (below_size (by repeat (first | (with_reducible first | exact HB.out | apply below_alloc | apply pw_below_drewN | apply below_drew1) | exact HB.out))) : w.heap.size ≤ gb211)); clear HB; have HB := n0_; have BK211 := n1_; have GW211 := n2_; have GE211 := n3_; clear n0_ n1_ n2_ n3_; clear hb hbox hg; have hcz31_0 : w30.cell? ⟨gb211, 0, none⟩ = some (.int .i64 a0_0) := (blk_cell BK211.out 0).trans rfl; have hcz31_1 : w30.cell? ⟨gb211, 1, none⟩ = some (.int .i64 a0_1) := (blk_cell BK211.out 1).trans rfl; have hcz31_2 : w30.cell? ⟨gb211, 2, none⟩ = some (.string a0_2) := (blk_cell BK211.out 2).trans rfl; have hfz31_0 := blk_frozen BK211.out 0; have hfz31_1 := blk_frozen BK211.out 1; have hfz31_2 := blk_frozen BK211.out 2))
            go_ret
            exact ⟨by first | rfl | (simp [errW_none, errW_some] <;> rfl) | (simp [*, errW_none, errW_some] <;> rfl), by repeat (first | (with_reducible first | exact HB.out | apply below_alloc | apply pw_below_drewN | apply below_drew1 | refine below_set ?_ GE211.out) | exact HB.out)⟩

end Go.Proofs.Ytgjglmhjgfgnlaa.X
end

section
-- WRITTEN BY xprint.py, a program of this session, over the translation of the seat. Lean checks it.
namespace Go.Proofs.Ytgjglmhjgfgnlaa.X
open Go.RowKit Go.Proofs.YtgjglmhjgfgnlaaW.PrintWords Go.Proofs.YtgjglmhjgfgnlaaW.PrintLast Go.Proofs.YtgjglmhjgfgnlaaW.PrintMore
attribute [local go_sem] max2_int min2_int max_two min_two max_three min_three max_four min_four   -- for this text's walks alone
set_option linter.unusedVariables false
set_option linter.unusedSimpArgs false

/-! ### impl_within: function 74 -/
def impl_within.f (a0 : Int) (a1 : Int) (a2 : Int) : Option (Bool) := if a0 ≥ a1 then (some (decide (a0 ≤ a2))) else (some false)
set_option maxHeartbeats 8000000 in
set_option maxRecDepth 100000 in
theorem impl_within.calls (a0 : Int) (a1 : Int) (a2 : Int) (r : Bool) (w : World) (h : impl_within.f a0 a1 a2 = some r) :
    Calls Try.prog 74 #[.int .i64 a0, .int .i64 a1, .int .i64 a2] w fun e w' => e = .returned (.bool r) ∧ Drawn0 w w' := by
  have H : (if a0 ≥ a1 then (some (decide (a0 ≤ a2))) else (some false)) = some r := h
  clear h
  by_cases c4 : a0 ≥ a1
  · rw [if_pos c4] at H
    have c4b0 : decide (a1 ≤ a0) = true := decide_eq_true c4
    clear c4
    obtain rfl := Option.some.inj H
    go_enter Try.func74, Try.ntmps74
    go_wp2
    go_ret
    exact ⟨by first | rfl | (simp; done) | (simp [*]; done), by repeat (first | exact Drawn0.refl _ | apply Drawn0.step)⟩
  · rw [if_neg c4] at H
    have c4b0 : decide (a1 ≤ a0) = false := decide_eq_false c4
    clear c4
    obtain rfl := Option.some.inj H
    go_enter Try.func74, Try.ntmps74
    go_wp2
    go_ret
    exact ⟨by first | rfl | (simp; done) | (simp [*]; done), by repeat (first | exact Drawn0.refl _ | apply Drawn0.step)⟩

end Go.Proofs.Ytgjglmhjgfgnlaa.X
end

section
-- WRITTEN BY xprint.py, a program of this session, over the translation of the seat. Lean checks it.
namespace Go.Proofs.Ytgjglmhjgfgnlaa.X
open Go.RowKit Go.Proofs.YtgjglmhjgfgnlaaW.PrintWords Go.Proofs.YtgjglmhjgfgnlaaW.PrintLast Go.Proofs.YtgjglmhjgfgnlaaW.PrintMore
attribute [local go_sem] max2_int min2_int max_two min_two max_three min_three max_four min_four   -- for this text's walks alone
set_option linter.unusedVariables false
set_option linter.unusedSimpArgs false

/-! ### impl_hasText: function 75 -/
def impl_hasText.f (a0 : Int) : Option (Bool) := if a0 = 3 then (some true) else (some (a0 == 4))
set_option maxHeartbeats 8000000 in
set_option maxRecDepth 100000 in
theorem impl_hasText.calls (a0 : Int) (r : Bool) (w : World) (h : impl_hasText.f a0 = some r) :
    Calls Try.prog 75 #[.int .i64 a0] w fun e w' => e = .returned (.bool r) ∧ Drawn0 w w' := by
  have H : (if a0 = 3 then (some true) else (some (a0 == 4))) = some r := h
  clear h
  by_cases c2 : a0 = 3
  · rw [if_pos c2] at H
    have c2b0 : (a0 == 3) = true := beq_iff_eq.mpr c2
    have c2b1 : (a0 != 3) = false := bne_eq_false_iff_eq.mpr c2
    clear c2
    obtain rfl := Option.some.inj H
    go_enter Try.func75, Try.ntmps75
    go_wp2
    go_ret
    exact ⟨by first | rfl | (simp; done) | (simp [*]; done), by repeat (first | exact Drawn0.refl _ | apply Drawn0.step)⟩
  · rw [if_neg c2] at H
    have c2b0 : (a0 == 3) = false := beq_eq_false_iff_ne.mpr c2
    have c2b1 : (a0 != 3) = true := bne_iff_ne.mpr c2
    obtain rfl := Option.some.inj H
    go_enter Try.func75, Try.ntmps75
    go_wp2
    go_ret
    exact ⟨by first | rfl | (simp; done) | (simp [*]; done), by repeat (first | exact Drawn0.refl _ | apply Drawn0.step)⟩

end Go.Proofs.Ytgjglmhjgfgnlaa.X
end

section
-- WRITTEN BY xprint.py, a program of this session, over the translation of the seat. Lean checks it.
namespace Go.Proofs.Ytgjglmhjgfgnlaa.X
open Go.RowKit Go.Proofs.YtgjglmhjgfgnlaaW.PrintWords Go.Proofs.YtgjglmhjgfgnlaaW.PrintLast Go.Proofs.YtgjglmhjgfgnlaaW.PrintMore
attribute [local go_sem] max2_int min2_int max_two min_two max_three min_three max_four min_four   -- for this text's walks alone
set_option linter.unusedVariables false
set_option linter.unusedSimpArgs false

/-! ### impl_ValueOK: function 45 -/
def impl_ValueOK.f (a0_0 : Int) (a0_1 : Int) (a0_2 : ByteArray) : Option (Bool) := if a0_0 = 0 then (if a0_1 = 0 then (some (a0_2.toList == ([] : List UInt8))) else (some false)) else (if a0_0 = 1 then ((impl_within.f a0_1 0 1).bind fun t266 => (if t266 = true then (some (a0_2.toList == ([] : List UInt8))) else (some false))) else (if a0_0 = 2 then (some (a0_2.toList == ([] : List UInt8))) else ((impl_hasText.f a0_0).bind fun t267 => (if t267 = true then (if a0_1 = 0 then (some (decide ((a0_2.size : Int) ≤ 60))) else (some false)) else (some false)))))
set_option maxHeartbeats 8000000 in
set_option maxRecDepth 100000 in
theorem impl_ValueOK.calls (a0_0 : Int) (a0_1 : Int) (a0_2 : ByteArray) (r : Bool) (w : World) (h : impl_ValueOK.f a0_0 a0_1 a0_2 = some r) :
    Calls Try.prog 45 #[.agg #[.int .i64 a0_0, .int .i64 a0_1, .string a0_2]] w fun e w' => e = .returned (.bool r) ∧ Below w.heap.size w w' := by
  have hu29 := Try.underlying29
  have HB := Aside0.mk (Below.refl w.heap.size w)
  have H : (if a0_0 = 0 then (if a0_1 = 0 then (some (a0_2.toList == ([] : List UInt8))) else (some false)) else (if a0_0 = 1 then ((impl_within.f a0_1 0 1).bind fun t266 => (if t266 = true then (some (a0_2.toList == ([] : List UInt8))) else (some false))) else (if a0_0 = 2 then (some (a0_2.toList == ([] : List UInt8))) else ((impl_hasText.f a0_0).bind fun t267 => (if t267 = true then (if a0_1 = 0 then (some (decide ((a0_2.size : Int) ≤ 60))) else (some false)) else (some false)))))) = some r := h
  clear h
  by_cases c2 : a0_0 = 0
  · rw [if_pos c2] at H
    have c2b0 : (a0_0 == 0) = true := beq_iff_eq.mpr c2
    have c2b1 : (a0_0 != 0) = false := bne_eq_false_iff_eq.mpr c2
    clear c2
    by_cases c3 : a0_1 = 0
    · rw [if_pos c3] at H
      have c3b0 : (a0_1 == 0) = true := beq_iff_eq.mpr c3
      have c3b1 : (a0_1 != 0) = false := bne_eq_false_iff_eq.mpr c3
      clear c3
      obtain rfl := Option.some.inj H
      go_enter Try.func45, Try.ntmps45
      go_wp2_with (first | ((with_reducible refine gate_dst (N := 1) rfl ?_); (try (refine gate_guard (by rfl) ?_; dsimp only)); refine box_event ?hg (N := 1) ?hd (cs := #[.int .i64 a0_0, .int .i64 a0_1, .string a0_2]) (t := 29) ?hr ?_; (case hd => rfl); (case hg => rfl); (case hr => first | (go_simp; done) | (go_simp; rfl)); intro gb265 hg w4 hbox hb; have n0_ := Aside0.mk (below_step (by repeat (first | (with_reducible first | exact HB.out | apply below_alloc | apply pw_below_drewN | apply below_drew1) | exact HB.out)) hb); have n1_ := Aside0.mk (hbox); have n2_ := Aside0.mk ((by rw [hg]; exact (below_size (by repeat (first | (with_reducible first | exact HB.out | apply below_alloc | apply pw_below_drewN | apply below_drew1) | exact HB.out))) : w.heap.size ≤ gb265)); have n3_ := Aside0.mk ((by rw [hg]; exact (below_size (by repeat (first | (with_reducible first | exact HB.out | apply below_alloc | apply pw_below_drewN | apply below_drew1) | exact HB.out))) : w.heap.size ≤ gb265)); clear HB; have HB := n0_; have BK265 := n1_; have GW265 := n2_; have GE265 := n3_; clear n0_ n1_ n2_ n3_; clear hb hbox hg; have hcz5_0 : w4.cell? ⟨gb265, 0, none⟩ = some (.int .i64 a0_0) := (blk_cell BK265.out 0).trans rfl; have hcz5_1 : w4.cell? ⟨gb265, 1, none⟩ = some (.int .i64 a0_1) := (blk_cell BK265.out 1).trans rfl; have hcz5_2 : w4.cell? ⟨gb265, 2, none⟩ = some (.string a0_2) := (blk_cell BK265.out 2).trans rfl; have hfz5_0 := blk_frozen BK265.out 0; have hfz5_1 := blk_frozen BK265.out 1; have hfz5_2 := blk_frozen BK265.out 2))
      go_ret
      exact ⟨by first | rfl | (simp [errW_none, errW_some] <;> rfl) | (simp [*, errW_none, errW_some] <;> rfl), by repeat (first | (with_reducible first | exact HB.out | apply below_alloc | apply pw_below_drewN | apply below_drew1 | refine below_set ?_ GE265.out) | exact HB.out)⟩
    · rw [if_neg c3] at H
      have c3b0 : (a0_1 == 0) = false := beq_eq_false_iff_ne.mpr c3
      have c3b1 : (a0_1 != 0) = true := bne_iff_ne.mpr c3
      obtain rfl := Option.some.inj H
      go_enter Try.func45, Try.ntmps45
      go_wp2_with (first | ((with_reducible refine gate_dst (N := 1) rfl ?_); (try (refine gate_guard (by rfl) ?_; dsimp only)); refine box_event ?hg (N := 1) ?hd (cs := #[.int .i64 a0_0, .int .i64 a0_1, .string a0_2]) (t := 29) ?hr ?_; (case hd => rfl); (case hg => rfl); (case hr => first | (go_simp; done) | (go_simp; rfl)); intro gb265 hg w6 hbox hb; have n0_ := Aside0.mk (below_step (by repeat (first | (with_reducible first | exact HB.out | apply below_alloc | apply pw_below_drewN | apply below_drew1) | exact HB.out)) hb); have n1_ := Aside0.mk (hbox); have n2_ := Aside0.mk ((by rw [hg]; exact (below_size (by repeat (first | (with_reducible first | exact HB.out | apply below_alloc | apply pw_below_drewN | apply below_drew1) | exact HB.out))) : w.heap.size ≤ gb265)); have n3_ := Aside0.mk ((by rw [hg]; exact (below_size (by repeat (first | (with_reducible first | exact HB.out | apply below_alloc | apply pw_below_drewN | apply below_drew1) | exact HB.out))) : w.heap.size ≤ gb265)); clear HB; have HB := n0_; have BK265 := n1_; have GW265 := n2_; have GE265 := n3_; clear n0_ n1_ n2_ n3_; clear hb hbox hg; have hcz7_0 : w6.cell? ⟨gb265, 0, none⟩ = some (.int .i64 a0_0) := (blk_cell BK265.out 0).trans rfl; have hcz7_1 : w6.cell? ⟨gb265, 1, none⟩ = some (.int .i64 a0_1) := (blk_cell BK265.out 1).trans rfl; have hcz7_2 : w6.cell? ⟨gb265, 2, none⟩ = some (.string a0_2) := (blk_cell BK265.out 2).trans rfl; have hfz7_0 := blk_frozen BK265.out 0; have hfz7_1 := blk_frozen BK265.out 1; have hfz7_2 := blk_frozen BK265.out 2))
      go_ret
      exact ⟨by first | rfl | (simp [errW_none, errW_some] <;> rfl) | (simp [*, errW_none, errW_some] <;> rfl), by repeat (first | (with_reducible first | exact HB.out | apply below_alloc | apply pw_below_drewN | apply below_drew1 | refine below_set ?_ GE265.out) | exact HB.out)⟩
  · rw [if_neg c2] at H
    have c2b0 : (a0_0 == 0) = false := beq_eq_false_iff_ne.mpr c2
    have c2b1 : (a0_0 != 0) = true := bne_iff_ne.mpr c2
    by_cases c8 : a0_0 = 1
    · rw [if_pos c8] at H
      have c8b0 : (a0_0 == 1) = true := beq_iff_eq.mpr c8
      have c8b1 : (a0_0 != 1) = false := bne_eq_false_iff_eq.mpr c8
      clear c8
      replace H := Option.bind_eq_some_iff.mp H
      obtain ⟨t266, A90, H⟩ := H
      replace H : (if t266 = true then (some (a0_2.toList == ([] : List UInt8))) else (some false)) = some r := H
      have A9 := Aside0.mk A90
      clear A90
      by_cases c10 : t266 = true
      · subst c10
        have H1 : (some (a0_2.toList == ([] : List UInt8))) = some r := by rw [if_pos rfl] at H; exact H
        clear H
        have H := H1
        clear H1
        obtain rfl := Option.some.inj H
        go_enter Try.func45, Try.ntmps45
        go_wp2_with (first | ((with_reducible refine gate_dst (N := 1) rfl ?_); (try (refine gate_guard (by rfl) ?_; dsimp only)); refine box_event ?hg (N := 1) ?hd (cs := #[.int .i64 a0_0, .int .i64 a0_1, .string a0_2]) (t := 29) ?hr ?_; (case hd => rfl); (case hg => rfl); (case hr => first | (go_simp; done) | (go_simp; rfl)); intro gb265 hg w11 hbox hb; have n0_ := Aside0.mk (below_step (by repeat (first | (with_reducible first | exact HB.out | apply below_alloc | apply pw_below_drewN | apply below_drew1) | exact HB.out)) hb); have n1_ := Aside0.mk (hbox); have n2_ := Aside0.mk ((by rw [hg]; exact (below_size (by repeat (first | (with_reducible first | exact HB.out | apply below_alloc | apply pw_below_drewN | apply below_drew1) | exact HB.out))) : w.heap.size ≤ gb265)); have n3_ := Aside0.mk ((by rw [hg]; exact (below_size (by repeat (first | (with_reducible first | exact HB.out | apply below_alloc | apply pw_below_drewN | apply below_drew1) | exact HB.out))) : w.heap.size ≤ gb265)); clear HB; have HB := n0_; have BK265 := n1_; have GW265 := n2_; have GE265 := n3_; clear n0_ n1_ n2_ n3_; clear hb hbox hg; have hcz12_0 : w11.cell? ⟨gb265, 0, none⟩ = some (.int .i64 a0_0) := (blk_cell BK265.out 0).trans rfl; have hcz12_1 : w11.cell? ⟨gb265, 1, none⟩ = some (.int .i64 a0_1) := (blk_cell BK265.out 1).trans rfl; have hcz12_2 : w11.cell? ⟨gb265, 2, none⟩ = some (.string a0_2) := (blk_cell BK265.out 2).trans rfl; have hfz12_0 := blk_frozen BK265.out 0; have hfz12_1 := blk_frozen BK265.out 1; have hfz12_2 := blk_frozen BK265.out 2) | ((with_reducible refine gate_callee (f := 74) rfl ?_); refine goesL_ (some 21) rfl rfl Try.func74 (by kernel_rfl) rfl #[.int .i64 a0_1, .int .i64 0, .int .i64 1] rfl (by (try simp only [List.map_toArray, List.map_cons, List.map_nil]); first | done | rfl | (simp only [List.length_drop, List.length_take]; rfl)) ?_; (with_reducible refine (impl_within.calls a0_1 0 1 true _ A9.out).mono ?_); rintro e w' ⟨rfl, ⟨nd, rfl⟩⟩; refine ⟨_, rfl, ?_⟩))
        go_ret
        exact ⟨by first | rfl | (simp [errW_none, errW_some] <;> rfl) | (simp [*, errW_none, errW_some] <;> rfl), by repeat (first | (with_reducible first | exact HB.out | apply below_alloc | apply pw_below_drewN | apply below_drew1 | refine below_set ?_ GE265.out) | exact HB.out)⟩
      · replace c10 := Bool.eq_false_iff.mpr c10
        subst c10
        have H1 : (some false) = some r := by rw [if_neg (show ¬ (false = true) by decide)] at H; exact H
        clear H
        have H := H1
        clear H1
        obtain rfl := Option.some.inj H
        go_enter Try.func45, Try.ntmps45
        go_wp2_with (first | ((with_reducible refine gate_dst (N := 1) rfl ?_); (try (refine gate_guard (by rfl) ?_; dsimp only)); refine box_event ?hg (N := 1) ?hd (cs := #[.int .i64 a0_0, .int .i64 a0_1, .string a0_2]) (t := 29) ?hr ?_; (case hd => rfl); (case hg => rfl); (case hr => first | (go_simp; done) | (go_simp; rfl)); intro gb265 hg w13 hbox hb; have n0_ := Aside0.mk (below_step (by repeat (first | (with_reducible first | exact HB.out | apply below_alloc | apply pw_below_drewN | apply below_drew1) | exact HB.out)) hb); have n1_ := Aside0.mk (hbox); have n2_ := Aside0.mk ((by rw [hg]; exact (below_size (by repeat (first | (with_reducible first | exact HB.out | apply below_alloc | apply pw_below_drewN | apply below_drew1) | exact HB.out))) : w.heap.size ≤ gb265)); have n3_ := Aside0.mk ((by rw [hg]; exact (below_size (by repeat (first | (with_reducible first | exact HB.out | apply below_alloc | apply pw_below_drewN | apply below_drew1) | exact HB.out))) : w.heap.size ≤ gb265)); clear HB; have HB := n0_; have BK265 := n1_; have GW265 := n2_; have GE265 := n3_; clear n0_ n1_ n2_ n3_; clear hb hbox hg; have hcz14_0 : w13.cell? ⟨gb265, 0, none⟩ = some (.int .i64 a0_0) := (blk_cell BK265.out 0).trans rfl; have hcz14_1 : w13.cell? ⟨gb265, 1, none⟩ = some (.int .i64 a0_1) := (blk_cell BK265.out 1).trans rfl; have hcz14_2 : w13.cell? ⟨gb265, 2, none⟩ = some (.string a0_2) := (blk_cell BK265.out 2).trans rfl; have hfz14_0 := blk_frozen BK265.out 0; have hfz14_1 := blk_frozen BK265.out 1; have hfz14_2 := blk_frozen BK265.out 2) | ((with_reducible refine gate_callee (f := 74) rfl ?_); refine goesL_ (some 21) rfl rfl Try.func74 (by kernel_rfl) rfl #[.int .i64 a0_1, .int .i64 0, .int .i64 1] rfl (by (try simp only [List.map_toArray, List.map_cons, List.map_nil]); first | done | rfl | (simp only [List.length_drop, List.length_take]; rfl)) ?_; (with_reducible refine (impl_within.calls a0_1 0 1 false _ A9.out).mono ?_); rintro e w' ⟨rfl, ⟨nd, rfl⟩⟩; refine ⟨_, rfl, ?_⟩))
        go_ret
        exact ⟨by first | rfl | (simp [errW_none, errW_some] <;> rfl) | (simp [*, errW_none, errW_some] <;> rfl), by repeat (first | (with_reducible first | exact HB.out | apply below_alloc | apply pw_below_drewN | apply below_drew1 | refine below_set ?_ GE265.out) | exact HB.out)⟩
    · rw [if_neg c8] at H
      have c8b0 : (a0_0 == 1) = false := beq_eq_false_iff_ne.mpr c8
      have c8b1 : (a0_0 != 1) = true := bne_iff_ne.mpr c8
      by_cases c15 : a0_0 = 2
      · rw [if_pos c15] at H
        have c15b0 : (a0_0 == 2) = true := beq_iff_eq.mpr c15
        have c15b1 : (a0_0 != 2) = false := bne_eq_false_iff_eq.mpr c15
        clear c15
        obtain rfl := Option.some.inj H
        go_enter Try.func45, Try.ntmps45
        go_wp2_with (first | ((with_reducible refine gate_dst (N := 1) rfl ?_); (try (refine gate_guard (by rfl) ?_; dsimp only)); refine box_event ?hg (N := 1) ?hd (cs := #[.int .i64 a0_0, .int .i64 a0_1, .string a0_2]) (t := 29) ?hr ?_; (case hd => rfl); (case hg => rfl); (case hr => first | (go_simp; done) | (go_simp; rfl)); intro gb265 hg w16 hbox hb; have n0_ := Aside0.mk (below_step (by repeat (first | (with_reducible first | exact HB.out | apply below_alloc | apply pw_below_drewN | apply below_drew1) | exact HB.out)) hb); have n1_ := Aside0.mk (hbox); have n2_ := Aside0.mk ((by rw [hg]; exact (below_size (by repeat (first | (with_reducible first | exact HB.out | apply below_alloc | apply pw_below_drewN | apply below_drew1) | exact HB.out))) : w.heap.size ≤ gb265)); have n3_ := Aside0.mk ((by rw [hg]; exact (below_size (by repeat (first | (with_reducible first | exact HB.out | apply below_alloc | apply pw_below_drewN | apply below_drew1) | exact HB.out))) : w.heap.size ≤ gb265)); clear HB; have HB := n0_; have BK265 := n1_; have GW265 := n2_; have GE265 := n3_; clear n0_ n1_ n2_ n3_; clear hb hbox hg; have hcz17_0 : w16.cell? ⟨gb265, 0, none⟩ = some (.int .i64 a0_0) := (blk_cell BK265.out 0).trans rfl; have hcz17_1 : w16.cell? ⟨gb265, 1, none⟩ = some (.int .i64 a0_1) := (blk_cell BK265.out 1).trans rfl; have hcz17_2 : w16.cell? ⟨gb265, 2, none⟩ = some (.string a0_2) := (blk_cell BK265.out 2).trans rfl; have hfz17_0 := blk_frozen BK265.out 0; have hfz17_1 := blk_frozen BK265.out 1; have hfz17_2 := blk_frozen BK265.out 2))
        go_ret
        exact ⟨by first | rfl | (simp [errW_none, errW_some] <;> rfl) | (simp [*, errW_none, errW_some] <;> rfl), by repeat (first | (with_reducible first | exact HB.out | apply below_alloc | apply pw_below_drewN | apply below_drew1 | refine below_set ?_ GE265.out) | exact HB.out)⟩
      · rw [if_neg c15] at H
        have c15b0 : (a0_0 == 2) = false := beq_eq_false_iff_ne.mpr c15
        have c15b1 : (a0_0 != 2) = true := bne_iff_ne.mpr c15
        replace H := Option.bind_eq_some_iff.mp H
        obtain ⟨t267, A180, H⟩ := H
        replace H : (if t267 = true then (if a0_1 = 0 then (some (decide ((a0_2.size : Int) ≤ 60))) else (some false)) else (some false)) = some r := H
        have A18 := Aside0.mk A180
        clear A180
        by_cases c19 : t267 = true
        · subst c19
          have H1 : (if a0_1 = 0 then (some (decide ((a0_2.size : Int) ≤ 60))) else (some false)) = some r := by rw [if_pos rfl] at H; exact H
          clear H
          have H := H1
          clear H1
          by_cases c20 : a0_1 = 0
          · rw [if_pos c20] at H
            have c20b0 : (a0_1 == 0) = true := beq_iff_eq.mpr c20
            have c20b1 : (a0_1 != 0) = false := bne_eq_false_iff_eq.mpr c20
            clear c20
            obtain rfl := Option.some.inj H
            go_enter Try.func45, Try.ntmps45
            go_wp2_with (first | ((with_reducible refine gate_dst (N := 1) rfl ?_); (try (refine gate_guard (by rfl) ?_; dsimp only)); refine box_event ?hg (N := 1) ?hd (cs := #[.int .i64 a0_0, .int .i64 a0_1, .string a0_2]) (t := 29) ?hr ?_; (case hd => rfl); (case hg => rfl); (case hr => first | (go_simp; done) | (go_simp; rfl)); intro gb265 hg w21 hbox hb; have n0_ := Aside0.mk (below_step (by repeat (first | (with_reducible first | exact HB.out | apply below_alloc | apply pw_below_drewN | apply below_drew1) | exact HB.out)) hb); have n1_ := Aside0.mk (hbox); have n2_ := Aside0.mk ((by rw [hg]; exact (below_size (by repeat (first | (with_reducible first | exact HB.out | apply below_alloc | apply pw_below_drewN | apply below_drew1) | exact HB.out))) : w.heap.size ≤ gb265)); have n3_ := Aside0.mk ((by rw [hg]; exact (below_size (by repeat (first | (with_reducible first | exact HB.out | apply below_alloc | apply pw_below_drewN | apply below_drew1) | exact HB.out))) : w.heap.size ≤ gb265)); clear HB; have HB := n0_; have BK265 := n1_; have GW265 := n2_; have GE265 := n3_; clear n0_ n1_ n2_ n3_; clear hb hbox hg; have hcz22_0 : w21.cell? ⟨gb265, 0, none⟩ = some (.int .i64 a0_0) := (blk_cell BK265.out 0).trans rfl; have hcz22_1 : w21.cell? ⟨gb265, 1, none⟩ = some (.int .i64 a0_1) := (blk_cell BK265.out 1).trans rfl; have hcz22_2 : w21.cell? ⟨gb265, 2, none⟩ = some (.string a0_2) := (blk_cell BK265.out 2).trans rfl; have hfz22_0 := blk_frozen BK265.out 0; have hfz22_1 := blk_frozen BK265.out 1; have hfz22_2 := blk_frozen BK265.out 2) | ((with_reducible refine gate_callee (f := 75) rfl ?_); refine goesL_ (some 36) rfl rfl Try.func75 (by kernel_rfl) rfl #[.int .i64 a0_0] rfl (by (try simp only [List.map_toArray, List.map_cons, List.map_nil]); first | done | rfl | (simp only [List.length_drop, List.length_take]; rfl)) ?_; (with_reducible refine (impl_hasText.calls a0_0 true _ A18.out).mono ?_); rintro e w' ⟨rfl, ⟨nd, rfl⟩⟩; refine ⟨_, rfl, ?_⟩))
            go_ret
            exact ⟨by first | rfl | (simp [errW_none, errW_some] <;> rfl) | (simp [*, errW_none, errW_some] <;> rfl), by repeat (first | (with_reducible first | exact HB.out | apply below_alloc | apply pw_below_drewN | apply below_drew1 | refine below_set ?_ GE265.out) | exact HB.out)⟩
          · rw [if_neg c20] at H
            have c20b0 : (a0_1 == 0) = false := beq_eq_false_iff_ne.mpr c20
            have c20b1 : (a0_1 != 0) = true := bne_iff_ne.mpr c20
            obtain rfl := Option.some.inj H
            go_enter Try.func45, Try.ntmps45
            go_wp2_with (first | ((with_reducible refine gate_dst (N := 1) rfl ?_); (try (refine gate_guard (by rfl) ?_; dsimp only)); refine box_event ?hg (N := 1) ?hd (cs := #[.int .i64 a0_0, .int .i64 a0_1, .string a0_2]) (t := 29) ?hr ?_; (case hd => rfl); (case hg => rfl); (case hr => first | (go_simp; done) | (go_simp; rfl)); intro gb265 hg w23 hbox hb; have n0_ := Aside0.mk (below_step (by repeat (first | (with_reducible first | exact HB.out | apply below_alloc | apply pw_below_drewN | apply below_drew1) | exact HB.out)) hb); have n1_ := Aside0.mk (hbox); have n2_ := Aside0.mk ((by rw [hg]; exact (below_size (by repeat (first | (with_reducible first | exact HB.out | apply below_alloc | apply pw_below_drewN | apply below_drew1) | exact HB.out))) : w.heap.size ≤ gb265)); have n3_ := Aside0.mk ((by rw [hg]; exact (below_size (by repeat (first | (with_reducible first | exact HB.out | apply below_alloc | apply pw_below_drewN | apply below_drew1) | exact HB.out))) : w.heap.size ≤ gb265)); clear HB; have HB := n0_; have BK265 := n1_; have GW265 := n2_; have GE265 := n3_; clear n0_ n1_ n2_ n3_; clear hb hbox hg; have hcz24_0 : w23.cell? ⟨gb265, 0, none⟩ = some (.int .i64 a0_0) := (blk_cell BK265.out 0).trans rfl; have hcz24_1 : w23.cell? ⟨gb265, 1, none⟩ = some (.int .i64 a0_1) := (blk_cell BK265.out 1).trans rfl; have hcz24_2 : w23.cell? ⟨gb265, 2, none⟩ = some (.string a0_2) := (blk_cell BK265.out 2).trans rfl; have hfz24_0 := blk_frozen BK265.out 0; have hfz24_1 := blk_frozen BK265.out 1; have hfz24_2 := blk_frozen BK265.out 2) | ((with_reducible refine gate_callee (f := 75) rfl ?_); refine goesL_ (some 36) rfl rfl Try.func75 (by kernel_rfl) rfl #[.int .i64 a0_0] rfl (by (try simp only [List.map_toArray, List.map_cons, List.map_nil]); first | done | rfl | (simp only [List.length_drop, List.length_take]; rfl)) ?_; (with_reducible refine (impl_hasText.calls a0_0 true _ A18.out).mono ?_); rintro e w' ⟨rfl, ⟨nd, rfl⟩⟩; refine ⟨_, rfl, ?_⟩))
            go_ret
            exact ⟨by first | rfl | (simp [errW_none, errW_some] <;> rfl) | (simp [*, errW_none, errW_some] <;> rfl), by repeat (first | (with_reducible first | exact HB.out | apply below_alloc | apply pw_below_drewN | apply below_drew1 | refine below_set ?_ GE265.out) | exact HB.out)⟩
        · replace c19 := Bool.eq_false_iff.mpr c19
          subst c19
          have H1 : (some false) = some r := by rw [if_neg (show ¬ (false = true) by decide)] at H; exact H
          clear H
          have H := H1
          clear H1
          obtain rfl := Option.some.inj H
          go_enter Try.func45, Try.ntmps45
          go_wp2_with (first | ((with_reducible refine gate_dst (N := 1) rfl ?_); (try (refine gate_guard (by rfl) ?_; dsimp only)); refine box_event ?hg (N := 1) ?hd (cs := #[.int .i64 a0_0, .int .i64 a0_1, .string a0_2]) (t := 29) ?hr ?_; (case hd => rfl); (case hg => rfl); (case hr => first | (go_simp; done) | (go_simp; rfl)); intro gb265 hg w25 hbox hb; have n0_ := Aside0.mk (below_step (by repeat (first | (with_reducible first | exact HB.out | apply below_alloc | apply pw_below_drewN | apply below_drew1) | exact HB.out)) hb); have n1_ := Aside0.mk (hbox); have n2_ := Aside0.mk ((by rw [hg]; exact (below_size (by repeat (first | (with_reducible first | exact HB.out | apply below_alloc | apply pw_below_drewN | apply below_drew1) | exact HB.out))) : w.heap.size ≤ gb265)); have n3_ := Aside0.mk ((by rw [hg]; exact (below_size (by repeat (first | (with_reducible first | exact HB.out | apply below_alloc | apply pw_below_drewN | apply below_drew1) | exact HB.out))) : w.heap.size ≤ gb265)); clear HB; have HB := n0_; have BK265 := n1_; have GW265 := n2_; have GE265 := n3_; clear n0_ n1_ n2_ n3_; clear hb hbox hg; have hcz26_0 : w25.cell? ⟨gb265, 0, none⟩ = some (.int .i64 a0_0) := (blk_cell BK265.out 0).trans rfl; have hcz26_1 : w25.cell? ⟨gb265, 1, none⟩ = some (.int .i64 a0_1) := (blk_cell BK265.out 1).trans rfl; have hcz26_2 : w25.cell? ⟨gb265, 2, none⟩ = some (.string a0_2) := (blk_cell BK265.out 2).trans rfl; have hfz26_0 := blk_frozen BK265.out 0; have hfz26_1 := blk_frozen BK265.out 1; have hfz26_2 := blk_frozen BK265.out 2) | ((with_reducible refine gate_callee (f := 75) rfl ?_); refine goesL_ (some 36) rfl rfl Try.func75 (by kernel_rfl) rfl #[.int .i64 a0_0] rfl (by (try simp only [List.map_toArray, List.map_cons, List.map_nil]); first | done | rfl | (simp only [List.length_drop, List.length_take]; rfl)) ?_; (with_reducible refine (impl_hasText.calls a0_0 false _ A18.out).mono ?_); rintro e w' ⟨rfl, ⟨nd, rfl⟩⟩; refine ⟨_, rfl, ?_⟩))
          go_ret
          exact ⟨by first | rfl | (simp [errW_none, errW_some] <;> rfl) | (simp [*, errW_none, errW_some] <;> rfl), by repeat (first | (with_reducible first | exact HB.out | apply below_alloc | apply pw_below_drewN | apply below_drew1 | refine below_set ?_ GE265.out) | exact HB.out)⟩

end Go.Proofs.Ytgjglmhjgfgnlaa.X
end

section
/- Right values: the program and the reference tell the same. -/
namespace Go.Proofs.Ytgjglmhjgfgnlaa.Pure
open Go.RowKit Go.Proofs.Ytgjglmhjgfgnlaa.X Go.Proofs.YtgjglmhjgfgnlaaW.PrintWords Go.Proofs.YtgjglmhjgfgnlaaW.PrintLast
set_option linter.unusedVariables false
set_option linter.unusedSimpArgs false
def vok (a b : Int) (t : ByteArray) : Bool :=
  (decide (a = 0) && decide (b = 0) && decide (t.size = 0)) || (decide (a = 1) && decide (0 ≤ b ∧ b ≤ 1) && decide (t.size = 0)) || (decide (a = 2) && decide (t.size = 0)) ||
    (decide (a = 3 ∨ a = 4) && decide (b = 0) && decide (t.size ≤ 60))
theorem nil_iff (t : ByteArray) : (t.toList == ([] : List UInt8)) = decide (t.size = 0) := by
  rw [← length_toList]
  cases t.toList <;> simp
theorem size_le (t : ByteArray) : decide ((t.size : Int) ≤ 60) = decide (t.size ≤ 60) := by rw [decide_eq_decide]; omega
theorem spec_vok (a b : Int) (t : ByteArray) : spec_ValueOK.f a b t = some (vok a b t) := by
  unfold spec_ValueOK.f spec_l01In.f
  simp only [nil_iff, size_le]
  unfold vok
  by_cases c0 : a = 0
  · subst c0; by_cases cb : b = 0 <;> simp [cb]
  by_cases c1 : a = 1
  · subst c1; by_cases cb : 0 ≤ b <;> by_cases cc : b ≤ 1 <;> simp [cb, cc]
  by_cases c2 : a = 2
  · subst c2; simp
  by_cases c3 : a = 3
  · subst c3; by_cases cb : b = 0 <;> simp [cb]
  by_cases c4 : a = 4
  · subst c4; by_cases cb : b = 0 <;> simp [cb]
  simp [c0, c1, c2, c3, c4]
theorem impl_vok (a b : Int) (t : ByteArray) : impl_ValueOK.f a b t = some (vok a b t) := by
  unfold impl_ValueOK.f impl_within.f impl_hasText.f
  simp only [nil_iff, size_le]
  unfold vok
  by_cases c0 : a = 0
  · subst c0; by_cases cb : b = 0 <;> simp [cb]
  by_cases c1 : a = 1
  · subst c1; by_cases cb : 0 ≤ b <;> by_cases cc : b ≤ 1 <;> simp [cb, cc]
  by_cases c2 : a = 2
  · subst c2; simp
  by_cases c3 : a = 3
  · subst c3; by_cases cb : b = 0 <;> simp [cb]
  by_cases c4 : a = 4
  · subst c4; by_cases cb : b = 0 <;> simp [cb]
  simp [c0, c1, c2, c3, c4]
theorem size_zero {t : ByteArray} (h : t.size = 0) : t = (⟨#[]⟩ : ByteArray) := by
  rw [← empty_iff]
  have := length_toList t
  rw [h] at this
  exact List.eq_nil_of_length_eq_zero this
theorem vok_null {b : Int} {t : ByteArray} (h : vok 0 b t = true) : b = 0 ∧ t = (⟨#[]⟩ : ByteArray) := by
  have h2 : b = 0 ∧ t.size = 0 := by
    unfold vok at h
    by_cases c : b = 0 ∧ t.size = 0
    · exact c
    · exfalso
      rcases Classical.not_and_iff_not_or_not.1 c with c | c <;> simp [c] at h
  exact ⟨h2.1, size_zero h2.2⟩
end Go.Proofs.Ytgjglmhjgfgnlaa.Pure
end

section
/- What a source of choices gives. -/
namespace Go.Proofs.Ytgjglmhjgfgnlaa.Pure
open Go.RowKit Go.Proofs.Ytgjglmhjgfgnlaa.X Go.Proofs.YtgjglmhjgfgnlaaW.PrintWords Go.Proofs.YtgjglmhjgfgnlaaW.PrintLast
set_option linter.unusedVariables false
set_option linter.unusedSimpArgs false
def Src (c : List Int) (a s B : Int) : Prop := (∀ x ∈ c, 0 ≤ x ∧ x ≤ 255) ∧ 0 ≤ a ∧ a ≤ B ∧ 0 ≤ s ∧ s < 2147483648
theorem Src.up {c : List Int} {a s B B' : Int} (h : Src c a s B) (hb : B ≤ B') : Src c a s B' := ⟨h.1, h.2.1, by have := h.2.2.1; omega, h.2.2.2⟩
theorem src_new {c : List Int} (h : ∀ x ∈ c, (Lit.int .u8 x).wf = true) : Src c 0 ((c.length : Int) % 1000) 0 := ⟨fun x hx => u8_of (h x hx), by omega, by omega, by omega, by omega⟩
theorem src_byte {c : List Int} {a s B : Int} (h : Src c a s B) (hB : B ≤ 4611686018427387904) :
    ∃ r a' s', spec_l00Src_byte.f c a s = some (r, a', s') ∧ 0 ≤ r ∧ r ≤ 255 ∧ Src c a' s' (B + 1) := by
  obtain ⟨hc, h0, h1, h2, h3⟩ := h
  unfold spec_l00Src_byte.f
  rw [if_pos (by omega)]
  by_cases hlt : a < (c.length : Int)
  · have hm : rd c a ∈ c := by
      have : a.toNat < c.length := by omega
      simp only [rd, List.getD_eq_getElem?_getD, List.getElem?_eq_getElem this, Option.getD_some]
      exact List.getElem_mem this
    have hr := hc _ hm
    rw [if_pos hlt, if_pos hr]
    exact ⟨_, _, _, rfl, hr.1, hr.2, hc, by omega, by omega, by omega, by omega⟩
  · rw [if_neg hlt]
    split
    · exact ⟨_, _, _, rfl, by omega, by omega, hc, by omega, by omega, by omega, by omega⟩
    · exact ⟨_, _, _, rfl, by omega, by omega, hc, by omega, by omega, by omega, by omega⟩
theorem tmod_range (x m : Int) (hx : 0 ≤ x) (hm : 2 ≤ m) : 0 ≤ Int.tmod x m ∧ Int.tmod x m < m := by
  rw [Int.tmod_eq_emod_of_nonneg hx]
  exact ⟨Int.emod_nonneg _ (by omega), Int.emod_lt_of_pos _ (by omega)⟩
theorem src_next {c : List Int} {a s B : Int} (h : Src c a s B) (hB : B + 3 ≤ 4611686018427387904) (m : Int) :
    ∃ r a' s', spec_l00Src_next.f c a s m = some (r, a', s') ∧ 0 ≤ r ∧ (r < m ∨ r = 0) ∧ Src c a' s' (B + 3) := by
  unfold spec_l00Src_next.f
  by_cases h1 : m ≤ 1
  · rw [if_pos h1]; exact ⟨_, _, _, rfl, by omega, .inr rfl, h.up (by omega)⟩
  rw [if_neg h1]
  by_cases h2 : m ≤ 256
  · rw [if_pos h2]
    obtain ⟨r, a', s', e, r0, r1, hs⟩ := src_byte h (by omega)
    rw [e]
    simp only [Option.bind_some]
    rw [if_neg (by omega)]
    have := tmod_range r m r0 (by omega)
    exact ⟨_, _, _, rfl, this.1, .inl this.2, hs.up (by omega)⟩
  · rw [if_neg h2]
    obtain ⟨r, a', s', e, r0, r1, hs⟩ := src_byte h (by omega)
    rw [e]
    simp only [Option.bind_some]
    obtain ⟨q, a', s', e, q0, q1, hs⟩ := src_byte hs (by omega)
    rw [e]
    simp only [Option.bind_some]
    obtain ⟨p, a', s', e, p0, p1, hs⟩ := src_byte hs (by omega)
    rw [e]
    simp only [Option.bind_some]
    rw [if_neg (by omega)]
    have hw : 0 ≤ wrap64 (wrap64 (wrap64 (r * 65536) + wrap64 (q * 256)) + p) := by
      rw [wrap_in (r * 65536) (by omega), wrap_in (q * 256) (by omega), wrap_in (r * 65536 + q * 256) (by omega), wrap_in (r * 65536 + q * 256 + p) (by omega)]; omega
    have := tmod_range _ m hw (by omega)
    exact ⟨_, _, _, rfl, this.1, .inl this.2, hs.up (by omega)⟩
theorem rd_mem {l : List Int} {i : Int} (h0 : 0 ≤ i) (h1 : i < l.length) : rd l i ∈ l := by
  have : i.toNat < l.length := by omega
  simp only [rd, List.getD_eq_getElem?_getD, List.getElem?_eq_getElem this, Option.getD_some]
  exact List.getElem_mem this
theorem rdOf_mem {α : Type} {d : α} {l : List α} {i : Int} (h0 : 0 ≤ i) (h1 : i < l.length) : rdOf d l i ∈ l := by
  have : i.toNat < l.length := by omega
  simp only [rdOf, List.getD_eq_getElem?_getD, List.getElem?_eq_getElem this, Option.getD_some]
  exact List.getElem_mem this
theorem src_pick {c : List Int} {a s B : Int} (h : Src c a s B) (hB : B + 3 ≤ 4611686018427387904) (l : List ByteArray) (hl : l ≠ []) :
    ∃ r a' s', spec_l00Src_pick.f c a s l = some (r, a', s') ∧ r ∈ l ∧ Src c a' s' (B + 3) := by
  unfold spec_l00Src_pick.f
  have hp : 0 < l.length := List.length_pos_iff.2 hl
  rw [if_neg (by omega)]
  obtain ⟨r, a', s', e, r0, r1, hs⟩ := src_next h hB (l.length : Int)
  rw [e]
  simp only [Option.bind_some]
  rw [if_pos r0, if_pos (by omega)]
  exact ⟨_, _, _, rfl, rdOf_mem r0 (by omega), hs⟩
end Go.Proofs.Ytgjglmhjgfgnlaa.Pure
end

section
/- What value, word and odd of a source give. -/
namespace Go.Proofs.Ytgjglmhjgfgnlaa.Pure
open Go.RowKit Go.Proofs.Ytgjglmhjgfgnlaa.X Go.Proofs.YtgjglmhjgfgnlaaW.PrintWords Go.Proofs.YtgjglmhjgfgnlaaW.PrintLast
set_option linter.unusedVariables false
set_option linter.unusedSimpArgs false
theorem src_odd {c : List Int} {a s B : Int} (h : Src c a s B) (hB : B + 3 ≤ 4611686018427387904) :
    ∃ r a' s', spec_l00Src_odd.f c a s = some (r, a', s') ∧ (-9223372036854775808 ≤ r ∧ r ≤ 9223372036854775807) ∧ Src c a' s' (B + 3) := by
  unfold spec_l00Src_odd.f
  obtain ⟨r, a', s', e, r0, r1, hs⟩ := src_next h hB 12
  simp only [Option.bind_some]
  rw [e]
  simp only [Option.bind_some]
  have hl : (([0, (-1), 1, 2, 63, 64, 65, 4096, 4097, 9223372036854775807, (-9223372036854775808), 30] : List Int).length : Int) = 12 := rfl
  rw [if_pos r0, if_pos (by rw [hl]; omega)]
  refine ⟨_, _, _, rfl, ?_, hs⟩
  have hm := rd_mem (l := [0, (-1), 1, 2, 63, 64, 65, 4096, 4097, 9223372036854775807, (-9223372036854775808), 30]) r0 (by rw [hl]; omega)
  revert hm
  generalize rd _ r = x
  intro hm
  simp only [List.mem_cons, List.not_mem_nil, or_false] at hm
  omega
theorem src_word {c : List Int} {a s B : Int} (h : Src c a s B) (hB : B + 3 ≤ 4611686018427387904) :
    ∃ r a' s', spec_l00Src_word.f c a s = some (r, a', s') ∧ r.size ≤ 4 ∧ Src c a' s' (B + 3) := by
  unfold spec_l00Src_word.f
  obtain ⟨r, a', s', e, hm, hs⟩ := src_pick h hB _ (List.cons_ne_nil (⟨#[]⟩ : ByteArray) [(⟨#[97]⟩ : ByteArray), (⟨#[98]⟩ : ByteArray), (⟨#[111, 112, 101, 110]⟩ : ByteArray), (⟨#[97, 110, 110]⟩ : ByteArray), (⟨#[105, 116, 39, 115]⟩ : ByteArray), (⟨#[0]⟩ : ByteArray), (⟨#[97, 0, 98]⟩ : ByteArray), (⟨#[255]⟩ : ByteArray), (⟨#[100, 111, 110, 101]⟩ : ByteArray)])
  rw [e]
  refine ⟨r, a', s', rfl, ?_, hs⟩
  simp only [List.mem_cons, List.not_mem_nil, or_false] at hm
  rcases hm with rfl | rfl | rfl | rfl | rfl | rfl | rfl | rfl | rfl | rfl <;> decide
theorem src_value {c : List Int} {a s B : Int} (h : Src c a s B) (hB : B + 20 ≤ 4611686018427387904) (k : Nat) :
    ∃ x y t a' s', spec_l00Src_value.f (k + 1) c a s = some (x, y, t, a', s') ∧ vok x y t = true ∧ (-9223372036854775808 ≤ y ∧ y ≤ 9223372036854775807) ∧ 0 ≤ x ∧ x ≤ 4 ∧ t.size ≤ 4 ∧ Src c a' s' (B + 15) := by
  unfold spec_l00Src_value.f
  obtain ⟨r, a', s', e, r0, r1, hs⟩ := src_next h (by omega) 6
  rw [e]
  simp only [Option.bind_some]
  by_cases c0 : r = 0
  · rw [if_pos c0]; exact ⟨_, _, _, _, _, rfl, by decide, by omega, by omega, by omega, by decide, hs.up (by omega)⟩
  rw [if_neg c0]
  by_cases c1 : r = 1
  · rw [if_pos c1]
    obtain ⟨q, a', s', e, q0, q1, hs⟩ := src_next hs (by omega) 2
    rw [e]
    simp only [Option.bind_some]
    refine ⟨_, _, _, _, _, rfl, ?_, by omega, by omega, by omega, by decide, hs.up (by omega)⟩
    rcases (show q = 0 ∨ q = 1 by omega) with rfl | rfl <;> decide
  rw [if_neg c1]
  have hj : ∀ b : Bool, (b = true ↔ (r = 2 ∨ r = 3)) → ∃ x y t a'' s'', spec_l00Src_value.j0 (k + 1) r b c a' s' = some (x, y, t, a'', s'') ∧ vok x y t = true ∧ (-9223372036854775808 ≤ y ∧ y ≤ 9223372036854775807) ∧ 0 ≤ x ∧ x ≤ 4 ∧ t.size ≤ 4 ∧ Src c a'' s'' (B + 15) := by
    intro b hb
    simp only [spec_l00Src_value.j0]
    cases b with
    | true =>
      rw [if_pos rfl]
      obtain ⟨x1, a1, s1, e1, _, _, hs⟩ := src_next hs (by omega) 10
      rw [e1]; simp only [Option.bind_some]
      obtain ⟨x2, a2, s2, e2, _, _, hs⟩ := src_next hs (by omega) 10
      rw [e2]; simp only [Option.bind_some]
      obtain ⟨x3, a3, s3, e3, _, hs⟩ := src_odd hs (by omega)
      rw [e3]; simp only [Option.bind_some]
      obtain ⟨x4, a4, s4, e4, _, _, hs⟩ := src_next hs (by omega) 3
      rw [e4]; simp only [Option.bind_some]
      rw [if_pos (by assumption), if_pos (by simp only [List.length_cons, List.length_nil]; omega)]
      refine ⟨_, _, _, _, _, rfl, by simp [vok]; rfl, ?_, by omega, by omega, by decide, hs.up (by omega)⟩
      have hm := rd_mem (l := [x1, wrap64 (x2 - 5), x3]) (i := x4) (by assumption) (by simp only [List.length_cons, List.length_nil]; omega)
      generalize rd _ x4 = z at hm
      have hw := wrap_range (x2 - 5)
      simp only [List.mem_cons, List.not_mem_nil, or_false] at hm
      rcases hm with rfl | rfl | rfl <;> omega
    | false =>
      rw [if_neg (by decide)]
      obtain ⟨t, a1, s1, e1, ht, hs⟩ := src_word hs (by omega)
      rw [e1]
      have h60 : decide (t.size ≤ 60) = true := by simp; omega
      by_cases c4 : r = 4
      · rw [if_pos c4]; exact ⟨_, _, _, _, _, rfl, by simp [vok, h60], by omega, by omega, by omega, ht, hs.up (by omega)⟩
      · rw [if_neg c4]; exact ⟨_, _, _, _, _, rfl, by simp [vok, h60], by omega, by omega, by omega, ht, hs.up (by omega)⟩
  by_cases c2 : r = 2
  · rw [if_pos c2]; exact hj _ (by simp [c2])
  · rw [if_neg c2]; exact hj _ (by simp [c2])
theorem value_of {c : List Int} (h : ∀ x ∈ c, (Lit.int .u8 x).wf = true) (k : Nat) :
    ∃ x y t, spec_ValueOf.f (k + 1) c = some (x, y, t) ∧ vok x y t = true ∧ (-9223372036854775808 ≤ y ∧ y ≤ 9223372036854775807) ∧ t.size ≤ 4 := by
  have e2 : spec_ValueOf.f (k + 1) c = (spec_l00Src_value.f (k + 1) c 0 ((c.length : Int) % 1000)).bind fun b => some (b.1, b.2.1, b.2.2.1) := by
    unfold spec_ValueOf.f
    rw [show spec_l00Source.f c = some (c, 0, (c.length : Int) % 1000) from by unfold spec_l00Source.f; exact Eq.refl _]
    exact Option.bind_some _ _
  obtain ⟨x, y, t, a', s', e, hv, hy, _, _, ht, _⟩ := src_value (src_new h) (by decide) k
  rw [e2, e]
  exact ⟨x, y, t, rfl, hv, hy, ht⟩
end Go.Proofs.Ytgjglmhjgfgnlaa.Pure
end

section
/- AddInts of both. -/
namespace Go.Proofs.Ytgjglmhjgfgnlaa.Pure
open Go.RowKit Go.Proofs.Ytgjglmhjgfgnlaa.X Go.Proofs.YtgjglmhjgfgnlaaW.PrintWords Go.Proofs.YtgjglmhjgfgnlaaW.PrintLast
set_option linter.unusedVariables false
set_option linter.unusedSimpArgs false
theorem wrap_sum (a b : Int) (ha : -9223372036854775808 ≤ a ∧ a ≤ 9223372036854775807) (hb : -9223372036854775808 ≤ b ∧ b ≤ 9223372036854775807) :
    (a + b > 9223372036854775807 ∧ wrap64 (a + b) = a + b - 18446744073709551616) ∨ (a + b < -9223372036854775808 ∧ wrap64 (a + b) = a + b + 18446744073709551616) ∨
    (-9223372036854775808 ≤ a + b ∧ a + b ≤ 9223372036854775807 ∧ wrap64 (a + b) = a + b) := by
  unfold wrap64; omega
theorem spec_add (a b : Int) (ha : -9223372036854775808 ≤ a ∧ a ≤ 9223372036854775807) (hb : -9223372036854775808 ≤ b ∧ b ≤ 9223372036854775807) :
    spec_AddInts.f a b = if -9223372036854775808 ≤ a + b ∧ a + b ≤ 9223372036854775807 then some (a + b, 0) else some (0, 4) := by
  have h := wrap_sum a b ha hb
  unfold spec_AddInts.f spec_l12Add.f
  rcases h with ⟨h1, h2⟩ | ⟨h1, h2⟩ | ⟨h1, h2, h3⟩
  · rw [h2, if_neg (show ¬ (-9223372036854775808 ≤ a + b ∧ a + b ≤ 9223372036854775807) by omega), if_pos (show a > 0 by omega), if_pos (show b > 0 by omega), if_pos (by omega)]; rfl
  · rw [h2, if_neg (show ¬ (-9223372036854775808 ≤ a + b ∧ a + b ≤ 9223372036854775807) by omega), if_neg (show ¬ a > 0 by omega), if_pos (show a < 0 by omega), if_pos (show b < 0 by omega)]
    have : decide (a + b + 18446744073709551616 ≥ 0) = true := by simp; omega
    simp [this]
  · rw [h3, if_pos (show -9223372036854775808 ≤ a + b ∧ a + b ≤ 9223372036854775807 by omega)]
    by_cases c1 : a > 0
    · rw [if_pos c1]
      by_cases c2 : b > 0
      · rw [if_pos c2, if_neg (by omega), if_neg (by omega)]; rfl
      · rw [if_neg c2, if_neg (by omega)]; rfl
    · rw [if_neg c1]
      by_cases c3 : a < 0
      · rw [if_pos c3]
        by_cases c4 : b < 0
        · rw [if_pos c4]
          have : decide (a + b ≥ 0) = false := by simp; omega
          simp [this]
        · rw [if_neg c4]; rfl
      · rw [if_neg c3]; rfl
theorem impl_add (a b : Int) (ha : -9223372036854775808 ≤ a ∧ a ≤ 9223372036854775807) (hb : -9223372036854775808 ≤ b ∧ b ≤ 9223372036854775807) :
    impl_AddInts.f a b = if -9223372036854775808 ≤ a + b ∧ a + b ≤ 9223372036854775807 then some (a + b, 0) else some (0, 4) := by
  have h := wrap_sum a b ha hb
  unfold impl_AddInts.f
  rcases h with ⟨h1, h2⟩ | ⟨h1, h2⟩ | ⟨h1, h2, h3⟩
  · rw [h2, if_neg (show ¬ (-9223372036854775808 ≤ a + b ∧ a + b ≤ 9223372036854775807) by omega), if_neg]
    rw [decide_eq_false (show ¬ (a + b - 18446744073709551616 > a) by omega), decide_eq_true (show b > 0 by omega)]; decide
  · rw [h2, if_neg (show ¬ (-9223372036854775808 ≤ a + b ∧ a + b ≤ 9223372036854775807) by omega), if_neg]
    rw [decide_eq_true (show (a + b + 18446744073709551616 > a) by omega), decide_eq_false (show ¬ b > 0 by omega)]; decide
  · rw [h3, if_pos (show -9223372036854775808 ≤ a + b ∧ a + b ≤ 9223372036854775807 by omega), if_pos]
    rw [beq_iff_eq, decide_eq_decide]; omega
end Go.Proofs.Ytgjglmhjgfgnlaa.Pure
end

section
/- MulInts of both. -/
namespace Go.Proofs.Ytgjglmhjgfgnlaa.Pure
open Go.RowKit Go.Proofs.Ytgjglmhjgfgnlaa.X Go.Proofs.YtgjglmhjgfgnlaaW.PrintWords Go.Proofs.YtgjglmhjgfgnlaaW.PrintLast
set_option linter.unusedVariables false
set_option linter.unusedSimpArgs false
/-! The reference. -/
theorem spec_mul (a b : Int) (ha : -9223372036854775808 ≤ a ∧ a ≤ 9223372036854775807) (hb : -9223372036854775808 ≤ b ∧ b ≤ 9223372036854775807) :
    spec_MulInts.f a b = if -9223372036854775808 ≤ a * b ∧ a * b ≤ 9223372036854775807 then some (a * b, 0) else some (0, 4) := by
  unfold spec_MulInts.f spec_l12Mul.f
  by_cases ha0 : a = 0
  · subst ha0; simp
  by_cases hb0 : b = 0
  · subst hb0; simp
  rw [if_neg (show ¬ (a = 0 ∨ b = 0) by omega)]
  by_cases hin : -9223372036854775808 ≤ a * b ∧ a * b ≤ 9223372036854775807
  · rw [if_pos hin, wrap_in _ hin, Int.mul_tdiv_cancel _ hb0, wrap_in _ ha]
    have h1 : ¬ (a = -1 ∧ b = -9223372036854775808) := by rintro ⟨rfl, rfl⟩; omega
    have h2 : ¬ (b = -1 ∧ a = -9223372036854775808) := by rintro ⟨rfl, rfl⟩; omega
    rw [if_pos ⟨rfl, h1, h2⟩]; rfl
  · rw [if_neg hin]
    have hneg : ¬ (wrap64 (Int.tdiv (wrap64 (a * b)) b) = a ∧ ¬ (a = -1 ∧ b = -9223372036854775808) ∧ ¬ (b = -1 ∧ a = -9223372036854775808)) := by
      by_cases hb1 : b = -1
      · subst hb1
        have hA : a = -9223372036854775808 := by omega
        subst hA
        simp
      · have hw := wrap_range (a * b)
        generalize wrap64 (a * b) = n at hw
        rintro ⟨he, -⟩
        have hn : (Int.tdiv n b).natAbs = n.natAbs / b.natAbs := Int.natAbs_tdiv n b
        have hle : n.natAbs / b.natAbs ≤ n.natAbs := Nat.div_le_self _ _
        have hr : -9223372036854775808 ≤ Int.tdiv n b ∧ Int.tdiv n b ≤ 9223372036854775807 := by
          by_cases hb2 : b = 1
          · subst hb2; rw [Int.tdiv_one]; exact hw
          · have h2 : n.natAbs / b.natAbs ≤ n.natAbs / 2 := Nat.div_le_div_left (by omega) (by decide)
            omega
        rw [wrap_in _ hr] at he
        have hm : Int.tmod n b = n - b * Int.tdiv n b := Int.tmod_def n b
        rw [he, Int.mul_comm b a] at hm
        have h3 : (Int.tmod n b).natAbs ≤ n.natAbs := by rw [Int.natAbs_tmod]; exact Nat.mod_le _ _
        have h4 : 0 ≤ n → 0 ≤ Int.tmod n b := fun h => Int.tmod_nonneg b h
        have h5 : n ≤ 0 → Int.tmod n b ≤ 0 := fun h => by
          have := Int.tmod_nonneg b (a := -n) (by omega)
          rw [Int.neg_tmod] at this; omega
        omega
    rw [if_neg hneg]; rfl

/-! The program. -/
theorem mul64 (x y : Int) (hx : 0 ≤ x ∧ x ≤ 9223372036854775808) (hy : 0 ≤ y ∧ y ≤ 9223372036854775808) :
    bits_Mul64.f x y = some (x * y / 18446744073709551616, x * y % 18446744073709551616) := by
  have hmask : ∀ z : Int, 0 ≤ z → z < 18446744073709551616 → Go.bits .and .u64 z 4294967295 = z % 4294967296 := by
    intro z h0 h1
    obtain ⟨n, rfl⟩ := Int.eq_ofNat_of_zero_le h0
    have := bits_and_u64_nat n 4294967295 (by omega) (by decide)
    rw [show ((4294967295 : Nat) : Int) = 4294967295 from rfl] at this
    rw [this, show (4294967295 : Nat) = 2 ^ 32 - 1 from rfl, Nat.and_two_pow_sub_one_eq_mod]
    omega
  have hA0 : 0 ≤ x / 4294967296 ∧ x / 4294967296 ≤ 2147483648 := by omega
  have hB0 : 0 ≤ y / 4294967296 ∧ y / 4294967296 ≤ 2147483648 := by omega
  have hC0 : 0 ≤ x % 4294967296 ∧ x % 4294967296 ≤ 4294967295 := by omega
  have hD0 : 0 ≤ y % 4294967296 ∧ y % 4294967296 ≤ 4294967295 := by omega
  have hprod : x * y = (x / 4294967296) * (y / 4294967296) * 18446744073709551616 + ((x / 4294967296) * (y % 4294967296) + (x % 4294967296) * (y / 4294967296)) * 4294967296 + (x % 4294967296) * (y % 4294967296) := by
    have hx' : x = 4294967296 * (x / 4294967296) + x % 4294967296 := by omega
    have hy' : y = 4294967296 * (y / 4294967296) + y % 4294967296 := by omega
    generalize x / 4294967296 = p at *
    generalize x % 4294967296 = q at *
    generalize y / 4294967296 = r at *
    generalize y % 4294967296 = s at *
    subst hx' hy'
    grind
  have bound : ∀ (u v U V : Int), 0 ≤ u → u ≤ U → 0 ≤ v → v ≤ V → 0 ≤ u * v ∧ u * v ≤ U * V := fun u v U V h1 h2 h3 h4 =>
    ⟨Int.mul_nonneg h1 h3, Int.mul_le_mul h2 h4 h3 (by omega)⟩
  have bA := bound _ _ _ _ hA0.1 hA0.2 hB0.1 hB0.2
  have bB := bound _ _ _ _ hA0.1 hA0.2 hD0.1 hD0.2
  have bC := bound _ _ _ _ hC0.1 hC0.2 hB0.1 hB0.2
  have bD := bound _ _ _ _ hC0.1 hC0.2 hD0.1 hD0.2
  unfold bits_Mul64.f
  rw [hmask x hx.1 (by omega), hmask y hy.1 (by omega), hprod]
  generalize (x / 4294967296) * (y / 4294967296) = A at *
  generalize (x / 4294967296) * (y % 4294967296) = B at *
  generalize (x % 4294967296) * (y / 4294967296) = C at *
  generalize (x % 4294967296) * (y % 4294967296) = D at *
  simp only [IntKind.wrap_u64]
  rw [hmask _ (by omega) (by omega)]
  congr 2
  omega
theorem size_is (a : Int) (ha : -9223372036854775808 ≤ a ∧ a ≤ 9223372036854775807) : impl_size.f a = some (if a < 0 then -a else a) := by
  unfold impl_size.f
  simp only [IntKind.wrap_u64]
  split
  · congr 1; omega
  · congr 1; omega
theorem impl_mul (a b : Int) (ha : -9223372036854775808 ≤ a ∧ a ≤ 9223372036854775807) (hb : -9223372036854775808 ≤ b ∧ b ≤ 9223372036854775807) :
    impl_MulInts.f a b = if -9223372036854775808 ≤ a * b ∧ a * b ≤ 9223372036854775807 then some (a * b, 0) else some (0, 4) := by
  have hx : 0 ≤ (if a < 0 then -a else a) ∧ (if a < 0 then -a else a) ≤ 9223372036854775808 := by split <;> omega
  have hy : 0 ≤ (if b < 0 then -b else b) ∧ (if b < 0 then -b else b) ≤ 9223372036854775808 := by split <;> omega
  have hs : ((decide (a < 0)) == (decide (b < 0))) = true ∧ a * b = (if a < 0 then -a else a) * (if b < 0 then -b else b) ∨
      ((decide (a < 0)) == (decide (b < 0))) = false ∧ a * b = -((if a < 0 then -a else a) * (if b < 0 then -b else b)) := by
    by_cases c1 : a < 0 <;> by_cases c2 : b < 0 <;> simp [c1, c2, Int.neg_mul, Int.mul_neg]
  unfold impl_MulInts.f
  rw [size_is a ha, size_is b hb]
  simp only [Option.bind_some]
  rw [mul64 _ _ hx hy]
  have hP := Int.mul_nonneg hx.1 hy.1
  generalize (if a < 0 then -a else a) * (if b < 0 then -b else b) = p at *
  simp only [Option.bind_some]
  generalize ((decide (a < 0)) == (decide (b < 0))) = s at *
  rcases hs with ⟨rfl, e⟩ | ⟨rfl, e⟩
  · rw [e]
    by_cases h0 : p / 18446744073709551616 = 0
    · rw [if_pos h0]
      by_cases h1 : p % 18446744073709551616 > 9223372036854775808
      · rw [if_pos h1, if_neg (by omega)]
      · rw [if_neg h1]
        by_cases h2 : p % 18446744073709551616 = 9223372036854775808
        · rw [if_pos h2, if_pos rfl, if_neg (by omega)]
        · rw [if_neg h2, if_pos (by omega), wrap_in _ (by omega)]
    · rw [if_neg h0, if_neg (by omega)]
  · rw [e]
    by_cases h0 : p / 18446744073709551616 = 0
    · rw [if_pos h0]
      by_cases h1 : p % 18446744073709551616 > 9223372036854775808
      · rw [if_pos h1, if_neg (by omega)]
      · rw [if_neg h1]
        by_cases h2 : p % 18446744073709551616 = 9223372036854775808
        · rw [if_pos h2, if_neg (by decide), if_pos (by omega), wrap_in _ (by omega)]
        · rw [if_neg h2, if_pos (by omega), wrap_in _ (by omega)]
    · rw [if_neg h0, if_neg (by omega)]
end Go.Proofs.Ytgjglmhjgfgnlaa.Pure
end

section
-- WRITTEN BY xprint.py, a program of this session, over the translation of the seat. Lean checks it.
namespace Go.Proofs.Ytgjglmhjgfgnlaa.X
open Go.RowKit Go.Proofs.YtgjglmhjgfgnlaaW.PrintWords Go.Proofs.YtgjglmhjgfgnlaaW.PrintLast Go.Proofs.YtgjglmhjgfgnlaaW.PrintMore
attribute [local go_sem] max2_int min2_int max_two min_two max_three min_three max_four min_four   -- for this text's walks alone
set_option linter.unusedVariables false
set_option linter.unusedSimpArgs false

/-! ### spec_l12Least: function 36 -/
def spec_l12Least.f  : Option (Int) := some (-9223372036854775808)
set_option maxHeartbeats 8000000 in
set_option maxRecDepth 100000 in
theorem spec_l12Least.calls  (r : Int) (w : World) (h : spec_l12Least.f  = some r) :
    Calls Try.prog 36 #[] w fun e w' => e = .returned (.int .i64 r) ∧ Drawn0 w w' := by
  have H : (some (-9223372036854775808)) = some r := h
  clear h
  obtain rfl := Option.some.inj H
  go_enter Try.func36, Try.ntmps36
  go_wp2
  go_ret
  exact ⟨by first | rfl | (simp; done) | (simp [*]; done), by repeat (first | exact Drawn0.refl _ | apply Drawn0.step)⟩

end Go.Proofs.Ytgjglmhjgfgnlaa.X
end

section
-- WRITTEN BY xprint.py, a program of this session, over the translation of the seat. Lean checks it.
namespace Go.Proofs.Ytgjglmhjgfgnlaa.X
open Go.RowKit Go.Proofs.YtgjglmhjgfgnlaaW.PrintWords Go.Proofs.YtgjglmhjgfgnlaaW.PrintLast Go.Proofs.YtgjglmhjgfgnlaaW.PrintMore
attribute [local go_sem] max2_int min2_int max_two min_two max_three min_three max_four min_four   -- for this text's walks alone
set_option linter.unusedVariables false
set_option linter.unusedSimpArgs false

/-! ### spec_DivInts: function 12 -/
def spec_DivInts.f (a0 : Int) (a1 : Int) : Option (Int × Int × Int) := if a1 = 0 then (some (0, 0, 13)) else (if a1 = (-1) then ((spec_l12Least.f).bind fun t107 => (if a0 = t107 then (some (0, 0, 4)) else (some (wrap64 (Int.tdiv a0 a1), wrap64 (a0 - (wrap64 ((wrap64 (Int.tdiv a0 a1)) * a1))), 0)))) else (some (wrap64 (Int.tdiv a0 a1), wrap64 (a0 - (wrap64 ((wrap64 (Int.tdiv a0 a1)) * a1))), 0)))
set_option maxHeartbeats 8000000 in
set_option maxRecDepth 100000 in
theorem spec_DivInts.calls (a0 : Int) (a1 : Int) (r1 : Int) (r2 : Int) (r3 : Int) (w : World) (h : spec_DivInts.f a0 a1 = some (r1, r2, r3)) :
    Calls Try.prog 12 #[.int .i64 a0, .int .i64 a1] w fun e w' => e = .returned (.tuple #[.int .i64 r1, .int .i64 r2, .int .i64 r3]) ∧ Drawn0 w w' := by
  have H : (if a1 = 0 then (some (0, 0, 13)) else (if a1 = (-1) then ((spec_l12Least.f).bind fun t107 => (if a0 = t107 then (some (0, 0, 4)) else (some (wrap64 (Int.tdiv a0 a1), wrap64 (a0 - (wrap64 ((wrap64 (Int.tdiv a0 a1)) * a1))), 0)))) else (some (wrap64 (Int.tdiv a0 a1), wrap64 (a0 - (wrap64 ((wrap64 (Int.tdiv a0 a1)) * a1))), 0)))) = some (r1, r2, r3) := h
  clear h
  by_cases c3 : a1 = 0
  · rw [if_pos c3] at H
    have c3b0 : (a1 == 0) = true := beq_iff_eq.mpr c3
    have c3b1 : (a1 != 0) = false := bne_eq_false_iff_eq.mpr c3
    clear c3
    simp only [Option.some.injEq, Prod.mk.injEq] at H
    obtain ⟨rfl, rfl, rfl⟩ := H
    go_enter Try.func12, Try.ntmps12
    go_wp2
    repeat (go_quiet (fail); try go_wp2)
    go_ret3
    exact ⟨by first | rfl | (simp; done) | (simp [*]; done), by repeat (first | exact Drawn0.refl _ | apply Drawn0.step)⟩
  · rw [if_neg c3] at H
    have c3b0 : (a1 == 0) = false := beq_eq_false_iff_ne.mpr c3
    have c3b1 : (a1 != 0) = true := bne_iff_ne.mpr c3
    by_cases c4 : a1 = (-1)
    · rw [if_pos c4] at H
      have c4b0 : (a1 == (-1)) = true := beq_iff_eq.mpr c4
      have c4b1 : (a1 != (-1)) = false := bne_eq_false_iff_eq.mpr c4
      clear c4
      replace H := Option.bind_eq_some_iff.mp H
      obtain ⟨t107, A50, H⟩ := H
      replace H : (if a0 = t107 then (some (0, 0, 4)) else (some (wrap64 (Int.tdiv a0 a1), wrap64 (a0 - (wrap64 ((wrap64 (Int.tdiv a0 a1)) * a1))), 0))) = some (r1, r2, r3) := H
      have A5 := Aside0.mk A50
      clear A50
      by_cases c6 : a0 = t107
      · rw [if_pos c6] at H
        have c6b0 : (a0 == t107) = true := beq_iff_eq.mpr c6
        have c6b1 : (a0 != t107) = false := bne_eq_false_iff_eq.mpr c6
        clear c6
        simp only [Option.some.injEq, Prod.mk.injEq] at H
        obtain ⟨rfl, rfl, rfl⟩ := H
        go_enter Try.func12, Try.ntmps12
        go_wp2_with (first | (go_at_call 36; (with_reducible refine (spec_l12Least.calls  t107 _ A5.out).mono ?_); rintro e w' ⟨rfl, ⟨nd, rfl⟩⟩; (try first | exact ⟨rfl, _, World.drewN_drewN _ _ _⟩ | exact ⟨rfl, _, Eq.trans (World.drewN_drewN _ _ _) (congrArg (World.drewN _) (Nat.add_assoc _ _ _))⟩)))
        repeat (go_quiet (first | (go_at_call 36; (with_reducible refine (spec_l12Least.calls  t107 _ A5.out).mono ?_); rintro e w' ⟨rfl, ⟨nd, rfl⟩⟩; (try first | exact ⟨rfl, _, World.drewN_drewN _ _ _⟩ | exact ⟨rfl, _, Eq.trans (World.drewN_drewN _ _ _) (congrArg (World.drewN _) (Nat.add_assoc _ _ _))⟩))); try go_wp2_with (first | (go_at_call 36; (with_reducible refine (spec_l12Least.calls  t107 _ A5.out).mono ?_); rintro e w' ⟨rfl, ⟨nd, rfl⟩⟩; (try first | exact ⟨rfl, _, World.drewN_drewN _ _ _⟩ | exact ⟨rfl, _, Eq.trans (World.drewN_drewN _ _ _) (congrArg (World.drewN _) (Nat.add_assoc _ _ _))⟩))))
        go_ret3
        exact ⟨by first | rfl | (simp; done) | (simp [*]; done), by repeat (first | exact Drawn0.refl _ | apply Drawn0.step)⟩
      · rw [if_neg c6] at H
        have c6b0 : (a0 == t107) = false := beq_eq_false_iff_ne.mpr c6
        have c6b1 : (a0 != t107) = true := bne_iff_ne.mpr c6
        simp only [Option.some.injEq, Prod.mk.injEq] at H
        obtain ⟨rfl, rfl, rfl⟩ := H
        go_enter Try.func12, Try.ntmps12
        go_wp2_with (first | (go_at_call 36; (with_reducible refine (spec_l12Least.calls  t107 _ A5.out).mono ?_); rintro e w' ⟨rfl, ⟨nd, rfl⟩⟩; (try first | exact ⟨rfl, _, World.drewN_drewN _ _ _⟩ | exact ⟨rfl, _, Eq.trans (World.drewN_drewN _ _ _) (congrArg (World.drewN _) (Nat.add_assoc _ _ _))⟩)))
        repeat (go_quiet (first | (go_at_call 36; (with_reducible refine (spec_l12Least.calls  t107 _ A5.out).mono ?_); rintro e w' ⟨rfl, ⟨nd, rfl⟩⟩; (try first | exact ⟨rfl, _, World.drewN_drewN _ _ _⟩ | exact ⟨rfl, _, Eq.trans (World.drewN_drewN _ _ _) (congrArg (World.drewN _) (Nat.add_assoc _ _ _))⟩))); try go_wp2_with (first | (go_at_call 36; (with_reducible refine (spec_l12Least.calls  t107 _ A5.out).mono ?_); rintro e w' ⟨rfl, ⟨nd, rfl⟩⟩; (try first | exact ⟨rfl, _, World.drewN_drewN _ _ _⟩ | exact ⟨rfl, _, Eq.trans (World.drewN_drewN _ _ _) (congrArg (World.drewN _) (Nat.add_assoc _ _ _))⟩))))
        go_ret3
        exact ⟨by first | rfl | (simp; done) | (simp [*]; done), by repeat (first | exact Drawn0.refl _ | apply Drawn0.step)⟩
    · rw [if_neg c4] at H
      have c4b0 : (a1 == (-1)) = false := beq_eq_false_iff_ne.mpr c4
      have c4b1 : (a1 != (-1)) = true := bne_iff_ne.mpr c4
      simp only [Option.some.injEq, Prod.mk.injEq] at H
      obtain ⟨rfl, rfl, rfl⟩ := H
      go_enter Try.func12, Try.ntmps12
      go_wp2
      repeat (go_quiet (fail); try go_wp2)
      go_ret3
      exact ⟨by first | rfl | (simp; done) | (simp [*]; done), by repeat (first | exact Drawn0.refl _ | apply Drawn0.step)⟩

end Go.Proofs.Ytgjglmhjgfgnlaa.X
end

section
/- DivInts of both. -/
namespace Go.Proofs.Ytgjglmhjgfgnlaa.Pure
open Go.RowKit Go.Proofs.Ytgjglmhjgfgnlaa.X Go.Proofs.YtgjglmhjgfgnlaaW.PrintWords Go.Proofs.YtgjglmhjgfgnlaaW.PrintLast
set_option linter.unusedVariables false
set_option linter.unusedSimpArgs false
theorem tdiv_range (a b : Int) (ha : -9223372036854775808 ≤ a ∧ a ≤ 9223372036854775807) (h0 : b ≠ 0) (h1 : ¬ (a = -9223372036854775808 ∧ b = -1)) :
    -9223372036854775808 ≤ Int.tdiv a b ∧ Int.tdiv a b ≤ 9223372036854775807 := by
  have hn : (Int.tdiv a b).natAbs = a.natAbs / b.natAbs := Int.natAbs_tdiv a b
  by_cases hb1 : b = -1
  · subst hb1
    have : Int.tdiv a (-1) = -a := by rw [Int.tdiv_neg, Int.tdiv_one]
    rw [this]; omega
  · by_cases hb2 : b = 1
    · subst hb2; rw [Int.tdiv_one]; exact ha
    · have h2 : a.natAbs / b.natAbs ≤ a.natAbs / 2 := Nat.div_le_div_left (by omega) (by decide)
      omega
theorem spec_div (a b : Int) (ha : -9223372036854775808 ≤ a ∧ a ≤ 9223372036854775807) (hb : -9223372036854775808 ≤ b ∧ b ≤ 9223372036854775807) (h0 : b ≠ 0) (h1 : ¬ (a = -9223372036854775808 ∧ b = -1)) :
    spec_DivInts.f a b = some (Int.tdiv a b, Int.tmod a b, 0) := by
  have hr := tdiv_range a b ha h0 h1
  have hm : Int.tmod a b = a - Int.tdiv a b * b := by rw [Int.tmod_def, Int.mul_comm]
  have hprod : wrap64 (Int.tdiv a b * b) = Int.tdiv a b * b ∧ wrap64 (a - Int.tdiv a b * b) = Int.tmod a b := by
    have h3 : (Int.tmod a b).natAbs ≤ a.natAbs := by
      rw [Int.natAbs_tmod]; exact Nat.mod_le _ _
    have h4 : 0 ≤ a → 0 ≤ Int.tmod a b := fun h => Int.tmod_nonneg b h
    have h5 : a ≤ 0 → Int.tmod a b ≤ 0 := fun h => by
      have := Int.tmod_nonneg b (a := -a) (by omega)
      rw [Int.neg_tmod] at this; omega
    have h6 : Int.tdiv a b * b = a - Int.tmod a b := by omega
    rw [h6]
    refine ⟨wrap_in _ (by omega), ?_⟩
    rw [show a - (a - Int.tmod a b) = Int.tmod a b by omega]; exact wrap_in _ (by omega)
  unfold spec_DivInts.f spec_l12Least.f
  rw [if_neg h0, wrap_in _ hr, hprod.1, hprod.2]
  by_cases h2 : b = -1
  · rw [if_pos h2]; simp only [Option.bind_some]; rw [if_neg (by omega)]
  · rw [if_neg h2]
theorem impl_div (a b : Int) (ha : -9223372036854775808 ≤ a ∧ a ≤ 9223372036854775807) (hb : -9223372036854775808 ≤ b ∧ b ≤ 9223372036854775807) (h0 : b ≠ 0) (h1 : ¬ (a = -9223372036854775808 ∧ b = -1)) :
    impl_DivInts.f a b = some (Int.tdiv a b, Int.tmod a b, 0) := by
  have hr := tdiv_range a b ha h0 h1
  unfold impl_DivInts.f
  rw [if_neg h0, wrap_in _ hr]
  by_cases h2 : a = -9223372036854775808
  · rw [if_pos h2, if_neg (by omega)]
  · rw [if_neg h2]
end Go.Proofs.Ytgjglmhjgfgnlaa.Pure
end
