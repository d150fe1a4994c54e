/- Contracts of functions, and what is told of them. -/
import Derived.Test.YtjknmljdnolilaaDoorYFnExactCheckRow3
import Derived.Test.YtjknmljdnolilaaDoorYFnExactCheckRow13
import Derived.Test.YtjknmljdnolilaaDoorYFnExactCheckRow4
import Derived.Test.YtjknmljdnolilaaDoorYFnExactCheckRow5
import Derived.Test.YtjknmljdnolilaaDoorYFnExactCheckRow6
import Derived.Test.YtjknmljdnolilaaDoorYFnExactCheckRow9
import Derived.Test.YtjknmljdnolilaaDoorYFnExactCheckRow10
import Derived.OpenShut
import Derived.Laws.Strings
set_option linter.unusedSimpArgs false
set_option linter.unusedVariables false
section
namespace Go.Proofs.YtjknmljdnolilaaDoor.X
open Go.RowKit Go.Proofs.YtjknmljdnolilaaDoorW.PrintWords Go.Proofs.YtjknmljdnolilaaDoorW.PrintLast Go.Proofs.YtjknmljdnolilaaDoorW.PrintMore
attribute [local go_sem] max2_int min2_int max_two min_two max_three min_three max_four min_four   -- for this text's walks alone

section
/-! ### laws_eqValueS: function 26 -/
def laws_eqValueS.l0 : Nat → List (S88) → List (S88) → Int → Option (Bool)
  | 0, _, _, _ => none
  | k + 1, x0, x1, x5 => if x5 < (x0.length : Int) then (if 0 ≤ x5 then (if x5 < (x1.length : Int) then ((laws_eqValue.f ((rd_T88 x0 x5).f0) ((rd_T88 x0 x5).f1) ((rd_T88 x0 x5).f2) ((rd_T88 x1 x5).f0) ((rd_T88 x1 x5).f1) ((rd_T88 x1 x5).f2)).bind fun t103 => (if t103 = true then (laws_eqValueS.l0 k x0 x1 (wrap64 (x5 + 1))) else (some false))) else (none)) else (none)) else (some true)
def laws_eqValueS.f (k : Nat) (l0 : List (S88)) (l1 : List (S88)) : Option (Bool) := if (l0.length : Int) = (l1.length : Int) then (laws_eqValueS.l0 k l0 l1 0) else (some false)
theorem laws_eqValueS.mono_l : ∀ k, (∀ y0 y1 y2, LeO (laws_eqValueS.l0 k y0 y1 y2) (laws_eqValueS.l0 (k + 1) y0 y1 y2))
  | 0 => fun _ _ _ r h => by simp [laws_eqValueS.l0] at h
  | k + 1 => by
    have ih0 := laws_eqValueS.mono_l k
    intro y0 y1 y2
    unfold laws_eqValueS.l0
    repeat' first
    | (with_reducible exact ih0 _ _ _)
    | (with_reducible exact LeO.refl _)
    | (with_reducible exact LeO.none _)
    | (with_reducible refine LeO.ite ?_ ?_)
    | (with_reducible refine LeO.bind ?_ (fun _ => ?_))
    | exact ih0 _ _ _
    | exact LeO.none _
    | refine LeO.ite ?_ ?_
    | refine LeO.bind ?_ (fun _ => ?_)
theorem laws_eqValueS.mono : ∀ a0 a1 k, LeO (laws_eqValueS.f k a0 a1) (laws_eqValueS.f (k + 1) a0 a1) := by
  intro a0 a1 k
  have ih0 := laws_eqValueS.mono_l k
  unfold laws_eqValueS.f
  repeat' first
      | (with_reducible exact ih0 _ _ _)
      | (with_reducible exact LeO.refl _)
      | (with_reducible exact LeO.none _)
      | (with_reducible refine LeO.ite ?_ ?_)
      | (with_reducible refine LeO.bind ?_ (fun _ => ?_))
      | exact ih0 _ _ _
      | exact LeO.none _
      | refine LeO.ite ?_ ?_
      | refine LeO.bind ?_ (fun _ => ?_)
def laws_eqValueS.T6 : Bool × List (List Nat × List Nat) := (true, [([], []), ([], []), ([0, 1], [0, 1]), ([2], [2]), ([], []), ([], []), ([4, 5], [4, 5]), ([6], [6]), ([3, 7], [3, 7]), ([8], [8])])
def laws_eqValueS.B6 : List Nat := [0, 0, 3, 7, 0, 0, 48, 112, 255, 511]
theorem laws_eqValueS.tab6 : rtab .any (opsOf Tryd.f26 6) = laws_eqValueS.T6 := by kernel_rfl
theorem laws_eqValueS.bits6 : waitsOk laws_eqValueS.T6.2 laws_eqValueS.B6 = true := by kernel_rfl
set_option maxHeartbeats 8000000 in
set_option maxRecDepth 100000 in
theorem laws_eqValueS.calls (k : Nat) (A0 : Option Addr) (c0 : Nat) (l0 : List (S88)) (A1 : Option Addr) (c1 : Nat) (l1 : List (S88)) (r : Bool) (w : World) (hr0 : Kd.C k88 w A0 l0.length l0) (hc0 : l0.length ≤ c0) (hr1 : Kd.C k88 w A1 l1.length l1) (hc1 : l1.length ≤ c1) (h : laws_eqValueS.f k l0 l1 = some r) :
    Calls Tryd.prog 26 #[.slice A0 l0.length c0, .slice A1 l1.length c1] w fun e w' => e = .returned (.bool r) ∧ Below w.heap.size w w' := by
  have hu88 := Tryd.underlying88
  have HR0 := ak_ hr0
  have HC0 := ak_ hc0
  clear hr0 hc0
  have HR1 := ak_ hr1
  have HC1 := ak_ hc1
  clear hr1 hc1
  have HB := ak_ (Below.refl w.heap.size w)
  have H : (if (l0.length : Int) = (l1.length : Int) then (laws_eqValueS.l0 k l0 l1 0) else (some false)) = some r := h
  clear h
  by_cases c3 : (l0.length : Int) = (l1.length : Int)
  rotate_left
  · rw [if_neg c3] at H
    have c3b0 : ((l0.length : Int) == (l1.length : Int)) = false := beq_eq_false_iff_ne.mpr c3
    have c3b1 : ((l0.length : Int) != (l1.length : Int)) = true := bne_iff_ne.mpr c3
    have c3b2 : (l0.length == l1.length) = false := by first | simpa using c3 | (simp at c3 ⊢; omega)
    obtain rfl := Option.some.inj H
    go_enter Tryd.func26, Tryd.ntmps26
    go_wp2
    go_ret
    exact ⟨z5_, z0_⟩

  rw [if_pos c3] at H
  have c3b0 : ((l0.length : Int) == (l1.length : Int)) = true := beq_iff_eq.mpr c3
  have c3b1 : ((l0.length : Int) != (l1.length : Int)) = false := bne_eq_false_iff_eq.mpr c3
  have c3b2 : (l0.length == l1.length) = true := by first | simpa using c3 | (simp at c3 ⊢; omega)
  clear c3
  have H' := ak_ H
  clear H
  go_enter Tryd.func26, Tryd.ntmps26
  go_wp2
  go_loopg [5] k (fun kq v5 w' => ∃ (x5_1 : Int), v5 = .int .i64 x5_1 ∧ Aside0 (laws_eqValueS.l0 kq l0 l1 x5_1 = some r) ∧ Aside0 (kq ≤ k) ∧ Aside0 (Below w.heap.size w w'))
  case atStart => exact ⟨(0), z9_, H', ⟨Nat.le_refl _⟩, ⟨z0_⟩⟩
  case round =>
    clear H'
    try clear c1
    try clear c2
    try clear p2
    try clear c3
    try clear c3b0
    try clear c3b1
    try clear c3b2
    obtain ⟨x5_1, rfl, HA, HK1, HB⟩ := hrel
    cases gk with
    | zero => exact absurd HA.out (by simp [laws_eqValueS.l0])
    | succ k1 =>
      have H := HA.out
      clear HA
      simp only [laws_eqValueS.l0] at H
      by_cases c4 : x5_1 < (l0.length : Int)
      rotate_left
      · rw [if_neg c4] at H
        have c4b0 := decide_eq_false c4
        clear c4
        obtain rfl := Option.some.inj H
        go_wp2
        go_ret
        exact ⟨z5_, z0_⟩
      rw [if_pos c4] at H
      have c4b0 := decide_eq_true c4
      clear c4
      by_cases c5 : 0 ≤ x5_1
      rotate_left
      · rw [if_neg c5] at H
        exact absurd H (by simp)
      rw [if_pos c5] at H
      have c5b0 := decide_eq_true c5
      clear c5
      by_cases c6 : x5_1 < (l1.length : Int)
      rotate_left
      · rw [if_neg c6] at H
        exact absurd H (by simp)
      rw [if_pos c6] at H
      have c6b0 := decide_eq_true c6
      clear c6
      replace H := Option.bind_eq_some_iff.mp H
      obtain ⟨t103, A70, H⟩ := H
      have A7 := ak_ A70
      clear A70
      by_cases c8 : t103 = true
      rotate_left
      · replace c8 := Bool.eq_false_iff.mpr c8
        subst c8
        have H1 : (some false) = some r := by rw [if_neg (show ¬ (false = true) by decide)] at H; exact H
        clear H
        have H := H1
        clear H1
        obtain rfl := Option.some.inj H
        try go_wp2
        have n_ := ak_ (below_drew1 HB.out)
        clear HB
        have HB := n_
        clear n_
        have p101 : 0 ≤ (x5_1 : Int) := of_decide_eq_true z6_
        have q101 : x5_1 < (l0.length : Int) := of_decide_eq_true z6_
        obtain ⟨ad101, e101, hx101_0, hx101_1, hx101_2⟩ := at_T88 HR0.out x5_1 p101 q101
        have hw101_2 := hx101_2
        have hw101_1 := hx101_1
        have hw101_0 := hx101_0
        cases e101
        replace hx101_0 := oc_ HB.out hx101_0
        replace hx101_1 := oc_ HB.out hx101_1
        replace hx101_2 := oc_ HB.out hx101_2
        replace p101 := eq_true p101
        replace q101 := eq_true q101
        have p102 : 0 ≤ (x5_1 : Int) := of_decide_eq_true z6_
        have q102 : x5_1 < (l1.length : Int) := of_decide_eq_true z6_
        obtain ⟨ad102, e102, hx102_0, hx102_1, hx102_2⟩ := at_T88 HR1.out x5_1 p102 q102
        have hw102_2 := hx102_2
        have hw102_1 := hx102_1
        have hw102_0 := hx102_0
        cases e102
        replace hx102_0 := oc_ HB.out hx102_0
        replace hx102_1 := oc_ HB.out hx102_1
        replace hx102_2 := oc_ HB.out hx102_2
        replace p102 := eq_true p102
        replace q102 := eq_true q102
        refine start_ (n := 10) (S := fun w' => w'.cell? (ad101.add ((x5_1).toNat * 3)) = some (.int .i64 ((rd_T88 l0 x5_1).f0)) ∧ w'.cell? ⟨(ad101.add ((x5_1).toNat * 3)).block, (ad101.add ((x5_1).toNat * 3)).off + 1, none⟩ = some (.int .i64 ((rd_T88 l0 x5_1).f1)) ∧ w'.cell? ⟨(ad101.add ((x5_1).toNat * 3)).block, (ad101.add ((x5_1).toNat * 3)).off + 2, none⟩ = some (.string ((rd_T88 l0 x5_1).f2)) ∧ w'.cell? (ad102.add ((x5_1).toNat * 3)) = some (.int .i64 ((rd_T88 l1 x5_1).f0)) ∧ w'.cell? ⟨(ad102.add ((x5_1).toNat * 3)).block, (ad102.add ((x5_1).toNat * 3)).off + 1, none⟩ = some (.int .i64 ((rd_T88 l1 x5_1).f1)) ∧ w'.cell? ⟨(ad102.add ((x5_1).toNat * 3)).block, (ad102.add ((x5_1).toNat * 3)).off + 2, none⟩ = some (.string ((rd_T88 l1 x5_1).f2))) (ds := []) #[false, false, false, false, false, false, false, false, false, false] (by kernel_rfl) rfl rfl ⟨(oc_ HB.out hw101_0 :), (oc_ HB.out hw101_1 :), (oc_ HB.out hw101_2 :), (oc_ HB.out hw102_0 :), (oc_ HB.out hw102_1 :), (oc_ HB.out hw102_2 :)⟩ (fun hHeld => ?_); refine with_tabW laws_eqValueS.tab6 laws_eqValueS.bits6 (fun HT_ HW_ => ?_)
        generalize wr.drew = w11 at HB hx101_0 hx101_1 hx101_2 hx102_0 hx102_1 hx102_2 hHeld ⊢
        refine pu_ 0 (N := some 17) #[true, false, false, false, false, false, false, false, false, false] HT_.out (h_ := ?_)
        refine pu_ 1 (N := some 18) #[true, true, false, false, false, false, false, false, false, false] HT_.out (h_ := ?_)
        refine pu_ 2 (N := some 19) #[true, true, true, false, false, false, false, false, false, false] HT_.out (h_ := ?_)
        refine pu_ 4 (N := some 21) #[true, true, true, false, true, false, false, false, false, false] HT_.out (h_ := ?_)
        refine pu_ 5 (N := some 22) #[true, true, true, false, true, true, false, false, false, false] HT_.out (h_ := ?_)
        refine pu_ 6 (N := some 23) #[true, true, true, false, true, true, true, false, false, false] HT_.out (h_ := ?_)
        refine tk_ 3 (N := some 20) #[true, true, true, true, true, true, true, false, false, false] HT_.out HW_.out hHeld (hy := by rintro w' ⟨s0, s1, s2, s3, s4, s5⟩; go_simp; with_reducible rfl) (h_ := ?_)
        refine tk_ 7 (N := some 24) #[true, true, true, true, true, true, true, true, false, false] HT_.out HW_.out hHeld (hy := by rintro w' ⟨s0, s1, s2, s3, s4, s5⟩; go_simp; with_reducible rfl) (h_ := ?_)
        refine one_ (i := 8) (N := some 25) #[true, true, true, true, true, true, true, true, true, false] rfl rfl (one_of HT_.out (by kernel_rfl)) (by decide) (fun K hK => ?_)
        refine goes_ Tryd.func58 (by kernel_rfl) rfl #[.agg #[.int .i64 ((rd_T88 l0 x5_1).f0), .int .i64 ((rd_T88 l0 x5_1).f1), .string ((rd_T88 l0 x5_1).f2)], .agg #[.int .i64 ((rd_T88 l1 x5_1).f0), .int .i64 ((rd_T88 l1 x5_1).f1), .string ((rd_T88 l1 x5_1).f2)]] (by rfl) rfl rfl z3_ ?_
        with_reducible refine (laws_eqValue.calls ((rd_T88 l0 x5_1).f0) ((rd_T88 l0 x5_1).f1) ((rd_T88 l0 x5_1).f2) ((rd_T88 l1 x5_1).f0) ((rd_T88 l1 x5_1).f1) ((rd_T88 l1 x5_1).f2) false _ A7.out).mono ?_
        rintro e w12 ⟨rfl, hb⟩
        refine ⟨_, rfl, ?_⟩
        have n_ := ak_ (below_step z0_ hb)
        clear HB
        have HB := n_
        clear n_
        (try clear hb)
        (try clear hb2)
        (try clear hk)
        (try clear hi)
        refine hK.out _ _ ⟨(oc_ HB.out hw101_0 :), (oc_ HB.out hw101_1 :), (oc_ HB.out hw101_2 :), (oc_ HB.out hw102_0 :), (oc_ HB.out hw102_1 :), (oc_ HB.out hw102_2 :)⟩ (fun hHeld => ?_)
        clear hK K
        refine norm_ (a' := ?_) ?_ ?_
        rotate_left
        · show Act.put _ (some 25) _ = _
          simp only [Act.put, List.setIfInBounds_toArray, List.set_cons_zero, List.set_cons_succ, i64_w, i32_w]
          rfl
        refine pu_ 9 (N := some 26) #[true, true, true, true, true, true, true, true, true, true] HT_.out (h_ := ?_)
        refine done_ (done_of HT_.out (by kernel_rfl)) ?_
        try go_wp2
        go_ret
        exact ⟨z5_, z0_⟩
      subst c8
      have H1 : (laws_eqValueS.l0 k1 l0 l1 (wrap64 (x5_1 + 1))) = some r := by rw [if_pos rfl] at H; exact H
      clear H
      have H := H1
      clear H1
      have H' := ak_ H
      clear H
      try go_wp2
      have n_ := ak_ (below_drew1 HB.out)
      clear HB
      have HB := n_
      clear n_
      have p101 : 0 ≤ (x5_1 : Int) := of_decide_eq_true z6_
      have q101 : x5_1 < (l0.length : Int) := of_decide_eq_true z6_
      obtain ⟨ad101, e101, hx101_0, hx101_1, hx101_2⟩ := at_T88 HR0.out x5_1 p101 q101
      have hw101_2 := hx101_2
      have hw101_1 := hx101_1
      have hw101_0 := hx101_0
      cases e101
      replace hx101_0 := oc_ HB.out hx101_0
      replace hx101_1 := oc_ HB.out hx101_1
      replace hx101_2 := oc_ HB.out hx101_2
      replace p101 := eq_true p101
      replace q101 := eq_true q101
      have p102 : 0 ≤ (x5_1 : Int) := of_decide_eq_true z6_
      have q102 : x5_1 < (l1.length : Int) := of_decide_eq_true z6_
      obtain ⟨ad102, e102, hx102_0, hx102_1, hx102_2⟩ := at_T88 HR1.out x5_1 p102 q102
      have hw102_2 := hx102_2
      have hw102_1 := hx102_1
      have hw102_0 := hx102_0
      cases e102
      replace hx102_0 := oc_ HB.out hx102_0
      replace hx102_1 := oc_ HB.out hx102_1
      replace hx102_2 := oc_ HB.out hx102_2
      replace p102 := eq_true p102
      replace q102 := eq_true q102
      refine start_ (n := 10) (S := fun w' => w'.cell? (ad101.add ((x5_1).toNat * 3)) = some (.int .i64 ((rd_T88 l0 x5_1).f0)) ∧ w'.cell? ⟨(ad101.add ((x5_1).toNat * 3)).block, (ad101.add ((x5_1).toNat * 3)).off + 1, none⟩ = some (.int .i64 ((rd_T88 l0 x5_1).f1)) ∧ w'.cell? ⟨(ad101.add ((x5_1).toNat * 3)).block, (ad101.add ((x5_1).toNat * 3)).off + 2, none⟩ = some (.string ((rd_T88 l0 x5_1).f2)) ∧ w'.cell? (ad102.add ((x5_1).toNat * 3)) = some (.int .i64 ((rd_T88 l1 x5_1).f0)) ∧ w'.cell? ⟨(ad102.add ((x5_1).toNat * 3)).block, (ad102.add ((x5_1).toNat * 3)).off + 1, none⟩ = some (.int .i64 ((rd_T88 l1 x5_1).f1)) ∧ w'.cell? ⟨(ad102.add ((x5_1).toNat * 3)).block, (ad102.add ((x5_1).toNat * 3)).off + 2, none⟩ = some (.string ((rd_T88 l1 x5_1).f2))) (ds := []) #[false, false, false, false, false, false, false, false, false, false] (by kernel_rfl) rfl rfl ⟨(oc_ HB.out hw101_0 :), (oc_ HB.out hw101_1 :), (oc_ HB.out hw101_2 :), (oc_ HB.out hw102_0 :), (oc_ HB.out hw102_1 :), (oc_ HB.out hw102_2 :)⟩ (fun hHeld => ?_); refine with_tabW laws_eqValueS.tab6 laws_eqValueS.bits6 (fun HT_ HW_ => ?_)
      generalize wr.drew = w9 at HB hx101_0 hx101_1 hx101_2 hx102_0 hx102_1 hx102_2 hHeld ⊢
      refine pu_ 0 (N := some 17) #[true, false, false, false, false, false, false, false, false, false] HT_.out (h_ := ?_)
      refine pu_ 1 (N := some 18) #[true, true, false, false, false, false, false, false, false, false] HT_.out (h_ := ?_)
      refine pu_ 2 (N := some 19) #[true, true, true, false, false, false, false, false, false, false] HT_.out (h_ := ?_)
      refine pu_ 4 (N := some 21) #[true, true, true, false, true, false, false, false, false, false] HT_.out (h_ := ?_)
      refine pu_ 5 (N := some 22) #[true, true, true, false, true, true, false, false, false, false] HT_.out (h_ := ?_)
      refine pu_ 6 (N := some 23) #[true, true, true, false, true, true, true, false, false, false] HT_.out (h_ := ?_)
      refine tk_ 3 (N := some 20) #[true, true, true, true, true, true, true, false, false, false] HT_.out HW_.out hHeld (hy := by rintro w' ⟨s0, s1, s2, s3, s4, s5⟩; go_simp; with_reducible rfl) (h_ := ?_)
      refine tk_ 7 (N := some 24) #[true, true, true, true, true, true, true, true, false, false] HT_.out HW_.out hHeld (hy := by rintro w' ⟨s0, s1, s2, s3, s4, s5⟩; go_simp; with_reducible rfl) (h_ := ?_)
      refine one_ (i := 8) (N := some 25) #[true, true, true, true, true, true, true, true, true, false] rfl rfl (one_of HT_.out (by kernel_rfl)) (by decide) (fun K hK => ?_)
      refine goes_ Tryd.func58 (by kernel_rfl) rfl #[.agg #[.int .i64 ((rd_T88 l0 x5_1).f0), .int .i64 ((rd_T88 l0 x5_1).f1), .string ((rd_T88 l0 x5_1).f2)], .agg #[.int .i64 ((rd_T88 l1 x5_1).f0), .int .i64 ((rd_T88 l1 x5_1).f1), .string ((rd_T88 l1 x5_1).f2)]] (by rfl) rfl rfl z3_ ?_
      with_reducible refine (laws_eqValue.calls ((rd_T88 l0 x5_1).f0) ((rd_T88 l0 x5_1).f1) ((rd_T88 l0 x5_1).f2) ((rd_T88 l1 x5_1).f0) ((rd_T88 l1 x5_1).f1) ((rd_T88 l1 x5_1).f2) true _ A7.out).mono ?_
      rintro e w10 ⟨rfl, hb⟩
      refine ⟨_, rfl, ?_⟩
      have n_ := ak_ (below_step z0_ hb)
      clear HB
      have HB := n_
      clear n_
      (try clear hb)
      (try clear hb2)
      (try clear hk)
      (try clear hi)
      refine hK.out _ _ ⟨(oc_ HB.out hw101_0 :), (oc_ HB.out hw101_1 :), (oc_ HB.out hw101_2 :), (oc_ HB.out hw102_0 :), (oc_ HB.out hw102_1 :), (oc_ HB.out hw102_2 :)⟩ (fun hHeld => ?_)
      clear hK K
      refine norm_ (a' := ?_) ?_ ?_
      rotate_left
      · show Act.put _ (some 25) _ = _
        simp only [Act.put, List.setIfInBounds_toArray, List.set_cons_zero, List.set_cons_succ, i64_w, i32_w]
        rfl
      refine pu_ 9 (N := some 26) #[true, true, true, true, true, true, true, true, true, true] HT_.out (h_ := ?_)
      refine done_ (done_of HT_.out (by kernel_rfl)) ?_
      try go_wp2
      go_roundg k1
      case measure => have := HK1.out; omega
      case rel => exact ⟨(wrap64 (x5_1 + 1)), z9_, H', ⟨by have := HK1.out; omega⟩, ⟨z0_⟩⟩
end

section
/-! ### laws_FnExactCheckRow: function 6 -/
def laws_FnExactCheckRow.j0 : Nat → List (S86) → List (S88) → Bool → ByteArray → List (S97) → Int → List (S99) → ByteArray → List (S70) → Int → List (S75) → Option (Bool)
  | 0, _, _, _, _, _, _, _, _, _, _, _ => none
  | k + 1, x1, x9, x47, x102000, x102001, x102002, x102003, x126000, x126001, x126002, x126003 => if x47 = true then (none) else ((laws_toTable.f k x102000 x102001 x102002 x102003).bind fun bt131 => ((laws_eqTable.f k x126000 x126001 x126002 x126003 bt131.1 bt131.2.1 bt131.2.2.1 bt131.2.2.2).bind fun t139 => (if t139 = true then ((laws_toValueS.f k x1).bind fun t140 => ((laws_eqValueS.f k x9 t140).bind fun t143 => (if t143 = true then (some true) else (none)))) else (none))))
def laws_FnExactCheckRow.f (k : Nat) (a0_0 : ByteArray) (l0_1 : List (S97)) (a0_2 : Int) (l0_3 : List (S99)) (l1 : List (S86)) : Option (Bool) := (laws_szTable.f k a0_0 l0_1 a0_2 l0_3 1048576).bind fun t102 => (if t102 < 0 then (some true) else ((laws_szValueS.f k l1 t102).bind fun t103 => (if t103 < 0 then (some true) else ((laws_toTable.f k a0_0 l0_1 a0_2 l0_3).bind fun bt104 => ((laws_toValueS.f k l1).bind fun t112 => ((spec_CheckRow.f k bt104.1 bt104.2.1 bt104.2.2.1 bt104.2.2.2 t112).bind fun bt115 => ((laws_toTable.f k a0_0 l0_1 a0_2 l0_3).bind fun bt117 => ((laws_toValueS.f k l1).bind fun t126 => ((impl_CheckRow.f k bt117.1 bt117.2.1 bt117.2.2.1 bt117.2.2.2 t126).bind fun bt129 => (if bt129.1 = bt115.1 then (laws_FnExactCheckRow.j0 k l1 t126 (bt129.2 != bt115.2) a0_0 l0_1 a0_2 l0_3 bt117.1 bt117.2.1 bt117.2.2.1 bt117.2.2.2) else (laws_FnExactCheckRow.j0 k l1 t126 true a0_0 l0_1 a0_2 l0_3 bt117.1 bt117.2.1 bt117.2.2.1 bt117.2.2.2)))))))))))
theorem laws_FnExactCheckRow.mono_l : ∀ k, (∀ y0 y1 y2 y3 y4 y5 y6 y7 y8 y9 y10, LeO (laws_FnExactCheckRow.j0 k y0 y1 y2 y3 y4 y5 y6 y7 y8 y9 y10) (laws_FnExactCheckRow.j0 (k + 1) y0 y1 y2 y3 y4 y5 y6 y7 y8 y9 y10))
  | 0 => fun _ _ _ _ _ _ _ _ _ _ _ r h => by simp [laws_FnExactCheckRow.j0] at h
  | k + 1 => by
    have ih0 := laws_FnExactCheckRow.mono_l k
    intro y0 y1 y2 y3 y4 y5 y6 y7 y8 y9 y10
    unfold laws_FnExactCheckRow.j0
    repeat' first
    | (with_reducible exact ih0 _ _ _ _ _ _ _ _ _ _ _)
    | (with_reducible exact impl_CheckRow.mono _ _ _ _ _ _)
    | (with_reducible exact laws_eqTable.mono _ _ _ _ _ _ _ _ _)
    | (with_reducible exact laws_eqValueS.mono _ _ _)
    | (with_reducible exact laws_szTable.mono _ _ _ _ _ _)
    | (with_reducible exact laws_szValueS.mono _ _ _)
    | (with_reducible exact laws_toTable.mono _ _ _ _ _)
    | (with_reducible exact laws_toValueS.mono _ _)
    | (with_reducible exact spec_CheckRow.mono _ _ _ _ _ _)
    | (with_reducible exact LeO.refl _)
    | (with_reducible exact LeO.none _)
    | (with_reducible refine LeO.ite ?_ ?_)
    | (with_reducible refine LeO.bind ?_ (fun _ => ?_))
    | exact ih0 _ _ _ _ _ _ _ _ _ _ _
    | exact impl_CheckRow.mono _ _ _ _ _ _
    | exact laws_eqTable.mono _ _ _ _ _ _ _ _ _
    | exact laws_eqValueS.mono _ _ _
    | exact laws_szTable.mono _ _ _ _ _ _
    | exact laws_szValueS.mono _ _ _
    | exact laws_toTable.mono _ _ _ _ _
    | exact laws_toValueS.mono _ _
    | exact spec_CheckRow.mono _ _ _ _ _ _
    | exact LeO.none _
    | refine LeO.ite ?_ ?_
    | refine LeO.bind ?_ (fun _ => ?_)
theorem laws_FnExactCheckRow.mono : ∀ a0 a1 a2 a3 a4 k, LeO (laws_FnExactCheckRow.f k a0 a1 a2 a3 a4) (laws_FnExactCheckRow.f (k + 1) a0 a1 a2 a3 a4) := by
  intro a0 a1 a2 a3 a4 k
  have ih0 := laws_FnExactCheckRow.mono_l k
  unfold laws_FnExactCheckRow.f
  repeat' first
      | (with_reducible exact ih0 _ _ _ _ _ _ _ _ _ _ _)
      | (with_reducible exact impl_CheckRow.mono _ _ _ _ _ _)
      | (with_reducible exact laws_eqTable.mono _ _ _ _ _ _ _ _ _)
      | (with_reducible exact laws_eqValueS.mono _ _ _)
      | (with_reducible exact laws_szTable.mono _ _ _ _ _ _)
      | (with_reducible exact laws_szValueS.mono _ _ _)
      | (with_reducible exact laws_toTable.mono _ _ _ _ _)
      | (with_reducible exact laws_toValueS.mono _ _)
      | (with_reducible exact spec_CheckRow.mono _ _ _ _ _ _)
      | (with_reducible exact LeO.refl _)
      | (with_reducible exact LeO.none _)
      | (with_reducible refine LeO.ite ?_ ?_)
      | (with_reducible refine LeO.bind ?_ (fun _ => ?_))
      | exact ih0 _ _ _ _ _ _ _ _ _ _ _
      | exact impl_CheckRow.mono _ _ _ _ _ _
      | exact laws_eqTable.mono _ _ _ _ _ _ _ _ _
      | exact laws_eqValueS.mono _ _ _
      | exact laws_szTable.mono _ _ _ _ _ _
      | exact laws_szValueS.mono _ _ _
      | exact laws_toTable.mono _ _ _ _ _
      | exact laws_toValueS.mono _ _
      | exact spec_CheckRow.mono _ _ _ _ _ _
      | exact LeO.none _
      | refine LeO.ite ?_ ?_
      | refine LeO.bind ?_ (fun _ => ?_)
set_option maxHeartbeats 8000000 in
set_option maxRecDepth 100000 in
theorem laws_FnExactCheckRow.calls (k : Nat) (a0_0 : ByteArray) (A0_1 : Option Addr) (c0_1 : Nat) (l0_1 : List (S97)) (a0_2 : Int) (A0_3 : Option Addr) (c0_3 : Nat) (l0_3 : List (S99)) (A1 : Option Addr) (c1 : Nat) (l1 : List (S86)) (r : Bool) (w : World) (hr0_1 : Kd.C k97 w A0_1 l0_1.length l0_1) (hc0_1 : l0_1.length ≤ c0_1) (hr0_3 : Kd.C k99 w A0_3 l0_3.length l0_3) (hc0_3 : l0_3.length ≤ c0_3) (hr1 : Kd.C k86 w A1 l1.length l1) (hc1 : l1.length ≤ c1) (h : laws_FnExactCheckRow.f k a0_0 l0_1 a0_2 l0_3 l1 = some r) :
    Calls Tryd.prog 6 #[.agg #[.string a0_0, .slice A0_1 l0_1.length c0_1, .int .i64 a0_2, .slice A0_3 l0_3.length c0_3], .slice A1 l1.length c1] w fun e w' => e = .returned (.bool r) ∧ Below w.heap.size w w' := by
  have hu33 := Tryd.underlying33
  have hu39 := Tryd.underlying39
  have HR0_1 := ak_ hr0_1
  have HC0_1 := ak_ hc0_1
  clear hr0_1 hc0_1
  have HR0_3 := ak_ hr0_3
  have HC0_3 := ak_ hc0_3
  clear hr0_3 hc0_3
  have HR1 := ak_ hr1
  have HC1 := ak_ hc1
  clear hr1 hc1
  have HB := ak_ (Below.refl w.heap.size w)
  have H : ((laws_szTable.f k a0_0 l0_1 a0_2 l0_3 1048576).bind fun t102 => (if t102 < 0 then (some true) else ((laws_szValueS.f k l1 t102).bind fun t103 => (if t103 < 0 then (some true) else ((laws_toTable.f k a0_0 l0_1 a0_2 l0_3).bind fun bt104 => ((laws_toValueS.f k l1).bind fun t112 => ((spec_CheckRow.f k bt104.1 bt104.2.1 bt104.2.2.1 bt104.2.2.2 t112).bind fun bt115 => ((laws_toTable.f k a0_0 l0_1 a0_2 l0_3).bind fun bt117 => ((laws_toValueS.f k l1).bind fun t126 => ((impl_CheckRow.f k bt117.1 bt117.2.1 bt117.2.2.1 bt117.2.2.2 t126).bind fun bt129 => (if bt129.1 = bt115.1 then (laws_FnExactCheckRow.j0 k l1 t126 (bt129.2 != bt115.2) a0_0 l0_1 a0_2 l0_3 bt117.1 bt117.2.1 bt117.2.2.1 bt117.2.2.2) else (laws_FnExactCheckRow.j0 k l1 t126 true a0_0 l0_1 a0_2 l0_3 bt117.1 bt117.2.1 bt117.2.2.1 bt117.2.2.2)))))))))))) = some r := h
  clear h
  replace H := Option.bind_eq_some_iff.mp H
  obtain ⟨t102, A30, H⟩ := H
  have A3 := ak_ A30
  clear A30
  by_cases c4 : t102 < 0
  · rw [if_pos c4] at H
    have c4b0 := decide_eq_true c4
    clear c4
    obtain rfl := Option.some.inj H
    go_enter Tryd.func6, Tryd.ntmps6
    go_wp2_with (first | ((with_reducible refine gate_dst (N := 2) rfl ?_); refine bx_ 2 (cs := #[.string a0_0, .slice A0_1 l0_1.length c0_1, .int .i64 a0_2, .slice A0_3 l0_3.length c0_3]) (t := 33) (h_ := ?_); intro gb101 hg w5 hbox hb; have n_ := a4_ (below_step z0_ hb) (hbox) ((gs_ w hg (below_size z0_))) ((gs_ w hg (below_size z0_))); clear HB; obtain ⟨HB, BK101, GW101, GE101⟩ := n_; clear hb hbox hg; obtain ⟨hcz6_0, hcz6_1, hcz6_2, hcz6_3, hfz6_0, hfz6_1, hfz6_2, hfz6_3⟩ := bcf4 BK101.out) | ((with_reducible refine gate_callee (f := 12) rfl ?_); refine goesL_ (some 14) rfl rfl Tryd.func12 (by kernel_rfl) rfl #[.agg #[.string a0_0, .slice A0_1 l0_1.length c0_1, .int .i64 a0_2, .slice A0_3 l0_3.length c0_3], .int .i64 1048576] rfl z3_ ?_; (with_reducible refine (laws_szTable.calls k a0_0 _ _ l0_1 a0_2 _ _ l0_3 1048576 t102 _ ?side1 ?side2 ?side3 ?side4 A3.out).mono ?_); (case side1 => repeat (first | exact (Kd.C_below HR0_1.out HB.out) | (with_reducible refine Kd.C_alloc ?_ _) | (with_reducible refine Kd.C_drewN ?_ _) | (with_reducible refine Kd.C_drew ?_))); (case side2 => exact HC0_1.out); (case side3 => repeat (first | exact (Kd.C_below HR0_3.out HB.out) | (with_reducible refine Kd.C_alloc ?_ _) | (with_reducible refine Kd.C_drewN ?_ _) | (with_reducible refine Kd.C_drew ?_))); (case side4 => exact HC0_3.out); rintro e w7 ⟨rfl, hb⟩; refine ⟨_, rfl, ?_⟩; have n_ := a2_ (blk_below (g := gb101) (o := .cells #[.string a0_0, .slice A0_1 l0_1.length c0_1, .int .i64 a0_2, .slice A0_3 l0_3.length c0_3] 33 (0, 0)) z2_ hb) (below_step z1_ hb); clear BK101 HB; obtain ⟨BK101, HB⟩ := n_; (try clear hb); (try clear hb2); (try clear hk); (try clear hi)))
    go_ret
    exact ⟨z5_, z1_⟩
  rw [if_neg c4] at H
  have c4b0 := decide_eq_false c4
  clear c4
  replace H := Option.bind_eq_some_iff.mp H
  obtain ⟨t103, A80, H⟩ := H
  have A8 := ak_ A80
  clear A80
  by_cases c9 : t103 < 0
  · rw [if_pos c9] at H
    have c9b0 := decide_eq_true c9
    clear c9
    obtain rfl := Option.some.inj H
    go_enter Tryd.func6, Tryd.ntmps6
    go_wp2_with (first | ((with_reducible refine gate_dst (N := 2) rfl ?_); refine bx_ 2 (cs := #[.string a0_0, .slice A0_1 l0_1.length c0_1, .int .i64 a0_2, .slice A0_3 l0_3.length c0_3]) (t := 33) (h_ := ?_); intro gb101 hg w10 hbox hb; have n_ := a4_ (below_step z0_ hb) (hbox) ((gs_ w hg (below_size z0_))) ((gs_ w hg (below_size z0_))); clear HB; obtain ⟨HB, BK101, GW101, GE101⟩ := n_; clear hb hbox hg; obtain ⟨hcz11_0, hcz11_1, hcz11_2, hcz11_3, hfz11_0, hfz11_1, hfz11_2, hfz11_3⟩ := bcf4 BK101.out) | ((with_reducible refine gate_callee (f := 12) rfl ?_); refine goesL_ (some 14) rfl rfl Tryd.func12 (by kernel_rfl) rfl #[.agg #[.string a0_0, .slice A0_1 l0_1.length c0_1, .int .i64 a0_2, .slice A0_3 l0_3.length c0_3], .int .i64 1048576] rfl z3_ ?_; (with_reducible refine (laws_szTable.calls k a0_0 _ _ l0_1 a0_2 _ _ l0_3 1048576 t102 _ ?side1 ?side2 ?side3 ?side4 A3.out).mono ?_); (case side1 => repeat (first | exact (Kd.C_below HR0_1.out HB.out) | (with_reducible refine Kd.C_alloc ?_ _) | (with_reducible refine Kd.C_drewN ?_ _) | (with_reducible refine Kd.C_drew ?_))); (case side2 => exact HC0_1.out); (case side3 => repeat (first | exact (Kd.C_below HR0_3.out HB.out) | (with_reducible refine Kd.C_alloc ?_ _) | (with_reducible refine Kd.C_drewN ?_ _) | (with_reducible refine Kd.C_drew ?_))); (case side4 => exact HC0_3.out); rintro e w12 ⟨rfl, hb⟩; refine ⟨_, rfl, ?_⟩; have n_ := a2_ (blk_below (g := gb101) (o := .cells #[.string a0_0, .slice A0_1 l0_1.length c0_1, .int .i64 a0_2, .slice A0_3 l0_3.length c0_3] 33 (0, 0)) z2_ hb) (below_step z1_ hb); clear BK101 HB; obtain ⟨BK101, HB⟩ := n_; (try clear hb); (try clear hb2); (try clear hk); (try clear hi)) | ((with_reducible refine gate_callee (f := 22) rfl ?_); refine goesL_ (some 19) rfl rfl Tryd.func22 (by kernel_rfl) rfl #[.slice A1 l1.length c1, .int .i64 t102] rfl z3_ ?_; (with_reducible refine (laws_szValueS.calls k _ _ l1 t102 t103 _ ?side1 ?side2 A8.out).mono ?_); (case side1 => repeat (first | exact (Kd.C_below HR1.out HB.out) | (with_reducible refine Kd.C_alloc ?_ _) | (with_reducible refine Kd.C_drewN ?_ _) | (with_reducible refine Kd.C_drew ?_))); (case side2 => exact HC1.out); rintro e w13 ⟨rfl, hb⟩; refine ⟨_, rfl, ?_⟩; have n_ := a2_ (blk_below (g := gb101) (o := .cells #[.string a0_0, .slice A0_1 l0_1.length c0_1, .int .i64 a0_2, .slice A0_3 l0_3.length c0_3] 33 (0, 0)) z2_ hb) (below_step z1_ hb); clear BK101 HB; obtain ⟨BK101, HB⟩ := n_; (try clear hb); (try clear hb2); (try clear hk); (try clear hi)))
    go_ret
    exact ⟨z5_, z1_⟩
  rw [if_neg c9] at H
  have c9b0 := decide_eq_false c9
  clear c9
  replace H := Option.bind_eq_some_iff.mp H
  obtain ⟨⟨t104, t105, t108, t109⟩, A140, H⟩ := H
  replace H : ((laws_toValueS.f k l1).bind fun t112 => ((spec_CheckRow.f k t104 t105 t108 t109 t112).bind fun bt115 => ((laws_toTable.f k a0_0 l0_1 a0_2 l0_3).bind fun bt117 => ((laws_toValueS.f k l1).bind fun t126 => ((impl_CheckRow.f k bt117.1 bt117.2.1 bt117.2.2.1 bt117.2.2.2 t126).bind fun bt129 => (if bt129.1 = bt115.1 then (laws_FnExactCheckRow.j0 k l1 t126 (bt129.2 != bt115.2) a0_0 l0_1 a0_2 l0_3 bt117.1 bt117.2.1 bt117.2.2.1 bt117.2.2.2) else (laws_FnExactCheckRow.j0 k l1 t126 true a0_0 l0_1 a0_2 l0_3 bt117.1 bt117.2.1 bt117.2.2.1 bt117.2.2.2))))))) = some r := H
  have A14 := ak_ A140
  clear A140
  replace H := Option.bind_eq_some_iff.mp H
  obtain ⟨t112, A150, H⟩ := H
  have A15 := ak_ A150
  clear A150
  replace H := Option.bind_eq_some_iff.mp H
  obtain ⟨⟨t115, t116⟩, A160, H⟩ := H
  replace H : ((laws_toTable.f k a0_0 l0_1 a0_2 l0_3).bind fun bt117 => ((laws_toValueS.f k l1).bind fun t126 => ((impl_CheckRow.f k bt117.1 bt117.2.1 bt117.2.2.1 bt117.2.2.2 t126).bind fun bt129 => (if bt129.1 = t115 then (laws_FnExactCheckRow.j0 k l1 t126 (bt129.2 != t116) a0_0 l0_1 a0_2 l0_3 bt117.1 bt117.2.1 bt117.2.2.1 bt117.2.2.2) else (laws_FnExactCheckRow.j0 k l1 t126 true a0_0 l0_1 a0_2 l0_3 bt117.1 bt117.2.1 bt117.2.2.1 bt117.2.2.2))))) = some r := H
  have A16 := ak_ A160
  clear A160
  replace H := Option.bind_eq_some_iff.mp H
  obtain ⟨⟨t117, t118, t121, t122⟩, A170, H⟩ := H
  replace H : ((laws_toValueS.f k l1).bind fun t126 => ((impl_CheckRow.f k t117 t118 t121 t122 t126).bind fun bt129 => (if bt129.1 = t115 then (laws_FnExactCheckRow.j0 k l1 t126 (bt129.2 != t116) a0_0 l0_1 a0_2 l0_3 t117 t118 t121 t122) else (laws_FnExactCheckRow.j0 k l1 t126 true a0_0 l0_1 a0_2 l0_3 t117 t118 t121 t122)))) = some r := H
  have A17 := ak_ A170
  clear A170
  replace H := Option.bind_eq_some_iff.mp H
  obtain ⟨t126, A180, H⟩ := H
  have A18 := ak_ A180
  clear A180
  replace H := Option.bind_eq_some_iff.mp H
  obtain ⟨⟨t129, t130⟩, A190, H⟩ := H
  replace H : (if t129 = t115 then (laws_FnExactCheckRow.j0 k l1 t126 (t130 != t116) a0_0 l0_1 a0_2 l0_3 t117 t118 t121 t122) else (laws_FnExactCheckRow.j0 k l1 t126 true a0_0 l0_1 a0_2 l0_3 t117 t118 t121 t122)) = some r := H
  have A19 := ak_ A190
  clear A190
  have HC20 := ak_ H
  clear H
  go_enter Tryd.func6, Tryd.ntmps6
  go_upto_region 12 with (first | ((with_reducible refine gate_dst (N := 2) rfl ?_); refine bx_ 2 (cs := #[.string a0_0, .slice A0_1 l0_1.length c0_1, .int .i64 a0_2, .slice A0_3 l0_3.length c0_3]) (t := 33) (h_ := ?_); intro gb101 hg w21 hbox hb; have n_ := a4_ (below_step z0_ hb) (hbox) ((gs_ w hg (below_size z0_))) ((gs_ w hg (below_size z0_))); clear HB; obtain ⟨HB, BK101, GW101, GE101⟩ := n_; clear hb hbox hg; obtain ⟨hcz22_0, hcz22_1, hcz22_2, hcz22_3, hfz22_0, hfz22_1, hfz22_2, hfz22_3⟩ := bcf4 BK101.out) | ((with_reducible refine gate_callee (f := 12) rfl ?_); refine goesL_ (some 14) rfl rfl Tryd.func12 (by kernel_rfl) rfl #[.agg #[.string a0_0, .slice A0_1 l0_1.length c0_1, .int .i64 a0_2, .slice A0_3 l0_3.length c0_3], .int .i64 1048576] rfl z3_ ?_; (with_reducible refine (laws_szTable.calls k a0_0 _ _ l0_1 a0_2 _ _ l0_3 1048576 t102 _ ?side1 ?side2 ?side3 ?side4 A3.out).mono ?_); (case side1 => repeat (first | exact (Kd.C_below HR0_1.out HB.out) | (with_reducible refine Kd.C_alloc ?_ _) | (with_reducible refine Kd.C_drewN ?_ _) | (with_reducible refine Kd.C_drew ?_))); (case side2 => exact HC0_1.out); (case side3 => repeat (first | exact (Kd.C_below HR0_3.out HB.out) | (with_reducible refine Kd.C_alloc ?_ _) | (with_reducible refine Kd.C_drewN ?_ _) | (with_reducible refine Kd.C_drew ?_))); (case side4 => exact HC0_3.out); rintro e w23 ⟨rfl, hb⟩; refine ⟨_, rfl, ?_⟩; have n_ := a2_ (blk_below (g := gb101) (o := .cells #[.string a0_0, .slice A0_1 l0_1.length c0_1, .int .i64 a0_2, .slice A0_3 l0_3.length c0_3] 33 (0, 0)) z2_ hb) (below_step z1_ hb); clear BK101 HB; obtain ⟨BK101, HB⟩ := n_; (try clear hb); (try clear hb2); (try clear hk); (try clear hi)) | ((with_reducible refine gate_callee (f := 22) rfl ?_); refine goesL_ (some 19) rfl rfl Tryd.func22 (by kernel_rfl) rfl #[.slice A1 l1.length c1, .int .i64 t102] rfl z3_ ?_; (with_reducible refine (laws_szValueS.calls k _ _ l1 t102 t103 _ ?side1 ?side2 A8.out).mono ?_); (case side1 => repeat (first | exact (Kd.C_below HR1.out HB.out) | (with_reducible refine Kd.C_alloc ?_ _) | (with_reducible refine Kd.C_drewN ?_ _) | (with_reducible refine Kd.C_drew ?_))); (case side2 => exact HC1.out); rintro e w24 ⟨rfl, hb⟩; refine ⟨_, rfl, ?_⟩; have n_ := a2_ (blk_below (g := gb101) (o := .cells #[.string a0_0, .slice A0_1 l0_1.length c0_1, .int .i64 a0_2, .slice A0_3 l0_3.length c0_3] 33 (0, 0)) z2_ hb) (below_step z1_ hb); clear BK101 HB; obtain ⟨BK101, HB⟩ := n_; (try clear hb); (try clear hb2); (try clear hk); (try clear hi); obtain ⟨hcz25_0, hcz25_1, hcz25_2, hcz25_3, hfz25_0, hfz25_1, hfz25_2, hfz25_3⟩ := bcf4 BK101.out) | ((with_reducible refine gate_callee (f := 14) rfl ?_); refine goesL_ (some 24) rfl rfl Tryd.func14 (by kernel_rfl) rfl #[.agg #[.string a0_0, .slice A0_1 l0_1.length c0_1, .int .i64 a0_2, .slice A0_3 l0_3.length c0_3]] rfl z3_ ?_; (with_reducible refine (laws_toTable.calls k a0_0 _ _ l0_1 a0_2 _ _ l0_3 t104 t105 t108 t109 _ ?side1 ?side2 ?side3 ?side4 A14.out).mono ?_); (case side1 => repeat (first | exact (Kd.C_below HR0_1.out HB.out) | (with_reducible refine Kd.C_alloc ?_ _) | (with_reducible refine Kd.C_drewN ?_ _) | (with_reducible refine Kd.C_drew ?_))); (case side2 => exact HC0_1.out); (case side3 => repeat (first | exact (Kd.C_below HR0_3.out HB.out) | (with_reducible refine Kd.C_alloc ?_ _) | (with_reducible refine Kd.C_drewN ?_ _) | (with_reducible refine Kd.C_drew ?_))); (case side4 => exact HC0_3.out); rintro e w26 ⟨v106, v110, rfl, ho0, ho1, hb⟩; refine ⟨_, rfl, ?_⟩; have n_ := a4_ (Kd.R_lower ho0 (below_size z1_)) (Kd.S_lower ho1 (below_size z1_)) (blk_below (g := gb101) (o := .cells #[.string a0_0, .slice A0_1 l0_1.length c0_1, .int .i64 a0_2, .slice A0_3 l0_3.length c0_3] 33 (0, 0)) z2_ hb) (below_step z1_ hb); clear BK101 HB; obtain ⟨HO107, HO111, BK101, HB⟩ := n_; (try clear hb); (try clear hb2); (try clear hk); (try clear hi); (try clear ho0); (try clear ho1)) | ((with_reducible refine gate_callee (f := 24) rfl ?_); refine goesL_ (some 26) rfl rfl Tryd.func24 (by kernel_rfl) rfl #[.slice A1 l1.length c1] rfl z3_ ?_; (with_reducible refine (laws_toValueS.calls k _ _ l1 t112 _ ?side1 ?side2 A15.out).mono ?_); (case side1 => repeat (first | exact (Kd.C_below HR1.out HB.out) | (with_reducible refine Kd.C_alloc ?_ _) | (with_reducible refine Kd.C_drewN ?_ _) | (with_reducible refine Kd.C_drew ?_))); (case side2 => exact HC1.out); rintro e w27 ⟨v113, rfl, ho0, hb⟩; refine ⟨_, rfl, ?_⟩; have n_ := a5_ (Kd.R_below z31_ hb) (Kd.S_below z32_ hb) (Kd.R_lower ho0 (below_size z1_)) (blk_below (g := gb101) (o := .cells #[.string a0_0, .slice A0_1 l0_1.length c0_1, .int .i64 a0_2, .slice A0_3 l0_3.length c0_3] 33 (0, 0)) z2_ hb) (below_step z1_ hb); clear HO107 HO111 BK101 HB; obtain ⟨HO107, HO111, HO114, BK101, HB⟩ := n_; (try clear hb); (try clear hb2); (try clear hk); (try clear hi); (try clear ho0); obtain ⟨Ao28, co28, eo28⟩ := Kd.R_slice HO107.out; subst eo28; obtain ⟨Ao29, co29, eo29⟩ := Kd.S_slice HO111.out; subst eo29; obtain ⟨Ao30, co30, eo30⟩ := Kd.R_slice HO114.out; subst eo30) | ((with_reducible refine gate_callee (f := 23) rfl ?_); refine goesL_ (some 27) rfl rfl Tryd.func23 (by kernel_rfl) rfl #[.agg #[.string t104, .slice Ao28 t105.length co28, .int .i64 t108, .slice Ao29 t109.length co29], .slice Ao30 t112.length co30] rfl z3_ ?_; (with_reducible refine (spec_CheckRow.calls k t104 _ _ t105 t108 _ _ t109 _ _ t112 t115 t116 _ ?side1 ?side2 ?side3 ?side4 ?side5 ?side6 A16.out).mono ?_); (case side1 => repeat (first | exact (Kd.R_reads' HO107.out).2.2 | (with_reducible refine Kd.C_alloc ?_ _) | (with_reducible refine Kd.C_drewN ?_ _) | (with_reducible refine Kd.C_drew ?_))); (case side2 => exact (Kd.R_reads' HO107.out).2.1); (case side3 => repeat (first | exact (Kd.S_reads' HO111.out).2.2 | (with_reducible refine Kd.C_alloc ?_ _) | (with_reducible refine Kd.C_drewN ?_ _) | (with_reducible refine Kd.C_drew ?_))); (case side4 => exact (Kd.S_reads' HO111.out).2.1); (case side5 => repeat (first | exact (Kd.R_reads' HO114.out).2.2 | (with_reducible refine Kd.C_alloc ?_ _) | (with_reducible refine Kd.C_drewN ?_ _) | (with_reducible refine Kd.C_drew ?_))); (case side6 => exact (Kd.R_reads' HO114.out).2.1); rintro e w31 ⟨rfl, hb⟩; refine ⟨_, rfl, ?_⟩; have n_ := a5_ (Kd.R_below z31_ hb) (Kd.S_below z32_ hb) (Kd.R_below z50_ hb) (blk_below (g := gb101) (o := .cells #[.string a0_0, .slice A0_1 l0_1.length c0_1, .int .i64 a0_2, .slice A0_3 l0_3.length c0_3] 33 (0, 0)) z2_ hb) (below_step z1_ hb); clear HO107 HO111 HO114 BK101 HB; obtain ⟨HO107, HO111, HO114, BK101, HB⟩ := n_; (try clear hb); (try clear hb2); (try clear hk); (try clear hi); obtain ⟨hcz32_0, hcz32_1, hcz32_2, hcz32_3, hfz32_0, hfz32_1, hfz32_2, hfz32_3⟩ := bcf4 BK101.out) | ((with_reducible refine gate_callee (f := 14) rfl ?_); refine goesL_ (some 31) rfl rfl Tryd.func14 (by kernel_rfl) rfl #[.agg #[.string a0_0, .slice A0_1 l0_1.length c0_1, .int .i64 a0_2, .slice A0_3 l0_3.length c0_3]] rfl z3_ ?_; (with_reducible refine (laws_toTable.calls k a0_0 _ _ l0_1 a0_2 _ _ l0_3 t117 t118 t121 t122 _ ?side1 ?side2 ?side3 ?side4 A17.out).mono ?_); (case side1 => repeat (first | exact (Kd.C_below HR0_1.out HB.out) | (with_reducible refine Kd.C_alloc ?_ _) | (with_reducible refine Kd.C_drewN ?_ _) | (with_reducible refine Kd.C_drew ?_))); (case side2 => exact HC0_1.out); (case side3 => repeat (first | exact (Kd.C_below HR0_3.out HB.out) | (with_reducible refine Kd.C_alloc ?_ _) | (with_reducible refine Kd.C_drewN ?_ _) | (with_reducible refine Kd.C_drew ?_))); (case side4 => exact HC0_3.out); rintro e w33 ⟨v119, v123, rfl, ho0, ho1, hb⟩; refine ⟨_, rfl, ?_⟩; have n_ := a7_ (Kd.R_elder' z31_ (Kd.R_base ho0) hb) (Kd.S_elder' z32_ (Kd.S_base ho1) hb) (Kd.R_below z50_ hb) (Kd.R_lower (Kd.R_new' ho0 (Kd.R_lt z31_)) (below_size z1_)) (Kd.S_lower (Kd.S_new' ho1 (Kd.S_lt z32_)) (below_size z1_)) (blk_below (g := gb101) (o := .cells #[.string a0_0, .slice A0_1 l0_1.length c0_1, .int .i64 a0_2, .slice A0_3 l0_3.length c0_3] 33 (0, 0)) z2_ hb) (below_step z1_ hb); clear HO107 HO111 HO114 BK101 HB; obtain ⟨HO107, HO111, HO114, HO120, HO124, BK101, HB⟩ := n_; (try clear hb); (try clear hb2); (try clear hk); (try clear hi); (try clear ho0); (try clear ho1)) | ((with_reducible refine gate_dst (N := 8) rfl ?_); refine bx_ 8 (cs := #[.string (⟨#[]⟩ : ByteArray), .slice none 0 0, .int .i64 0, .slice none 0 0]) (t := 39) (h_ := ?_); intro gb125 hg w34 hbox hb; have n_ := a12_ (Kd.R_below z31_ hb) (Kd.S_below z32_ hb) (Kd.R_below z50_ hb) (Kd.R_below (by (with_reducible repeat (first | apply Kd.R_alloc | apply Kd.R_drewN | apply Kd.R_drew)); exact HO120.out) hb) (Kd.S_below (by (with_reducible repeat (first | apply Kd.S_alloc | apply Kd.S_drewN | apply Kd.S_drew)); exact HO124.out) hb) (blk_below (g := gb101) (o := .cells #[.string a0_0, .slice A0_1 l0_1.length c0_1, .int .i64 a0_2, .slice A0_3 l0_3.length c0_3] 33 (0, 0)) z2_ hb) (below_step z1_ hb) (hbox) ((gs_ w hg (below_size z1_))) ((gs_ w hg (below_size z1_))) ((z45_ : gb101 ≠ gb125)) ((z46_ : gb125 ≠ gb101)); clear HO107 HO111 HO114 HO120 HO124 BK101 HB; obtain ⟨HO107, HO111, HO114, HO120, HO124, BK101, HB, BK125, GW125, GE125, NB101_125, NB125_101⟩ := n_; clear hb hbox hg; have hnb35 := NB125_101.out; have hnc35 := NB101_125.out; obtain ⟨hcz36_0, hcz36_1, hcz36_2, hcz36_3, hfz36_0, hfz36_1, hfz36_2, hfz36_3⟩ := bcf4 BK125.out; obtain ⟨Ao37, co37, eo37⟩ := Kd.R_slice HO120.out; subst eo37; obtain ⟨Ao38, co38, eo38⟩ := Kd.S_slice HO124.out; subst eo38) | ((with_reducible refine gate_callee (f := 24) rfl ?_); refine goesL_ (some 33) rfl rfl Tryd.func24 (by kernel_rfl) rfl #[.slice A1 l1.length c1] rfl z3_ ?_; (with_reducible refine (laws_toValueS.calls k _ _ l1 t126 _ ?side1 ?side2 A18.out).mono ?_); (case side1 => exact Kd.C_below HR1.out z16_); (case side2 => exact HC1.out); rintro e w39 ⟨v127, rfl, ho0, hb⟩; refine ⟨_, rfl, ?_⟩; have n_ := a9_ (Kd.R_below (by (with_reducible repeat (first | apply Kd.R_alloc | apply Kd.R_drewN | apply Kd.R_drew)); exact (Kd.R_mono (Kd.R_far (p := ⟨gb125, 3, none⟩) (Kd.R_far (p := ⟨gb125, 2, none⟩) (Kd.R_far (p := ⟨gb125, 1, none⟩) (Kd.R_far (p := ⟨gb125, 0, none⟩) (Kd.R_types HO107.out BK125.out (by decide)) (fun _ hk => hk.2) (.string t117)) (fun _ hk => hk.2) (.slice Ao37 t118.length co37)) (fun _ hk => hk.2) (.int .i64 t121)) (fun _ hk => hk.2) (.slice Ao38 t122.length co38)) (fun _ h_ => h_.1))) hb) (Kd.S_below (by (with_reducible repeat (first | apply Kd.S_alloc | apply Kd.S_drewN | apply Kd.S_drew)); exact (Kd.S_mono (Kd.S_far (p := ⟨gb125, 3, none⟩) (Kd.S_far (p := ⟨gb125, 2, none⟩) (Kd.S_far (p := ⟨gb125, 1, none⟩) (Kd.S_far (p := ⟨gb125, 0, none⟩) (Kd.S_types HO111.out BK125.out (by decide)) (fun _ hk => hk.2) (.string t117)) (fun _ hk => hk.2) (.slice Ao37 t118.length co37)) (fun _ hk => hk.2) (.int .i64 t121)) (fun _ hk => hk.2) (.slice Ao38 t122.length co38)) (fun _ h_ => h_.1))) hb) (Kd.R_elder' z33_ (Kd.R_base ho0) hb) (Kd.R_below (by (with_reducible repeat (first | apply Kd.R_alloc | apply Kd.R_drewN | apply Kd.R_drew)); exact (Kd.R_mono (Kd.R_far (p := ⟨gb125, 3, none⟩) (Kd.R_far (p := ⟨gb125, 2, none⟩) (Kd.R_far (p := ⟨gb125, 1, none⟩) (Kd.R_far (p := ⟨gb125, 0, none⟩) (Kd.R_types HO120.out BK125.out (by decide)) (fun _ hk => hk.2) (.string t117)) (fun _ hk => hk.2) (.slice Ao37 t118.length co37)) (fun _ hk => hk.2) (.int .i64 t121)) (fun _ hk => hk.2) (.slice Ao38 t122.length co38)) (fun _ h_ => h_.1))) hb) (Kd.S_below (by (with_reducible repeat (first | apply Kd.S_alloc | apply Kd.S_drewN | apply Kd.S_drew)); exact (Kd.S_mono (Kd.S_far (p := ⟨gb125, 3, none⟩) (Kd.S_far (p := ⟨gb125, 2, none⟩) (Kd.S_far (p := ⟨gb125, 1, none⟩) (Kd.S_far (p := ⟨gb125, 0, none⟩) (Kd.S_types HO124.out BK125.out (by decide)) (fun _ hk => hk.2) (.string t117)) (fun _ hk => hk.2) (.slice Ao37 t118.length co37)) (fun _ hk => hk.2) (.int .i64 t121)) (fun _ hk => hk.2) (.slice Ao38 t122.length co38)) (fun _ h_ => h_.1))) hb) (Kd.R_lower (Kd.R_new' ho0 (Kd.R_lt z33_)) (below_size z16_)) (blk_below (g := gb101) (o := .cells #[.string a0_0, .slice A0_1 l0_1.length c0_1, .int .i64 a0_2, .slice A0_3 l0_3.length c0_3] 33 (0, 0)) (by (with_reducible repeat (first | refine blk_drewN ?_ _ | refine blk_drew ?_ | refine blk_alloc ?_ _)); refine blk_far ?_ NB101_125.out _; (with_reducible repeat (first | refine blk_drewN ?_ _ | refine blk_drew ?_ | refine blk_alloc ?_ _)); refine blk_far ?_ NB101_125.out _; (with_reducible repeat (first | refine blk_drewN ?_ _ | refine blk_drew ?_ | refine blk_alloc ?_ _)); refine blk_far ?_ NB101_125.out _; (with_reducible repeat (first | refine blk_drewN ?_ _ | refine blk_drew ?_ | refine blk_alloc ?_ _)); refine blk_far ?_ NB101_125.out _; (with_reducible repeat (first | refine blk_drewN ?_ _ | refine blk_drew ?_ | refine blk_alloc ?_ _)); exact BK101.out) hb) (blk_below (g := gb125) (o := .cells #[.string t117, .slice Ao37 t118.length co37, .int .i64 t121, .slice Ao38 t122.length co38] 39 (0, 0)) (by (with_reducible repeat (first | refine blk_drewN ?_ _ | refine blk_drew ?_ | refine blk_alloc ?_ _)); refine blk_put (cs := #[.string t117, .slice Ao37 t118.length co37, .int .i64 t121, .slice none 0 0]) ?_ 3 _ rfl; (with_reducible repeat (first | refine blk_drewN ?_ _ | refine blk_drew ?_ | refine blk_alloc ?_ _)); refine blk_put (cs := #[.string t117, .slice Ao37 t118.length co37, .int .i64 0, .slice none 0 0]) ?_ 2 _ rfl; (with_reducible repeat (first | refine blk_drewN ?_ _ | refine blk_drew ?_ | refine blk_alloc ?_ _)); refine blk_put (cs := #[.string t117, .slice none 0 0, .int .i64 0, .slice none 0 0]) ?_ 1 _ rfl; (with_reducible repeat (first | refine blk_drewN ?_ _ | refine blk_drew ?_ | refine blk_alloc ?_ _)); refine blk_put (cs := #[.string (⟨#[]⟩ : ByteArray), .slice none 0 0, .int .i64 0, .slice none 0 0]) ?_ 0 _ rfl; (with_reducible repeat (first | refine blk_drewN ?_ _ | refine blk_drew ?_ | refine blk_alloc ?_ _)); exact BK125.out) hb) (below_step z16_ hb); clear HO107 HO111 HO114 HO120 HO124 BK101 BK125 HB; obtain ⟨HO107, HO111, HO114, HO120, HO124, HO128, BK101, BK125, HB⟩ := n_; (try clear hb); (try clear hb2); (try clear hk); (try clear hi); (try clear ho0); obtain ⟨hcz40_0, hcz40_1, hcz40_2, hcz40_3, hfz40_0, hfz40_1, hfz40_2, hfz40_3⟩ := bcf4 BK125.out; obtain ⟨Ao41, co41, eo41⟩ := Kd.R_slice HO128.out; subst eo41) | ((with_reducible refine gate_callee (f := 25) rfl ?_); refine goesL_ (some 37) rfl rfl Tryd.func25 (by kernel_rfl) rfl #[.agg #[.string t117, .slice Ao37 t118.length co37, .int .i64 t121, .slice Ao38 t122.length co38], .slice Ao41 t126.length co41] rfl z3_ ?_; (with_reducible refine (impl_CheckRow.calls k t117 _ _ t118 t121 _ _ t122 _ _ t126 t129 t130 _ ?side1 ?side2 ?side3 ?side4 ?side5 ?side6 A19.out).mono ?_); (case side1 => repeat (first | exact (Kd.R_reads' HO120.out).2.2 | (with_reducible refine Kd.C_alloc ?_ _) | (with_reducible refine Kd.C_drewN ?_ _) | (with_reducible refine Kd.C_drew ?_))); (case side2 => exact (Kd.R_reads' HO120.out).2.1); (case side3 => repeat (first | exact (Kd.S_reads' HO124.out).2.2 | (with_reducible refine Kd.C_alloc ?_ _) | (with_reducible refine Kd.C_drewN ?_ _) | (with_reducible refine Kd.C_drew ?_))); (case side4 => exact (Kd.S_reads' HO124.out).2.1); (case side5 => repeat (first | exact (Kd.R_reads' HO128.out).2.2 | (with_reducible refine Kd.C_alloc ?_ _) | (with_reducible refine Kd.C_drewN ?_ _) | (with_reducible refine Kd.C_drew ?_))); (case side6 => exact (Kd.R_reads' HO128.out).2.1); rintro e w42 ⟨rfl, hb⟩; refine ⟨_, rfl, ?_⟩; have n_ := a9_ (Kd.R_below z31_ hb) (Kd.S_below z32_ hb) (Kd.R_below z50_ hb) (Kd.R_below (by (with_reducible repeat (first | apply Kd.R_alloc | apply Kd.R_drewN | apply Kd.R_drew)); exact HO120.out) hb) (Kd.S_below (by (with_reducible repeat (first | apply Kd.S_alloc | apply Kd.S_drewN | apply Kd.S_drew)); exact HO124.out) hb) (Kd.R_below (by (with_reducible repeat (first | apply Kd.R_alloc | apply Kd.R_drewN | apply Kd.R_drew)); exact HO128.out) hb) (blk_below (g := gb101) (o := .cells #[.string a0_0, .slice A0_1 l0_1.length c0_1, .int .i64 a0_2, .slice A0_3 l0_3.length c0_3] 33 (0, 0)) z2_ hb) (blk_below (g := gb125) (o := .cells #[.string t117, .slice Ao37 t118.length co37, .int .i64 t121, .slice Ao38 t122.length co38] 39 (0, 0)) z27_ hb) (below_step z16_ hb); clear HO107 HO111 HO114 HO120 HO124 HO128 BK101 BK125 HB; obtain ⟨HO107, HO111, HO114, HO120, HO124, HO128, BK101, BK125, HB⟩ := n_; (try clear hb); (try clear hb2); (try clear hk); (try clear hi)))
  (try simp only [Act.put, List.setIfInBounds_toArray, List.set_cons_zero, List.set_cons_succ])
  go_cut [47] (fun v47 wc => ∃ (kq : Nat) (x47_19 : Bool), v47 = .bool x47_19 ∧ Aside0 (laws_FnExactCheckRow.j0 kq l1 t126 x47_19 a0_0 l0_1 a0_2 l0_3 t117 t118 t121 t122 = some r) ∧ Aside0 (kq ≤ k) ∧ Aside0 (Kd.R k88 88 wc w.heap.size (fun _ => True) (.slice Ao41 t126.length co41) t126) ∧ Aside0 (Kd.R k70 70 wc w.heap.size (fun _ => True) (.slice Ao37 t118.length co37) t118) ∧ Aside0 (Kd.S k75 75 wc w.heap.size (fun _ => True) (.slice Ao38 t122.length co38) t122) ∧ Aside0 (wc.heap[gb101]? = some (.cells #[.string a0_0, (.slice A0_1 l0_1.length c0_1), .int .i64 a0_2, (.slice A0_3 l0_3.length c0_3)] 33 (0, 0))) ∧ Aside0 (wc.heap[gb125]? = some (.cells #[.string t117, (.slice Ao37 t118.length co37), .int .i64 t121, (.slice Ao38 t122.length co38)] 39 (0, 0))) ∧ Aside0 (Below w.heap.size w wc))
  case first =>
    have H := HC20.out
    clear HC20
    by_cases c43 : t129 = t115
    rotate_left
    · rw [if_neg c43] at H
      have c43b0 : (t129 == t115) = false := beq_eq_false_iff_ne.mpr c43
      have c43b1 : (t129 != t115) = true := bne_iff_ne.mpr c43
      (first | rw [c43b0] | (simp only [i64_w, i32_w]; rw [c43b0]) | skip)
      have H' := ak_ H
      clear H
      go_wp2
      go_meet
      case rel => exact ⟨_, (true), z9_, H', ⟨by first | omega | exact Nat.le_refl _⟩, ⟨by (with_reducible repeat (first | apply Kd.R_alloc | apply Kd.R_drewN | apply Kd.R_drew)); exact Kd.R_mono HO128.out (fun _ hk => trivial)⟩, ⟨by (with_reducible repeat (first | apply Kd.R_alloc | apply Kd.R_drewN | apply Kd.R_drew)); exact Kd.R_mono HO120.out (fun _ hk => trivial)⟩, ⟨by (with_reducible repeat (first | apply Kd.S_alloc | apply Kd.S_drewN | apply Kd.S_drew)); exact Kd.S_mono HO124.out (fun _ hk => trivial)⟩, ⟨z2_⟩, ⟨z27_⟩, ⟨z16_⟩⟩
    rw [if_pos c43] at H
    have c43b0 : (t129 == t115) = true := beq_iff_eq.mpr c43
    have c43b1 : (t129 != t115) = false := bne_eq_false_iff_eq.mpr c43
    clear c43
    (first | rw [c43b0] | (simp only [i64_w, i32_w]; rw [c43b0]) | skip)
    have H' := ak_ H
    clear H
    go_wp2
    go_meet
    case rel => exact ⟨_, ((t130 != t116)), z9_, H', ⟨by first | omega | exact Nat.le_refl _⟩, ⟨by (with_reducible repeat (first | apply Kd.R_alloc | apply Kd.R_drewN | apply Kd.R_drew)); exact Kd.R_mono HO128.out (fun _ hk => trivial)⟩, ⟨by (with_reducible repeat (first | apply Kd.R_alloc | apply Kd.R_drewN | apply Kd.R_drew)); exact Kd.R_mono HO120.out (fun _ hk => trivial)⟩, ⟨by (with_reducible repeat (first | apply Kd.S_alloc | apply Kd.S_drewN | apply Kd.S_drew)); exact Kd.S_mono HO124.out (fun _ hk => trivial)⟩, ⟨z2_⟩, ⟨z27_⟩, ⟨z16_⟩⟩
  case rest =>
    clear HC20
    try clear c1
    try clear c2
    try clear p2
    try clear c3
    try clear c4
    try clear c4b0
    try clear c6
    try clear c9
    try clear c9b0
    try clear c12
    try clear c14
    try clear c22
    try clear c23
    try clear c24
    try clear c25
    try clear c35
    try clear c43
    try clear c43b0
    try clear c43b1
    try clear hcz11_0
    try clear hcz11_1
    try clear hcz11_2
    try clear hcz11_3
    try clear hcz22_0
    try clear hcz22_1
    try clear hcz22_2
    try clear hcz22_3
    try clear hcz25_0
    try clear hcz25_1
    try clear hcz25_2
    try clear hcz25_3
    try clear hcz32_0
    try clear hcz32_1
    try clear hcz32_2
    try clear hcz32_3
    try clear hcz36_0
    try clear hcz36_1
    try clear hcz36_2
    try clear hcz36_3
    try clear hcz40_0
    try clear hcz40_1
    try clear hcz40_2
    try clear hcz40_3
    try clear hcz6_0
    try clear hcz6_1
    try clear hcz6_2
    try clear hcz6_3
    try clear hfz11_0
    try clear hfz11_1
    try clear hfz11_2
    try clear hfz11_3
    try clear hfz22_0
    try clear hfz22_1
    try clear hfz22_2
    try clear hfz22_3
    try clear hfz25_0
    try clear hfz25_1
    try clear hfz25_2
    try clear hfz25_3
    try clear hfz32_0
    try clear hfz32_1
    try clear hfz32_2
    try clear hfz32_3
    try clear hfz36_0
    try clear hfz36_1
    try clear hfz36_2
    try clear hfz36_3
    try clear hfz40_0
    try clear hfz40_1
    try clear hfz40_2
    try clear hfz40_3
    try clear hfz6_0
    try clear hfz6_1
    try clear hfz6_2
    try clear hfz6_3
    obtain ⟨kq, x47_19, rfl, HA, HJ19, HO_9, HO_126001, HO_126003, BK101, BK125, HB⟩ := hcut
    cases kq with
    | zero => exact absurd HA.out (by simp [laws_FnExactCheckRow.j0])
    | succ kj19 =>
      have H := HA.out
      clear HA
      simp only [laws_FnExactCheckRow.j0] at H
      by_cases c44 : x47_19 = true
      · subst c44
        have H1 : (none) = some r := by rw [if_pos rfl] at H; exact H
        clear H
        have H := H1
        clear H1
        exact absurd H (by simp)
      replace c44 := Bool.eq_false_iff.mpr c44
      subst c44
      have H1 : ((laws_toTable.f kj19 a0_0 l0_1 a0_2 l0_3).bind fun bt131 => ((laws_eqTable.f kj19 t117 t118 t121 t122 bt131.1 bt131.2.1 bt131.2.2.1 bt131.2.2.2).bind fun t139 => (if t139 = true then ((laws_toValueS.f kj19 l1).bind fun t140 => ((laws_eqValueS.f kj19 t126 t140).bind fun t143 => (if t143 = true then (some true) else (none)))) else (none)))) = some r := by rw [if_neg (show ¬ (false = true) by decide)] at H; exact H
      clear H
      have H := H1
      clear H1
      replace H := Option.bind_eq_some_iff.mp H
      obtain ⟨⟨t131, t132, t135, t136⟩, A450, H⟩ := H
      replace H : ((laws_eqTable.f kj19 t117 t118 t121 t122 t131 t132 t135 t136).bind fun t139 => (if t139 = true then ((laws_toValueS.f kj19 l1).bind fun t140 => ((laws_eqValueS.f kj19 t126 t140).bind fun t143 => (if t143 = true then (some true) else (none)))) else (none))) = some r := H
      have A45 := ak_ A450
      clear A450
      replace H := Option.bind_eq_some_iff.mp H
      obtain ⟨t139, A460, H⟩ := H
      have A46 := ak_ A460
      clear A460
      by_cases c47 : t139 = true
      rotate_left
      · replace c47 := Bool.eq_false_iff.mpr c47
        subst c47
        have H1 : (none) = some r := by rw [if_neg (show ¬ (false = true) by decide)] at H; exact H
        clear H
        have H := H1
        clear H1
        exact absurd H (by simp)

      subst c47
      have H1 : ((laws_toValueS.f kj19 l1).bind fun t140 => ((laws_eqValueS.f kj19 t126 t140).bind fun t143 => (if t143 = true then (some true) else (none)))) = some r := by rw [if_pos rfl] at H; exact H
      clear H
      have H := H1
      clear H1
      replace H := Option.bind_eq_some_iff.mp H
      obtain ⟨t140, A480, H⟩ := H
      have A48 := ak_ A480
      clear A480
      replace H := Option.bind_eq_some_iff.mp H
      obtain ⟨t143, A490, H⟩ := H
      have A49 := ak_ A490
      clear A490
      by_cases c50 : t143 = true
      rotate_left
      · replace c50 := Bool.eq_false_iff.mpr c50
        subst c50
        have H1 : (none) = some r := by rw [if_neg (show ¬ (false = true) by decide)] at H; exact H
        clear H
        have H := H1
        clear H1
        exact absurd H (by simp)
      subst c50
      have H1 : (some true) = some r := by rw [if_pos rfl] at H; exact H
      clear H
      have H := H1
      clear H1
      obtain rfl := Option.some.inj H
      try go_wp2
      have n_ := a6_ (Kd.R_drew HO_9.out) (Kd.R_drew HO_126001.out) (Kd.S_drew HO_126003.out) (blk_drew BK101.out) (blk_drew BK125.out) (below_drew1 HB.out)
      clear HO_9 HO_126001 HO_126003 BK101 BK125 HB
      obtain ⟨HO_9, HO_126001, HO_126003, BK101, BK125, HB⟩ := n_
      refine start_ (n := 5) (S := fun w' => w'.cell? ⟨gb125, 0, none⟩ = some (.string t117) ∧ w'.cell? ⟨gb125, 1, none⟩ = some (.slice Ao37 t118.length co37) ∧ w'.cell? ⟨gb125, 2, none⟩ = some (.int .i64 t121) ∧ w'.cell? ⟨gb125, 3, none⟩ = some (.slice Ao38 t122.length co38) ∧ w'.cell? ⟨gb101, 0, none⟩ = some (.string a0_0) ∧ w'.cell? ⟨gb101, 1, none⟩ = some (.slice A0_1 l0_1.length c0_1) ∧ w'.cell? ⟨gb101, 2, none⟩ = some (.int .i64 a0_2) ∧ w'.cell? ⟨gb101, 3, none⟩ = some (.slice A0_3 l0_3.length c0_3)) (ds := []) #[false, false, false, false, false] (by kernel_rfl) rfl rfl ⟨(blk_cell BK125.out 0).trans rfl, (blk_cell BK125.out 1).trans rfl, (blk_cell BK125.out 2).trans rfl, (blk_cell BK125.out 3).trans rfl, (blk_cell BK101.out 0).trans rfl, (blk_cell BK101.out 1).trans rfl, (blk_cell BK101.out 2).trans rfl, (blk_cell BK101.out 3).trans rfl⟩ (fun hHeld => ?_)
      generalize wc.drew = w51 at HO_9 HO_126001 HO_126003 BK101 BK125 HB hHeld ⊢
      refine take_ (i := 0) (N := some 48) (v := ?_) (a' := ?_) #[true, false, false, false, false] rfl rfl (by kernel_rfl) (fun _ _ _ h => h) (Or.inl ⟨by rfl, ?_⟩) hHeld ?_ ?_
      rotate_left
      · rintro w' ⟨s0, s1, s2, s3, s4, s5, s6, s7⟩
        go_simp
        with_reducible rfl
      rotate_left
      · simp only [Act.put, List.setIfInBounds_toArray, List.set_cons_zero, List.set_cons_succ, i64_w, i32_w]
        rfl
      refine take_ (i := 1) (N := some 49) (v := ?_) (a' := ?_) #[true, true, false, false, false] rfl rfl (by kernel_rfl) (fun _ _ _ h => h) (Or.inl ⟨by rfl, ?_⟩) hHeld ?_ ?_
      rotate_left
      · rintro w' ⟨s0, s1, s2, s3, s4, s5, s6, s7⟩
        go_simp
        with_reducible rfl
      rotate_left
      · simp only [Act.put, List.setIfInBounds_toArray, List.set_cons_zero, List.set_cons_succ, i64_w, i32_w]
        rfl
      refine one_ (i := 2) (N := some 50) #[true, true, true, false, false] rfl rfl (by kernel_rfl) (by decide) (fun K hK => ?_)
      refine goes_ Tryd.func14 (by kernel_rfl) rfl #[.agg #[.string a0_0, .slice A0_1 l0_1.length c0_1, .int .i64 a0_2, .slice A0_3 l0_3.length c0_3]] (by rfl) rfl rfl z3_ ?_
      with_reducible refine (laws_toTable.calls kj19 a0_0 _ _ l0_1 a0_2 _ _ l0_3 t131 t132 t135 t136 _ ?side1 ?side2 ?side3 ?side4 A45.out).mono ?_
      (case side1 => repeat (first | exact (Kd.C_below HR0_1.out HB.out) | (with_reducible refine Kd.C_alloc ?_ _) | (with_reducible refine Kd.C_drewN ?_ _) | (with_reducible refine Kd.C_drew ?_)))
      (case side2 => exact HC0_1.out)
      (case side3 => repeat (first | exact (Kd.C_below HR0_3.out HB.out) | (with_reducible refine Kd.C_alloc ?_ _) | (with_reducible refine Kd.C_drewN ?_ _) | (with_reducible refine Kd.C_drew ?_)))
      (case side4 => exact HC0_3.out)
      rintro e w52 ⟨v133, v137, rfl, ho0, ho1, hb⟩
      refine ⟨_, rfl, ?_⟩
      have n_ := a8_ (Kd.R_below z38_ hb) (Kd.R_elder' z35_ (Kd.R_base ho0) hb) (Kd.S_elder' z36_ (Kd.S_base ho1) hb) (Kd.R_lower (Kd.R_new' ho0 (Kd.R_lt z35_)) (below_size z16_)) (Kd.S_lower (Kd.S_new' ho1 (Kd.S_lt z36_)) (below_size z16_)) (blk_below (g := gb101) (o := .cells #[.string a0_0, .slice A0_1 l0_1.length c0_1, .int .i64 a0_2, .slice A0_3 l0_3.length c0_3] 33 (0, 0)) z2_ hb) (blk_below (g := gb125) (o := .cells #[.string t117, .slice Ao37 t118.length co37, .int .i64 t121, .slice Ao38 t122.length co38] 39 (0, 0)) z27_ hb) (below_step z16_ hb)
      clear HO_9 HO_126001 HO_126003 BK101 BK125 HB
      obtain ⟨HO_9, HO_126001, HO_126003, HO134, HO138, BK101, BK125, HB⟩ := n_
      (try clear hb)
      (try clear hb2)
      (try clear hk)
      (try clear hi)
      (try clear ho0)
      (try clear ho1)
      obtain ⟨Ao53, co53, eo53⟩ := Kd.R_slice HO134.out
      (first | subst eo53 | (injection eo53 with f1_ f2_ f3_; have f4_ := f1_.symm; have f5_ := f3_.symm; clear f1_ f2_ f3_; subst f4_; subst f5_))
      obtain ⟨Ao54, co54, eo54⟩ := Kd.S_slice HO138.out
      (first | subst eo54 | (injection eo54 with f1_ f2_ f3_; have f4_ := f1_.symm; have f5_ := f3_.symm; clear f1_ f2_ f3_; subst f4_; subst f5_))
      refine hK.out _ _ ⟨(blk_cell BK125.out 0).trans rfl, (blk_cell BK125.out 1).trans rfl, (blk_cell BK125.out 2).trans rfl, (blk_cell BK125.out 3).trans rfl, (blk_cell BK101.out 0).trans rfl, (blk_cell BK101.out 1).trans rfl, (blk_cell BK101.out 2).trans rfl, (blk_cell BK101.out 3).trans rfl⟩ (fun hHeld => ?_)
      clear hK K
      refine norm_ (a' := ?_) ?_ ?_
      rotate_left
      · show Act.put _ (some 50) _ = _
        simp only [Act.put, List.setIfInBounds_toArray, List.set_cons_zero, List.set_cons_succ, i64_w, i32_w]
        rfl
      refine one_ (i := 3) (N := some 51) #[true, true, true, true, false] rfl rfl (by kernel_rfl) (by decide) (fun K hK => ?_)
      refine goes_ Tryd.func16 (by kernel_rfl) rfl #[.agg #[.string t117, .slice Ao37 t118.length co37, .int .i64 t121, .slice Ao38 t122.length co38], .agg #[.string t131, .slice Ao53 t132.length co53, .int .i64 t135, .slice Ao54 t136.length co54]] (by rfl) rfl rfl z3_ ?_
      with_reducible refine (laws_eqTable.calls kj19 t117 _ _ t118 t121 _ _ t122 t131 _ _ t132 t135 _ _ t136 true _ ?side1 ?side2 ?side3 ?side4 ?side5 ?side6 ?side7 ?side8 A46.out).mono ?_
      (case side1 => repeat (first | exact (Kd.R_reads' HO_126001.out).2.2 | (with_reducible refine Kd.C_alloc ?_ _) | (with_reducible refine Kd.C_drewN ?_ _) | (with_reducible refine Kd.C_drew ?_)))
      (case side2 => exact (Kd.R_reads' HO_126001.out).2.1)
      (case side3 => repeat (first | exact (Kd.S_reads' HO_126003.out).2.2 | (with_reducible refine Kd.C_alloc ?_ _) | (with_reducible refine Kd.C_drewN ?_ _) | (with_reducible refine Kd.C_drew ?_)))
      (case side4 => exact (Kd.S_reads' HO_126003.out).2.1)
      (case side5 => repeat (first | exact (Kd.R_reads' HO134.out).2.2 | (with_reducible refine Kd.C_alloc ?_ _) | (with_reducible refine Kd.C_drewN ?_ _) | (with_reducible refine Kd.C_drew ?_)))
      (case side6 => exact (Kd.R_reads' HO134.out).2.1)
      (case side7 => repeat (first | exact (Kd.S_reads' HO138.out).2.2 | (with_reducible refine Kd.C_alloc ?_ _) | (with_reducible refine Kd.C_drewN ?_ _) | (with_reducible refine Kd.C_drew ?_)))
      (case side8 => exact (Kd.S_reads' HO138.out).2.1)
      rintro e w55 ⟨rfl, hb⟩
      refine ⟨_, rfl, ?_⟩
      have n_ := a8_ (Kd.R_below z38_ hb) (Kd.R_below z35_ hb) (Kd.S_below z36_ hb) (Kd.R_below z58_ hb) (Kd.S_below z59_ hb) (blk_below (g := gb101) (o := .cells #[.string a0_0, .slice A0_1 l0_1.length c0_1, .int .i64 a0_2, .slice A0_3 l0_3.length c0_3] 33 (0, 0)) z2_ hb) (blk_below (g := gb125) (o := .cells #[.string t117, .slice Ao37 t118.length co37, .int .i64 t121, .slice Ao38 t122.length co38] 39 (0, 0)) z27_ hb) (below_step z16_ hb)
      clear HO_9 HO_126001 HO_126003 HO134 HO138 BK101 BK125 HB
      obtain ⟨HO_9, HO_126001, HO_126003, HO134, HO138, BK101, BK125, HB⟩ := n_
      (try clear hb)
      (try clear hb2)
      (try clear hk)
      (try clear hi)
      refine hK.out _ _ ⟨(blk_cell BK125.out 0).trans rfl, (blk_cell BK125.out 1).trans rfl, (blk_cell BK125.out 2).trans rfl, (blk_cell BK125.out 3).trans rfl, (blk_cell BK101.out 0).trans rfl, (blk_cell BK101.out 1).trans rfl, (blk_cell BK101.out 2).trans rfl, (blk_cell BK101.out 3).trans rfl⟩ (fun hHeld => ?_)
      clear hK K
      refine norm_ (a' := ?_) ?_ ?_
      rotate_left
      · show Act.put _ (some 51) _ = _
        simp only [Act.put, List.setIfInBounds_toArray, List.set_cons_zero, List.set_cons_succ, i64_w, i32_w]
        rfl
      refine pure_ (i := 4) (N := some 52) (v := ?_) (a' := ?_) #[true, true, true, true, true] rfl rfl (by kernel_rfl) (fun _ _ _ h => h) (Or.inl ⟨by rfl, ?_⟩) ?_ ?_
      rotate_left
      · intro w'
        go_simp
        with_reducible rfl
      rotate_left
      · simp only [Act.put, List.setIfInBounds_toArray, List.set_cons_zero, List.set_cons_succ, i64_w, i32_w]
        rfl
      refine done_ (by kernel_rfl) ?_
      try go_wp2_with (first | ((with_reducible refine gate_callee (f := 24) rfl ?_); refine goesL_ (some 55) rfl rfl Tryd.func24 (by kernel_rfl) rfl #[.slice A1 l1.length c1] rfl z3_ ?_; (with_reducible refine (laws_toValueS.calls kj19 _ _ l1 t140 _ ?side1 ?side2 A48.out).mono ?_); (case side1 => repeat (first | exact (Kd.C_below HR1.out HB.out) | (with_reducible refine Kd.C_alloc ?_ _) | (with_reducible refine Kd.C_drewN ?_ _) | (with_reducible refine Kd.C_drew ?_))); (case side2 => exact HC1.out); rintro e w56 ⟨v141, rfl, ho0, hb⟩; refine ⟨_, rfl, ?_⟩; have n_ := a9_ (Kd.R_elder' z38_ (Kd.R_base ho0) hb) (Kd.R_below z35_ hb) (Kd.S_below z36_ hb) (Kd.R_below z58_ hb) (Kd.S_below z59_ hb) (Kd.R_lower (Kd.R_new' ho0 (Kd.R_lt z38_)) (below_size z16_)) (blk_below (g := gb101) (o := .cells #[.string a0_0, .slice A0_1 l0_1.length c0_1, .int .i64 a0_2, .slice A0_3 l0_3.length c0_3] 33 (0, 0)) z2_ hb) (blk_below (g := gb125) (o := .cells #[.string t117, .slice Ao37 t118.length co37, .int .i64 t121, .slice Ao38 t122.length co38] 39 (0, 0)) z27_ hb) (below_step z16_ hb); clear HO_9 HO_126001 HO_126003 HO134 HO138 BK101 BK125 HB; obtain ⟨HO_9, HO_126001, HO_126003, HO134, HO138, HO142, BK101, BK125, HB⟩ := n_; (try clear hb); (try clear hb2); (try clear hk); (try clear hi); (try clear ho0); obtain ⟨Ao57, co57, eo57⟩ := Kd.R_slice HO142.out; subst eo57) | ((with_reducible refine gate_callee (f := 26) rfl ?_); refine goesL_ (some 56) rfl rfl Tryd.func26 (by kernel_rfl) rfl #[.slice Ao41 t126.length co41, .slice Ao57 t140.length co57] rfl z3_ ?_; (with_reducible refine (laws_eqValueS.calls kj19 _ _ t126 _ _ t140 true _ ?side1 ?side2 ?side3 ?side4 A49.out).mono ?_); (case side1 => repeat (first | exact (Kd.R_reads' HO_9.out).2.2 | (with_reducible refine Kd.C_alloc ?_ _) | (with_reducible refine Kd.C_drewN ?_ _) | (with_reducible refine Kd.C_drew ?_))); (case side2 => exact (Kd.R_reads' HO_9.out).2.1); (case side3 => repeat (first | exact (Kd.R_reads' HO142.out).2.2 | (with_reducible refine Kd.C_alloc ?_ _) | (with_reducible refine Kd.C_drewN ?_ _) | (with_reducible refine Kd.C_drew ?_))); (case side4 => exact (Kd.R_reads' HO142.out).2.1); rintro e w58 ⟨rfl, hb⟩; refine ⟨_, rfl, ?_⟩; have n_ := a9_ (Kd.R_below z38_ hb) (Kd.R_below z35_ hb) (Kd.S_below z36_ hb) (Kd.R_below z58_ hb) (Kd.S_below z59_ hb) (Kd.R_below (by (with_reducible repeat (first | apply Kd.R_alloc | apply Kd.R_drewN | apply Kd.R_drew)); exact HO142.out) hb) (blk_below (g := gb101) (o := .cells #[.string a0_0, .slice A0_1 l0_1.length c0_1, .int .i64 a0_2, .slice A0_3 l0_3.length c0_3] 33 (0, 0)) z2_ hb) (blk_below (g := gb125) (o := .cells #[.string t117, .slice Ao37 t118.length co37, .int .i64 t121, .slice Ao38 t122.length co38] 39 (0, 0)) z27_ hb) (below_step z16_ hb); clear HO_9 HO_126001 HO_126003 HO134 HO138 HO142 BK101 BK125 HB; obtain ⟨HO_9, HO_126001, HO_126003, HO134, HO138, HO142, BK101, BK125, HB⟩ := n_; (try clear hb); (try clear hb2); (try clear hk); (try clear hi)))
      go_ret
      exact ⟨z5_, z16_⟩
end

section
/-- THE ONE PURE STATEMENT of laws_FnExactCheckRow. -/
def laws_FnExactCheckRow.Need : Prop := ∀ (a0_0 : ByteArray) (l0_1 : List (S97)) (a0_2 : Int) (l0_3 : List (S99)) (l1 : List (S86)), a0_0.size ≤ maxLen → (l0_1.length ≤ maxLen ∧ ∀ x0_ ∈ l0_1, Q97 x0_) → (Lit.int .i64 a0_2).wf = true → (l0_3.length ≤ maxLen ∧ ∀ x0_ ∈ l0_3, Q99 x0_) → (l1.length ≤ maxLen ∧ ∀ x0_ ∈ l1, Q86 x0_) → ∃ k, laws_FnExactCheckRow.f k a0_0 l0_1 a0_2 l0_3 l1 = some true
end

end Go.Proofs.YtjknmljdnolilaaDoor.X
end

section
/- Small facts on numbers and texts. -/
namespace Go.Proofs.YtjknmljdnolilaaDoor.Pure
open Go.RowKit Go.Proofs.YtjknmljdnolilaaDoor.X Go.Proofs.YtjknmljdnolilaaDoorW.PrintWords Go.Proofs.YtjknmljdnolilaaDoorW.PrintLast
theorem wrap_in (a : Int) (ha : -9223372036854775808 ≤ a ∧ a ≤ 9223372036854775807) : wrap64 a = a := by unfold wrap64; omega
theorem wrap_range (a : Int) : -9223372036854775808 ≤ wrap64 a ∧ wrap64 a ≤ 9223372036854775807 := by unfold wrap64; omega
theorem i64_of {n : Int} (h : (Lit.int .i64 n).wf = true) : -9223372036854775808 ≤ n ∧ n ≤ 9223372036854775807 := bounds_i64 h
theorem u8_of {n : Int} (h : (Lit.int .u8 n).wf = true) : 0 ≤ n ∧ n ≤ 255 := bounds_u8 h
theorem toList_eq (s : ByteArray) : s.toList = s.data.toList := ByteArray.toList_eq s
theorem toList_inj {s t : ByteArray} (h : s.toList = t.toList) : s = t := by
  rw [toList_eq, toList_eq] at h
  have := Array.ext' h
  cases s; cases t; simp_all
theorem toList_iff {s t : ByteArray} : s.toList = t.toList ↔ s = t := ⟨toList_inj, fun h => by rw [h]⟩
theorem toList_mk (l : List UInt8) : (⟨⟨l⟩⟩ : ByteArray).toList = l := by rw [toList_eq]
theorem length_toList (s : ByteArray) : s.toList.length = s.size := by rw [toList_eq]; rfl
theorem empty_iff {s : ByteArray} : s.toList = [] ↔ s = (⟨#[]⟩ : ByteArray) := by
  rw [← toList_iff, show (⟨#[]⟩ : ByteArray).toList = [] from toList_mk []]
end Go.Proofs.YtjknmljdnolilaaDoor.Pure
end

section
/- What Contains and Index over texts tell. -/
namespace Go.Proofs.YtjknmljdnolilaaDoor.Pure
open Go.RowKit Go.Proofs.YtjknmljdnolilaaDoor.X Go.Proofs.YtjknmljdnolilaaDoorW.PrintWords Go.Proofs.YtjknmljdnolilaaDoorW.PrintLast
theorem index_loop (l : List ByteArray) (x : ByteArray) (hl : l.length ≤ 9223372036854775807) (d : Nat) : ∀ (k i : Nat), l.length - i = d → i ≤ l.length → d < k →
    slices_Index_string_string.l0 k l x (l.length : Int) (i : Int) = some (match (l.drop i).findIdx? (fun y => x.toList == y.toList) with | some j => ((i + j : Nat) : Int) | none => -1) := by
  induction d with
  | zero =>
    intro k i hd hi hk
    obtain ⟨k, rfl⟩ : ∃ m, k = m + 1 := ⟨k - 1, by omega⟩
    simp only [slices_Index_string_string.l0]
    rw [if_neg (by omega), List.drop_of_length_le (by omega)]
    rfl
  | succ d ih =>
    intro k i hd hi hk
    obtain ⟨k, rfl⟩ : ∃ m, k = m + 1 := ⟨k - 1, by omega⟩
    have hlt : i < l.length := by omega
    simp only [slices_Index_string_string.l0]
    rw [if_pos (by omega), if_pos (by omega), if_pos (by omega), List.drop_eq_getElem_cons hlt, List.findIdx?_cons]
    have hr : rdOf ByteArray.empty l (i : Int) = l[i] := by simp [rdOf, hlt]
    rw [hr]
    by_cases c : x.toList = l[i].toList
    · have : (x.toList == l[i].toList) = true := by rw [c]; simp
      rw [if_pos c, this]; simp
    · have : (x.toList == l[i].toList) = false := by simpa using c
      rw [if_neg c, this, show wrap64 ((i : Int) + 1) = ((i + 1 : Nat) : Int) from by unfold wrap64; omega, ih k (i + 1) (by omega) (by omega) (by omega)]
      cases (l.drop (i + 1)).findIdx? (fun y => x.toList == y.toList) with
      | none => rfl
      | some j => show some (((i + 1 + j : Nat)) : Int) = some (((i + (j + 1) : Nat)) : Int); rw [show i + 1 + j = i + (j + 1) by omega]
theorem contains_is (l : List ByteArray) (x : ByteArray) (hl : l.length ≤ 9223372036854775807) (k : Nat) (hk : l.length < k) :
    slices_Contains_string_string.f k l x = some (l.any fun y => x.toList == y.toList) := by
  unfold slices_Contains_string_string.f slices_Index_string_string.f
  rw [show (0 : Int) = ((0 : Nat) : Int) from rfl, index_loop l x hl l.length k 0 (by omega) (by omega) hk, List.drop_zero]
  simp only [Option.bind_some, Option.some.injEq]
  have := fIdx_any (fun y => x.toList == y.toList) l
  unfold fIdx at this
  rw [← this]
  cases l.findIdx? (fun y => x.toList == y.toList) <;> simp
end Go.Proofs.YtjknmljdnolilaaDoor.Pure
end
