/- Contracts of functions, and what is told of them. -/
import Derived.Test.YtjknmljdnolilaaDoorYFnExactCatalogOK3
import Derived.Test.YtjknmljdnolilaaDoorYFnExactCatalogOK4
import Derived.Test.YtjknmljdnolilaaDoorYFnExactCatalogOK13
-- WRITTEN BY xprint.py, a program of this session, over the translation of the seat. Lean checks it.
namespace Go.Proofs.YtjknmljdnolilaaDoor.X
open Go.RowKit Go.Proofs.YtjknmljdnolilaaDoorW.PrintWords Go.Proofs.YtjknmljdnolilaaDoorW.PrintLast Go.Proofs.YtjknmljdnolilaaDoorW.PrintMore
attribute [local go_sem] max2_int min2_int max_two min_two max_three min_three max_four min_four   -- for this text's walks alone
set_option linter.unusedVariables false
set_option linter.unusedSimpArgs false

attribute [local go_sem] str_gtr str_leq str_geq
/-! ### impl_CatalogOK: function 20 -/
def impl_CatalogOK.l0 : Nat → List (S39) → List (S39) → Int → Int → Option (Bool)
  | 0, _, _, _, _ => none
  | k + 1, x0, x5, x6, x7 => if x7 < x6 then (if 0 ≤ x7 then (if x7 < (x5.length : Int) then ((impl_TableOK.f k ((rd_T39 x5 x7).f0) ((rd_T39 x5 x7).f1) ((rd_T39 x5 x7).f2) ((rd_T39 x5 x7).f3)).bind fun t103 => (if t103 = true then (if x7 > 0 then (if 0 ≤ (wrap64 (x7 - 1)) then (if (wrap64 (x7 - 1)) < (x0.length : Int) then (if ((Op.bytesLess (((rd_T39 x0 (wrap64 (x7 - 1))).f0).toList) (((rd_T39 x5 x7).f0).toList)) = true) then (impl_CatalogOK.l0 k x0 x5 x6 (wrap64 (x7 + 1))) else (some false)) else (none)) else (none)) else (impl_CatalogOK.l0 k x0 x5 x6 (wrap64 (x7 + 1)))) else (some false))) else (none)) else (none)) else (some (decide ((x0.length : Int) ≤ 6)))
def impl_CatalogOK.f (k : Nat) (l0 : List (S39)) : Option (Bool) := impl_CatalogOK.l0 k l0 l0 (l0.length : Int) 0
theorem impl_CatalogOK.mono_l : ∀ k, (∀ y0 y1 y2 y3, LeO (impl_CatalogOK.l0 k y0 y1 y2 y3) (impl_CatalogOK.l0 (k + 1) y0 y1 y2 y3))
  | 0 => fun _ _ _ _ r h => by simp [impl_CatalogOK.l0] at h
  | k + 1 => by
    have ih0 := impl_CatalogOK.mono_l k
    intro y0 y1 y2 y3
    unfold impl_CatalogOK.l0
    repeat' first
    | (with_reducible exact ih0 _ _ _ _)
    | (with_reducible exact impl_TableOK.mono _ _ _ _ _)
    | (with_reducible exact LeO.refl _)
    | (with_reducible exact LeO.none _)
    | (with_reducible refine LeO.ite ?_ ?_)
    | (with_reducible refine LeO.bind ?_ (fun _ => ?_))
    | exact ih0 _ _ _ _
    | exact impl_TableOK.mono _ _ _ _ _
    | exact LeO.none _
    | refine LeO.ite ?_ ?_
    | refine LeO.bind ?_ (fun _ => ?_)
theorem impl_CatalogOK.mono : ∀ a0 k, LeO (impl_CatalogOK.f k a0) (impl_CatalogOK.f (k + 1) a0) := by
  intro a0 k
  have ih0 := impl_CatalogOK.mono_l k
  unfold impl_CatalogOK.f
  repeat' first
      | (with_reducible exact ih0 _ _ _ _)
      | (with_reducible exact impl_TableOK.mono _ _ _ _ _)
      | (with_reducible exact LeO.refl _)
      | (with_reducible exact LeO.none _)
      | (with_reducible refine LeO.ite ?_ ?_)
      | (with_reducible refine LeO.bind ?_ (fun _ => ?_))
      | exact ih0 _ _ _ _
      | exact impl_TableOK.mono _ _ _ _ _
      | exact LeO.none _
      | refine LeO.ite ?_ ?_
      | refine LeO.bind ?_ (fun _ => ?_)
def impl_CatalogOK.T4 : Bool × List (List Nat × List Nat) := (true, [([], []), ([0], [0]), ([1], [1]), ([2, 1], [2]), ([3], [3]), ([4, 3], [3, 4]), ([5, 3, 3], [3, 5]), ([6], [6]), ([7, 6], [6, 7]), ([6], [6]), ([6], [6]), ([10, 6], [6, 10]), ([9, 11, 6], [6, 9, 11]), ([12, 6], [6, 12]), ([13, 6], [6, 13]), ([8, 14, 6], [6, 8, 14]), ([6, 15, 3], [3, 6, 15]), ([3, 16], [3, 16])])
def impl_CatalogOK.B4 : List Nat := [0, 1, 3, 7, 15, 31, 63, 127, 255, 127, 127, 1151, 3711, 7807, 15999, 32767, 65535, 131071]
theorem impl_CatalogOK.tab4 : rtab .any (opsOf Tryd.f20 4) = impl_CatalogOK.T4 := by kernel_rfl
theorem impl_CatalogOK.bits4 : waitsOk impl_CatalogOK.T4.2 impl_CatalogOK.B4 = true := by kernel_rfl
set_option maxHeartbeats 8000000 in
set_option maxRecDepth 100000 in
theorem impl_CatalogOK.calls (k : Nat) (A0 : Option Addr) (c0 : Nat) (l0 : List (S39)) (r : Bool) (w : World) (hr0 : Kd.C k39 w A0 l0.length l0) (hc0 : l0.length ≤ c0) (h : impl_CatalogOK.f k l0 = some r) :
    Calls Tryd.prog 20 #[.slice A0 l0.length c0] w fun e w' => e = .returned (.bool r) ∧ Below w.heap.size w w' := by
  have hu39 := Tryd.underlying39
  have HR0 := ak_ hr0
  have HC0 := ak_ hc0
  clear hr0 hc0
  have HB := ak_ (Below.refl w.heap.size w)
  have H : (impl_CatalogOK.l0 k l0 l0 (l0.length : Int) 0) = some r := h
  clear h
  have H' := ak_ H
  clear H
  go_enter Tryd.func20, Tryd.ntmps20
  go_wp2
  go_loopg [7] k (fun kq v7 w' => ∃ (x7_1 : Int), v7 = .int .i64 x7_1 ∧ Aside0 (impl_CatalogOK.l0 kq l0 l0 (l0.length : Int) x7_1 = some r) ∧ Aside0 (kq ≤ k) ∧ Aside0 (Below w.heap.size w w'))
  case atStart => exact ⟨(0), z9_, H', ⟨Nat.le_refl _⟩, ⟨z0_⟩⟩
  case round =>
    clear H'
    obtain ⟨x7_1, rfl, HA, HK1, HB⟩ := hrel
    cases gk with
    | zero => exact absurd HA.out (by simp [impl_CatalogOK.l0])
    | succ k1 =>
      have H := HA.out
      clear HA
      simp only [impl_CatalogOK.l0] at H
      by_cases c2 : x7_1 < (l0.length : Int)
      rotate_left
      · rw [if_neg c2] at H
        have c2b0 := decide_eq_false c2
        clear c2
        obtain rfl := Option.some.inj H
        go_wp2
        go_ret
        exact ⟨z6_, z0_⟩

      rw [if_pos c2] at H
      have c2b0 := decide_eq_true c2
      clear c2
      by_cases c3 : 0 ≤ x7_1
      rotate_left
      · rw [if_neg c3] at H
        exact absurd H (by simp)
      rw [if_pos c3] at H
      have c3b0 := decide_eq_true c3
      clear c3
      by_cases c4 : x7_1 < (l0.length : Int)
      rotate_left
      · rw [if_neg c4] at H
        exact absurd H (by simp)
      rw [if_pos c4] at H
      have c4b0 := decide_eq_true c4
      clear c4
      replace H := Option.bind_eq_some_iff.mp H
      obtain ⟨t103, A50, H⟩ := H
      have A5 := ak_ A50
      clear A50
      by_cases c6 : t103 = true
      rotate_left
      · replace c6 := Bool.eq_false_iff.mpr c6
        subst c6
        have H1 : (some false) = some r := by rw [if_neg (show ¬ (false = true) by decide)] at H; exact H
        clear H
        have H := H1
        clear H1
        obtain rfl := Option.some.inj H
        have p101 : 0 ≤ (x7_1 : Int) := of_decide_eq_true z4_
        have q101 : x7_1 < (l0.length : Int) := of_decide_eq_true z4_
        obtain ⟨ad101, A101_1, c101_1, A101_3, c101_3, e101, hx101_0, hx101_1, hx101_2, hx101_3, hl101_1, hi101_1, hl101_3, hi101_3⟩ := at_T39 HR0.out x7_1 p101 q101
        cases e101
        replace hx101_0 := oc_ HB.out hx101_0
        replace hx101_1 := oc_ HB.out hx101_1
        replace hx101_2 := oc_ HB.out hx101_2
        replace hx101_3 := oc_ HB.out hx101_3
        have HR101_1 := ak_ hi101_1
        have HC101_1 := ak_ hl101_1
        clear hi101_1 hl101_1
        have HR101_3 := ak_ hi101_3
        have HC101_3 := ak_ hl101_3
        clear hi101_3 hl101_3
        replace p101 := eq_true p101
        replace q101 := eq_true q101
        try go_wp2_with (first | ((with_reducible refine gate_dst (N := 4) rfl ?_); refine bx_ 4 (cs := #[.string (⟨#[]⟩ : ByteArray), .slice none 0 0, .int .i64 0, .slice none 0 0]) (t := 39) (h_ := ?_); intro gb102 hg w27 hbox hb; have n_ := a4_ (below_step z0_ hb) (hbox) ((gs_ w hg (below_size z0_))) ((gs_ w hg (below_size z0_))); clear HB; obtain ⟨HB, BK102, GW102, GE102⟩ := n_; clear hb hbox hg; obtain ⟨hcz28_0, hcz28_1, hcz28_2, hcz28_3, hfz28_0, hfz28_1, hfz28_2, hfz28_3⟩ := bcf4 BK102.out))
        have n0_ : Aside0 (((((w27.setCell ⟨gb102, 0, none⟩ (.string ((rd_T39 l0 x7_1).f0))).setCell ⟨gb102, 1, none⟩ (.slice A101_1 ((rd_T39 l0 x7_1).f1).length c101_1)).setCell ⟨gb102, 2, none⟩ (.int .i64 ((rd_T39 l0 x7_1).f2))).setCell ⟨gb102, 3, none⟩ (.slice A101_3 ((rd_T39 l0 x7_1).f3).length c101_3)).heap[gb102]? = some (.cells #[.string ((rd_T39 l0 x7_1).f0), .slice A101_1 ((rd_T39 l0 x7_1).f1).length c101_1, .int .i64 ((rd_T39 l0 x7_1).f2), .slice A101_3 ((rd_T39 l0 x7_1).f3).length c101_3] 39 (0, 0))) := ⟨z13_⟩
        have n1_ : Aside0 (Below w.heap.size w ((((w27.setCell ⟨gb102, 0, none⟩ (.string ((rd_T39 l0 x7_1).f0))).setCell ⟨gb102, 1, none⟩ (.slice A101_1 ((rd_T39 l0 x7_1).f1).length c101_1)).setCell ⟨gb102, 2, none⟩ (.int .i64 ((rd_T39 l0 x7_1).f2))).setCell ⟨gb102, 3, none⟩ (.slice A101_3 ((rd_T39 l0 x7_1).f3).length c101_3))) := ⟨z19_⟩
        (try clear BK102)
        (try clear HB)
        generalize ((((w27.setCell ⟨gb102, 0, none⟩ (.string ((rd_T39 l0 x7_1).f0))).setCell ⟨gb102, 1, none⟩ (.slice A101_1 ((rd_T39 l0 x7_1).f1).length c101_1)).setCell ⟨gb102, 2, none⟩ (.int .i64 ((rd_T39 l0 x7_1).f2))).setCell ⟨gb102, 3, none⟩ (.slice A101_3 ((rd_T39 l0 x7_1).f3).length c101_3)) = w29 at n0_ n1_ ⊢
        have BK102 := n0_
        have HB := n1_
        clear n0_ n1_
        have n_ := a2_ (blk_drew BK102.out) (below_drew1 HB.out)
        clear BK102 HB
        obtain ⟨BK102, HB⟩ := n_
        refine start_ (n := 18) (S := fun w' => w'.cell? ⟨gb102, 0, none⟩ = some (.string ((rd_T39 l0 x7_1).f0)) ∧ w'.cell? ⟨gb102, 1, none⟩ = some (.slice A101_1 ((rd_T39 l0 x7_1).f1).length c101_1) ∧ w'.cell? ⟨gb102, 2, none⟩ = some (.int .i64 ((rd_T39 l0 x7_1).f2)) ∧ w'.cell? ⟨gb102, 3, none⟩ = some (.slice A101_3 ((rd_T39 l0 x7_1).f3).length c101_3)) (ds := []) #[false, false, false, false, false, false, false, false, false, false, false, false, false, false, false, false, false, false] (by kernel_rfl) rfl rfl ⟨(blk_cell BK102.out 0).trans rfl, (blk_cell BK102.out 1).trans rfl, (blk_cell BK102.out 2).trans rfl, (blk_cell BK102.out 3).trans rfl⟩ (fun hHeld => ?_); refine with_tabW impl_CatalogOK.tab4 impl_CatalogOK.bits4 (fun HT_ HW_ => ?_)
        generalize w29.drew = w30 at BK102 HB hHeld ⊢
        refine tk_ 0 (N := some 12) #[true, false, false, false, false, false, false, false, false, false, false, false, false, false, false, false, false, false] HT_.out HW_.out hHeld (hy := by rintro w' ⟨s0, s1, s2, s3⟩; go_simp; with_reducible rfl) (h_ := ?_)
        refine one_ (i := 1) (N := some 13) #[true, true, false, false, false, false, false, false, false, false, false, false, false, false, false, false, false, false] rfl rfl (one_of HT_.out (by kernel_rfl)) (by decide) (fun K hK => ?_)
        refine goes_ Tryd.func15 (by kernel_rfl) rfl #[.agg #[.string ((rd_T39 l0 x7_1).f0), .slice A101_1 ((rd_T39 l0 x7_1).f1).length c101_1, .int .i64 ((rd_T39 l0 x7_1).f2), .slice A101_3 ((rd_T39 l0 x7_1).f3).length c101_3]] (by rfl) rfl rfl z3_ ?_
        with_reducible refine (impl_TableOK.calls k1 ((rd_T39 l0 x7_1).f0) _ _ ((rd_T39 l0 x7_1).f1) ((rd_T39 l0 x7_1).f2) _ _ ((rd_T39 l0 x7_1).f3) false _ ?side1 ?side2 ?side3 ?side4 A5.out).mono ?_
        (case side1 => repeat (first | exact (Kd.C_below HR101_1.out HB.out) | (with_reducible refine Kd.C_alloc ?_ _) | (with_reducible refine Kd.C_drewN ?_ _) | (with_reducible refine Kd.C_drew ?_)))
        (case side2 => exact HC101_1.out)
        (case side3 => repeat (first | exact (Kd.C_below HR101_3.out HB.out) | (with_reducible refine Kd.C_alloc ?_ _) | (with_reducible refine Kd.C_drewN ?_ _) | (with_reducible refine Kd.C_drew ?_)))
        (case side4 => exact HC101_3.out)
        rintro e w31 ⟨rfl, hb⟩
        refine ⟨_, rfl, ?_⟩
        have n_ := a2_ (blk_below (g := gb102) (o := .cells #[.string ((rd_T39 l0 x7_1).f0), .slice A101_1 ((rd_T39 l0 x7_1).f1).length c101_1, .int .i64 ((rd_T39 l0 x7_1).f2), .slice A101_3 ((rd_T39 l0 x7_1).f3).length c101_3] 39 (0, 0)) z12_ hb) (below_step z19_ hb)
        clear BK102 HB
        obtain ⟨BK102, HB⟩ := n_
        (try clear hb)
        (try clear hb2)
        (try clear hk)
        (try clear hi)
        refine hK.out _ _ ⟨(blk_cell BK102.out 0).trans rfl, (blk_cell BK102.out 1).trans rfl, (blk_cell BK102.out 2).trans rfl, (blk_cell BK102.out 3).trans rfl⟩ (fun hHeld => ?_)
        clear hK K
        refine norm_ (a' := ?_) ?_ ?_
        rotate_left
        · show Act.put _ (some 13) _ = _
          simp only [Act.put, List.setIfInBounds_toArray, List.set_cons_zero, List.set_cons_succ, i64_w, i32_w]
          rfl
        refine pu_ 2 (N := some 14) #[true, true, true, false, false, false, false, false, false, false, false, false, false, false, false, false, false, false] HT_.out (h_ := ?_)
        refine pu_ 3 (N := some 15) #[true, true, true, true, false, false, false, false, false, false, false, false, false, false, false, false, false, false] HT_.out (h_ := ?_)
        refine pure_ (i := 4) (N := some 16) (v := undef) (a' := ?_) #[true, true, true, true, true, false, false, false, false, false, false, false, false, false, false, false, false, false] rfl rfl (any_of HT_.out (by kernel_rfl)) (fun _ _ _ h => h) (Or.inr ⟨by rfl, rfl⟩) ?_ ?_
        rotate_left
        · simp only [Act.put, List.setIfInBounds_toArray, List.set_cons_zero, List.set_cons_succ, i64_w, i32_w]
          rfl
        refine pure_ (i := 5) (N := some 17) (v := undef) (a' := ?_) #[true, true, true, true, true, true, false, false, false, false, false, false, false, false, false, false, false, false] rfl rfl (any_of HT_.out (by kernel_rfl)) (fun _ _ _ h => h) (Or.inr ⟨by rfl, rfl⟩) ?_ ?_
        rotate_left
        · simp only [Act.put, List.setIfInBounds_toArray, List.set_cons_zero, List.set_cons_succ, i64_w, i32_w]
          rfl
        refine pure_ (i := 6) (N := some 18) (v := undef) (a' := ?_) #[true, true, true, true, true, true, true, false, false, false, false, false, false, false, false, false, false, false] rfl rfl (any_of HT_.out (by kernel_rfl)) (fun _ _ _ h => h) (Or.inr ⟨by rfl, rfl⟩) ?_ ?_
        rotate_left
        · simp only [Act.put, List.setIfInBounds_toArray, List.set_cons_zero, List.set_cons_succ, i64_w, i32_w]
          rfl
        refine pure_ (i := 7) (N := some 19) (v := undef) (a' := ?_) #[true, true, true, true, true, true, true, true, false, false, false, false, false, false, false, false, false, false] rfl rfl (any_of HT_.out (by kernel_rfl)) (fun _ _ _ h => h) (Or.inr ⟨by rfl, rfl⟩) ?_ ?_
        rotate_left
        · simp only [Act.put, List.setIfInBounds_toArray, List.set_cons_zero, List.set_cons_succ, i64_w, i32_w]
          rfl
        refine pure_ (i := 8) (N := some 20) (v := undef) (a' := ?_) #[true, true, true, true, true, true, true, true, true, false, false, false, false, false, false, false, false, false] rfl rfl (any_of HT_.out (by kernel_rfl)) (fun _ _ _ h => h) (Or.inr ⟨by rfl, rfl⟩) ?_ ?_
        rotate_left
        · simp only [Act.put, List.setIfInBounds_toArray, List.set_cons_zero, List.set_cons_succ, i64_w, i32_w]
          rfl
        refine pure_ (i := 9) (N := some 21) (v := undef) (a' := ?_) #[true, true, true, true, true, true, true, true, true, true, false, false, false, false, false, false, false, false] rfl rfl (any_of HT_.out (by kernel_rfl)) (fun _ _ _ h => h) (Or.inr ⟨by rfl, rfl⟩) ?_ ?_
        rotate_left
        · simp only [Act.put, List.setIfInBounds_toArray, List.set_cons_zero, List.set_cons_succ, i64_w, i32_w]
          rfl
        refine pure_ (i := 10) (N := some 22) (v := undef) (a' := ?_) #[true, true, true, true, true, true, true, true, true, true, true, false, false, false, false, false, false, false] rfl rfl (any_of HT_.out (by kernel_rfl)) (fun _ _ _ h => h) (Or.inr ⟨by rfl, rfl⟩) ?_ ?_
        rotate_left
        · simp only [Act.put, List.setIfInBounds_toArray, List.set_cons_zero, List.set_cons_succ, i64_w, i32_w]
          rfl
        refine pure_ (i := 11) (N := some 23) (v := undef) (a' := ?_) #[true, true, true, true, true, true, true, true, true, true, true, true, false, false, false, false, false, false] rfl rfl (any_of HT_.out (by kernel_rfl)) (fun _ _ _ h => h) (Or.inr ⟨by rfl, rfl⟩) ?_ ?_
        rotate_left
        · simp only [Act.put, List.setIfInBounds_toArray, List.set_cons_zero, List.set_cons_succ, i64_w, i32_w]
          rfl
        refine pure_ (i := 12) (N := some 24) (v := undef) (a' := ?_) #[true, true, true, true, true, true, true, true, true, true, true, true, true, false, false, false, false, false] rfl rfl (any_of HT_.out (by kernel_rfl)) (fun _ _ _ h => h) (Or.inr ⟨by rfl, rfl⟩) ?_ ?_
        rotate_left
        · simp only [Act.put, List.setIfInBounds_toArray, List.set_cons_zero, List.set_cons_succ, i64_w, i32_w]
          rfl
        refine pure_ (i := 13) (N := some 25) (v := undef) (a' := ?_) #[true, true, true, true, true, true, true, true, true, true, true, true, true, true, false, false, false, false] rfl rfl (any_of HT_.out (by kernel_rfl)) (fun _ _ _ h => h) (Or.inr ⟨by rfl, rfl⟩) ?_ ?_
        rotate_left
        · simp only [Act.put, List.setIfInBounds_toArray, List.set_cons_zero, List.set_cons_succ, i64_w, i32_w]
          rfl
        refine pure_ (i := 14) (N := some 26) (v := undef) (a' := ?_) #[true, true, true, true, true, true, true, true, true, true, true, true, true, true, true, false, false, false] rfl rfl (any_of HT_.out (by kernel_rfl)) (fun _ _ _ h => h) (Or.inr ⟨by rfl, rfl⟩) ?_ ?_
        rotate_left
        · simp only [Act.put, List.setIfInBounds_toArray, List.set_cons_zero, List.set_cons_succ, i64_w, i32_w]
          rfl
        refine pure_ (i := 15) (N := some 27) (v := undef) (a' := ?_) #[true, true, true, true, true, true, true, true, true, true, true, true, true, true, true, true, false, false] rfl rfl (any_of HT_.out (by kernel_rfl)) (fun _ _ _ h => h) (Or.inr ⟨by rfl, rfl⟩) ?_ ?_
        rotate_left
        · simp only [Act.put, List.setIfInBounds_toArray, List.set_cons_zero, List.set_cons_succ, i64_w, i32_w]
          rfl
        refine pure_ (i := 16) (N := some 28) (v := undef) (a' := ?_) #[true, true, true, true, true, true, true, true, true, true, true, true, true, true, true, true, true, false] rfl rfl (any_of HT_.out (by kernel_rfl)) (fun _ _ _ h => h) (Or.inr ⟨by rfl, rfl⟩) ?_ ?_
        rotate_left
        · simp only [Act.put, List.setIfInBounds_toArray, List.set_cons_zero, List.set_cons_succ, i64_w, i32_w]
          rfl
        refine pu_ 17 (N := some 29) #[true, true, true, true, true, true, true, true, true, true, true, true, true, true, true, true, true, true] HT_.out (h_ := ?_)
        refine done_ (done_of HT_.out (by kernel_rfl)) ?_
        try go_wp2
        go_ret
        exact ⟨z6_, z19_⟩
      subst c6
      have H1 : (if x7_1 > 0 then (if 0 ≤ (wrap64 (x7_1 - 1)) then (if (wrap64 (x7_1 - 1)) < (l0.length : Int) then (if ((Op.bytesLess (((rd_T39 l0 (wrap64 (x7_1 - 1))).f0).toList) (((rd_T39 l0 x7_1).f0).toList)) = true) then (impl_CatalogOK.l0 k1 l0 l0 (l0.length : Int) (wrap64 (x7_1 + 1))) else (some false)) else (none)) else (none)) else (impl_CatalogOK.l0 k1 l0 l0 (l0.length : Int) (wrap64 (x7_1 + 1)))) = some r := by rw [if_pos rfl] at H; exact H
      clear H
      have H := H1
      clear H1
      by_cases c7 : x7_1 > 0
      rotate_left
      · rw [if_neg c7] at H
        have c7b0 : decide (0 < x7_1) = false := decide_eq_false c7
        clear c7
        have H' := ak_ H
        clear H
        have p101 : 0 ≤ (x7_1 : Int) := of_decide_eq_true z4_
        have q101 : x7_1 < (l0.length : Int) := of_decide_eq_true z4_
        obtain ⟨ad101, A101_1, c101_1, A101_3, c101_3, e101, hx101_0, hx101_1, hx101_2, hx101_3, hl101_1, hi101_1, hl101_3, hi101_3⟩ := at_T39 HR0.out x7_1 p101 q101
        cases e101
        replace hx101_0 := oc_ HB.out hx101_0
        replace hx101_1 := oc_ HB.out hx101_1
        replace hx101_2 := oc_ HB.out hx101_2
        replace hx101_3 := oc_ HB.out hx101_3
        have HR101_1 := ak_ hi101_1
        have HC101_1 := ak_ hl101_1
        clear hi101_1 hl101_1
        have HR101_3 := ak_ hi101_3
        have HC101_3 := ak_ hl101_3
        clear hi101_3 hl101_3
        replace p101 := eq_true p101
        replace q101 := eq_true q101
        try go_wp2_with (first | ((with_reducible refine gate_dst (N := 4) rfl ?_); refine bx_ 4 (cs := #[.string (⟨#[]⟩ : ByteArray), .slice none 0 0, .int .i64 0, .slice none 0 0]) (t := 39) (h_ := ?_); intro gb102 hg w22 hbox hb; have n_ := a4_ (below_step z0_ hb) (hbox) ((gs_ w hg (below_size z0_))) ((gs_ w hg (below_size z0_))); clear HB; obtain ⟨HB, BK102, GW102, GE102⟩ := n_; clear hb hbox hg; obtain ⟨hcz23_0, hcz23_1, hcz23_2, hcz23_3, hfz23_0, hfz23_1, hfz23_2, hfz23_3⟩ := bcf4 BK102.out))
        have n0_ : Aside0 (((((w22.setCell ⟨gb102, 0, none⟩ (.string ((rd_T39 l0 x7_1).f0))).setCell ⟨gb102, 1, none⟩ (.slice A101_1 ((rd_T39 l0 x7_1).f1).length c101_1)).setCell ⟨gb102, 2, none⟩ (.int .i64 ((rd_T39 l0 x7_1).f2))).setCell ⟨gb102, 3, none⟩ (.slice A101_3 ((rd_T39 l0 x7_1).f3).length c101_3)).heap[gb102]? = some (.cells #[.string ((rd_T39 l0 x7_1).f0), .slice A101_1 ((rd_T39 l0 x7_1).f1).length c101_1, .int .i64 ((rd_T39 l0 x7_1).f2), .slice A101_3 ((rd_T39 l0 x7_1).f3).length c101_3] 39 (0, 0))) := ⟨z13_⟩
        have n1_ : Aside0 (Below w.heap.size w ((((w22.setCell ⟨gb102, 0, none⟩ (.string ((rd_T39 l0 x7_1).f0))).setCell ⟨gb102, 1, none⟩ (.slice A101_1 ((rd_T39 l0 x7_1).f1).length c101_1)).setCell ⟨gb102, 2, none⟩ (.int .i64 ((rd_T39 l0 x7_1).f2))).setCell ⟨gb102, 3, none⟩ (.slice A101_3 ((rd_T39 l0 x7_1).f3).length c101_3))) := ⟨z19_⟩
        (try clear BK102)
        (try clear HB)
        generalize ((((w22.setCell ⟨gb102, 0, none⟩ (.string ((rd_T39 l0 x7_1).f0))).setCell ⟨gb102, 1, none⟩ (.slice A101_1 ((rd_T39 l0 x7_1).f1).length c101_1)).setCell ⟨gb102, 2, none⟩ (.int .i64 ((rd_T39 l0 x7_1).f2))).setCell ⟨gb102, 3, none⟩ (.slice A101_3 ((rd_T39 l0 x7_1).f3).length c101_3)) = w24 at n0_ n1_ ⊢
        have BK102 := n0_
        have HB := n1_
        clear n0_ n1_
        have n_ := a2_ (blk_drew BK102.out) (below_drew1 HB.out)
        clear BK102 HB
        obtain ⟨BK102, HB⟩ := n_
        refine start_ (n := 18) (S := fun w' => w'.cell? ⟨gb102, 0, none⟩ = some (.string ((rd_T39 l0 x7_1).f0)) ∧ w'.cell? ⟨gb102, 1, none⟩ = some (.slice A101_1 ((rd_T39 l0 x7_1).f1).length c101_1) ∧ w'.cell? ⟨gb102, 2, none⟩ = some (.int .i64 ((rd_T39 l0 x7_1).f2)) ∧ w'.cell? ⟨gb102, 3, none⟩ = some (.slice A101_3 ((rd_T39 l0 x7_1).f3).length c101_3)) (ds := []) #[false, false, false, false, false, false, false, false, false, false, false, false, false, false, false, false, false, false] (by kernel_rfl) rfl rfl ⟨(blk_cell BK102.out 0).trans rfl, (blk_cell BK102.out 1).trans rfl, (blk_cell BK102.out 2).trans rfl, (blk_cell BK102.out 3).trans rfl⟩ (fun hHeld => ?_); refine with_tabW impl_CatalogOK.tab4 impl_CatalogOK.bits4 (fun HT_ HW_ => ?_)
        generalize w24.drew = w25 at BK102 HB hHeld ⊢
        refine tk_ 0 (N := some 12) #[true, false, false, false, false, false, false, false, false, false, false, false, false, false, false, false, false, false] HT_.out HW_.out hHeld (hy := by rintro w' ⟨s0, s1, s2, s3⟩; go_simp; with_reducible rfl) (h_ := ?_)
        refine one_ (i := 1) (N := some 13) #[true, true, false, false, false, false, false, false, false, false, false, false, false, false, false, false, false, false] rfl rfl (one_of HT_.out (by kernel_rfl)) (by decide) (fun K hK => ?_)
        refine goes_ Tryd.func15 (by kernel_rfl) rfl #[.agg #[.string ((rd_T39 l0 x7_1).f0), .slice A101_1 ((rd_T39 l0 x7_1).f1).length c101_1, .int .i64 ((rd_T39 l0 x7_1).f2), .slice A101_3 ((rd_T39 l0 x7_1).f3).length c101_3]] (by rfl) rfl rfl z3_ ?_
        with_reducible refine (impl_TableOK.calls k1 ((rd_T39 l0 x7_1).f0) _ _ ((rd_T39 l0 x7_1).f1) ((rd_T39 l0 x7_1).f2) _ _ ((rd_T39 l0 x7_1).f3) true _ ?side1 ?side2 ?side3 ?side4 A5.out).mono ?_
        (case side1 => repeat (first | exact (Kd.C_below HR101_1.out HB.out) | (with_reducible refine Kd.C_alloc ?_ _) | (with_reducible refine Kd.C_drewN ?_ _) | (with_reducible refine Kd.C_drew ?_)))
        (case side2 => exact HC101_1.out)
        (case side3 => repeat (first | exact (Kd.C_below HR101_3.out HB.out) | (with_reducible refine Kd.C_alloc ?_ _) | (with_reducible refine Kd.C_drewN ?_ _) | (with_reducible refine Kd.C_drew ?_)))
        (case side4 => exact HC101_3.out)
        rintro e w26 ⟨rfl, hb⟩
        refine ⟨_, rfl, ?_⟩
        have n_ := a2_ (blk_below (g := gb102) (o := .cells #[.string ((rd_T39 l0 x7_1).f0), .slice A101_1 ((rd_T39 l0 x7_1).f1).length c101_1, .int .i64 ((rd_T39 l0 x7_1).f2), .slice A101_3 ((rd_T39 l0 x7_1).f3).length c101_3] 39 (0, 0)) z12_ hb) (below_step z19_ hb)
        clear BK102 HB
        obtain ⟨BK102, HB⟩ := n_
        (try clear hb)
        (try clear hb2)
        (try clear hk)
        (try clear hi)
        refine hK.out _ _ ⟨(blk_cell BK102.out 0).trans rfl, (blk_cell BK102.out 1).trans rfl, (blk_cell BK102.out 2).trans rfl, (blk_cell BK102.out 3).trans rfl⟩ (fun hHeld => ?_)
        clear hK K
        refine norm_ (a' := ?_) ?_ ?_
        rotate_left
        · show Act.put _ (some 13) _ = _
          simp only [Act.put, List.setIfInBounds_toArray, List.set_cons_zero, List.set_cons_succ, i64_w, i32_w]
          rfl
        refine pu_ 2 (N := some 14) #[true, true, true, false, false, false, false, false, false, false, false, false, false, false, false, false, false, false] HT_.out (h_ := ?_)
        refine pu_ 3 (N := some 15) #[true, true, true, true, false, false, false, false, false, false, false, false, false, false, false, false, false, false] HT_.out (h_ := ?_)
        refine pu_ 4 (N := some 16) #[true, true, true, true, true, false, false, false, false, false, false, false, false, false, false, false, false, false] HT_.out (h_ := ?_)
        refine pu_ 5 (N := some 17) #[true, true, true, true, true, true, false, false, false, false, false, false, false, false, false, false, false, false] HT_.out (h_ := ?_)
        refine pu_ 6 (N := some 18) #[true, true, true, true, true, true, true, false, false, false, false, false, false, false, false, false, false, false] HT_.out (h_ := ?_)
        refine pure_ (i := 7) (N := some 19) (v := undef) (a' := ?_) #[true, true, true, true, true, true, true, true, false, false, false, false, false, false, false, false, false, false] rfl rfl (any_of HT_.out (by kernel_rfl)) (fun _ _ _ h => h) (Or.inr ⟨by rfl, rfl⟩) ?_ ?_
        rotate_left
        · simp only [Act.put, List.setIfInBounds_toArray, List.set_cons_zero, List.set_cons_succ, i64_w, i32_w]
          rfl
        refine pure_ (i := 8) (N := some 20) (v := undef) (a' := ?_) #[true, true, true, true, true, true, true, true, true, false, false, false, false, false, false, false, false, false] rfl rfl (any_of HT_.out (by kernel_rfl)) (fun _ _ _ h => h) (Or.inr ⟨by rfl, rfl⟩) ?_ ?_
        rotate_left
        · simp only [Act.put, List.setIfInBounds_toArray, List.set_cons_zero, List.set_cons_succ, i64_w, i32_w]
          rfl
        refine pure_ (i := 9) (N := some 21) (v := undef) (a' := ?_) #[true, true, true, true, true, true, true, true, true, true, false, false, false, false, false, false, false, false] rfl rfl (any_of HT_.out (by kernel_rfl)) (fun _ _ _ h => h) (Or.inr ⟨by rfl, rfl⟩) ?_ ?_
        rotate_left
        · simp only [Act.put, List.setIfInBounds_toArray, List.set_cons_zero, List.set_cons_succ, i64_w, i32_w]
          rfl
        refine pure_ (i := 10) (N := some 22) (v := undef) (a' := ?_) #[true, true, true, true, true, true, true, true, true, true, true, false, false, false, false, false, false, false] rfl rfl (any_of HT_.out (by kernel_rfl)) (fun _ _ _ h => h) (Or.inr ⟨by rfl, rfl⟩) ?_ ?_
        rotate_left
        · simp only [Act.put, List.setIfInBounds_toArray, List.set_cons_zero, List.set_cons_succ, i64_w, i32_w]
          rfl
        refine pure_ (i := 11) (N := some 23) (v := undef) (a' := ?_) #[true, true, true, true, true, true, true, true, true, true, true, true, false, false, false, false, false, false] rfl rfl (any_of HT_.out (by kernel_rfl)) (fun _ _ _ h => h) (Or.inr ⟨by rfl, rfl⟩) ?_ ?_
        rotate_left
        · simp only [Act.put, List.setIfInBounds_toArray, List.set_cons_zero, List.set_cons_succ, i64_w, i32_w]
          rfl
        refine pure_ (i := 12) (N := some 24) (v := undef) (a' := ?_) #[true, true, true, true, true, true, true, true, true, true, true, true, true, false, false, false, false, false] rfl rfl (any_of HT_.out (by kernel_rfl)) (fun _ _ _ h => h) (Or.inr ⟨by rfl, rfl⟩) ?_ ?_
        rotate_left
        · simp only [Act.put, List.setIfInBounds_toArray, List.set_cons_zero, List.set_cons_succ, i64_w, i32_w]
          rfl
        refine pure_ (i := 13) (N := some 25) (v := undef) (a' := ?_) #[true, true, true, true, true, true, true, true, true, true, true, true, true, true, false, false, false, false] rfl rfl (any_of HT_.out (by kernel_rfl)) (fun _ _ _ h => h) (Or.inr ⟨by rfl, rfl⟩) ?_ ?_
        rotate_left
        · simp only [Act.put, List.setIfInBounds_toArray, List.set_cons_zero, List.set_cons_succ, i64_w, i32_w]
          rfl
        refine pure_ (i := 14) (N := some 26) (v := undef) (a' := ?_) #[true, true, true, true, true, true, true, true, true, true, true, true, true, true, true, false, false, false] rfl rfl (any_of HT_.out (by kernel_rfl)) (fun _ _ _ h => h) (Or.inr ⟨by rfl, rfl⟩) ?_ ?_
        rotate_left
        · simp only [Act.put, List.setIfInBounds_toArray, List.set_cons_zero, List.set_cons_succ, i64_w, i32_w]
          rfl
        refine pure_ (i := 15) (N := some 27) (v := undef) (a' := ?_) #[true, true, true, true, true, true, true, true, true, true, true, true, true, true, true, true, false, false] rfl rfl (any_of HT_.out (by kernel_rfl)) (fun _ _ _ h => h) (Or.inr ⟨by rfl, rfl⟩) ?_ ?_
        rotate_left
        · simp only [Act.put, List.setIfInBounds_toArray, List.set_cons_zero, List.set_cons_succ, i64_w, i32_w]
          rfl
        refine pu_ 16 (N := some 28) #[true, true, true, true, true, true, true, true, true, true, true, true, true, true, true, true, true, false] HT_.out (h_ := ?_)
        refine pu_ 17 (N := some 29) #[true, true, true, true, true, true, true, true, true, true, true, true, true, true, true, true, true, true] HT_.out (h_ := ?_)
        refine done_ (done_of HT_.out (by kernel_rfl)) ?_
        try go_wp2
        go_roundg k1
        case measure => have := HK1.out; omega
        case rel => exact ⟨(wrap64 (x7_1 + 1)), z9_, H', ⟨by have := HK1.out; omega⟩, ⟨z19_⟩⟩
      rw [if_pos c7] at H
      have c7b0 : decide (0 < x7_1) = true := decide_eq_true c7
      clear c7
      obtain ⟨ji8, hji8⟩ : ∃ j_ : Int, (wrap64 (x7_1 - 1)) = j_ := ⟨_, rfl⟩
      replace H : (if 0 ≤ (ji8) then (if (ji8) < (l0.length : Int) then (if ((Op.bytesLess (((rd_T39 l0 (ji8)).f0).toList) (((rd_T39 l0 x7_1).f0).toList)) = true) then (impl_CatalogOK.l0 k1 l0 l0 (l0.length : Int) (wrap64 (x7_1 + 1))) else (some false)) else (none)) else (none)) = some r := by first | (rw [hji8] at H; exact H) | (simp only [hji8] at H ⊢; exact H)
      (try rw [hji8] at A5)
      have hji8w : (IntKind.i64.wrap (x7_1 - 1)) = ji8 := (i64_w _).trans hji8
      by_cases c9 : 0 ≤ (ji8)
      rotate_left
      · rw [if_neg c9] at H
        exact absurd H (by simp)
      rw [if_pos c9] at H
      have c9b0 := decide_eq_true c9
      clear c9
      by_cases c10 : (ji8) < (l0.length : Int)
      rotate_left
      · rw [if_neg c10] at H
        exact absurd H (by simp)
      rw [if_pos c10] at H
      have c10b0 := decide_eq_true c10
      clear c10
      by_cases c11 : ((Op.bytesLess (((rd_T39 l0 (ji8)).f0).toList) (((rd_T39 l0 x7_1).f0).toList)) = true)
      rotate_left
      · rw [if_neg c11] at H
        have c11b0 : (Op.bytesLess (((rd_T39 l0 (ji8)).f0).toList) (((rd_T39 l0 x7_1).f0).toList)) = false := by simpa using c11
        clear c11
        obtain rfl := Option.some.inj H
        have p101 : 0 ≤ (x7_1 : Int) := of_decide_eq_true z4_
        have q101 : x7_1 < (l0.length : Int) := of_decide_eq_true z4_
        obtain ⟨ad101, A101_1, c101_1, A101_3, c101_3, e101, hx101_0, hx101_1, hx101_2, hx101_3, hl101_1, hi101_1, hl101_3, hi101_3⟩ := at_T39 HR0.out x7_1 p101 q101
        cases e101
        replace hx101_0 := oc_ HB.out hx101_0
        replace hx101_1 := oc_ HB.out hx101_1
        replace hx101_2 := oc_ HB.out hx101_2
        replace hx101_3 := oc_ HB.out hx101_3
        have HR101_1 := ak_ hi101_1
        have HC101_1 := ak_ hl101_1
        clear hi101_1 hl101_1
        have HR101_3 := ak_ hi101_3
        have HC101_3 := ak_ hl101_3
        clear hi101_3 hl101_3
        replace p101 := eq_true p101
        replace q101 := eq_true q101
        try go_wp2_with (first | ((with_reducible refine gate_dst (N := 4) rfl ?_); refine bx_ 4 (cs := #[.string (⟨#[]⟩ : ByteArray), .slice none 0 0, .int .i64 0, .slice none 0 0]) (t := 39) (h_ := ?_); intro gb102 hg w17 hbox hb; have n_ := a4_ (below_step z0_ hb) (hbox) ((gs_ w hg (below_size z0_))) ((gs_ w hg (below_size z0_))); clear HB; obtain ⟨HB, BK102, GW102, GE102⟩ := n_; clear hb hbox hg; obtain ⟨hcz18_0, hcz18_1, hcz18_2, hcz18_3, hfz18_0, hfz18_1, hfz18_2, hfz18_3⟩ := bcf4 BK102.out))
        have n0_ : Aside0 (((((w17.setCell ⟨gb102, 0, none⟩ (.string ((rd_T39 l0 x7_1).f0))).setCell ⟨gb102, 1, none⟩ (.slice A101_1 ((rd_T39 l0 x7_1).f1).length c101_1)).setCell ⟨gb102, 2, none⟩ (.int .i64 ((rd_T39 l0 x7_1).f2))).setCell ⟨gb102, 3, none⟩ (.slice A101_3 ((rd_T39 l0 x7_1).f3).length c101_3)).heap[gb102]? = some (.cells #[.string ((rd_T39 l0 x7_1).f0), .slice A101_1 ((rd_T39 l0 x7_1).f1).length c101_1, .int .i64 ((rd_T39 l0 x7_1).f2), .slice A101_3 ((rd_T39 l0 x7_1).f3).length c101_3] 39 (0, 0))) := ⟨z13_⟩
        have n1_ : Aside0 (Below w.heap.size w ((((w17.setCell ⟨gb102, 0, none⟩ (.string ((rd_T39 l0 x7_1).f0))).setCell ⟨gb102, 1, none⟩ (.slice A101_1 ((rd_T39 l0 x7_1).f1).length c101_1)).setCell ⟨gb102, 2, none⟩ (.int .i64 ((rd_T39 l0 x7_1).f2))).setCell ⟨gb102, 3, none⟩ (.slice A101_3 ((rd_T39 l0 x7_1).f3).length c101_3))) := ⟨z19_⟩
        (try clear BK102)
        (try clear HB)
        generalize ((((w17.setCell ⟨gb102, 0, none⟩ (.string ((rd_T39 l0 x7_1).f0))).setCell ⟨gb102, 1, none⟩ (.slice A101_1 ((rd_T39 l0 x7_1).f1).length c101_1)).setCell ⟨gb102, 2, none⟩ (.int .i64 ((rd_T39 l0 x7_1).f2))).setCell ⟨gb102, 3, none⟩ (.slice A101_3 ((rd_T39 l0 x7_1).f3).length c101_3)) = w19 at n0_ n1_ ⊢
        have BK102 := n0_
        have HB := n1_
        clear n0_ n1_
        have n_ := a2_ (blk_drew BK102.out) (below_drew1 HB.out)
        clear BK102 HB
        obtain ⟨BK102, HB⟩ := n_
        have p104 : 0 ≤ ((ji8) : Int) := of_decide_eq_true z4_
        have q104 : (ji8) < (l0.length : Int) := of_decide_eq_true z4_
        obtain ⟨ad104, A104_1, c104_1, A104_3, c104_3, e104, hx104_0, hx104_1, hx104_2, hx104_3, hl104_1, hi104_1, hl104_3, hi104_3⟩ := at_T39 HR0.out (ji8) p104 q104
        have hw104_3 := hx104_3
        have hw104_2 := hx104_2
        have hw104_1 := hx104_1
        have hw104_0 := hx104_0
        obtain rfl : ad101 = ad104 := (by injection e104)
        replace hx104_0 := oc_ HB.out hx104_0
        replace hx104_1 := oc_ HB.out hx104_1
        replace hx104_2 := oc_ HB.out hx104_2
        replace hx104_3 := oc_ HB.out hx104_3
        have HR104_1 := ak_ hi104_1
        have HC104_1 := ak_ hl104_1
        clear hi104_1 hl104_1
        have HR104_3 := ak_ hi104_3
        have HC104_3 := ak_ hl104_3
        clear hi104_3 hl104_3
        replace p104 := eq_true p104
        replace q104 := eq_true q104
        refine start_ (n := 18) (S := fun w' => w'.cell? ⟨gb102, 0, none⟩ = some (.string ((rd_T39 l0 x7_1).f0)) ∧ w'.cell? ⟨gb102, 1, none⟩ = some (.slice A101_1 ((rd_T39 l0 x7_1).f1).length c101_1) ∧ w'.cell? ⟨gb102, 2, none⟩ = some (.int .i64 ((rd_T39 l0 x7_1).f2)) ∧ w'.cell? ⟨gb102, 3, none⟩ = some (.slice A101_3 ((rd_T39 l0 x7_1).f3).length c101_3) ∧ w'.cell? (ad101.add (((ji8)).toNat * 4)) = some (.string ((rd_T39 l0 (ji8)).f0)) ∧ w'.cell? ⟨(ad101.add (((ji8)).toNat * 4)).block, (ad101.add (((ji8)).toNat * 4)).off + 1, none⟩ = some (.slice A104_1 ((rd_T39 l0 (ji8)).f1).length c104_1) ∧ w'.cell? ⟨(ad101.add (((ji8)).toNat * 4)).block, (ad101.add (((ji8)).toNat * 4)).off + 2, none⟩ = some (.int .i64 ((rd_T39 l0 (ji8)).f2)) ∧ w'.cell? ⟨(ad101.add (((ji8)).toNat * 4)).block, (ad101.add (((ji8)).toNat * 4)).off + 3, none⟩ = some (.slice A104_3 ((rd_T39 l0 (ji8)).f3).length c104_3)) (ds := []) #[false, false, false, false, false, false, false, false, false, false, false, false, false, false, false, false, false, false] (by kernel_rfl) rfl rfl ⟨(blk_cell BK102.out 0).trans rfl, (blk_cell BK102.out 1).trans rfl, (blk_cell BK102.out 2).trans rfl, (blk_cell BK102.out 3).trans rfl, (oc_ HB.out hw104_0 :), (oc_ HB.out hw104_1 :), (oc_ HB.out hw104_2 :), (oc_ HB.out hw104_3 :)⟩ (fun hHeld => ?_); refine with_tabW impl_CatalogOK.tab4 impl_CatalogOK.bits4 (fun HT_ HW_ => ?_)
        generalize w19.drew = w20 at BK102 HB HR104_1 HR104_3 hx104_0 hx104_1 hx104_2 hx104_3 hHeld ⊢
        refine tk_ 0 (N := some 12) #[true, false, false, false, false, false, false, false, false, false, false, false, false, false, false, false, false, false] HT_.out HW_.out hHeld (hy := by rintro w' ⟨s0, s1, s2, s3, s4, s5, s6, s7⟩; go_simp; with_reducible rfl) (h_ := ?_)
        refine one_ (i := 1) (N := some 13) #[true, true, false, false, false, false, false, false, false, false, false, false, false, false, false, false, false, false] rfl rfl (one_of HT_.out (by kernel_rfl)) (by decide) (fun K hK => ?_)
        refine goes_ Tryd.func15 (by kernel_rfl) rfl #[.agg #[.string ((rd_T39 l0 x7_1).f0), .slice A101_1 ((rd_T39 l0 x7_1).f1).length c101_1, .int .i64 ((rd_T39 l0 x7_1).f2), .slice A101_3 ((rd_T39 l0 x7_1).f3).length c101_3]] (by rfl) rfl rfl z3_ ?_
        with_reducible refine (impl_TableOK.calls k1 ((rd_T39 l0 x7_1).f0) _ _ ((rd_T39 l0 x7_1).f1) ((rd_T39 l0 x7_1).f2) _ _ ((rd_T39 l0 x7_1).f3) true _ ?side1 ?side2 ?side3 ?side4 A5.out).mono ?_
        (case side1 => repeat (first | exact (Kd.C_below HR101_1.out HB.out) | (with_reducible refine Kd.C_alloc ?_ _) | (with_reducible refine Kd.C_drewN ?_ _) | (with_reducible refine Kd.C_drew ?_)))
        (case side2 => exact HC101_1.out)
        (case side3 => repeat (first | exact (Kd.C_below HR101_3.out HB.out) | (with_reducible refine Kd.C_alloc ?_ _) | (with_reducible refine Kd.C_drewN ?_ _) | (with_reducible refine Kd.C_drew ?_)))
        (case side4 => exact HC101_3.out)
        rintro e w21 ⟨rfl, hb⟩
        refine ⟨_, rfl, ?_⟩
        have n_ := a2_ (blk_below (g := gb102) (o := .cells #[.string ((rd_T39 l0 x7_1).f0), .slice A101_1 ((rd_T39 l0 x7_1).f1).length c101_1, .int .i64 ((rd_T39 l0 x7_1).f2), .slice A101_3 ((rd_T39 l0 x7_1).f3).length c101_3] 39 (0, 0)) z12_ hb) (below_step z19_ hb)
        clear BK102 HB
        obtain ⟨BK102, HB⟩ := n_
        (try clear hb)
        (try clear hb2)
        (try clear hk)
        (try clear hi)
        refine hK.out _ _ ⟨(blk_cell BK102.out 0).trans rfl, (blk_cell BK102.out 1).trans rfl, (blk_cell BK102.out 2).trans rfl, (blk_cell BK102.out 3).trans rfl, (oc_ HB.out hw104_0 :), (oc_ HB.out hw104_1 :), (oc_ HB.out hw104_2 :), (oc_ HB.out hw104_3 :)⟩ (fun hHeld => ?_)
        clear hK K
        refine norm_ (a' := ?_) ?_ ?_
        rotate_left
        · show Act.put _ (some 13) _ = _
          simp only [Act.put, List.setIfInBounds_toArray, List.set_cons_zero, List.set_cons_succ, i64_w, i32_w]
          rfl
        refine pu_ 2 (N := some 14) #[true, true, true, false, false, false, false, false, false, false, false, false, false, false, false, false, false, false] HT_.out (h_ := ?_)
        refine pu_ 3 (N := some 15) #[true, true, true, true, false, false, false, false, false, false, false, false, false, false, false, false, false, false] HT_.out (h_ := ?_)
        refine pu_ 4 (N := some 16) #[true, true, true, true, true, false, false, false, false, false, false, false, false, false, false, false, false, false] HT_.out (h_ := ?_)
        refine pu_ 5 (N := some 17) #[true, true, true, true, true, true, false, false, false, false, false, false, false, false, false, false, false, false] HT_.out (h_ := ?_)
        refine pu_ 6 (N := some 18) #[true, true, true, true, true, true, true, false, false, false, false, false, false, false, false, false, false, false] HT_.out (h_ := ?_)
        refine pu_ 7 (N := some 19) #[true, true, true, true, true, true, true, true, false, false, false, false, false, false, false, false, false, false] HT_.out (h_ := ?_)
        refine pu_ 9 (N := some 21) #[true, true, true, true, true, true, true, true, false, true, false, false, false, false, false, false, false, false] HT_.out (h_ := ?_)
        refine pu_ 10 (N := some 22) #[true, true, true, true, true, true, true, true, false, true, true, false, false, false, false, false, false, false] HT_.out (h_ := ?_)
        refine pu_ 11 (N := some 23) #[true, true, true, true, true, true, true, true, false, true, true, true, false, false, false, false, false, false] HT_.out (h_ := ?_)
        refine pu_ 12 (N := some 24) #[true, true, true, true, true, true, true, true, false, true, true, true, true, false, false, false, false, false] HT_.out (h_ := ?_)
        refine pu_ 13 (N := some 25) #[true, true, true, true, true, true, true, true, false, true, true, true, true, true, false, false, false, false] HT_.out (h_ := ?_)
        refine tk_ 8 (N := some 20) #[true, true, true, true, true, true, true, true, true, true, true, true, true, true, false, false, false, false] HT_.out HW_.out hHeld (hy := by rintro w' ⟨s0, s1, s2, s3, s4, s5, s6, s7⟩; go_simp; with_reducible rfl) (h_ := ?_)
        refine tk_ 14 (N := some 26) #[true, true, true, true, true, true, true, true, true, true, true, true, true, true, true, false, false, false] HT_.out HW_.out hHeld (hy := by rintro w' ⟨s0, s1, s2, s3, s4, s5, s6, s7⟩; go_simp; with_reducible rfl) (h_ := ?_)
        refine pu_ 15 (N := some 27) #[true, true, true, true, true, true, true, true, true, true, true, true, true, true, true, true, false, false] HT_.out (h_ := ?_)
        refine pu_ 16 (N := some 28) #[true, true, true, true, true, true, true, true, true, true, true, true, true, true, true, true, true, false] HT_.out (h_ := ?_)
        refine pu_ 17 (N := some 29) #[true, true, true, true, true, true, true, true, true, true, true, true, true, true, true, true, true, true] HT_.out (h_ := ?_)
        refine done_ (done_of HT_.out (by kernel_rfl)) ?_
        try go_wp2
        go_ret
        exact ⟨by first | rfl | (simp [errW_none, errW_some] <;> rfl) | (simp only [← hji8]; first | rfl | (simp [errW_none, errW_some] <;> rfl)) | (simp [*, errW_none, errW_some] <;> rfl), z19_⟩
      rw [if_pos c11] at H
      have c11b0 : (Op.bytesLess (((rd_T39 l0 (ji8)).f0).toList) (((rd_T39 l0 x7_1).f0).toList)) = true := c11
      clear c11
      have H' := ak_ H
      clear H
      have p101 : 0 ≤ (x7_1 : Int) := of_decide_eq_true z4_
      have q101 : x7_1 < (l0.length : Int) := of_decide_eq_true z4_
      obtain ⟨ad101, A101_1, c101_1, A101_3, c101_3, e101, hx101_0, hx101_1, hx101_2, hx101_3, hl101_1, hi101_1, hl101_3, hi101_3⟩ := at_T39 HR0.out x7_1 p101 q101
      cases e101
      replace hx101_0 := oc_ HB.out hx101_0
      replace hx101_1 := oc_ HB.out hx101_1
      replace hx101_2 := oc_ HB.out hx101_2
      replace hx101_3 := oc_ HB.out hx101_3
      have HR101_1 := ak_ hi101_1
      have HC101_1 := ak_ hl101_1
      clear hi101_1 hl101_1
      have HR101_3 := ak_ hi101_3
      have HC101_3 := ak_ hl101_3
      clear hi101_3 hl101_3
      replace p101 := eq_true p101
      replace q101 := eq_true q101
      try go_wp2_with (first | ((with_reducible refine gate_dst (N := 4) rfl ?_); refine bx_ 4 (cs := #[.string (⟨#[]⟩ : ByteArray), .slice none 0 0, .int .i64 0, .slice none 0 0]) (t := 39) (h_ := ?_); intro gb102 hg w12 hbox hb; have n_ := a4_ (below_step z0_ hb) (hbox) ((gs_ w hg (below_size z0_))) ((gs_ w hg (below_size z0_))); clear HB; obtain ⟨HB, BK102, GW102, GE102⟩ := n_; clear hb hbox hg; obtain ⟨hcz13_0, hcz13_1, hcz13_2, hcz13_3, hfz13_0, hfz13_1, hfz13_2, hfz13_3⟩ := bcf4 BK102.out))
      have n0_ : Aside0 (((((w12.setCell ⟨gb102, 0, none⟩ (.string ((rd_T39 l0 x7_1).f0))).setCell ⟨gb102, 1, none⟩ (.slice A101_1 ((rd_T39 l0 x7_1).f1).length c101_1)).setCell ⟨gb102, 2, none⟩ (.int .i64 ((rd_T39 l0 x7_1).f2))).setCell ⟨gb102, 3, none⟩ (.slice A101_3 ((rd_T39 l0 x7_1).f3).length c101_3)).heap[gb102]? = some (.cells #[.string ((rd_T39 l0 x7_1).f0), .slice A101_1 ((rd_T39 l0 x7_1).f1).length c101_1, .int .i64 ((rd_T39 l0 x7_1).f2), .slice A101_3 ((rd_T39 l0 x7_1).f3).length c101_3] 39 (0, 0))) := ⟨z13_⟩
      have n1_ : Aside0 (Below w.heap.size w ((((w12.setCell ⟨gb102, 0, none⟩ (.string ((rd_T39 l0 x7_1).f0))).setCell ⟨gb102, 1, none⟩ (.slice A101_1 ((rd_T39 l0 x7_1).f1).length c101_1)).setCell ⟨gb102, 2, none⟩ (.int .i64 ((rd_T39 l0 x7_1).f2))).setCell ⟨gb102, 3, none⟩ (.slice A101_3 ((rd_T39 l0 x7_1).f3).length c101_3))) := ⟨z19_⟩
      (try clear BK102)
      (try clear HB)
      generalize ((((w12.setCell ⟨gb102, 0, none⟩ (.string ((rd_T39 l0 x7_1).f0))).setCell ⟨gb102, 1, none⟩ (.slice A101_1 ((rd_T39 l0 x7_1).f1).length c101_1)).setCell ⟨gb102, 2, none⟩ (.int .i64 ((rd_T39 l0 x7_1).f2))).setCell ⟨gb102, 3, none⟩ (.slice A101_3 ((rd_T39 l0 x7_1).f3).length c101_3)) = w14 at n0_ n1_ ⊢
      have BK102 := n0_
      have HB := n1_
      clear n0_ n1_
      have n_ := a2_ (blk_drew BK102.out) (below_drew1 HB.out)
      clear BK102 HB
      obtain ⟨BK102, HB⟩ := n_
      have p104 : 0 ≤ ((ji8) : Int) := of_decide_eq_true z4_
      have q104 : (ji8) < (l0.length : Int) := of_decide_eq_true z4_
      obtain ⟨ad104, A104_1, c104_1, A104_3, c104_3, e104, hx104_0, hx104_1, hx104_2, hx104_3, hl104_1, hi104_1, hl104_3, hi104_3⟩ := at_T39 HR0.out (ji8) p104 q104
      have hw104_3 := hx104_3
      have hw104_2 := hx104_2
      have hw104_1 := hx104_1
      have hw104_0 := hx104_0
      obtain rfl : ad101 = ad104 := (by injection e104)
      replace hx104_0 := oc_ HB.out hx104_0
      replace hx104_1 := oc_ HB.out hx104_1
      replace hx104_2 := oc_ HB.out hx104_2
      replace hx104_3 := oc_ HB.out hx104_3
      have HR104_1 := ak_ hi104_1
      have HC104_1 := ak_ hl104_1
      clear hi104_1 hl104_1
      have HR104_3 := ak_ hi104_3
      have HC104_3 := ak_ hl104_3
      clear hi104_3 hl104_3
      replace p104 := eq_true p104
      replace q104 := eq_true q104
      refine start_ (n := 18) (S := fun w' => w'.cell? ⟨gb102, 0, none⟩ = some (.string ((rd_T39 l0 x7_1).f0)) ∧ w'.cell? ⟨gb102, 1, none⟩ = some (.slice A101_1 ((rd_T39 l0 x7_1).f1).length c101_1) ∧ w'.cell? ⟨gb102, 2, none⟩ = some (.int .i64 ((rd_T39 l0 x7_1).f2)) ∧ w'.cell? ⟨gb102, 3, none⟩ = some (.slice A101_3 ((rd_T39 l0 x7_1).f3).length c101_3) ∧ w'.cell? (ad101.add (((ji8)).toNat * 4)) = some (.string ((rd_T39 l0 (ji8)).f0)) ∧ w'.cell? ⟨(ad101.add (((ji8)).toNat * 4)).block, (ad101.add (((ji8)).toNat * 4)).off + 1, none⟩ = some (.slice A104_1 ((rd_T39 l0 (ji8)).f1).length c104_1) ∧ w'.cell? ⟨(ad101.add (((ji8)).toNat * 4)).block, (ad101.add (((ji8)).toNat * 4)).off + 2, none⟩ = some (.int .i64 ((rd_T39 l0 (ji8)).f2)) ∧ w'.cell? ⟨(ad101.add (((ji8)).toNat * 4)).block, (ad101.add (((ji8)).toNat * 4)).off + 3, none⟩ = some (.slice A104_3 ((rd_T39 l0 (ji8)).f3).length c104_3)) (ds := []) #[false, false, false, false, false, false, false, false, false, false, false, false, false, false, false, false, false, false] (by kernel_rfl) rfl rfl ⟨(blk_cell BK102.out 0).trans rfl, (blk_cell BK102.out 1).trans rfl, (blk_cell BK102.out 2).trans rfl, (blk_cell BK102.out 3).trans rfl, (oc_ HB.out hw104_0 :), (oc_ HB.out hw104_1 :), (oc_ HB.out hw104_2 :), (oc_ HB.out hw104_3 :)⟩ (fun hHeld => ?_); refine with_tabW impl_CatalogOK.tab4 impl_CatalogOK.bits4 (fun HT_ HW_ => ?_)
      generalize w14.drew = w15 at BK102 HB HR104_1 HR104_3 hx104_0 hx104_1 hx104_2 hx104_3 hHeld ⊢
      refine tk_ 0 (N := some 12) #[true, false, false, false, false, false, false, false, false, false, false, false, false, false, false, false, false, false] HT_.out HW_.out hHeld (hy := by rintro w' ⟨s0, s1, s2, s3, s4, s5, s6, s7⟩; go_simp; with_reducible rfl) (h_ := ?_)
      refine one_ (i := 1) (N := some 13) #[true, true, false, false, false, false, false, false, false, false, false, false, false, false, false, false, false, false] rfl rfl (one_of HT_.out (by kernel_rfl)) (by decide) (fun K hK => ?_)
      refine goes_ Tryd.func15 (by kernel_rfl) rfl #[.agg #[.string ((rd_T39 l0 x7_1).f0), .slice A101_1 ((rd_T39 l0 x7_1).f1).length c101_1, .int .i64 ((rd_T39 l0 x7_1).f2), .slice A101_3 ((rd_T39 l0 x7_1).f3).length c101_3]] (by rfl) rfl rfl z3_ ?_
      with_reducible refine (impl_TableOK.calls k1 ((rd_T39 l0 x7_1).f0) _ _ ((rd_T39 l0 x7_1).f1) ((rd_T39 l0 x7_1).f2) _ _ ((rd_T39 l0 x7_1).f3) true _ ?side1 ?side2 ?side3 ?side4 A5.out).mono ?_
      (case side1 => repeat (first | exact (Kd.C_below HR101_1.out HB.out) | (with_reducible refine Kd.C_alloc ?_ _) | (with_reducible refine Kd.C_drewN ?_ _) | (with_reducible refine Kd.C_drew ?_)))
      (case side2 => exact HC101_1.out)
      (case side3 => repeat (first | exact (Kd.C_below HR101_3.out HB.out) | (with_reducible refine Kd.C_alloc ?_ _) | (with_reducible refine Kd.C_drewN ?_ _) | (with_reducible refine Kd.C_drew ?_)))
      (case side4 => exact HC101_3.out)
      rintro e w16 ⟨rfl, hb⟩
      refine ⟨_, rfl, ?_⟩
      have n_ := a2_ (blk_below (g := gb102) (o := .cells #[.string ((rd_T39 l0 x7_1).f0), .slice A101_1 ((rd_T39 l0 x7_1).f1).length c101_1, .int .i64 ((rd_T39 l0 x7_1).f2), .slice A101_3 ((rd_T39 l0 x7_1).f3).length c101_3] 39 (0, 0)) z12_ hb) (below_step z19_ hb)
      clear BK102 HB
      obtain ⟨BK102, HB⟩ := n_
      (try clear hb)
      (try clear hb2)
      (try clear hk)
      (try clear hi)
      refine hK.out _ _ ⟨(blk_cell BK102.out 0).trans rfl, (blk_cell BK102.out 1).trans rfl, (blk_cell BK102.out 2).trans rfl, (blk_cell BK102.out 3).trans rfl, (oc_ HB.out hw104_0 :), (oc_ HB.out hw104_1 :), (oc_ HB.out hw104_2 :), (oc_ HB.out hw104_3 :)⟩ (fun hHeld => ?_)
      clear hK K
      refine norm_ (a' := ?_) ?_ ?_
      rotate_left
      · show Act.put _ (some 13) _ = _
        simp only [Act.put, List.setIfInBounds_toArray, List.set_cons_zero, List.set_cons_succ, i64_w, i32_w]
        rfl
      refine pu_ 2 (N := some 14) #[true, true, true, false, false, false, false, false, false, false, false, false, false, false, false, false, false, false] HT_.out (h_ := ?_)
      refine pu_ 3 (N := some 15) #[true, true, true, true, false, false, false, false, false, false, false, false, false, false, false, false, false, false] HT_.out (h_ := ?_)
      refine pu_ 4 (N := some 16) #[true, true, true, true, true, false, false, false, false, false, false, false, false, false, false, false, false, false] HT_.out (h_ := ?_)
      refine pu_ 5 (N := some 17) #[true, true, true, true, true, true, false, false, false, false, false, false, false, false, false, false, false, false] HT_.out (h_ := ?_)
      refine pu_ 6 (N := some 18) #[true, true, true, true, true, true, true, false, false, false, false, false, false, false, false, false, false, false] HT_.out (h_ := ?_)
      refine pu_ 7 (N := some 19) #[true, true, true, true, true, true, true, true, false, false, false, false, false, false, false, false, false, false] HT_.out (h_ := ?_)
      refine pu_ 9 (N := some 21) #[true, true, true, true, true, true, true, true, false, true, false, false, false, false, false, false, false, false] HT_.out (h_ := ?_)
      refine pu_ 10 (N := some 22) #[true, true, true, true, true, true, true, true, false, true, true, false, false, false, false, false, false, false] HT_.out (h_ := ?_)
      refine pu_ 11 (N := some 23) #[true, true, true, true, true, true, true, true, false, true, true, true, false, false, false, false, false, false] HT_.out (h_ := ?_)
      refine pu_ 12 (N := some 24) #[true, true, true, true, true, true, true, true, false, true, true, true, true, false, false, false, false, false] HT_.out (h_ := ?_)
      refine pu_ 13 (N := some 25) #[true, true, true, true, true, true, true, true, false, true, true, true, true, true, false, false, false, false] HT_.out (h_ := ?_)
      refine tk_ 8 (N := some 20) #[true, true, true, true, true, true, true, true, true, true, true, true, true, true, false, false, false, false] HT_.out HW_.out hHeld (hy := by rintro w' ⟨s0, s1, s2, s3, s4, s5, s6, s7⟩; go_simp; with_reducible rfl) (h_ := ?_)
      refine tk_ 14 (N := some 26) #[true, true, true, true, true, true, true, true, true, true, true, true, true, true, true, false, false, false] HT_.out HW_.out hHeld (hy := by rintro w' ⟨s0, s1, s2, s3, s4, s5, s6, s7⟩; go_simp; with_reducible rfl) (h_ := ?_)
      refine pu_ 15 (N := some 27) #[true, true, true, true, true, true, true, true, true, true, true, true, true, true, true, true, false, false] HT_.out (h_ := ?_)
      refine pu_ 16 (N := some 28) #[true, true, true, true, true, true, true, true, true, true, true, true, true, true, true, true, true, false] HT_.out (h_ := ?_)
      refine pu_ 17 (N := some 29) #[true, true, true, true, true, true, true, true, true, true, true, true, true, true, true, true, true, true] HT_.out (h_ := ?_)
      refine done_ (done_of HT_.out (by kernel_rfl)) ?_
      try go_wp2
      go_roundg k1
      case measure => have := HK1.out; omega
      case rel => exact ⟨(wrap64 (x7_1 + 1)), z9_, H', ⟨by have := HK1.out; omega⟩, ⟨z19_⟩⟩
end Go.Proofs.YtjknmljdnolilaaDoor.X
