/- Contracts of functions, and what is told of them. -/
import Derived.Test.YtgcbeihkbldeaaaYFnExactProductRows1
import Derived.Test.YtgcbeihkbldeaaaYFnExactProductRows9
-- WRITTEN BY xprint.py, a program of this session, over the translation of the seat. Lean checks it.
namespace Go.Proofs.Ytgcbeihkbldeaaa.X
open Go.RowKit Go.Proofs.YtgcbeihkbldeaaaW.PrintWords Go.Proofs.YtgcbeihkbldeaaaW.PrintLast Go.Proofs.YtgcbeihkbldeaaaW.PrintMore
attribute [local go_sem] max2_int min2_int max_two min_two max_three min_three max_four min_four   -- for this text's walks alone
set_option linter.unusedVariables false
set_option linter.unusedSimpArgs false

/-! ### laws_FnExactProductRows: function 3 -/
mutual
def laws_FnExactProductRows.j0 : Nat → List (List (S108)) → List (List (S108)) → List (List (S110)) → Int → List (List (S110)) → List (List (S110)) → List (List (S110)) → Int → Bool → Option (Bool)
  | 0, _, _, _, _, _, _, _, _, _ => none
  | k + 1, x0, x1, x6, x7, x8, x9, x10, x11, x53 => if x53 = true then (none) else ((laws_toValueSS.f k x0).bind fun t124 => ((laws_eqValueSS.f k x8 t124).bind fun t127 => (if t127 = true then ((laws_toValueSS.f k x1).bind fun t128 => ((laws_eqValueSS.f k x9 t128).bind fun t131 => (if t131 = true then ((laws_markValueSS.f k x8 1).bind fun bt132 => ((laws_markValueSS.f k x9 bt132.1).bind fun bt134 => (if bt134.1 < 0 then (laws_FnExactProductRows.j1 k x0 x1 x6 x7 x10 true) else ((laws_eqValueSS.f k x10 x6).bind fun t136 => (if t136 = true then (laws_FnExactProductRows.j1 k x0 x1 x6 x7 x10 (x11 != x7)) else (laws_FnExactProductRows.j1 k x0 x1 x6 x7 x10 true)))))) else (none)))) else (none))))
def laws_FnExactProductRows.j1 : Nat → List (List (S108)) → List (List (S108)) → List (List (S110)) → Int → List (List (S110)) → Bool → Option (Bool)
  | 0, _, _, _, _, _, _ => none
  | k + 1, x0, x1, x6, x7, x10, x82 => if x82 = true then (none) else ((laws_markValueSS.f k x10 1).bind fun bt137 => ((laws_heldValueSS.f k bt137.2 1).bind fun t139 => (if t139 < 0 then (none) else (if t139 = bt137.1 then ((laws_toValueSS.f k x0).bind fun t140 => ((laws_toValueSS.f k x1).bind fun t143 => ((impl_ProductRows.f k t140 t143).bind fun bt146 => ((laws_eqValueSS.f k bt146.1 x6).bind fun t150 => (if t150 = true then (laws_FnExactProductRows.j2 k bt137.2 bt137.1 (bt146.2 != x7)) else (laws_FnExactProductRows.j2 k bt137.2 bt137.1 true)))))) else (none)))))
def laws_FnExactProductRows.j2 : Nat → List (List (S110)) → Int → Bool → Option (Bool)
  | 0, _, _, _ => none
  | k + 1, x10, x13, x110 => if x110 = true then (none) else ((laws_heldValueSS.f k x10 1).bind fun t151 => (if t151 < 0 then (none) else (if t151 = x13 then (some true) else (none))))
end
def laws_FnExactProductRows.f (k : Nat) (l0 : List (List (S108))) (l1 : List (List (S108))) : Option (Bool) := (laws_szValueSS.f k l0 1048576).bind fun t101 => (if t101 < 0 then (some true) else ((laws_szValueSS.f k l1 t101).bind fun t102 => (if t102 < 0 then (some true) else ((laws_toValueSS.f k l0).bind fun t103 => ((laws_toValueSS.f k l1).bind fun t106 => ((spec_ProductRows.f k t103 t106).bind fun bt109 => ((laws_toValueSS.f k l0).bind fun t113 => ((laws_toValueSS.f k l1).bind fun t116 => ((impl_ProductRows.f k t113 t116).bind fun bt119 => ((laws_eqValueSS.f k bt119.1 bt109.1).bind fun t123 => (if t123 = true then (laws_FnExactProductRows.j0 k l0 l1 bt109.1 bt109.2 t113 t116 bt119.1 bt119.2 (bt119.2 != bt109.2)) else (laws_FnExactProductRows.j0 k l0 l1 bt109.1 bt109.2 t113 t116 bt119.1 bt119.2 true))))))))))))
theorem laws_FnExactProductRows.mono_l : ∀ k, (∀ y0 y1 y2 y3 y4 y5 y6 y7 y8, LeO (laws_FnExactProductRows.j0 k y0 y1 y2 y3 y4 y5 y6 y7 y8) (laws_FnExactProductRows.j0 (k + 1) y0 y1 y2 y3 y4 y5 y6 y7 y8)) ∧ (∀ y0 y1 y2 y3 y4 y5, LeO (laws_FnExactProductRows.j1 k y0 y1 y2 y3 y4 y5) (laws_FnExactProductRows.j1 (k + 1) y0 y1 y2 y3 y4 y5)) ∧ (∀ y0 y1 y2, LeO (laws_FnExactProductRows.j2 k y0 y1 y2) (laws_FnExactProductRows.j2 (k + 1) y0 y1 y2))
  | 0 => ⟨fun _ _ _ _ _ _ _ _ _ r h => by simp [laws_FnExactProductRows.j0] at h, fun _ _ _ _ _ _ r h => by simp [laws_FnExactProductRows.j1] at h, fun _ _ _ r h => by simp [laws_FnExactProductRows.j2] at h⟩
  | k + 1 => by
    obtain ⟨ih0, ih1, ih2⟩ := laws_FnExactProductRows.mono_l k
    refine ⟨?_, ?_, ?_⟩
    · intro y0 y1 y2 y3 y4 y5 y6 y7 y8
      unfold laws_FnExactProductRows.j0
      repeat' first
      | (with_reducible exact ih0 _ _ _ _ _ _ _ _ _)
      | (with_reducible exact ih1 _ _ _ _ _ _)
      | (with_reducible exact ih2 _ _ _)
      | (with_reducible exact impl_ProductRows.mono _ _ _)
      | (with_reducible exact laws_eqValueSS.mono _ _ _)
      | (with_reducible exact laws_heldValueSS.mono _ _ _)
      | (with_reducible exact laws_markValueSS.mono _ _ _)
      | (with_reducible exact laws_szValueSS.mono _ _ _)
      | (with_reducible exact laws_toValueSS.mono _ _)
      | (with_reducible exact spec_ProductRows.mono _ _ _)
      | (with_reducible exact LeO.refl _)
      | (with_reducible exact LeO.none _)
      | (with_reducible refine LeO.ite ?_ ?_)
      | (with_reducible refine LeO.bind ?_ (fun _ => ?_))
      | exact ih0 _ _ _ _ _ _ _ _ _
      | exact ih1 _ _ _ _ _ _
      | exact ih2 _ _ _
      | exact impl_ProductRows.mono _ _ _
      | exact laws_eqValueSS.mono _ _ _
      | exact laws_heldValueSS.mono _ _ _
      | exact laws_markValueSS.mono _ _ _
      | exact laws_szValueSS.mono _ _ _
      | exact laws_toValueSS.mono _ _
      | exact spec_ProductRows.mono _ _ _
      | exact LeO.none _
      | refine LeO.ite ?_ ?_
      | refine LeO.bind ?_ (fun _ => ?_)
    · intro y0 y1 y2 y3 y4 y5
      unfold laws_FnExactProductRows.j1
      repeat' first
      | (with_reducible exact ih0 _ _ _ _ _ _ _ _ _)
      | (with_reducible exact ih1 _ _ _ _ _ _)
      | (with_reducible exact ih2 _ _ _)
      | (with_reducible exact impl_ProductRows.mono _ _ _)
      | (with_reducible exact laws_eqValueSS.mono _ _ _)
      | (with_reducible exact laws_heldValueSS.mono _ _ _)
      | (with_reducible exact laws_markValueSS.mono _ _ _)
      | (with_reducible exact laws_szValueSS.mono _ _ _)
      | (with_reducible exact laws_toValueSS.mono _ _)
      | (with_reducible exact spec_ProductRows.mono _ _ _)
      | (with_reducible exact LeO.refl _)
      | (with_reducible exact LeO.none _)
      | (with_reducible refine LeO.ite ?_ ?_)
      | (with_reducible refine LeO.bind ?_ (fun _ => ?_))
      | exact ih0 _ _ _ _ _ _ _ _ _
      | exact ih1 _ _ _ _ _ _
      | exact ih2 _ _ _
      | exact impl_ProductRows.mono _ _ _
      | exact laws_eqValueSS.mono _ _ _
      | exact laws_heldValueSS.mono _ _ _
      | exact laws_markValueSS.mono _ _ _
      | exact laws_szValueSS.mono _ _ _
      | exact laws_toValueSS.mono _ _
      | exact spec_ProductRows.mono _ _ _
      | exact LeO.none _
      | refine LeO.ite ?_ ?_
      | refine LeO.bind ?_ (fun _ => ?_)
    · intro y0 y1 y2
      unfold laws_FnExactProductRows.j2
      repeat' first
      | (with_reducible exact ih0 _ _ _ _ _ _ _ _ _)
      | (with_reducible exact ih1 _ _ _ _ _ _)
      | (with_reducible exact ih2 _ _ _)
      | (with_reducible exact impl_ProductRows.mono _ _ _)
      | (with_reducible exact laws_eqValueSS.mono _ _ _)
      | (with_reducible exact laws_heldValueSS.mono _ _ _)
      | (with_reducible exact laws_markValueSS.mono _ _ _)
      | (with_reducible exact laws_szValueSS.mono _ _ _)
      | (with_reducible exact laws_toValueSS.mono _ _)
      | (with_reducible exact spec_ProductRows.mono _ _ _)
      | (with_reducible exact LeO.refl _)
      | (with_reducible exact LeO.none _)
      | (with_reducible refine LeO.ite ?_ ?_)
      | (with_reducible refine LeO.bind ?_ (fun _ => ?_))
      | exact ih0 _ _ _ _ _ _ _ _ _
      | exact ih1 _ _ _ _ _ _
      | exact ih2 _ _ _
      | exact impl_ProductRows.mono _ _ _
      | exact laws_eqValueSS.mono _ _ _
      | exact laws_heldValueSS.mono _ _ _
      | exact laws_markValueSS.mono _ _ _
      | exact laws_szValueSS.mono _ _ _
      | exact laws_toValueSS.mono _ _
      | exact spec_ProductRows.mono _ _ _
      | exact LeO.none _
      | refine LeO.ite ?_ ?_
      | refine LeO.bind ?_ (fun _ => ?_)
theorem laws_FnExactProductRows.mono : ∀ a0 a1 k, LeO (laws_FnExactProductRows.f k a0 a1) (laws_FnExactProductRows.f (k + 1) a0 a1) := by
  intro a0 a1 k
  obtain ⟨ih0, ih1, ih2⟩ := laws_FnExactProductRows.mono_l k
  unfold laws_FnExactProductRows.f
  repeat' first
      | (with_reducible exact ih0 _ _ _ _ _ _ _ _ _)
      | (with_reducible exact ih1 _ _ _ _ _ _)
      | (with_reducible exact ih2 _ _ _)
      | (with_reducible exact impl_ProductRows.mono _ _ _)
      | (with_reducible exact laws_eqValueSS.mono _ _ _)
      | (with_reducible exact laws_heldValueSS.mono _ _ _)
      | (with_reducible exact laws_markValueSS.mono _ _ _)
      | (with_reducible exact laws_szValueSS.mono _ _ _)
      | (with_reducible exact laws_toValueSS.mono _ _)
      | (with_reducible exact spec_ProductRows.mono _ _ _)
      | (with_reducible exact LeO.refl _)
      | (with_reducible exact LeO.none _)
      | (with_reducible refine LeO.ite ?_ ?_)
      | (with_reducible refine LeO.bind ?_ (fun _ => ?_))
      | exact ih0 _ _ _ _ _ _ _ _ _
      | exact ih1 _ _ _ _ _ _
      | exact ih2 _ _ _
      | exact impl_ProductRows.mono _ _ _
      | exact laws_eqValueSS.mono _ _ _
      | exact laws_heldValueSS.mono _ _ _
      | exact laws_markValueSS.mono _ _ _
      | exact laws_szValueSS.mono _ _ _
      | exact laws_toValueSS.mono _ _
      | exact spec_ProductRows.mono _ _ _
      | exact LeO.none _
      | refine LeO.ite ?_ ?_
      | refine LeO.bind ?_ (fun _ => ?_)
set_option maxHeartbeats 8000000 in
set_option maxRecDepth 100000 in
theorem laws_FnExactProductRows.calls (k : Nat) (A0 : Option Addr) (c0 : Nat) (l0 : List (List (S108))) (A1 : Option Addr) (c1 : Nat) (l1 : List (List (S108))) (r : Bool) (w : World) (hr0 : Kd.C (Kd.slice 108 k108) w A0 l0.length l0) (hc0 : l0.length ≤ c0) (hr1 : Kd.C (Kd.slice 108 k108) w A1 l1.length l1) (hc1 : l1.length ≤ c1) (h : laws_FnExactProductRows.f k l0 l1 = some r) :
    Calls Try.prog 3 #[.slice A0 l0.length c0, .slice A1 l1.length c1] w fun e w' => e = .returned (.bool r) ∧ Below w.heap.size w w' := by
  have HR0 := Aside0.mk hr0
  have HC0 := Aside0.mk hc0
  clear hr0 hc0
  have HR1 := Aside0.mk hr1
  have HC1 := Aside0.mk hc1
  clear hr1 hc1
  have HB := Aside0.mk (Below.refl w.heap.size w)
  have H : ((laws_szValueSS.f k l0 1048576).bind fun t101 => (if t101 < 0 then (some true) else ((laws_szValueSS.f k l1 t101).bind fun t102 => (if t102 < 0 then (some true) else ((laws_toValueSS.f k l0).bind fun t103 => ((laws_toValueSS.f k l1).bind fun t106 => ((spec_ProductRows.f k t103 t106).bind fun bt109 => ((laws_toValueSS.f k l0).bind fun t113 => ((laws_toValueSS.f k l1).bind fun t116 => ((impl_ProductRows.f k t113 t116).bind fun bt119 => ((laws_eqValueSS.f k bt119.1 bt109.1).bind fun t123 => (if t123 = true then (laws_FnExactProductRows.j0 k l0 l1 bt109.1 bt109.2 t113 t116 bt119.1 bt119.2 (bt119.2 != bt109.2)) else (laws_FnExactProductRows.j0 k l0 l1 bt109.1 bt109.2 t113 t116 bt119.1 bt119.2 true))))))))))))) = some r := h
  clear h
  replace H := Option.bind_eq_some_iff.mp H
  obtain ⟨t101, A30, H⟩ := H
  replace H : (if t101 < 0 then (some true) else ((laws_szValueSS.f k l1 t101).bind fun t102 => (if t102 < 0 then (some true) else ((laws_toValueSS.f k l0).bind fun t103 => ((laws_toValueSS.f k l1).bind fun t106 => ((spec_ProductRows.f k t103 t106).bind fun bt109 => ((laws_toValueSS.f k l0).bind fun t113 => ((laws_toValueSS.f k l1).bind fun t116 => ((impl_ProductRows.f k t113 t116).bind fun bt119 => ((laws_eqValueSS.f k bt119.1 bt109.1).bind fun t123 => (if t123 = true then (laws_FnExactProductRows.j0 k l0 l1 bt109.1 bt109.2 t113 t116 bt119.1 bt119.2 (bt119.2 != bt109.2)) else (laws_FnExactProductRows.j0 k l0 l1 bt109.1 bt109.2 t113 t116 bt119.1 bt119.2 true)))))))))))) = some r := H
  have A3 := Aside0.mk A30
  clear A30
  by_cases c4 : t101 < 0
  · rw [if_pos c4] at H
    have c4b0 : decide (t101 < 0) = true := decide_eq_true c4
    clear c4
    obtain rfl := Option.some.inj H
    go_enter Try.func3, Try.ntmps3
    go_wp2_with (first | ((with_reducible refine gate_callee (f := 6) rfl ?_); refine goesL_ (some 19) rfl rfl Try.func6 (by kernel_rfl) rfl #[.slice A0 l0.length c0, .int .i64 1048576] rfl (by (try simp only [List.map_toArray, List.map_cons, List.map_nil]); first | done | rfl | (simp only [List.length_drop, List.length_take]; rfl)) ?_; (with_reducible refine (laws_szValueSS.calls k _ _ l0 1048576 t101 _ ?side1 ?side2 A3.out).mono ?_); (case side1 => repeat (first | exact HR0.out | (with_reducible refine Kd.C_alloc ?_ _) | (with_reducible refine Kd.C_drewN ?_ _) | (with_reducible refine Kd.C_drew ?_))); (case side2 => exact HC0.out); rintro e w5 ⟨rfl, hb⟩; refine ⟨_, rfl, ?_⟩; have n0_ := Aside0.mk (below_step (by repeat (first | (with_reducible first | exact HB.out | apply below_alloc | apply pw_below_drewN | apply below_drew1) | exact HB.out)) hb); clear HB; have HB := n0_; clear n0_; (try clear hb); (try clear hb2); (try clear hk); (try clear hi)))
    go_ret
    exact ⟨by first | rfl | (simp [errW_none, errW_some] <;> rfl) | (simp [*, errW_none, errW_some] <;> rfl), by repeat (first | (with_reducible first | exact HB.out | apply below_alloc | apply pw_below_drewN | apply below_drew1) | exact HB.out)⟩
  · rw [if_neg c4] at H
    have c4b0 : decide (t101 < 0) = false := decide_eq_false c4
    clear c4
    replace H := Option.bind_eq_some_iff.mp H
    obtain ⟨t102, A60, H⟩ := H
    replace H : (if t102 < 0 then (some true) else ((laws_toValueSS.f k l0).bind fun t103 => ((laws_toValueSS.f k l1).bind fun t106 => ((spec_ProductRows.f k t103 t106).bind fun bt109 => ((laws_toValueSS.f k l0).bind fun t113 => ((laws_toValueSS.f k l1).bind fun t116 => ((impl_ProductRows.f k t113 t116).bind fun bt119 => ((laws_eqValueSS.f k bt119.1 bt109.1).bind fun t123 => (if t123 = true then (laws_FnExactProductRows.j0 k l0 l1 bt109.1 bt109.2 t113 t116 bt119.1 bt119.2 (bt119.2 != bt109.2)) else (laws_FnExactProductRows.j0 k l0 l1 bt109.1 bt109.2 t113 t116 bt119.1 bt119.2 true)))))))))) = some r := H
    have A6 := Aside0.mk A60
    clear A60
    by_cases c7 : t102 < 0
    · rw [if_pos c7] at H
      have c7b0 : decide (t102 < 0) = true := decide_eq_true c7
      clear c7
      obtain rfl := Option.some.inj H
      go_enter Try.func3, Try.ntmps3
      go_wp2_with (first | ((with_reducible refine gate_callee (f := 6) rfl ?_); refine goesL_ (some 19) rfl rfl Try.func6 (by kernel_rfl) rfl #[.slice A0 l0.length c0, .int .i64 1048576] rfl (by (try simp only [List.map_toArray, List.map_cons, List.map_nil]); first | done | rfl | (simp only [List.length_drop, List.length_take]; rfl)) ?_; (with_reducible refine (laws_szValueSS.calls k _ _ l0 1048576 t101 _ ?side1 ?side2 A3.out).mono ?_); (case side1 => repeat (first | exact HR0.out | (with_reducible refine Kd.C_alloc ?_ _) | (with_reducible refine Kd.C_drewN ?_ _) | (with_reducible refine Kd.C_drew ?_))); (case side2 => exact HC0.out); rintro e w8 ⟨rfl, hb⟩; refine ⟨_, rfl, ?_⟩; have n0_ := Aside0.mk (below_step (by repeat (first | (with_reducible first | exact HB.out | apply below_alloc | apply pw_below_drewN | apply below_drew1) | exact HB.out)) hb); clear HB; have HB := n0_; clear n0_; (try clear hb); (try clear hb2); (try clear hk); (try clear hi)) | ((with_reducible refine gate_callee (f := 6) rfl ?_); refine goesL_ (some 24) rfl rfl Try.func6 (by kernel_rfl) rfl #[.slice A1 l1.length c1, .int .i64 t101] rfl (by (try simp only [List.map_toArray, List.map_cons, List.map_nil]); first | done | rfl | (simp only [List.length_drop, List.length_take]; rfl)) ?_; (with_reducible refine (laws_szValueSS.calls k _ _ l1 t101 t102 _ ?side1 ?side2 A6.out).mono ?_); (case side1 => repeat (first | exact (Kd.C_below HR1.out HB.out) | (with_reducible refine Kd.C_alloc ?_ _) | (with_reducible refine Kd.C_drewN ?_ _) | (with_reducible refine Kd.C_drew ?_))); (case side2 => exact HC1.out); rintro e w9 ⟨rfl, hb⟩; refine ⟨_, rfl, ?_⟩; have n0_ := Aside0.mk (below_step (by repeat (first | (with_reducible first | exact HB.out | apply below_alloc | apply pw_below_drewN | apply below_drew1) | exact HB.out)) hb); clear HB; have HB := n0_; clear n0_; (try clear hb); (try clear hb2); (try clear hk); (try clear hi)))
      go_ret
      exact ⟨by first | rfl | (simp [errW_none, errW_some] <;> rfl) | (simp [*, errW_none, errW_some] <;> rfl), by repeat (first | (with_reducible first | exact HB.out | apply below_alloc | apply pw_below_drewN | apply below_drew1) | exact HB.out)⟩
    · rw [if_neg c7] at H
      have c7b0 : decide (t102 < 0) = false := decide_eq_false c7
      clear c7
      replace H := Option.bind_eq_some_iff.mp H
      obtain ⟨t103, A100, H⟩ := H
      replace H : ((laws_toValueSS.f k l1).bind fun t106 => ((spec_ProductRows.f k t103 t106).bind fun bt109 => ((laws_toValueSS.f k l0).bind fun t113 => ((laws_toValueSS.f k l1).bind fun t116 => ((impl_ProductRows.f k t113 t116).bind fun bt119 => ((laws_eqValueSS.f k bt119.1 bt109.1).bind fun t123 => (if t123 = true then (laws_FnExactProductRows.j0 k l0 l1 bt109.1 bt109.2 t113 t116 bt119.1 bt119.2 (bt119.2 != bt109.2)) else (laws_FnExactProductRows.j0 k l0 l1 bt109.1 bt109.2 t113 t116 bt119.1 bt119.2 true)))))))) = some r := H
      have A10 := Aside0.mk A100
      clear A100
      replace H := Option.bind_eq_some_iff.mp H
      obtain ⟨t106, A110, H⟩ := H
      replace H : ((spec_ProductRows.f k t103 t106).bind fun bt109 => ((laws_toValueSS.f k l0).bind fun t113 => ((laws_toValueSS.f k l1).bind fun t116 => ((impl_ProductRows.f k t113 t116).bind fun bt119 => ((laws_eqValueSS.f k bt119.1 bt109.1).bind fun t123 => (if t123 = true then (laws_FnExactProductRows.j0 k l0 l1 bt109.1 bt109.2 t113 t116 bt119.1 bt119.2 (bt119.2 != bt109.2)) else (laws_FnExactProductRows.j0 k l0 l1 bt109.1 bt109.2 t113 t116 bt119.1 bt119.2 true))))))) = some r := H
      have A11 := Aside0.mk A110
      clear A110
      replace H := Option.bind_eq_some_iff.mp H
      obtain ⟨⟨t109, t110⟩, A120, H⟩ := H
      replace H : ((laws_toValueSS.f k l0).bind fun t113 => ((laws_toValueSS.f k l1).bind fun t116 => ((impl_ProductRows.f k t113 t116).bind fun bt119 => ((laws_eqValueSS.f k bt119.1 t109).bind fun t123 => (if t123 = true then (laws_FnExactProductRows.j0 k l0 l1 t109 t110 t113 t116 bt119.1 bt119.2 (bt119.2 != t110)) else (laws_FnExactProductRows.j0 k l0 l1 t109 t110 t113 t116 bt119.1 bt119.2 true)))))) = some r := H
      have A12 := Aside0.mk A120
      clear A120
      replace H := Option.bind_eq_some_iff.mp H
      obtain ⟨t113, A130, H⟩ := H
      replace H : ((laws_toValueSS.f k l1).bind fun t116 => ((impl_ProductRows.f k t113 t116).bind fun bt119 => ((laws_eqValueSS.f k bt119.1 t109).bind fun t123 => (if t123 = true then (laws_FnExactProductRows.j0 k l0 l1 t109 t110 t113 t116 bt119.1 bt119.2 (bt119.2 != t110)) else (laws_FnExactProductRows.j0 k l0 l1 t109 t110 t113 t116 bt119.1 bt119.2 true))))) = some r := H
      have A13 := Aside0.mk A130
      clear A130
      replace H := Option.bind_eq_some_iff.mp H
      obtain ⟨t116, A140, H⟩ := H
      replace H : ((impl_ProductRows.f k t113 t116).bind fun bt119 => ((laws_eqValueSS.f k bt119.1 t109).bind fun t123 => (if t123 = true then (laws_FnExactProductRows.j0 k l0 l1 t109 t110 t113 t116 bt119.1 bt119.2 (bt119.2 != t110)) else (laws_FnExactProductRows.j0 k l0 l1 t109 t110 t113 t116 bt119.1 bt119.2 true)))) = some r := H
      have A14 := Aside0.mk A140
      clear A140
      replace H := Option.bind_eq_some_iff.mp H
      obtain ⟨⟨t119, t120⟩, A150, H⟩ := H
      replace H : ((laws_eqValueSS.f k t119 t109).bind fun t123 => (if t123 = true then (laws_FnExactProductRows.j0 k l0 l1 t109 t110 t113 t116 t119 t120 (t120 != t110)) else (laws_FnExactProductRows.j0 k l0 l1 t109 t110 t113 t116 t119 t120 true))) = some r := H
      have A15 := Aside0.mk A150
      clear A150
      have HC16 := Aside0.mk H
      clear H
      go_enter Try.func3, Try.ntmps3
      go_upto_region 12 with (first | ((with_reducible refine gate_callee (f := 6) rfl ?_); refine goesL_ (some 19) rfl rfl Try.func6 (by kernel_rfl) rfl #[.slice A0 l0.length c0, .int .i64 1048576] rfl (by (try simp only [List.map_toArray, List.map_cons, List.map_nil]); first | done | rfl | (simp only [List.length_drop, List.length_take]; rfl)) ?_; (with_reducible refine (laws_szValueSS.calls k _ _ l0 1048576 t101 _ ?side1 ?side2 A3.out).mono ?_); (case side1 => repeat (first | exact HR0.out | (with_reducible refine Kd.C_alloc ?_ _) | (with_reducible refine Kd.C_drewN ?_ _) | (with_reducible refine Kd.C_drew ?_))); (case side2 => exact HC0.out); rintro e w17 ⟨rfl, hb⟩; refine ⟨_, rfl, ?_⟩; have n0_ := Aside0.mk (below_step (by repeat (first | (with_reducible first | exact HB.out | apply below_alloc | apply pw_below_drewN | apply below_drew1) | exact HB.out)) hb); clear HB; have HB := n0_; clear n0_; (try clear hb); (try clear hb2); (try clear hk); (try clear hi)) | ((with_reducible refine gate_callee (f := 6) rfl ?_); refine goesL_ (some 24) rfl rfl Try.func6 (by kernel_rfl) rfl #[.slice A1 l1.length c1, .int .i64 t101] rfl (by (try simp only [List.map_toArray, List.map_cons, List.map_nil]); first | done | rfl | (simp only [List.length_drop, List.length_take]; rfl)) ?_; (with_reducible refine (laws_szValueSS.calls k _ _ l1 t101 t102 _ ?side1 ?side2 A6.out).mono ?_); (case side1 => repeat (first | exact (Kd.C_below HR1.out HB.out) | (with_reducible refine Kd.C_alloc ?_ _) | (with_reducible refine Kd.C_drewN ?_ _) | (with_reducible refine Kd.C_drew ?_))); (case side2 => exact HC1.out); rintro e w18 ⟨rfl, hb⟩; refine ⟨_, rfl, ?_⟩; have n0_ := Aside0.mk (below_step (by repeat (first | (with_reducible first | exact HB.out | apply below_alloc | apply pw_below_drewN | apply below_drew1) | exact HB.out)) hb); clear HB; have HB := n0_; clear n0_; (try clear hb); (try clear hb2); (try clear hk); (try clear hi)) | ((with_reducible refine gate_callee (f := 8) rfl ?_); refine goesL_ (some 29) rfl rfl Try.func8 (by kernel_rfl) rfl #[.slice A0 l0.length c0] rfl (by (try simp only [List.map_toArray, List.map_cons, List.map_nil]); first | done | rfl | (simp only [List.length_drop, List.length_take]; rfl)) ?_; (with_reducible refine (laws_toValueSS.calls k _ _ l0 t103 _ ?side1 ?side2 A10.out).mono ?_); (case side1 => repeat (first | exact (Kd.C_below HR0.out HB.out) | (with_reducible refine Kd.C_alloc ?_ _) | (with_reducible refine Kd.C_drewN ?_ _) | (with_reducible refine Kd.C_drew ?_))); (case side2 => exact HC0.out); rintro e w19 ⟨v104, rfl, ho0, hb⟩; refine ⟨_, rfl, ?_⟩; obtain ⟨nq1q, hq1q⟩ := nAt_ hb; have n0_ := Aside0.mk (S_geNq ho0 hq1q (below_size (by repeat (first | (with_reducible first | exact HB.out | apply below_alloc | apply pw_below_drewN | apply below_drew1) | exact HB.out)))); have n1_ := Aside0.mk (below_step (by repeat (first | (with_reducible first | exact HB.out | apply below_alloc | apply pw_below_drewN | apply below_drew1) | exact HB.out)) hb); clear HB; have HO105 := n0_; have HB := n1_; clear n0_ n1_; (try clear hb); (try clear hb2); (try clear hk); (try clear hi); (try clear ho0); (try clear hq1q)) | ((with_reducible refine gate_callee (f := 8) rfl ?_); refine goesL_ (some 31) rfl rfl Try.func8 (by kernel_rfl) rfl #[.slice A1 l1.length c1] rfl (by (try simp only [List.map_toArray, List.map_cons, List.map_nil]); first | done | rfl | (simp only [List.length_drop, List.length_take]; rfl)) ?_; (with_reducible refine (laws_toValueSS.calls k _ _ l1 t106 _ ?side1 ?side2 A11.out).mono ?_); (case side1 => repeat (first | exact (Kd.C_below HR1.out HB.out) | (with_reducible refine Kd.C_alloc ?_ _) | (with_reducible refine Kd.C_drewN ?_ _) | (with_reducible refine Kd.C_drew ?_))); (case side2 => exact HC1.out); rintro e w20 ⟨v107, rfl, ho0, hb⟩; refine ⟨_, rfl, ?_⟩; obtain ⟨nq2q, hq2q⟩ := nAt_ hb; have n0_ := Aside0.mk (S_elderNq (by (with_reducible repeat (first | apply Kd.S_alloc | apply Kd.S_drewN | apply Kd.S_drew)); exact HO105.out) (Kd.S_base ho0) hb hq2q); have n1_ := Aside0.mk (S_geNq (Kd.S_new' ho0 (Kd.S_lt (by (with_reducible repeat (first | apply Kd.S_alloc | apply Kd.S_drewN | apply Kd.S_drew)); exact HO105.out))) hq2q (below_size (by repeat (first | (with_reducible first | exact HB.out | apply below_alloc | apply pw_below_drewN | apply below_drew1) | exact HB.out)))); have n2_ := Aside0.mk (below_step (by repeat (first | (with_reducible first | exact HB.out | apply below_alloc | apply pw_below_drewN | apply below_drew1) | exact HB.out)) hb); clear HO105; clear HB; have HO105 := n0_; have HO108 := n1_; have HB := n2_; clear n0_ n1_ n2_; (try clear hb); (try clear hb2); (try clear hk); (try clear hi); (try clear ho0); (try clear hq2q); obtain ⟨Ao21, co21, eo21⟩ := Kd.S_slice HO105.out; subst eo21; obtain ⟨Ao22, co22, eo22⟩ := Kd.S_slice HO108.out; subst eo22) | ((with_reducible refine gate_callee (f := 7) rfl ?_); refine goesL_ (some 32) rfl rfl Try.func7 (by kernel_rfl) rfl #[.slice Ao21 t103.length co21, .slice Ao22 t106.length co22] rfl (by (try simp only [List.map_toArray, List.map_cons, List.map_nil]); first | done | rfl | (simp only [List.length_drop, List.length_take]; rfl)) ?_; (with_reducible refine (spec_ProductRows.calls k _ _ t103 _ _ t106 t109 t110 _ ?side1 ?side2 ?side3 ?side4 A12.out).mono ?_); (case side1 => repeat (first | exact (Kd.S_reads' HO105.out).2.2 | (with_reducible refine Kd.C_alloc ?_ _) | (with_reducible refine Kd.C_drewN ?_ _) | (with_reducible refine Kd.C_drew ?_))); (case side2 => exact (Kd.S_reads' HO105.out).2.1); (case side3 => repeat (first | exact (Kd.S_reads' HO108.out).2.2 | (with_reducible refine Kd.C_alloc ?_ _) | (with_reducible refine Kd.C_drewN ?_ _) | (with_reducible refine Kd.C_drew ?_))); (case side4 => exact (Kd.S_reads' HO108.out).2.1); rintro e w23 ⟨v111, rfl, ho0, hb⟩; refine ⟨_, rfl, ?_⟩; obtain ⟨nq3q, hq3q⟩ := nAt_ hb; have n0_ := Aside0.mk (S_elderNq (by (with_reducible repeat (first | apply Kd.S_alloc | apply Kd.S_drewN | apply Kd.S_drew)); exact HO105.out) (Kd.S_base ho0) hb hq3q); have n1_ := Aside0.mk (S_elderNq (by (with_reducible repeat (first | apply Kd.S_alloc | apply Kd.S_drewN | apply Kd.S_drew)); exact HO108.out) (Kd.S_base ho0) hb hq3q); have n2_ := Aside0.mk (S_geNq (Kd.S_new' (Kd.S_new' ho0 (Kd.S_lt (by (with_reducible repeat (first | apply Kd.S_alloc | apply Kd.S_drewN | apply Kd.S_drew)); exact HO105.out))) (Kd.S_lt (by (with_reducible repeat (first | apply Kd.S_alloc | apply Kd.S_drewN | apply Kd.S_drew)); exact HO108.out))) hq3q (below_size (by repeat (first | (with_reducible first | exact HB.out | apply below_alloc | apply pw_below_drewN | apply below_drew1) | exact HB.out)))); have n3_ := Aside0.mk (below_step (by repeat (first | (with_reducible first | exact HB.out | apply below_alloc | apply pw_below_drewN | apply below_drew1) | exact HB.out)) hb); clear HO105; clear HO108; clear HB; have HO105 := n0_; have HO108 := n1_; have HO112 := n2_; have HB := n3_; clear n0_ n1_ n2_ n3_; (try clear hb); (try clear hb2); (try clear hk); (try clear hi); (try clear ho0); (try clear hq3q)) | ((with_reducible refine gate_callee (f := 8) rfl ?_); refine goesL_ (some 36) rfl rfl Try.func8 (by kernel_rfl) rfl #[.slice A0 l0.length c0] rfl (by (try simp only [List.map_toArray, List.map_cons, List.map_nil]); first | done | rfl | (simp only [List.length_drop, List.length_take]; rfl)) ?_; (with_reducible refine (laws_toValueSS.calls k _ _ l0 t113 _ ?side1 ?side2 A13.out).mono ?_); (case side1 => repeat (first | exact (Kd.C_below HR0.out HB.out) | (with_reducible refine Kd.C_alloc ?_ _) | (with_reducible refine Kd.C_drewN ?_ _) | (with_reducible refine Kd.C_drew ?_))); (case side2 => exact HC0.out); rintro e w24 ⟨v114, rfl, ho0, hb⟩; refine ⟨_, rfl, ?_⟩; obtain ⟨nq4q, hq4q⟩ := nAt_ hb; have n0_ := Aside0.mk (S_elderNq (by (with_reducible repeat (first | apply Kd.S_alloc | apply Kd.S_drewN | apply Kd.S_drew)); exact HO105.out) (Kd.S_base ho0) hb hq4q); have n1_ := Aside0.mk (S_elderNq (by (with_reducible repeat (first | apply Kd.S_alloc | apply Kd.S_drewN | apply Kd.S_drew)); exact HO108.out) (Kd.S_base ho0) hb hq4q); have n2_ := Aside0.mk (S_elderNq (by (with_reducible repeat (first | apply Kd.S_alloc | apply Kd.S_drewN | apply Kd.S_drew)); exact HO112.out) (Kd.S_base ho0) hb hq4q); have n3_ := Aside0.mk (S_geNq (Kd.S_new' (Kd.S_new' (Kd.S_new' ho0 (Kd.S_lt (by (with_reducible repeat (first | apply Kd.S_alloc | apply Kd.S_drewN | apply Kd.S_drew)); exact HO105.out))) (Kd.S_lt (by (with_reducible repeat (first | apply Kd.S_alloc | apply Kd.S_drewN | apply Kd.S_drew)); exact HO108.out))) (Kd.S_lt (by (with_reducible repeat (first | apply Kd.S_alloc | apply Kd.S_drewN | apply Kd.S_drew)); exact HO112.out))) hq4q (below_size (by repeat (first | (with_reducible first | exact HB.out | apply below_alloc | apply pw_below_drewN | apply below_drew1) | exact HB.out)))); have n4_ := Aside0.mk (below_step (by repeat (first | (with_reducible first | exact HB.out | apply below_alloc | apply pw_below_drewN | apply below_drew1) | exact HB.out)) hb); clear HO105; clear HO108; clear HO112; clear HB; have HO105 := n0_; have HO108 := n1_; have HO112 := n2_; have HO115 := n3_; have HB := n4_; clear n0_ n1_ n2_ n3_ n4_; (try clear hb); (try clear hb2); (try clear hk); (try clear hi); (try clear ho0); (try clear hq4q)) | ((with_reducible refine gate_callee (f := 8) rfl ?_); refine goesL_ (some 38) rfl rfl Try.func8 (by kernel_rfl) rfl #[.slice A1 l1.length c1] rfl (by (try simp only [List.map_toArray, List.map_cons, List.map_nil]); first | done | rfl | (simp only [List.length_drop, List.length_take]; rfl)) ?_; (with_reducible refine (laws_toValueSS.calls k _ _ l1 t116 _ ?side1 ?side2 A14.out).mono ?_); (case side1 => repeat (first | exact (Kd.C_below HR1.out HB.out) | (with_reducible refine Kd.C_alloc ?_ _) | (with_reducible refine Kd.C_drewN ?_ _) | (with_reducible refine Kd.C_drew ?_))); (case side2 => exact HC1.out); rintro e w25 ⟨v117, rfl, ho0, hb⟩; refine ⟨_, rfl, ?_⟩; obtain ⟨nq5q, hq5q⟩ := nAt_ hb; have n0_ := Aside0.mk (S_elderNq (by (with_reducible repeat (first | apply Kd.S_alloc | apply Kd.S_drewN | apply Kd.S_drew)); exact HO105.out) (Kd.S_base ho0) hb hq5q); have n1_ := Aside0.mk (S_elderNq (by (with_reducible repeat (first | apply Kd.S_alloc | apply Kd.S_drewN | apply Kd.S_drew)); exact HO108.out) (Kd.S_base ho0) hb hq5q); have n2_ := Aside0.mk (S_elderNq (by (with_reducible repeat (first | apply Kd.S_alloc | apply Kd.S_drewN | apply Kd.S_drew)); exact HO112.out) (Kd.S_base ho0) hb hq5q); have n3_ := Aside0.mk (S_elderNq (by (with_reducible repeat (first | apply Kd.S_alloc | apply Kd.S_drewN | apply Kd.S_drew)); exact HO115.out) (Kd.S_base ho0) hb hq5q); have n4_ := Aside0.mk (S_geNq (Kd.S_new' (Kd.S_new' (Kd.S_new' (Kd.S_new' ho0 (Kd.S_lt (by (with_reducible repeat (first | apply Kd.S_alloc | apply Kd.S_drewN | apply Kd.S_drew)); exact HO105.out))) (Kd.S_lt (by (with_reducible repeat (first | apply Kd.S_alloc | apply Kd.S_drewN | apply Kd.S_drew)); exact HO108.out))) (Kd.S_lt (by (with_reducible repeat (first | apply Kd.S_alloc | apply Kd.S_drewN | apply Kd.S_drew)); exact HO112.out))) (Kd.S_lt (by (with_reducible repeat (first | apply Kd.S_alloc | apply Kd.S_drewN | apply Kd.S_drew)); exact HO115.out))) hq5q (below_size (by repeat (first | (with_reducible first | exact HB.out | apply below_alloc | apply pw_below_drewN | apply below_drew1) | exact HB.out)))); have n5_ := Aside0.mk (below_step (by repeat (first | (with_reducible first | exact HB.out | apply below_alloc | apply pw_below_drewN | apply below_drew1) | exact HB.out)) hb); clear HO105; clear HO108; clear HO112; clear HO115; clear HB; have HO105 := n0_; have HO108 := n1_; have HO112 := n2_; have HO115 := n3_; have HO118 := n4_; have HB := n5_; clear n0_ n1_ n2_ n3_ n4_ n5_; (try clear hb); (try clear hb2); (try clear hk); (try clear hi); (try clear ho0); (try clear hq5q); obtain ⟨Ao26, co26, eo26⟩ := Kd.S_slice HO115.out; subst eo26; obtain ⟨Ao27, co27, eo27⟩ := Kd.S_slice HO118.out; subst eo27) | ((with_reducible refine gate_callee (f := 9) rfl ?_); refine goesL_ (some 42) rfl rfl Try.func9 (by kernel_rfl) rfl #[.slice Ao26 t113.length co26, .slice Ao27 t116.length co27] rfl (by (try simp only [List.map_toArray, List.map_cons, List.map_nil]); first | done | rfl | (simp only [List.length_drop, List.length_take]; rfl)) ?_; (with_reducible refine (impl_ProductRows.calls k _ _ t113 _ _ t116 t119 t120 _ ?side1 ?side2 ?side3 ?side4 A15.out).mono ?_); (case side1 => repeat (first | exact (Kd.S_reads' HO115.out).2.2 | (with_reducible refine Kd.C_alloc ?_ _) | (with_reducible refine Kd.C_drewN ?_ _) | (with_reducible refine Kd.C_drew ?_))); (case side2 => exact (Kd.S_reads' HO115.out).2.1); (case side3 => repeat (first | exact (Kd.S_reads' HO118.out).2.2 | (with_reducible refine Kd.C_alloc ?_ _) | (with_reducible refine Kd.C_drewN ?_ _) | (with_reducible refine Kd.C_drew ?_))); (case side4 => exact (Kd.S_reads' HO118.out).2.1); rintro e w28 ⟨v121, rfl, ho0, hb⟩; refine ⟨_, rfl, ?_⟩; obtain ⟨nq6q, hq6q⟩ := nAt_ hb; have n0_ := Aside0.mk (S_elderNq (by (with_reducible repeat (first | apply Kd.S_alloc | apply Kd.S_drewN | apply Kd.S_drew)); exact HO105.out) (Kd.S_base ho0) hb hq6q); have n1_ := Aside0.mk (S_elderNq (by (with_reducible repeat (first | apply Kd.S_alloc | apply Kd.S_drewN | apply Kd.S_drew)); exact HO108.out) (Kd.S_base ho0) hb hq6q); have n2_ := Aside0.mk (S_elderNq (by (with_reducible repeat (first | apply Kd.S_alloc | apply Kd.S_drewN | apply Kd.S_drew)); exact HO112.out) (Kd.S_base ho0) hb hq6q); have n3_ := Aside0.mk (S_elderNq (by (with_reducible repeat (first | apply Kd.S_alloc | apply Kd.S_drewN | apply Kd.S_drew)); exact HO115.out) (Kd.S_base ho0) hb hq6q); have n4_ := Aside0.mk (S_elderNq (by (with_reducible repeat (first | apply Kd.S_alloc | apply Kd.S_drewN | apply Kd.S_drew)); exact HO118.out) (Kd.S_base ho0) hb hq6q); have n5_ := Aside0.mk (S_geNq (Kd.S_new' (Kd.S_new' (Kd.S_new' (Kd.S_new' (Kd.S_new' ho0 (Kd.S_lt (by (with_reducible repeat (first | apply Kd.S_alloc | apply Kd.S_drewN | apply Kd.S_drew)); exact HO105.out))) (Kd.S_lt (by (with_reducible repeat (first | apply Kd.S_alloc | apply Kd.S_drewN | apply Kd.S_drew)); exact HO108.out))) (Kd.S_lt (by (with_reducible repeat (first | apply Kd.S_alloc | apply Kd.S_drewN | apply Kd.S_drew)); exact HO112.out))) (Kd.S_lt (by (with_reducible repeat (first | apply Kd.S_alloc | apply Kd.S_drewN | apply Kd.S_drew)); exact HO115.out))) (Kd.S_lt (by (with_reducible repeat (first | apply Kd.S_alloc | apply Kd.S_drewN | apply Kd.S_drew)); exact HO118.out))) hq6q (below_size (by repeat (first | (with_reducible first | exact HB.out | apply below_alloc | apply pw_below_drewN | apply below_drew1) | exact HB.out)))); have n6_ := Aside0.mk (below_step (by repeat (first | (with_reducible first | exact HB.out | apply below_alloc | apply pw_below_drewN | apply below_drew1) | exact HB.out)) hb); clear HO105; clear HO108; clear HO112; clear HO115; clear HO118; clear HB; have HO105 := n0_; have HO108 := n1_; have HO112 := n2_; have HO115 := n3_; have HO118 := n4_; have HO122 := n5_; have HB := n6_; clear n0_ n1_ n2_ n3_ n4_ n5_ n6_; (try clear hb); (try clear hb2); (try clear hk); (try clear hi); (try clear ho0); (try clear hq6q)))
      (try simp only [Act.put, List.setIfInBounds_toArray, List.set_cons_zero, List.set_cons_succ])
      go_cut [53] (fun v53 wc => ∃ (kq : Nat) (x53_15 : Bool), v53 = .bool x53_15 ∧ Aside0 (laws_FnExactProductRows.j0 kq l0 l1 t109 t110 t113 t116 t119 t120 x53_15 = some r) ∧ Aside0 (kq ≤ k) ∧ Aside0 (Kd.S (Kd.slice 110 k110) 75 wc w.heap.size (fun k_ => some k_ ≠ ((.slice Ao26 t113.length co26) : Value).ownBlock ∧ some k_ ≠ ((.slice Ao27 t116.length co27) : Value).ownBlock ∧ some k_ ≠ (v121 : Value).ownBlock ∧ nq3q ≤ k_ ∧ k_ < nq4q ∧ k_ < nq5q ∧ k_ < nq6q) v111 t109) ∧ Aside0 (Kd.S (Kd.slice 110 k110) 75 wc w.heap.size (fun k_ => some k_ ≠ (v111 : Value).ownBlock ∧ some k_ ≠ ((.slice Ao27 t116.length co27) : Value).ownBlock ∧ some k_ ≠ (v121 : Value).ownBlock ∧ nq4q ≤ k_ ∧ k_ < nq5q ∧ k_ < nq6q) (.slice Ao26 t113.length co26) t113) ∧ Aside0 (Kd.S (Kd.slice 110 k110) 75 wc w.heap.size (fun k_ => some k_ ≠ (v111 : Value).ownBlock ∧ some k_ ≠ ((.slice Ao26 t113.length co26) : Value).ownBlock ∧ some k_ ≠ (v121 : Value).ownBlock ∧ nq5q ≤ k_ ∧ k_ < nq6q) (.slice Ao27 t116.length co27) t116) ∧ Aside0 (Kd.S (Kd.slice 110 k110) 75 wc w.heap.size (fun k_ => some k_ ≠ (v111 : Value).ownBlock ∧ some k_ ≠ ((.slice Ao26 t113.length co26) : Value).ownBlock ∧ some k_ ≠ ((.slice Ao27 t116.length co27) : Value).ownBlock ∧ nq6q ≤ k_) v121 t119) ∧ Aside0 (Below w.heap.size w wc))
      case first =>
        have H := HC16.out
        clear HC16
        replace H := Option.bind_eq_some_iff.mp H
        obtain ⟨t123, A290, H⟩ := H
        replace H : (if t123 = true then (laws_FnExactProductRows.j0 k l0 l1 t109 t110 t113 t116 t119 t120 (t120 != t110)) else (laws_FnExactProductRows.j0 k l0 l1 t109 t110 t113 t116 t119 t120 true)) = some r := H
        have A29 := Aside0.mk A290
        clear A290
        by_cases c30 : t123 = true
        · subst c30
          have H1 : (laws_FnExactProductRows.j0 k l0 l1 t109 t110 t113 t116 t119 t120 (t120 != t110)) = some r := by rw [if_pos rfl] at H; exact H
          clear H
          have H := H1
          clear H1
          have H' := Aside0.mk H
          clear H
          obtain ⟨Ao31, co31, eo31⟩ := Kd.S_slice HO122.out
          subst eo31
          obtain ⟨Ao32, co32, eo32⟩ := Kd.S_slice HO112.out
          subst eo32
          go_wp2_with (first | ((with_reducible refine gate_callee (f := 10) rfl ?_); refine goesL_ (some 47) rfl rfl Try.func10 (by kernel_rfl) rfl #[.slice Ao31 t119.length co31, .slice Ao32 t109.length co32] rfl (by (try simp only [List.map_toArray, List.map_cons, List.map_nil]); first | done | rfl | (simp only [List.length_drop, List.length_take]; rfl)) ?_; (with_reducible refine (laws_eqValueSS.calls k _ _ t119 _ _ t109 true _ ?side1 ?side2 ?side3 ?side4 A29.out).mono ?_); (case side1 => repeat (first | exact (Kd.S_reads' HO122.out).2.2 | (with_reducible refine Kd.C_alloc ?_ _) | (with_reducible refine Kd.C_drewN ?_ _) | (with_reducible refine Kd.C_drew ?_))); (case side2 => exact (Kd.S_reads' HO122.out).2.1); (case side3 => repeat (first | exact (Kd.S_reads' HO112.out).2.2 | (with_reducible refine Kd.C_alloc ?_ _) | (with_reducible refine Kd.C_drewN ?_ _) | (with_reducible refine Kd.C_drew ?_))); (case side4 => exact (Kd.S_reads' HO112.out).2.1); rintro e w33 ⟨rfl, hb⟩; refine ⟨_, rfl, ?_⟩; have n0_ := Aside0.mk (Kd.S_below (by (with_reducible repeat (first | apply Kd.S_alloc | apply Kd.S_drewN | apply Kd.S_drew)); exact HO105.out) hb); have n1_ := Aside0.mk (Kd.S_below (by (with_reducible repeat (first | apply Kd.S_alloc | apply Kd.S_drewN | apply Kd.S_drew)); exact HO108.out) hb); have n2_ := Aside0.mk (Kd.S_below (by (with_reducible repeat (first | apply Kd.S_alloc | apply Kd.S_drewN | apply Kd.S_drew)); exact HO112.out) hb); have n3_ := Aside0.mk (Kd.S_below (by (with_reducible repeat (first | apply Kd.S_alloc | apply Kd.S_drewN | apply Kd.S_drew)); exact HO115.out) hb); have n4_ := Aside0.mk (Kd.S_below (by (with_reducible repeat (first | apply Kd.S_alloc | apply Kd.S_drewN | apply Kd.S_drew)); exact HO118.out) hb); have n5_ := Aside0.mk (Kd.S_below (by (with_reducible repeat (first | apply Kd.S_alloc | apply Kd.S_drewN | apply Kd.S_drew)); exact HO122.out) hb); have n6_ := Aside0.mk (below_step (by repeat (first | (with_reducible first | exact HB.out | apply below_alloc | apply pw_below_drewN | apply below_drew1) | exact HB.out)) hb); clear HO105; clear HO108; clear HO112; clear HO115; clear HO118; clear HO122; clear HB; have HO105 := n0_; have HO108 := n1_; have HO112 := n2_; have HO115 := n3_; have HO118 := n4_; have HO122 := n5_; have HB := n6_; clear n0_ n1_ n2_ n3_ n4_ n5_ n6_; (try clear hb); (try clear hb2); (try clear hk); (try clear hi)))
          go_meet
          case rel => exact ⟨_, ((t120 != t110)), (by first | rfl | (simp; done) | (simp [*]; done)), H', ⟨by first | omega | exact Nat.le_refl _⟩, ⟨by (with_reducible repeat (first | apply Kd.S_alloc | apply Kd.S_drewN | apply Kd.S_drew)); exact Kd.S_mono HO112.out (fun _ hk => ⟨hk.1.1.1.1.1.2, ⟨hk.1.1.1.2, ⟨hk.1.2, ⟨hk.1.1.1.1.1.1.2, ⟨hk.1.1.1.1.2, ⟨hk.1.1.2, hk.2⟩⟩⟩⟩⟩⟩)⟩, ⟨by (with_reducible repeat (first | apply Kd.S_alloc | apply Kd.S_drewN | apply Kd.S_drew)); exact Kd.S_mono HO115.out (fun _ hk => ⟨hk.1.1.1.1.1.2, ⟨hk.1.1.1.2, ⟨hk.1.2, ⟨hk.1.1.1.1.2, ⟨hk.1.1.2, hk.2⟩⟩⟩⟩⟩)⟩, ⟨by (with_reducible repeat (first | apply Kd.S_alloc | apply Kd.S_drewN | apply Kd.S_drew)); exact Kd.S_mono HO118.out (fun _ hk => ⟨hk.1.1.1.1.2, ⟨hk.1.1.1.2, ⟨hk.1.2, ⟨hk.1.1.2, hk.2⟩⟩⟩⟩)⟩, ⟨by (with_reducible repeat (first | apply Kd.S_alloc | apply Kd.S_drewN | apply Kd.S_drew)); exact Kd.S_mono HO122.out (fun _ hk => ⟨hk.1.1.1.2, ⟨hk.1.1.2, ⟨hk.1.2, hk.2⟩⟩⟩)⟩, ⟨by repeat (first | (with_reducible first | exact HB.out | apply below_alloc | apply pw_below_drewN | apply below_drew1) | exact HB.out)⟩⟩
        · replace c30 := Bool.eq_false_iff.mpr c30
          subst c30
          have H1 : (laws_FnExactProductRows.j0 k l0 l1 t109 t110 t113 t116 t119 t120 true) = some r := by rw [if_neg (show ¬ (false = true) by decide)] at H; exact H
          clear H
          have H := H1
          clear H1
          have H' := Aside0.mk H
          clear H
          obtain ⟨Ao34, co34, eo34⟩ := Kd.S_slice HO122.out
          subst eo34
          obtain ⟨Ao35, co35, eo35⟩ := Kd.S_slice HO112.out
          subst eo35
          go_wp2_with (first | ((with_reducible refine gate_callee (f := 10) rfl ?_); refine goesL_ (some 47) rfl rfl Try.func10 (by kernel_rfl) rfl #[.slice Ao34 t119.length co34, .slice Ao35 t109.length co35] rfl (by (try simp only [List.map_toArray, List.map_cons, List.map_nil]); first | done | rfl | (simp only [List.length_drop, List.length_take]; rfl)) ?_; (with_reducible refine (laws_eqValueSS.calls k _ _ t119 _ _ t109 false _ ?side1 ?side2 ?side3 ?side4 A29.out).mono ?_); (case side1 => repeat (first | exact (Kd.S_reads' HO122.out).2.2 | (with_reducible refine Kd.C_alloc ?_ _) | (with_reducible refine Kd.C_drewN ?_ _) | (with_reducible refine Kd.C_drew ?_))); (case side2 => exact (Kd.S_reads' HO122.out).2.1); (case side3 => repeat (first | exact (Kd.S_reads' HO112.out).2.2 | (with_reducible refine Kd.C_alloc ?_ _) | (with_reducible refine Kd.C_drewN ?_ _) | (with_reducible refine Kd.C_drew ?_))); (case side4 => exact (Kd.S_reads' HO112.out).2.1); rintro e w36 ⟨rfl, hb⟩; refine ⟨_, rfl, ?_⟩; have n0_ := Aside0.mk (Kd.S_below (by (with_reducible repeat (first | apply Kd.S_alloc | apply Kd.S_drewN | apply Kd.S_drew)); exact HO105.out) hb); have n1_ := Aside0.mk (Kd.S_below (by (with_reducible repeat (first | apply Kd.S_alloc | apply Kd.S_drewN | apply Kd.S_drew)); exact HO108.out) hb); have n2_ := Aside0.mk (Kd.S_below (by (with_reducible repeat (first | apply Kd.S_alloc | apply Kd.S_drewN | apply Kd.S_drew)); exact HO112.out) hb); have n3_ := Aside0.mk (Kd.S_below (by (with_reducible repeat (first | apply Kd.S_alloc | apply Kd.S_drewN | apply Kd.S_drew)); exact HO115.out) hb); have n4_ := Aside0.mk (Kd.S_below (by (with_reducible repeat (first | apply Kd.S_alloc | apply Kd.S_drewN | apply Kd.S_drew)); exact HO118.out) hb); have n5_ := Aside0.mk (Kd.S_below (by (with_reducible repeat (first | apply Kd.S_alloc | apply Kd.S_drewN | apply Kd.S_drew)); exact HO122.out) hb); have n6_ := Aside0.mk (below_step (by repeat (first | (with_reducible first | exact HB.out | apply below_alloc | apply pw_below_drewN | apply below_drew1) | exact HB.out)) hb); clear HO105; clear HO108; clear HO112; clear HO115; clear HO118; clear HO122; clear HB; have HO105 := n0_; have HO108 := n1_; have HO112 := n2_; have HO115 := n3_; have HO118 := n4_; have HO122 := n5_; have HB := n6_; clear n0_ n1_ n2_ n3_ n4_ n5_ n6_; (try clear hb); (try clear hb2); (try clear hk); (try clear hi)))
          go_meet
          case rel => exact ⟨_, (true), (by first | rfl | (simp; done) | (simp [*]; done)), H', ⟨by first | omega | exact Nat.le_refl _⟩, ⟨by (with_reducible repeat (first | apply Kd.S_alloc | apply Kd.S_drewN | apply Kd.S_drew)); exact Kd.S_mono HO112.out (fun _ hk => ⟨hk.1.1.1.1.1.2, ⟨hk.1.1.1.2, ⟨hk.1.2, ⟨hk.1.1.1.1.1.1.2, ⟨hk.1.1.1.1.2, ⟨hk.1.1.2, hk.2⟩⟩⟩⟩⟩⟩)⟩, ⟨by (with_reducible repeat (first | apply Kd.S_alloc | apply Kd.S_drewN | apply Kd.S_drew)); exact Kd.S_mono HO115.out (fun _ hk => ⟨hk.1.1.1.1.1.2, ⟨hk.1.1.1.2, ⟨hk.1.2, ⟨hk.1.1.1.1.2, ⟨hk.1.1.2, hk.2⟩⟩⟩⟩⟩)⟩, ⟨by (with_reducible repeat (first | apply Kd.S_alloc | apply Kd.S_drewN | apply Kd.S_drew)); exact Kd.S_mono HO118.out (fun _ hk => ⟨hk.1.1.1.1.2, ⟨hk.1.1.1.2, ⟨hk.1.2, ⟨hk.1.1.2, hk.2⟩⟩⟩⟩)⟩, ⟨by (with_reducible repeat (first | apply Kd.S_alloc | apply Kd.S_drewN | apply Kd.S_drew)); exact Kd.S_mono HO122.out (fun _ hk => ⟨hk.1.1.1.2, ⟨hk.1.1.2, ⟨hk.1.2, hk.2⟩⟩⟩)⟩, ⟨by repeat (first | (with_reducible first | exact HB.out | apply below_alloc | apply pw_below_drewN | apply below_drew1) | exact HB.out)⟩⟩
      case rest =>
        clear HC16
        try clear c1
        try clear q1
        try clear p2
        try clear q2
        try clear c3
        try clear q3
        try clear c4
        try clear c4b0
        try clear q4
        try clear q5
        try clear c6
        try clear q6
        try clear c7
        try clear c7b0
        try clear c8
        try clear c9
        try clear c10
        try clear c30
        obtain ⟨kq, x53_15, rfl, HA, HJ15, HO_6, HO_8, HO_9, HO_10, HB⟩ := hcut
        cases kq with
        | zero => exact absurd HA.out (by simp [laws_FnExactProductRows.j0])
        | succ kj15 =>
          have H := HA.out
          clear HA
          simp only [laws_FnExactProductRows.j0] at H
          by_cases c37 : x53_15 = true
          · subst c37
            have H1 : (none) = some r := by rw [if_pos rfl] at H; exact H
            clear H
            have H := H1
            clear H1
            exact absurd H (by simp)
          · replace c37 := Bool.eq_false_iff.mpr c37
            subst c37
            have H1 : ((laws_toValueSS.f kj15 l0).bind fun t124 => ((laws_eqValueSS.f kj15 t113 t124).bind fun t127 => (if t127 = true then ((laws_toValueSS.f kj15 l1).bind fun t128 => ((laws_eqValueSS.f kj15 t116 t128).bind fun t131 => (if t131 = true then ((laws_markValueSS.f kj15 t113 1).bind fun bt132 => ((laws_markValueSS.f kj15 t116 bt132.1).bind fun bt134 => (if bt134.1 < 0 then (laws_FnExactProductRows.j1 kj15 l0 l1 t109 t110 t119 true) else ((laws_eqValueSS.f kj15 t119 t109).bind fun t136 => (if t136 = true then (laws_FnExactProductRows.j1 kj15 l0 l1 t109 t110 t119 (t120 != t110)) else (laws_FnExactProductRows.j1 kj15 l0 l1 t109 t110 t119 true)))))) else (none)))) else (none)))) = some r := by rw [if_neg (show ¬ (false = true) by decide)] at H; exact H
            clear H
            have H := H1
            clear H1
            replace H := Option.bind_eq_some_iff.mp H
            obtain ⟨t124, A380, H⟩ := H
            replace H : ((laws_eqValueSS.f kj15 t113 t124).bind fun t127 => (if t127 = true then ((laws_toValueSS.f kj15 l1).bind fun t128 => ((laws_eqValueSS.f kj15 t116 t128).bind fun t131 => (if t131 = true then ((laws_markValueSS.f kj15 t113 1).bind fun bt132 => ((laws_markValueSS.f kj15 t116 bt132.1).bind fun bt134 => (if bt134.1 < 0 then (laws_FnExactProductRows.j1 kj15 l0 l1 t109 t110 t119 true) else ((laws_eqValueSS.f kj15 t119 t109).bind fun t136 => (if t136 = true then (laws_FnExactProductRows.j1 kj15 l0 l1 t109 t110 t119 (t120 != t110)) else (laws_FnExactProductRows.j1 kj15 l0 l1 t109 t110 t119 true)))))) else (none)))) else (none))) = some r := H
            have A38 := Aside0.mk A380
            clear A380
            replace H := Option.bind_eq_some_iff.mp H
            obtain ⟨t127, A390, H⟩ := H
            replace H : (if t127 = true then ((laws_toValueSS.f kj15 l1).bind fun t128 => ((laws_eqValueSS.f kj15 t116 t128).bind fun t131 => (if t131 = true then ((laws_markValueSS.f kj15 t113 1).bind fun bt132 => ((laws_markValueSS.f kj15 t116 bt132.1).bind fun bt134 => (if bt134.1 < 0 then (laws_FnExactProductRows.j1 kj15 l0 l1 t109 t110 t119 true) else ((laws_eqValueSS.f kj15 t119 t109).bind fun t136 => (if t136 = true then (laws_FnExactProductRows.j1 kj15 l0 l1 t109 t110 t119 (t120 != t110)) else (laws_FnExactProductRows.j1 kj15 l0 l1 t109 t110 t119 true)))))) else (none)))) else (none)) = some r := H
            have A39 := Aside0.mk A390
            clear A390
            by_cases c40 : t127 = true
            · subst c40
              have H1 : ((laws_toValueSS.f kj15 l1).bind fun t128 => ((laws_eqValueSS.f kj15 t116 t128).bind fun t131 => (if t131 = true then ((laws_markValueSS.f kj15 t113 1).bind fun bt132 => ((laws_markValueSS.f kj15 t116 bt132.1).bind fun bt134 => (if bt134.1 < 0 then (laws_FnExactProductRows.j1 kj15 l0 l1 t109 t110 t119 true) else ((laws_eqValueSS.f kj15 t119 t109).bind fun t136 => (if t136 = true then (laws_FnExactProductRows.j1 kj15 l0 l1 t109 t110 t119 (t120 != t110)) else (laws_FnExactProductRows.j1 kj15 l0 l1 t109 t110 t119 true)))))) else (none)))) = some r := by rw [if_pos rfl] at H; exact H
              clear H
              have H := H1
              clear H1
              replace H := Option.bind_eq_some_iff.mp H
              obtain ⟨t128, A410, H⟩ := H
              replace H : ((laws_eqValueSS.f kj15 t116 t128).bind fun t131 => (if t131 = true then ((laws_markValueSS.f kj15 t113 1).bind fun bt132 => ((laws_markValueSS.f kj15 t116 bt132.1).bind fun bt134 => (if bt134.1 < 0 then (laws_FnExactProductRows.j1 kj15 l0 l1 t109 t110 t119 true) else ((laws_eqValueSS.f kj15 t119 t109).bind fun t136 => (if t136 = true then (laws_FnExactProductRows.j1 kj15 l0 l1 t109 t110 t119 (t120 != t110)) else (laws_FnExactProductRows.j1 kj15 l0 l1 t109 t110 t119 true)))))) else (none))) = some r := H
              have A41 := Aside0.mk A410
              clear A410
              replace H := Option.bind_eq_some_iff.mp H
              obtain ⟨t131, A420, H⟩ := H
              replace H : (if t131 = true then ((laws_markValueSS.f kj15 t113 1).bind fun bt132 => ((laws_markValueSS.f kj15 t116 bt132.1).bind fun bt134 => (if bt134.1 < 0 then (laws_FnExactProductRows.j1 kj15 l0 l1 t109 t110 t119 true) else ((laws_eqValueSS.f kj15 t119 t109).bind fun t136 => (if t136 = true then (laws_FnExactProductRows.j1 kj15 l0 l1 t109 t110 t119 (t120 != t110)) else (laws_FnExactProductRows.j1 kj15 l0 l1 t109 t110 t119 true)))))) else (none)) = some r := H
              have A42 := Aside0.mk A420
              clear A420
              by_cases c43 : t131 = true
              · subst c43
                have H1 : ((laws_markValueSS.f kj15 t113 1).bind fun bt132 => ((laws_markValueSS.f kj15 t116 bt132.1).bind fun bt134 => (if bt134.1 < 0 then (laws_FnExactProductRows.j1 kj15 l0 l1 t109 t110 t119 true) else ((laws_eqValueSS.f kj15 t119 t109).bind fun t136 => (if t136 = true then (laws_FnExactProductRows.j1 kj15 l0 l1 t109 t110 t119 (t120 != t110)) else (laws_FnExactProductRows.j1 kj15 l0 l1 t109 t110 t119 true)))))) = some r := by rw [if_pos rfl] at H; exact H
                clear H
                have H := H1
                clear H1
                replace H := Option.bind_eq_some_iff.mp H
                obtain ⟨⟨t132, t133⟩, A440, H⟩ := H
                replace H : ((laws_markValueSS.f kj15 t116 t132).bind fun bt134 => (if bt134.1 < 0 then (laws_FnExactProductRows.j1 kj15 l0 l1 t109 t110 t119 true) else ((laws_eqValueSS.f kj15 t119 t109).bind fun t136 => (if t136 = true then (laws_FnExactProductRows.j1 kj15 l0 l1 t109 t110 t119 (t120 != t110)) else (laws_FnExactProductRows.j1 kj15 l0 l1 t109 t110 t119 true))))) = some r := H
                have A44 := Aside0.mk A440
                clear A440
                replace H := Option.bind_eq_some_iff.mp H
                obtain ⟨⟨t134, t135⟩, A450, H⟩ := H
                replace H : (if t134 < 0 then (laws_FnExactProductRows.j1 kj15 l0 l1 t109 t110 t119 true) else ((laws_eqValueSS.f kj15 t119 t109).bind fun t136 => (if t136 = true then (laws_FnExactProductRows.j1 kj15 l0 l1 t109 t110 t119 (t120 != t110)) else (laws_FnExactProductRows.j1 kj15 l0 l1 t109 t110 t119 true)))) = some r := H
                have A45 := Aside0.mk A450
                clear A450
                have HC46 := Aside0.mk H
                clear H
                go_upto_region 21 with (first | ((with_reducible refine gate_callee (f := 8) rfl ?_); refine goesL_ (some 56) rfl rfl Try.func8 (by kernel_rfl) rfl #[.slice A0 l0.length c0] rfl (by (try simp only [List.map_toArray, List.map_cons, List.map_nil]); first | done | rfl | (simp only [List.length_drop, List.length_take]; rfl)) ?_; (with_reducible refine (laws_toValueSS.calls kj15 _ _ l0 t124 _ ?side1 ?side2 A38.out).mono ?_); (case side1 => repeat (first | exact (Kd.C_below HR0.out HB.out) | (with_reducible refine Kd.C_alloc ?_ _) | (with_reducible refine Kd.C_drewN ?_ _) | (with_reducible refine Kd.C_drew ?_))); (case side2 => exact HC0.out); rintro e w47 ⟨v125, rfl, ho0, hb⟩; refine ⟨_, rfl, ?_⟩; obtain ⟨nq7q, hq7q⟩ := nAt_ hb; have n0_ := Aside0.mk (S_elderNq (by (with_reducible repeat (first | apply Kd.S_alloc | apply Kd.S_drewN | apply Kd.S_drew)); exact HO_6.out) (Kd.S_base ho0) hb hq7q); have n1_ := Aside0.mk (S_elderNq (by (with_reducible repeat (first | apply Kd.S_alloc | apply Kd.S_drewN | apply Kd.S_drew)); exact HO_8.out) (Kd.S_base ho0) hb hq7q); have n2_ := Aside0.mk (S_elderNq (by (with_reducible repeat (first | apply Kd.S_alloc | apply Kd.S_drewN | apply Kd.S_drew)); exact HO_9.out) (Kd.S_base ho0) hb hq7q); have n3_ := Aside0.mk (S_elderNq (by (with_reducible repeat (first | apply Kd.S_alloc | apply Kd.S_drewN | apply Kd.S_drew)); exact HO_10.out) (Kd.S_base ho0) hb hq7q); have n4_ := Aside0.mk (S_geNq (Kd.S_new' (Kd.S_new' (Kd.S_new' (Kd.S_new' ho0 (Kd.S_lt (by (with_reducible repeat (first | apply Kd.S_alloc | apply Kd.S_drewN | apply Kd.S_drew)); exact HO_6.out))) (Kd.S_lt (by (with_reducible repeat (first | apply Kd.S_alloc | apply Kd.S_drewN | apply Kd.S_drew)); exact HO_8.out))) (Kd.S_lt (by (with_reducible repeat (first | apply Kd.S_alloc | apply Kd.S_drewN | apply Kd.S_drew)); exact HO_9.out))) (Kd.S_lt (by (with_reducible repeat (first | apply Kd.S_alloc | apply Kd.S_drewN | apply Kd.S_drew)); exact HO_10.out))) hq7q (below_size (by repeat (first | (with_reducible first | exact HB.out | apply below_alloc | apply pw_below_drewN | apply below_drew1) | exact HB.out)))); have n5_ := Aside0.mk (below_step (by repeat (first | (with_reducible first | exact HB.out | apply below_alloc | apply pw_below_drewN | apply below_drew1) | exact HB.out)) hb); clear HO_6; clear HO_8; clear HO_9; clear HO_10; clear HB; have HO_6 := n0_; have HO_8 := n1_; have HO_9 := n2_; have HO_10 := n3_; have HO126 := n4_; have HB := n5_; clear n0_ n1_ n2_ n3_ n4_ n5_; (try clear hb); (try clear hb2); (try clear hk); (try clear hi); (try clear ho0); (try clear hq7q); obtain ⟨Ao48, co48, eo48⟩ := Kd.S_slice HO126.out; subst eo48) | ((with_reducible refine gate_callee (f := 10) rfl ?_); refine goesL_ (some 57) rfl rfl Try.func10 (by kernel_rfl) rfl #[.slice Ao26 t113.length co26, .slice Ao48 t124.length co48] rfl (by (try simp only [List.map_toArray, List.map_cons, List.map_nil]); first | done | rfl | (simp only [List.length_drop, List.length_take]; rfl)) ?_; (with_reducible refine (laws_eqValueSS.calls kj15 _ _ t113 _ _ t124 true _ ?side1 ?side2 ?side3 ?side4 A39.out).mono ?_); (case side1 => repeat (first | exact (Kd.S_reads' HO_8.out).2.2 | (with_reducible refine Kd.C_alloc ?_ _) | (with_reducible refine Kd.C_drewN ?_ _) | (with_reducible refine Kd.C_drew ?_))); (case side2 => exact (Kd.S_reads' HO_8.out).2.1); (case side3 => repeat (first | exact (Kd.S_reads' HO126.out).2.2 | (with_reducible refine Kd.C_alloc ?_ _) | (with_reducible refine Kd.C_drewN ?_ _) | (with_reducible refine Kd.C_drew ?_))); (case side4 => exact (Kd.S_reads' HO126.out).2.1); rintro e w49 ⟨rfl, hb⟩; refine ⟨_, rfl, ?_⟩; have n0_ := Aside0.mk (Kd.S_below (by (with_reducible repeat (first | apply Kd.S_alloc | apply Kd.S_drewN | apply Kd.S_drew)); exact HO_6.out) hb); have n1_ := Aside0.mk (Kd.S_below (by (with_reducible repeat (first | apply Kd.S_alloc | apply Kd.S_drewN | apply Kd.S_drew)); exact HO_8.out) hb); have n2_ := Aside0.mk (Kd.S_below (by (with_reducible repeat (first | apply Kd.S_alloc | apply Kd.S_drewN | apply Kd.S_drew)); exact HO_9.out) hb); have n3_ := Aside0.mk (Kd.S_below (by (with_reducible repeat (first | apply Kd.S_alloc | apply Kd.S_drewN | apply Kd.S_drew)); exact HO_10.out) hb); have n4_ := Aside0.mk (Kd.S_below (by (with_reducible repeat (first | apply Kd.S_alloc | apply Kd.S_drewN | apply Kd.S_drew)); exact HO126.out) hb); have n5_ := Aside0.mk (below_step (by repeat (first | (with_reducible first | exact HB.out | apply below_alloc | apply pw_below_drewN | apply below_drew1) | exact HB.out)) hb); clear HO_6; clear HO_8; clear HO_9; clear HO_10; clear HO126; clear HB; have HO_6 := n0_; have HO_8 := n1_; have HO_9 := n2_; have HO_10 := n3_; have HO126 := n4_; have HB := n5_; clear n0_ n1_ n2_ n3_ n4_ n5_; (try clear hb); (try clear hb2); (try clear hk); (try clear hi)) | ((with_reducible refine gate_callee (f := 8) rfl ?_); refine goesL_ (some 61) rfl rfl Try.func8 (by kernel_rfl) rfl #[.slice A1 l1.length c1] rfl (by (try simp only [List.map_toArray, List.map_cons, List.map_nil]); first | done | rfl | (simp only [List.length_drop, List.length_take]; rfl)) ?_; (with_reducible refine (laws_toValueSS.calls kj15 _ _ l1 t128 _ ?side1 ?side2 A41.out).mono ?_); (case side1 => repeat (first | exact (Kd.C_below HR1.out HB.out) | (with_reducible refine Kd.C_alloc ?_ _) | (with_reducible refine Kd.C_drewN ?_ _) | (with_reducible refine Kd.C_drew ?_))); (case side2 => exact HC1.out); rintro e w50 ⟨v129, rfl, ho0, hb⟩; refine ⟨_, rfl, ?_⟩; obtain ⟨nq8q, hq8q⟩ := nAt_ hb; have n0_ := Aside0.mk (S_elderNq (by (with_reducible repeat (first | apply Kd.S_alloc | apply Kd.S_drewN | apply Kd.S_drew)); exact HO_6.out) (Kd.S_base ho0) hb hq8q); have n1_ := Aside0.mk (S_elderNq (by (with_reducible repeat (first | apply Kd.S_alloc | apply Kd.S_drewN | apply Kd.S_drew)); exact HO_8.out) (Kd.S_base ho0) hb hq8q); have n2_ := Aside0.mk (S_elderNq (by (with_reducible repeat (first | apply Kd.S_alloc | apply Kd.S_drewN | apply Kd.S_drew)); exact HO_9.out) (Kd.S_base ho0) hb hq8q); have n3_ := Aside0.mk (S_elderNq (by (with_reducible repeat (first | apply Kd.S_alloc | apply Kd.S_drewN | apply Kd.S_drew)); exact HO_10.out) (Kd.S_base ho0) hb hq8q); have n4_ := Aside0.mk (S_elderNq (by (with_reducible repeat (first | apply Kd.S_alloc | apply Kd.S_drewN | apply Kd.S_drew)); exact HO126.out) (Kd.S_base ho0) hb hq8q); have n5_ := Aside0.mk (S_geNq (Kd.S_new' (Kd.S_new' (Kd.S_new' (Kd.S_new' (Kd.S_new' ho0 (Kd.S_lt (by (with_reducible repeat (first | apply Kd.S_alloc | apply Kd.S_drewN | apply Kd.S_drew)); exact HO_6.out))) (Kd.S_lt (by (with_reducible repeat (first | apply Kd.S_alloc | apply Kd.S_drewN | apply Kd.S_drew)); exact HO_8.out))) (Kd.S_lt (by (with_reducible repeat (first | apply Kd.S_alloc | apply Kd.S_drewN | apply Kd.S_drew)); exact HO_9.out))) (Kd.S_lt (by (with_reducible repeat (first | apply Kd.S_alloc | apply Kd.S_drewN | apply Kd.S_drew)); exact HO_10.out))) (Kd.S_lt (by (with_reducible repeat (first | apply Kd.S_alloc | apply Kd.S_drewN | apply Kd.S_drew)); exact HO126.out))) hq8q (below_size (by repeat (first | (with_reducible first | exact HB.out | apply below_alloc | apply pw_below_drewN | apply below_drew1) | exact HB.out)))); have n6_ := Aside0.mk (below_step (by repeat (first | (with_reducible first | exact HB.out | apply below_alloc | apply pw_below_drewN | apply below_drew1) | exact HB.out)) hb); clear HO_6; clear HO_8; clear HO_9; clear HO_10; clear HO126; clear HB; have HO_6 := n0_; have HO_8 := n1_; have HO_9 := n2_; have HO_10 := n3_; have HO126 := n4_; have HO130 := n5_; have HB := n6_; clear n0_ n1_ n2_ n3_ n4_ n5_ n6_; (try clear hb); (try clear hb2); (try clear hk); (try clear hi); (try clear ho0); (try clear hq8q); obtain ⟨Ao51, co51, eo51⟩ := Kd.S_slice HO130.out; subst eo51) | ((with_reducible refine gate_callee (f := 10) rfl ?_); refine goesL_ (some 62) rfl rfl Try.func10 (by kernel_rfl) rfl #[.slice Ao27 t116.length co27, .slice Ao51 t128.length co51] rfl (by (try simp only [List.map_toArray, List.map_cons, List.map_nil]); first | done | rfl | (simp only [List.length_drop, List.length_take]; rfl)) ?_; (with_reducible refine (laws_eqValueSS.calls kj15 _ _ t116 _ _ t128 true _ ?side1 ?side2 ?side3 ?side4 A42.out).mono ?_); (case side1 => repeat (first | exact (Kd.S_reads' HO_9.out).2.2 | (with_reducible refine Kd.C_alloc ?_ _) | (with_reducible refine Kd.C_drewN ?_ _) | (with_reducible refine Kd.C_drew ?_))); (case side2 => exact (Kd.S_reads' HO_9.out).2.1); (case side3 => repeat (first | exact (Kd.S_reads' HO130.out).2.2 | (with_reducible refine Kd.C_alloc ?_ _) | (with_reducible refine Kd.C_drewN ?_ _) | (with_reducible refine Kd.C_drew ?_))); (case side4 => exact (Kd.S_reads' HO130.out).2.1); rintro e w52 ⟨rfl, hb⟩; refine ⟨_, rfl, ?_⟩; have n0_ := Aside0.mk (Kd.S_below (by (with_reducible repeat (first | apply Kd.S_alloc | apply Kd.S_drewN | apply Kd.S_drew)); exact HO_6.out) hb); have n1_ := Aside0.mk (Kd.S_below (by (with_reducible repeat (first | apply Kd.S_alloc | apply Kd.S_drewN | apply Kd.S_drew)); exact HO_8.out) hb); have n2_ := Aside0.mk (Kd.S_below (by (with_reducible repeat (first | apply Kd.S_alloc | apply Kd.S_drewN | apply Kd.S_drew)); exact HO_9.out) hb); have n3_ := Aside0.mk (Kd.S_below (by (with_reducible repeat (first | apply Kd.S_alloc | apply Kd.S_drewN | apply Kd.S_drew)); exact HO_10.out) hb); have n4_ := Aside0.mk (Kd.S_below (by (with_reducible repeat (first | apply Kd.S_alloc | apply Kd.S_drewN | apply Kd.S_drew)); exact HO126.out) hb); have n5_ := Aside0.mk (Kd.S_below (by (with_reducible repeat (first | apply Kd.S_alloc | apply Kd.S_drewN | apply Kd.S_drew)); exact HO130.out) hb); have n6_ := Aside0.mk (below_step (by repeat (first | (with_reducible first | exact HB.out | apply below_alloc | apply pw_below_drewN | apply below_drew1) | exact HB.out)) hb); clear HO_6; clear HO_8; clear HO_9; clear HO_10; clear HO126; clear HO130; clear HB; have HO_6 := n0_; have HO_8 := n1_; have HO_9 := n2_; have HO_10 := n3_; have HO126 := n4_; have HO130 := n5_; have HB := n6_; clear n0_ n1_ n2_ n3_ n4_ n5_ n6_; (try clear hb); (try clear hb2); (try clear hk); (try clear hi)) | ((with_reducible refine gate_callee (f := 11) rfl ?_); refine goesL_ (some 66) rfl rfl Try.func11 (by kernel_rfl) rfl #[.slice Ao26 t113.length co26, .int .i64 1] rfl (by (try simp only [List.map_toArray, List.map_cons, List.map_nil]); first | done | rfl | (simp only [List.length_drop, List.length_take]; rfl)) ?_; (with_reducible refine (laws_markValueSS.calls kj15 (fun k_ => (((((some k_ ≠ (v111 : Value).ownBlock ∧ (some k_ ≠ (.slice Ao27 t116.length co27 : Value).ownBlock ∧ (some k_ ≠ (v121 : Value).ownBlock ∧ (nq4q ≤ k_ ∧ (k_ < nq5q ∧ k_ < nq6q))))) ∧ some k_ ≠ (.slice Ao48 t124.length co48 : Value).ownBlock) ∧ k_ < nq7q) ∧ some k_ ≠ (.slice Ao51 t128.length co51 : Value).ownBlock) ∧ k_ < nq8q)) (.slice Ao26 t113.length co26) t113 1 t132 t133 w _ ?side1 ?side2 A44.out).mono ?_); (case side1 => repeat (first | (with_reducible first | exact HB.out | apply below_alloc | apply pw_below_drewN | apply below_drew1) | exact HB.out)); (case side2 => exact HO_8.out); rintro e w53 ⟨rfl, hy0, hb, hkp⟩; refine ⟨_, rfl, ?_⟩; have n0_ := Aside0.mk (Kd.S_mono (ok' := fun k_ => some k_ ≠ (.slice Ao26 t113.length co26 : Value).ownBlock ∧ some k_ ≠ (.slice Ao27 t116.length co27 : Value).ownBlock ∧ some k_ ≠ (v121 : Value).ownBlock ∧ some k_ ≠ (.slice Ao48 t124.length co48 : Value).ownBlock ∧ some k_ ≠ (.slice Ao51 t128.length co51 : Value).ownBlock ∧ nq3q ≤ k_ ∧ k_ < nq4q ∧ k_ < nq5q ∧ k_ < nq6q ∧ k_ < nq7q ∧ k_ < nq8q) (Kd.S_keptB ((Kd.S_mono (ok' := fun k_ => ((((((some k_ ≠ (.slice Ao26 t113.length co26 : Value).ownBlock ∧ (some k_ ≠ (.slice Ao27 t116.length co27 : Value).ownBlock ∧ (some k_ ≠ (v121 : Value).ownBlock ∧ (nq3q ≤ k_ ∧ (k_ < nq4q ∧ (k_ < nq5q ∧ k_ < nq6q)))))) ∧ some k_ ≠ (.slice Ao48 t124.length co48 : Value).ownBlock) ∧ k_ < nq7q) ∧ some k_ ≠ (.slice Ao51 t128.length co51 : Value).ownBlock) ∧ k_ < nq8q)) ∧ ¬ ((((((some k_ ≠ (v111 : Value).ownBlock ∧ (some k_ ≠ (.slice Ao27 t116.length co27 : Value).ownBlock ∧ (some k_ ≠ (v121 : Value).ownBlock ∧ (nq4q ≤ k_ ∧ (k_ < nq5q ∧ k_ < nq6q))))) ∧ some k_ ≠ (.slice Ao48 t124.length co48 : Value).ownBlock) ∧ k_ < nq7q) ∧ some k_ ≠ (.slice Ao51 t128.length co51 : Value).ownBlock) ∧ k_ < nq8q))) (HO_6.out) (fun k_ hk => ⟨hk, fun hp_ => Nat.not_le.2 hk.1.1.1.1.2.2.2.2.1 hp_.1.1.1.1.2.2.2.1⟩))) hkp (fun k_ hk_ hs_ => (hk_.2) hs_)) (fun k_ hk_ => ⟨hk_.1.1.1.1.1.1.1, hk_.1.1.1.1.1.1.2.1, hk_.1.1.1.1.1.1.2.2.1, hk_.1.1.1.1.1.2, hk_.1.1.1.2, hk_.1.1.1.1.1.1.2.2.2.1, hk_.1.1.1.1.1.1.2.2.2.2.1, hk_.1.1.1.1.1.1.2.2.2.2.2.1, hk_.1.1.1.1.1.1.2.2.2.2.2.2, hk_.1.1.1.1.2, hk_.1.1.2⟩)); have n1_ := Aside0.mk (hy0); have n2_ := Aside0.mk (Kd.S_mono (ok' := fun k_ => some k_ ≠ (v111 : Value).ownBlock ∧ some k_ ≠ (.slice Ao26 t113.length co26 : Value).ownBlock ∧ some k_ ≠ (v121 : Value).ownBlock ∧ some k_ ≠ (.slice Ao48 t124.length co48 : Value).ownBlock ∧ some k_ ≠ (.slice Ao51 t128.length co51 : Value).ownBlock ∧ nq5q ≤ k_ ∧ k_ < nq6q ∧ k_ < nq7q ∧ k_ < nq8q) (Kd.S_keptB ((Kd.S_mono (ok' := fun k_ => ((((((some k_ ≠ (v111 : Value).ownBlock ∧ (some k_ ≠ (.slice Ao26 t113.length co26 : Value).ownBlock ∧ (some k_ ≠ (v121 : Value).ownBlock ∧ (nq5q ≤ k_ ∧ k_ < nq6q)))) ∧ some k_ ≠ (.slice Ao48 t124.length co48 : Value).ownBlock) ∧ k_ < nq7q) ∧ some k_ ≠ (.slice Ao51 t128.length co51 : Value).ownBlock) ∧ k_ < nq8q)) ∧ ¬ ((((((some k_ ≠ (v111 : Value).ownBlock ∧ (some k_ ≠ (.slice Ao27 t116.length co27 : Value).ownBlock ∧ (some k_ ≠ (v121 : Value).ownBlock ∧ (nq4q ≤ k_ ∧ (k_ < nq5q ∧ k_ < nq6q))))) ∧ some k_ ≠ (.slice Ao48 t124.length co48 : Value).ownBlock) ∧ k_ < nq7q) ∧ some k_ ≠ (.slice Ao51 t128.length co51 : Value).ownBlock) ∧ k_ < nq8q))) (HO_9.out) (fun k_ hk => ⟨hk, fun hp_ => Nat.not_le.2 hp_.1.1.1.1.2.2.2.2.1 hk.1.1.1.1.2.2.2.1⟩))) hkp (fun k_ hk_ hs_ => (hk_.2) hs_)) (fun k_ hk_ => ⟨hk_.1.1.1.1.1.1.1, hk_.1.1.1.1.1.1.2.1, hk_.1.1.1.1.1.1.2.2.1, hk_.1.1.1.1.1.2, hk_.1.1.1.2, hk_.1.1.1.1.1.1.2.2.2.1, hk_.1.1.1.1.1.1.2.2.2.2, hk_.1.1.1.1.2, hk_.1.1.2⟩)); have n3_ := Aside0.mk (Kd.S_mono (ok' := fun k_ => some k_ ≠ (v111 : Value).ownBlock ∧ some k_ ≠ (.slice Ao26 t113.length co26 : Value).ownBlock ∧ some k_ ≠ (.slice Ao27 t116.length co27 : Value).ownBlock ∧ some k_ ≠ (.slice Ao48 t124.length co48 : Value).ownBlock ∧ some k_ ≠ (.slice Ao51 t128.length co51 : Value).ownBlock ∧ nq6q ≤ k_ ∧ k_ < nq7q ∧ k_ < nq8q) (Kd.S_keptB ((Kd.S_mono (ok' := fun k_ => ((((((some k_ ≠ (v111 : Value).ownBlock ∧ (some k_ ≠ (.slice Ao26 t113.length co26 : Value).ownBlock ∧ (some k_ ≠ (.slice Ao27 t116.length co27 : Value).ownBlock ∧ nq6q ≤ k_))) ∧ some k_ ≠ (.slice Ao48 t124.length co48 : Value).ownBlock) ∧ k_ < nq7q) ∧ some k_ ≠ (.slice Ao51 t128.length co51 : Value).ownBlock) ∧ k_ < nq8q)) ∧ ¬ ((((((some k_ ≠ (v111 : Value).ownBlock ∧ (some k_ ≠ (.slice Ao27 t116.length co27 : Value).ownBlock ∧ (some k_ ≠ (v121 : Value).ownBlock ∧ (nq4q ≤ k_ ∧ (k_ < nq5q ∧ k_ < nq6q))))) ∧ some k_ ≠ (.slice Ao48 t124.length co48 : Value).ownBlock) ∧ k_ < nq7q) ∧ some k_ ≠ (.slice Ao51 t128.length co51 : Value).ownBlock) ∧ k_ < nq8q))) (HO_10.out) (fun k_ hk => ⟨hk, fun hp_ => Nat.not_le.2 hp_.1.1.1.1.2.2.2.2.2 hk.1.1.1.1.2.2.2⟩))) hkp (fun k_ hk_ hs_ => (hk_.2) hs_)) (fun k_ hk_ => ⟨hk_.1.1.1.1.1.1.1, hk_.1.1.1.1.1.1.2.1, hk_.1.1.1.1.1.1.2.2.1, hk_.1.1.1.1.1.2, hk_.1.1.1.2, hk_.1.1.1.1.1.1.2.2.2, hk_.1.1.1.1.2, hk_.1.1.2⟩)); have n4_ := Aside0.mk (Kd.S_mono (ok' := fun k_ => some k_ ≠ (v111 : Value).ownBlock ∧ some k_ ≠ (.slice Ao26 t113.length co26 : Value).ownBlock ∧ some k_ ≠ (.slice Ao27 t116.length co27 : Value).ownBlock ∧ some k_ ≠ (v121 : Value).ownBlock ∧ some k_ ≠ (.slice Ao51 t128.length co51 : Value).ownBlock ∧ nq7q ≤ k_ ∧ k_ < nq8q) (Kd.S_keptB ((Kd.S_mono (ok' := fun k_ => ((((((((True ∧ some k_ ≠ (v111 : Value).ownBlock) ∧ some k_ ≠ (.slice Ao26 t113.length co26 : Value).ownBlock) ∧ some k_ ≠ (.slice Ao27 t116.length co27 : Value).ownBlock) ∧ some k_ ≠ (v121 : Value).ownBlock) ∧ nq7q ≤ k_) ∧ some k_ ≠ (.slice Ao51 t128.length co51 : Value).ownBlock) ∧ k_ < nq8q)) ∧ ¬ ((((((some k_ ≠ (v111 : Value).ownBlock ∧ (some k_ ≠ (.slice Ao27 t116.length co27 : Value).ownBlock ∧ (some k_ ≠ (v121 : Value).ownBlock ∧ (nq4q ≤ k_ ∧ (k_ < nq5q ∧ k_ < nq6q))))) ∧ some k_ ≠ (.slice Ao48 t124.length co48 : Value).ownBlock) ∧ k_ < nq7q) ∧ some k_ ≠ (.slice Ao51 t128.length co51 : Value).ownBlock) ∧ k_ < nq8q))) (HO126.out) (fun k_ hk => ⟨hk, fun hp_ => Nat.not_le.2 hp_.1.1.2 hk.1.1.2⟩))) hkp (fun k_ hk_ hs_ => (hk_.2) hs_)) (fun k_ hk_ => ⟨hk_.1.1.1.1.1.1.1.1.2, hk_.1.1.1.1.1.1.1.2, hk_.1.1.1.1.1.1.2, hk_.1.1.1.1.1.2, hk_.1.1.1.2, hk_.1.1.1.1.2, hk_.1.1.2⟩)); have n5_ := Aside0.mk (Kd.S_mono (ok' := fun k_ => some k_ ≠ (v111 : Value).ownBlock ∧ some k_ ≠ (.slice Ao26 t113.length co26 : Value).ownBlock ∧ some k_ ≠ (.slice Ao27 t116.length co27 : Value).ownBlock ∧ some k_ ≠ (v121 : Value).ownBlock ∧ some k_ ≠ (.slice Ao48 t124.length co48 : Value).ownBlock ∧ nq8q ≤ k_) (Kd.S_keptB ((Kd.S_mono (ok' := fun k_ => (((((((True ∧ some k_ ≠ (v111 : Value).ownBlock) ∧ some k_ ≠ (.slice Ao26 t113.length co26 : Value).ownBlock) ∧ some k_ ≠ (.slice Ao27 t116.length co27 : Value).ownBlock) ∧ some k_ ≠ (v121 : Value).ownBlock) ∧ some k_ ≠ (.slice Ao48 t124.length co48 : Value).ownBlock) ∧ nq8q ≤ k_)) ∧ ¬ ((((((some k_ ≠ (v111 : Value).ownBlock ∧ (some k_ ≠ (.slice Ao27 t116.length co27 : Value).ownBlock ∧ (some k_ ≠ (v121 : Value).ownBlock ∧ (nq4q ≤ k_ ∧ (k_ < nq5q ∧ k_ < nq6q))))) ∧ some k_ ≠ (.slice Ao48 t124.length co48 : Value).ownBlock) ∧ k_ < nq7q) ∧ some k_ ≠ (.slice Ao51 t128.length co51 : Value).ownBlock) ∧ k_ < nq8q))) (HO130.out) (fun k_ hk => ⟨hk, fun hp_ => Nat.not_le.2 hp_.2 hk.2⟩))) hkp (fun k_ hk_ hs_ => (hk_.2) hs_)) (fun k_ hk_ => ⟨hk_.1.1.1.1.1.1.1.2, hk_.1.1.1.1.1.1.2, hk_.1.1.1.1.1.2, hk_.1.1.1.1.2, hk_.1.1.1.2, hk_.1.1.2⟩)); have n6_ := Aside0.mk (hb); clear HO_6; clear HO_8; clear HO_9; clear HO_10; clear HO126; clear HO130; clear HB; have HO_6 := n0_; have HO_8 := n1_; have HO_9 := n2_; have HO_10 := n3_; have HO126 := n4_; have HO130 := n5_; have HB := n6_; clear n0_ n1_ n2_ n3_ n4_ n5_ n6_; (try clear hb); (try clear hkp); (try clear hy0)) | ((with_reducible refine gate_callee (f := 11) rfl ?_); refine goesL_ (some 69) rfl rfl Try.func11 (by kernel_rfl) rfl #[.slice Ao27 t116.length co27, .int .i64 t132] rfl (by (try simp only [List.map_toArray, List.map_cons, List.map_nil]); first | done | rfl | (simp only [List.length_drop, List.length_take]; rfl)) ?_; (with_reducible refine (laws_markValueSS.calls kj15 (fun k_ => (some k_ ≠ (v111 : Value).ownBlock ∧ (some k_ ≠ (.slice Ao26 t113.length co26 : Value).ownBlock ∧ (some k_ ≠ (v121 : Value).ownBlock ∧ (some k_ ≠ (.slice Ao48 t124.length co48 : Value).ownBlock ∧ (some k_ ≠ (.slice Ao51 t128.length co51 : Value).ownBlock ∧ (nq5q ≤ k_ ∧ (k_ < nq6q ∧ (k_ < nq7q ∧ k_ < nq8q))))))))) (.slice Ao27 t116.length co27) t116 t132 t134 t135 w _ ?side1 ?side2 A45.out).mono ?_); (case side1 => repeat (first | (with_reducible first | exact HB.out | apply below_alloc | apply pw_below_drewN | apply below_drew1) | exact HB.out)); (case side2 => exact HO_9.out); rintro e w54 ⟨rfl, hy0, hb, hkp⟩; refine ⟨_, rfl, ?_⟩; have n0_ := Aside0.mk (Kd.S_mono (ok' := fun k_ => some k_ ≠ (.slice Ao26 t113.length co26 : Value).ownBlock ∧ some k_ ≠ (.slice Ao27 t116.length co27 : Value).ownBlock ∧ some k_ ≠ (v121 : Value).ownBlock ∧ some k_ ≠ (.slice Ao48 t124.length co48 : Value).ownBlock ∧ some k_ ≠ (.slice Ao51 t128.length co51 : Value).ownBlock ∧ nq3q ≤ k_ ∧ k_ < nq4q ∧ k_ < nq5q ∧ k_ < nq6q ∧ k_ < nq7q ∧ k_ < nq8q) (Kd.S_keptB ((Kd.S_mono (ok' := fun k_ => ((some k_ ≠ (.slice Ao26 t113.length co26 : Value).ownBlock ∧ (some k_ ≠ (.slice Ao27 t116.length co27 : Value).ownBlock ∧ (some k_ ≠ (v121 : Value).ownBlock ∧ (some k_ ≠ (.slice Ao48 t124.length co48 : Value).ownBlock ∧ (some k_ ≠ (.slice Ao51 t128.length co51 : Value).ownBlock ∧ (nq3q ≤ k_ ∧ (k_ < nq4q ∧ (k_ < nq5q ∧ (k_ < nq6q ∧ (k_ < nq7q ∧ k_ < nq8q))))))))))) ∧ ¬ ((some k_ ≠ (v111 : Value).ownBlock ∧ (some k_ ≠ (.slice Ao26 t113.length co26 : Value).ownBlock ∧ (some k_ ≠ (v121 : Value).ownBlock ∧ (some k_ ≠ (.slice Ao48 t124.length co48 : Value).ownBlock ∧ (some k_ ≠ (.slice Ao51 t128.length co51 : Value).ownBlock ∧ (nq5q ≤ k_ ∧ (k_ < nq6q ∧ (k_ < nq7q ∧ k_ < nq8q)))))))))) (HO_6.out) (fun k_ hk => ⟨hk, fun hp_ => Nat.not_le.2 hk.2.2.2.2.2.2.2.1 hp_.2.2.2.2.2.1⟩))) hkp (fun k_ hk_ hs_ => (hk_.2) hs_)) (fun k_ hk_ => ⟨hk_.1.1.1, hk_.1.1.2.1, hk_.1.1.2.2.1, hk_.1.1.2.2.2.1, hk_.1.1.2.2.2.2.1, hk_.1.1.2.2.2.2.2.1, hk_.1.1.2.2.2.2.2.2.1, hk_.1.1.2.2.2.2.2.2.2.1, hk_.1.1.2.2.2.2.2.2.2.2.1, hk_.1.1.2.2.2.2.2.2.2.2.2.1, hk_.1.1.2.2.2.2.2.2.2.2.2.2⟩)); have n1_ := Aside0.mk (Kd.S_mono (ok' := fun k_ => some k_ ≠ (v111 : Value).ownBlock ∧ some k_ ≠ (.slice Ao27 t116.length co27 : Value).ownBlock ∧ some k_ ≠ (v121 : Value).ownBlock ∧ some k_ ≠ (.slice Ao48 t124.length co48 : Value).ownBlock ∧ some k_ ≠ (.slice Ao51 t128.length co51 : Value).ownBlock ∧ nq4q ≤ k_ ∧ k_ < nq5q ∧ k_ < nq6q ∧ k_ < nq7q ∧ k_ < nq8q) (Kd.S_keptB ((Kd.S_mono (ok' := fun k_ => ((((((some k_ ≠ (v111 : Value).ownBlock ∧ (some k_ ≠ (.slice Ao27 t116.length co27 : Value).ownBlock ∧ (some k_ ≠ (v121 : Value).ownBlock ∧ (nq4q ≤ k_ ∧ (k_ < nq5q ∧ k_ < nq6q))))) ∧ some k_ ≠ (.slice Ao48 t124.length co48 : Value).ownBlock) ∧ k_ < nq7q) ∧ some k_ ≠ (.slice Ao51 t128.length co51 : Value).ownBlock) ∧ k_ < nq8q)) ∧ ¬ ((some k_ ≠ (v111 : Value).ownBlock ∧ (some k_ ≠ (.slice Ao26 t113.length co26 : Value).ownBlock ∧ (some k_ ≠ (v121 : Value).ownBlock ∧ (some k_ ≠ (.slice Ao48 t124.length co48 : Value).ownBlock ∧ (some k_ ≠ (.slice Ao51 t128.length co51 : Value).ownBlock ∧ (nq5q ≤ k_ ∧ (k_ < nq6q ∧ (k_ < nq7q ∧ k_ < nq8q)))))))))) (HO_8.out) (fun k_ hk => ⟨hk, fun hp_ => Nat.not_le.2 hk.1.1.1.1.2.2.2.2.1 hp_.2.2.2.2.2.1⟩))) hkp (fun k_ hk_ hs_ => (hk_.2) hs_)) (fun k_ hk_ => ⟨hk_.1.1.1.1.1.1.1, hk_.1.1.1.1.1.1.2.1, hk_.1.1.1.1.1.1.2.2.1, hk_.1.1.1.1.1.2, hk_.1.1.1.2, hk_.1.1.1.1.1.1.2.2.2.1, hk_.1.1.1.1.1.1.2.2.2.2.1, hk_.1.1.1.1.1.1.2.2.2.2.2, hk_.1.1.1.1.2, hk_.1.1.2⟩)); have n2_ := Aside0.mk (hy0); have n3_ := Aside0.mk (Kd.S_mono (ok' := fun k_ => some k_ ≠ (v111 : Value).ownBlock ∧ some k_ ≠ (.slice Ao26 t113.length co26 : Value).ownBlock ∧ some k_ ≠ (.slice Ao27 t116.length co27 : Value).ownBlock ∧ some k_ ≠ (.slice Ao48 t124.length co48 : Value).ownBlock ∧ some k_ ≠ (.slice Ao51 t128.length co51 : Value).ownBlock ∧ nq6q ≤ k_ ∧ k_ < nq7q ∧ k_ < nq8q) (Kd.S_keptB ((Kd.S_mono (ok' := fun k_ => ((some k_ ≠ (v111 : Value).ownBlock ∧ (some k_ ≠ (.slice Ao26 t113.length co26 : Value).ownBlock ∧ (some k_ ≠ (.slice Ao27 t116.length co27 : Value).ownBlock ∧ (some k_ ≠ (.slice Ao48 t124.length co48 : Value).ownBlock ∧ (some k_ ≠ (.slice Ao51 t128.length co51 : Value).ownBlock ∧ (nq6q ≤ k_ ∧ (k_ < nq7q ∧ k_ < nq8q)))))))) ∧ ¬ ((some k_ ≠ (v111 : Value).ownBlock ∧ (some k_ ≠ (.slice Ao26 t113.length co26 : Value).ownBlock ∧ (some k_ ≠ (v121 : Value).ownBlock ∧ (some k_ ≠ (.slice Ao48 t124.length co48 : Value).ownBlock ∧ (some k_ ≠ (.slice Ao51 t128.length co51 : Value).ownBlock ∧ (nq5q ≤ k_ ∧ (k_ < nq6q ∧ (k_ < nq7q ∧ k_ < nq8q)))))))))) (HO_10.out) (fun k_ hk => ⟨hk, fun hp_ => Nat.not_le.2 hp_.2.2.2.2.2.2.1 hk.2.2.2.2.2.1⟩))) hkp (fun k_ hk_ hs_ => (hk_.2) hs_)) (fun k_ hk_ => ⟨hk_.1.1.1, hk_.1.1.2.1, hk_.1.1.2.2.1, hk_.1.1.2.2.2.1, hk_.1.1.2.2.2.2.1, hk_.1.1.2.2.2.2.2.1, hk_.1.1.2.2.2.2.2.2.1, hk_.1.1.2.2.2.2.2.2.2⟩)); have n4_ := Aside0.mk (Kd.S_mono (ok' := fun k_ => some k_ ≠ (v111 : Value).ownBlock ∧ some k_ ≠ (.slice Ao26 t113.length co26 : Value).ownBlock ∧ some k_ ≠ (.slice Ao27 t116.length co27 : Value).ownBlock ∧ some k_ ≠ (v121 : Value).ownBlock ∧ some k_ ≠ (.slice Ao51 t128.length co51 : Value).ownBlock ∧ nq7q ≤ k_ ∧ k_ < nq8q) (Kd.S_keptB ((Kd.S_mono (ok' := fun k_ => ((some k_ ≠ (v111 : Value).ownBlock ∧ (some k_ ≠ (.slice Ao26 t113.length co26 : Value).ownBlock ∧ (some k_ ≠ (.slice Ao27 t116.length co27 : Value).ownBlock ∧ (some k_ ≠ (v121 : Value).ownBlock ∧ (some k_ ≠ (.slice Ao51 t128.length co51 : Value).ownBlock ∧ (nq7q ≤ k_ ∧ k_ < nq8q))))))) ∧ ¬ ((some k_ ≠ (v111 : Value).ownBlock ∧ (some k_ ≠ (.slice Ao26 t113.length co26 : Value).ownBlock ∧ (some k_ ≠ (v121 : Value).ownBlock ∧ (some k_ ≠ (.slice Ao48 t124.length co48 : Value).ownBlock ∧ (some k_ ≠ (.slice Ao51 t128.length co51 : Value).ownBlock ∧ (nq5q ≤ k_ ∧ (k_ < nq6q ∧ (k_ < nq7q ∧ k_ < nq8q)))))))))) (HO126.out) (fun k_ hk => ⟨hk, fun hp_ => Nat.not_le.2 hp_.2.2.2.2.2.2.2.1 hk.2.2.2.2.2.1⟩))) hkp (fun k_ hk_ hs_ => (hk_.2) hs_)) (fun k_ hk_ => ⟨hk_.1.1.1, hk_.1.1.2.1, hk_.1.1.2.2.1, hk_.1.1.2.2.2.1, hk_.1.1.2.2.2.2.1, hk_.1.1.2.2.2.2.2.1, hk_.1.1.2.2.2.2.2.2⟩)); have n5_ := Aside0.mk (Kd.S_mono (ok' := fun k_ => some k_ ≠ (v111 : Value).ownBlock ∧ some k_ ≠ (.slice Ao26 t113.length co26 : Value).ownBlock ∧ some k_ ≠ (.slice Ao27 t116.length co27 : Value).ownBlock ∧ some k_ ≠ (v121 : Value).ownBlock ∧ some k_ ≠ (.slice Ao48 t124.length co48 : Value).ownBlock ∧ nq8q ≤ k_) (Kd.S_keptB ((Kd.S_mono (ok' := fun k_ => ((some k_ ≠ (v111 : Value).ownBlock ∧ (some k_ ≠ (.slice Ao26 t113.length co26 : Value).ownBlock ∧ (some k_ ≠ (.slice Ao27 t116.length co27 : Value).ownBlock ∧ (some k_ ≠ (v121 : Value).ownBlock ∧ (some k_ ≠ (.slice Ao48 t124.length co48 : Value).ownBlock ∧ nq8q ≤ k_)))))) ∧ ¬ ((some k_ ≠ (v111 : Value).ownBlock ∧ (some k_ ≠ (.slice Ao26 t113.length co26 : Value).ownBlock ∧ (some k_ ≠ (v121 : Value).ownBlock ∧ (some k_ ≠ (.slice Ao48 t124.length co48 : Value).ownBlock ∧ (some k_ ≠ (.slice Ao51 t128.length co51 : Value).ownBlock ∧ (nq5q ≤ k_ ∧ (k_ < nq6q ∧ (k_ < nq7q ∧ k_ < nq8q)))))))))) (HO130.out) (fun k_ hk => ⟨hk, fun hp_ => Nat.not_le.2 hp_.2.2.2.2.2.2.2.2 hk.2.2.2.2.2⟩))) hkp (fun k_ hk_ hs_ => (hk_.2) hs_)) (fun k_ hk_ => ⟨hk_.1.1.1, hk_.1.1.2.1, hk_.1.1.2.2.1, hk_.1.1.2.2.2.1, hk_.1.1.2.2.2.2.1, hk_.1.1.2.2.2.2.2⟩)); have n6_ := Aside0.mk (hb); clear HO_6; clear HO_8; clear HO_9; clear HO_10; clear HO126; clear HO130; clear HB; have HO_6 := n0_; have HO_8 := n1_; have HO_9 := n2_; have HO_10 := n3_; have HO126 := n4_; have HO130 := n5_; have HB := n6_; clear n0_ n1_ n2_ n3_ n4_ n5_ n6_; (try clear hb); (try clear hkp); (try clear hy0)))
                (try simp only [Act.put, List.setIfInBounds_toArray, List.set_cons_zero, List.set_cons_succ])
                go_cut [82] (fun v82 wc => ∃ (kq : Nat) (x82_45 : Bool), v82 = .bool x82_45 ∧ Aside0 (laws_FnExactProductRows.j1 kq l0 l1 t109 t110 t119 x82_45 = some r) ∧ Aside0 (kq ≤ kj15) ∧ Aside0 (Kd.S (Kd.slice 110 k110) 75 wc w.heap.size (fun k_ => some k_ ≠ (v121 : Value).ownBlock ∧ nq3q ≤ k_ ∧ k_ < nq4q ∧ k_ < nq5q ∧ k_ < nq6q ∧ k_ < nq7q ∧ k_ < nq8q) v111 t109) ∧ Aside0 (Kd.S (Kd.slice 110 k110) 75 wc w.heap.size (fun k_ => some k_ ≠ (v111 : Value).ownBlock ∧ nq6q ≤ k_ ∧ k_ < nq7q ∧ k_ < nq8q) v121 t119) ∧ Aside0 (Below w.heap.size w wc))
                case first =>
                  have H := HC46.out
                  clear HC46
                  by_cases c55 : t134 < 0
                  · rw [if_pos c55] at H
                    have c55b0 : decide (t134 < 0) = true := decide_eq_true c55
                    clear c55
                    (first | rw [c55b0] | (simp only [i64_w, i32_w]; rw [c55b0]) | skip)
                    have H' := Aside0.mk H
                    clear H
                    go_wp2
                    go_meet
                    case rel => exact ⟨_, (true), (by first | rfl | (simp; done) | (simp [*]; done)), H', ⟨by have := HJ15.out; first | omega | exact Nat.le_refl _⟩, ⟨by (with_reducible repeat (first | apply Kd.S_alloc | apply Kd.S_drewN | apply Kd.S_drew)); exact Kd.S_mono HO_6.out (fun _ hk => ⟨hk.2.2.1, ⟨hk.2.2.2.2.2.1, ⟨hk.2.2.2.2.2.2.1, ⟨hk.2.2.2.2.2.2.2.1, ⟨hk.2.2.2.2.2.2.2.2.1, ⟨hk.2.2.2.2.2.2.2.2.2.1, hk.2.2.2.2.2.2.2.2.2.2⟩⟩⟩⟩⟩⟩)⟩, ⟨by (with_reducible repeat (first | apply Kd.S_alloc | apply Kd.S_drewN | apply Kd.S_drew)); exact Kd.S_mono HO_10.out (fun _ hk => ⟨hk.1, ⟨hk.2.2.2.2.2.1, ⟨hk.2.2.2.2.2.2.1, hk.2.2.2.2.2.2.2⟩⟩⟩)⟩, ⟨by repeat (first | (with_reducible first | exact HB.out | apply below_alloc | apply pw_below_drewN | apply below_drew1) | exact HB.out)⟩⟩
                  · rw [if_neg c55] at H
                    have c55b0 : decide (t134 < 0) = false := decide_eq_false c55
                    clear c55
                    (first | rw [c55b0] | (simp only [i64_w, i32_w]; rw [c55b0]) | skip)
                    replace H := Option.bind_eq_some_iff.mp H
                    obtain ⟨t136, A560, H⟩ := H
                    replace H : (if t136 = true then (laws_FnExactProductRows.j1 kj15 l0 l1 t109 t110 t119 (t120 != t110)) else (laws_FnExactProductRows.j1 kj15 l0 l1 t109 t110 t119 true)) = some r := H
                    have A56 := Aside0.mk A560
                    clear A560
                    by_cases c57 : t136 = true
                    · subst c57
                      have H1 : (laws_FnExactProductRows.j1 kj15 l0 l1 t109 t110 t119 (t120 != t110)) = some r := by rw [if_pos rfl] at H; exact H
                      clear H
                      have H := H1
                      clear H1
                      have H' := Aside0.mk H
                      clear H
                      obtain ⟨Ao58, co58, eo58⟩ := Kd.S_slice HO_10.out
                      subst eo58
                      obtain ⟨Ao59, co59, eo59⟩ := Kd.S_slice HO_6.out
                      subst eo59
                      go_wp2_with (first | (go_at_call 10; (with_reducible refine (laws_eqValueSS.calls kj15 _ _ t119 _ _ t109 true _ ?side1 ?side2 ?side3 ?side4 A56.out).mono ?_); (case side1 => repeat (first | exact (Kd.S_reads' HO_10.out).2.2 | (with_reducible refine Kd.C_alloc ?_ _) | (with_reducible refine Kd.C_drewN ?_ _) | (with_reducible refine Kd.C_drew ?_))); (case side2 => exact (Kd.S_reads' HO_10.out).2.1); (case side3 => repeat (first | exact (Kd.S_reads' HO_6.out).2.2 | (with_reducible refine Kd.C_alloc ?_ _) | (with_reducible refine Kd.C_drewN ?_ _) | (with_reducible refine Kd.C_drew ?_))); (case side4 => exact (Kd.S_reads' HO_6.out).2.1); rintro e w60 ⟨rfl, hb⟩; have n0_ := Aside0.mk (Kd.S_below (by (with_reducible repeat (first | apply Kd.S_alloc | apply Kd.S_drewN | apply Kd.S_drew)); exact HO_6.out) hb); have n1_ := Aside0.mk (Kd.S_below (by (with_reducible repeat (first | apply Kd.S_alloc | apply Kd.S_drewN | apply Kd.S_drew)); exact HO_8.out) hb); have n2_ := Aside0.mk (Kd.S_below (by (with_reducible repeat (first | apply Kd.S_alloc | apply Kd.S_drewN | apply Kd.S_drew)); exact HO_9.out) hb); have n3_ := Aside0.mk (Kd.S_below (by (with_reducible repeat (first | apply Kd.S_alloc | apply Kd.S_drewN | apply Kd.S_drew)); exact HO_10.out) hb); have n4_ := Aside0.mk (Kd.S_below (by (with_reducible repeat (first | apply Kd.S_alloc | apply Kd.S_drewN | apply Kd.S_drew)); exact HO126.out) hb); have n5_ := Aside0.mk (Kd.S_below (by (with_reducible repeat (first | apply Kd.S_alloc | apply Kd.S_drewN | apply Kd.S_drew)); exact HO130.out) hb); have n6_ := Aside0.mk (below_step (by repeat (first | (with_reducible first | exact HB.out | apply below_alloc | apply pw_below_drewN | apply below_drew1) | exact HB.out)) hb); clear HO_6; clear HO_8; clear HO_9; clear HO_10; clear HO126; clear HO130; clear HB; have HO_6 := n0_; have HO_8 := n1_; have HO_9 := n2_; have HO_10 := n3_; have HO126 := n4_; have HO130 := n5_; have HB := n6_; clear n0_ n1_ n2_ n3_ n4_ n5_ n6_; (try clear hb); (try clear hb2); (try clear hk); (try clear hi)))
                      go_meet
                      case rel => exact ⟨_, ((t120 != t110)), (by first | rfl | (simp; done) | (simp [*]; done)), H', ⟨by have := HJ15.out; first | omega | exact Nat.le_refl _⟩, ⟨by (with_reducible repeat (first | apply Kd.S_alloc | apply Kd.S_drewN | apply Kd.S_drew)); exact Kd.S_mono HO_6.out (fun _ hk => ⟨hk.2.2.1, ⟨hk.2.2.2.2.2.1, ⟨hk.2.2.2.2.2.2.1, ⟨hk.2.2.2.2.2.2.2.1, ⟨hk.2.2.2.2.2.2.2.2.1, ⟨hk.2.2.2.2.2.2.2.2.2.1, hk.2.2.2.2.2.2.2.2.2.2⟩⟩⟩⟩⟩⟩)⟩, ⟨by (with_reducible repeat (first | apply Kd.S_alloc | apply Kd.S_drewN | apply Kd.S_drew)); exact Kd.S_mono HO_10.out (fun _ hk => ⟨hk.1, ⟨hk.2.2.2.2.2.1, ⟨hk.2.2.2.2.2.2.1, hk.2.2.2.2.2.2.2⟩⟩⟩)⟩, ⟨by repeat (first | (with_reducible first | exact HB.out | apply below_alloc | apply pw_below_drewN | apply below_drew1) | exact HB.out)⟩⟩
                    · replace c57 := Bool.eq_false_iff.mpr c57
                      subst c57
                      have H1 : (laws_FnExactProductRows.j1 kj15 l0 l1 t109 t110 t119 true) = some r := by rw [if_neg (show ¬ (false = true) by decide)] at H; exact H
                      clear H
                      have H := H1
                      clear H1
                      have H' := Aside0.mk H
                      clear H
                      obtain ⟨Ao61, co61, eo61⟩ := Kd.S_slice HO_10.out
                      subst eo61
                      obtain ⟨Ao62, co62, eo62⟩ := Kd.S_slice HO_6.out
                      subst eo62
                      go_wp2_with (first | (go_at_call 10; (with_reducible refine (laws_eqValueSS.calls kj15 _ _ t119 _ _ t109 false _ ?side1 ?side2 ?side3 ?side4 A56.out).mono ?_); (case side1 => repeat (first | exact (Kd.S_reads' HO_10.out).2.2 | (with_reducible refine Kd.C_alloc ?_ _) | (with_reducible refine Kd.C_drewN ?_ _) | (with_reducible refine Kd.C_drew ?_))); (case side2 => exact (Kd.S_reads' HO_10.out).2.1); (case side3 => repeat (first | exact (Kd.S_reads' HO_6.out).2.2 | (with_reducible refine Kd.C_alloc ?_ _) | (with_reducible refine Kd.C_drewN ?_ _) | (with_reducible refine Kd.C_drew ?_))); (case side4 => exact (Kd.S_reads' HO_6.out).2.1); rintro e w63 ⟨rfl, hb⟩; have n0_ := Aside0.mk (Kd.S_below (by (with_reducible repeat (first | apply Kd.S_alloc | apply Kd.S_drewN | apply Kd.S_drew)); exact HO_6.out) hb); have n1_ := Aside0.mk (Kd.S_below (by (with_reducible repeat (first | apply Kd.S_alloc | apply Kd.S_drewN | apply Kd.S_drew)); exact HO_8.out) hb); have n2_ := Aside0.mk (Kd.S_below (by (with_reducible repeat (first | apply Kd.S_alloc | apply Kd.S_drewN | apply Kd.S_drew)); exact HO_9.out) hb); have n3_ := Aside0.mk (Kd.S_below (by (with_reducible repeat (first | apply Kd.S_alloc | apply Kd.S_drewN | apply Kd.S_drew)); exact HO_10.out) hb); have n4_ := Aside0.mk (Kd.S_below (by (with_reducible repeat (first | apply Kd.S_alloc | apply Kd.S_drewN | apply Kd.S_drew)); exact HO126.out) hb); have n5_ := Aside0.mk (Kd.S_below (by (with_reducible repeat (first | apply Kd.S_alloc | apply Kd.S_drewN | apply Kd.S_drew)); exact HO130.out) hb); have n6_ := Aside0.mk (below_step (by repeat (first | (with_reducible first | exact HB.out | apply below_alloc | apply pw_below_drewN | apply below_drew1) | exact HB.out)) hb); clear HO_6; clear HO_8; clear HO_9; clear HO_10; clear HO126; clear HO130; clear HB; have HO_6 := n0_; have HO_8 := n1_; have HO_9 := n2_; have HO_10 := n3_; have HO126 := n4_; have HO130 := n5_; have HB := n6_; clear n0_ n1_ n2_ n3_ n4_ n5_ n6_; (try clear hb); (try clear hb2); (try clear hk); (try clear hi)))
                      go_meet
                      case rel => exact ⟨_, (true), (by first | rfl | (simp; done) | (simp [*]; done)), H', ⟨by have := HJ15.out; first | omega | exact Nat.le_refl _⟩, ⟨by (with_reducible repeat (first | apply Kd.S_alloc | apply Kd.S_drewN | apply Kd.S_drew)); exact Kd.S_mono HO_6.out (fun _ hk => ⟨hk.2.2.1, ⟨hk.2.2.2.2.2.1, ⟨hk.2.2.2.2.2.2.1, ⟨hk.2.2.2.2.2.2.2.1, ⟨hk.2.2.2.2.2.2.2.2.1, ⟨hk.2.2.2.2.2.2.2.2.2.1, hk.2.2.2.2.2.2.2.2.2.2⟩⟩⟩⟩⟩⟩)⟩, ⟨by (with_reducible repeat (first | apply Kd.S_alloc | apply Kd.S_drewN | apply Kd.S_drew)); exact Kd.S_mono HO_10.out (fun _ hk => ⟨hk.1, ⟨hk.2.2.2.2.2.1, ⟨hk.2.2.2.2.2.2.1, hk.2.2.2.2.2.2.2⟩⟩⟩)⟩, ⟨by repeat (first | (with_reducible first | exact HB.out | apply below_alloc | apply pw_below_drewN | apply below_drew1) | exact HB.out)⟩⟩
                case rest =>
                  clear HC46
                  try clear c1
                  try clear q1
                  try clear p2
                  try clear q2
                  try clear c3
                  try clear q3
                  try clear c4
                  try clear c4b0
                  try clear q4
                  try clear c5
                  try clear q5
                  try clear c6
                  try clear q6
                  try clear c7
                  try clear c7b0
                  try clear q7
                  try clear c8
                  try clear q8
                  try clear c9
                  try clear c10
                  try clear c11
                  try clear c30
                  try clear c37
                  try clear c40
                  try clear c43
                  try clear c55
                  try clear c55b0
                  try clear c57
                  try clear p2
                  try clear q1
                  try clear q2
                  try clear q3
                  try clear q4
                  try clear q5
                  try clear q6
                  obtain ⟨kq, x82_45, rfl, HA, HJ45, HO_6, HO_10, HB⟩ := hcut
                  cases kq with
                  | zero => exact absurd HA.out (by simp [laws_FnExactProductRows.j1])
                  | succ kj45 =>
                    have H := HA.out
                    clear HA
                    simp only [laws_FnExactProductRows.j1] at H
                    by_cases c64 : x82_45 = true
                    · subst c64
                      have H1 : (none) = some r := by rw [if_pos rfl] at H; exact H
                      clear H
                      have H := H1
                      clear H1
                      exact absurd H (by simp)
                    · replace c64 := Bool.eq_false_iff.mpr c64
                      subst c64
                      have H1 : ((laws_markValueSS.f kj45 t119 1).bind fun bt137 => ((laws_heldValueSS.f kj45 bt137.2 1).bind fun t139 => (if t139 < 0 then (none) else (if t139 = bt137.1 then ((laws_toValueSS.f kj45 l0).bind fun t140 => ((laws_toValueSS.f kj45 l1).bind fun t143 => ((impl_ProductRows.f kj45 t140 t143).bind fun bt146 => ((laws_eqValueSS.f kj45 bt146.1 t109).bind fun t150 => (if t150 = true then (laws_FnExactProductRows.j2 kj45 bt137.2 bt137.1 (bt146.2 != t110)) else (laws_FnExactProductRows.j2 kj45 bt137.2 bt137.1 true)))))) else (none))))) = some r := by rw [if_neg (show ¬ (false = true) by decide)] at H; exact H
                      clear H
                      have H := H1
                      clear H1
                      replace H := Option.bind_eq_some_iff.mp H
                      obtain ⟨⟨t137, t138⟩, A650, H⟩ := H
                      replace H : ((laws_heldValueSS.f kj45 t138 1).bind fun t139 => (if t139 < 0 then (none) else (if t139 = t137 then ((laws_toValueSS.f kj45 l0).bind fun t140 => ((laws_toValueSS.f kj45 l1).bind fun t143 => ((impl_ProductRows.f kj45 t140 t143).bind fun bt146 => ((laws_eqValueSS.f kj45 bt146.1 t109).bind fun t150 => (if t150 = true then (laws_FnExactProductRows.j2 kj45 t138 t137 (bt146.2 != t110)) else (laws_FnExactProductRows.j2 kj45 t138 t137 true)))))) else (none)))) = some r := H
                      have A65 := Aside0.mk A650
                      clear A650
                      replace H := Option.bind_eq_some_iff.mp H
                      obtain ⟨t139, A660, H⟩ := H
                      replace H : (if t139 < 0 then (none) else (if t139 = t137 then ((laws_toValueSS.f kj45 l0).bind fun t140 => ((laws_toValueSS.f kj45 l1).bind fun t143 => ((impl_ProductRows.f kj45 t140 t143).bind fun bt146 => ((laws_eqValueSS.f kj45 bt146.1 t109).bind fun t150 => (if t150 = true then (laws_FnExactProductRows.j2 kj45 t138 t137 (bt146.2 != t110)) else (laws_FnExactProductRows.j2 kj45 t138 t137 true)))))) else (none))) = some r := H
                      have A66 := Aside0.mk A660
                      clear A660
                      by_cases c67 : t139 < 0
                      · rw [if_pos c67] at H
                        exact absurd H (by simp)
                      · rw [if_neg c67] at H
                        have c67b0 : decide (t139 < 0) = false := decide_eq_false c67
                        clear c67
                        by_cases c68 : t139 = t137
                        · rw [if_pos c68] at H
                          have c68b0 : (t139 == t137) = true := beq_iff_eq.mpr c68
                          have c68b1 : (t139 != t137) = false := bne_eq_false_iff_eq.mpr c68
                          clear c68
                          replace H := Option.bind_eq_some_iff.mp H
                          obtain ⟨t140, A690, H⟩ := H
                          replace H : ((laws_toValueSS.f kj45 l1).bind fun t143 => ((impl_ProductRows.f kj45 t140 t143).bind fun bt146 => ((laws_eqValueSS.f kj45 bt146.1 t109).bind fun t150 => (if t150 = true then (laws_FnExactProductRows.j2 kj45 t138 t137 (bt146.2 != t110)) else (laws_FnExactProductRows.j2 kj45 t138 t137 true))))) = some r := H
                          have A69 := Aside0.mk A690
                          clear A690
                          replace H := Option.bind_eq_some_iff.mp H
                          obtain ⟨t143, A700, H⟩ := H
                          replace H : ((impl_ProductRows.f kj45 t140 t143).bind fun bt146 => ((laws_eqValueSS.f kj45 bt146.1 t109).bind fun t150 => (if t150 = true then (laws_FnExactProductRows.j2 kj45 t138 t137 (bt146.2 != t110)) else (laws_FnExactProductRows.j2 kj45 t138 t137 true)))) = some r := H
                          have A70 := Aside0.mk A700
                          clear A700
                          replace H := Option.bind_eq_some_iff.mp H
                          obtain ⟨⟨t146, t147⟩, A710, H⟩ := H
                          replace H : ((laws_eqValueSS.f kj45 t146 t109).bind fun t150 => (if t150 = true then (laws_FnExactProductRows.j2 kj45 t138 t137 (t147 != t110)) else (laws_FnExactProductRows.j2 kj45 t138 t137 true))) = some r := H
                          have A71 := Aside0.mk A710
                          clear A710
                          have HC72 := Aside0.mk H
                          clear H
                          obtain ⟨Ao73, co73, eo73⟩ := Kd.S_slice HO_10.out
                          subst eo73
                          go_upto_region 32 with (first | ((with_reducible refine gate_callee (f := 11) rfl ?_); refine goesL_ (some 85) rfl rfl Try.func11 (by kernel_rfl) rfl #[.slice Ao73 t119.length co73, .int .i64 1] rfl (by (try simp only [List.map_toArray, List.map_cons, List.map_nil]); first | done | rfl | (simp only [List.length_drop, List.length_take]; rfl)) ?_; (with_reducible refine (laws_markValueSS.calls kj45 (fun k_ => (some k_ ≠ (v111 : Value).ownBlock ∧ (nq6q ≤ k_ ∧ (k_ < nq7q ∧ k_ < nq8q)))) (.slice Ao73 t119.length co73) t119 1 t137 t138 w _ ?side1 ?side2 A65.out).mono ?_); (case side1 => repeat (first | (with_reducible first | exact HB.out | apply below_alloc | apply pw_below_drewN | apply below_drew1) | exact HB.out)); (case side2 => exact HO_10.out); rintro e w74 ⟨rfl, hy0, hb, hkp⟩; refine ⟨_, rfl, ?_⟩; have n0_ := Aside0.mk (Kd.S_mono (ok' := fun k_ => some k_ ≠ (.slice Ao73 t119.length co73 : Value).ownBlock ∧ nq3q ≤ k_ ∧ k_ < nq4q ∧ k_ < nq5q ∧ k_ < nq6q ∧ k_ < nq7q ∧ k_ < nq8q) (Kd.S_keptB ((Kd.S_mono (ok' := fun k_ => ((some k_ ≠ (.slice Ao73 t119.length co73 : Value).ownBlock ∧ (nq3q ≤ k_ ∧ (k_ < nq4q ∧ (k_ < nq5q ∧ (k_ < nq6q ∧ (k_ < nq7q ∧ k_ < nq8q))))))) ∧ ¬ ((some k_ ≠ (v111 : Value).ownBlock ∧ (nq6q ≤ k_ ∧ (k_ < nq7q ∧ k_ < nq8q))))) (HO_6.out) (fun k_ hk => ⟨hk, fun hp_ => Nat.not_le.2 hk.2.2.2.2.1 hp_.2.1⟩))) hkp (fun k_ hk_ hs_ => (hk_.2) hs_)) (fun k_ hk_ => ⟨hk_.1.1.1, hk_.1.1.2.1, hk_.1.1.2.2.1, hk_.1.1.2.2.2.1, hk_.1.1.2.2.2.2.1, hk_.1.1.2.2.2.2.2.1, hk_.1.1.2.2.2.2.2.2⟩)); have n1_ := Aside0.mk (hy0); have n2_ := Aside0.mk (hb); clear HO_6; clear HO_10; clear HB; have HO_6 := n0_; have HO_10 := n1_; have HB := n2_; clear n0_ n1_ n2_; (try clear hb); (try clear hkp); (try clear hy0)) | ((with_reducible refine gate_callee (f := 12) rfl ?_); refine goesL_ (some 88) rfl rfl Try.func12 (by kernel_rfl) rfl #[.slice Ao73 t138.length co73, .int .i64 1] rfl (by (try simp only [List.map_toArray, List.map_cons, List.map_nil]); first | done | (rw [show t138.length = t119.length from (Kd.S_reads' HO_10.out).1.symm] <;> rfl) | rfl | (simp only [List.length_drop, List.length_take]; rfl)) ?_; (with_reducible refine (laws_heldValueSS.calls kj45 _ _ t138 1 t139 _ ?side1 ?side2 A66.out).mono ?_); (case side1 => repeat (first | exact (Kd.S_reads' HO_10.out).2.2 | (with_reducible refine Kd.C_alloc ?_ _) | (with_reducible refine Kd.C_drewN ?_ _) | (with_reducible refine Kd.C_drew ?_))); (case side2 => rw [show t138.length = t119.length from (Kd.S_reads' HO_10.out).1.symm]; exact (Kd.S_reads' HO_10.out).2.1); rintro e w75 ⟨rfl, hb⟩; refine ⟨_, rfl, ?_⟩; have n0_ := Aside0.mk (Kd.S_below (by (with_reducible repeat (first | apply Kd.S_alloc | apply Kd.S_drewN | apply Kd.S_drew)); exact HO_6.out) hb); have n1_ := Aside0.mk (Kd.S_below (by (with_reducible repeat (first | apply Kd.S_alloc | apply Kd.S_drewN | apply Kd.S_drew)); exact HO_10.out) hb); have n2_ := Aside0.mk (below_step (by repeat (first | (with_reducible first | exact HB.out | apply below_alloc | apply pw_below_drewN | apply below_drew1) | exact HB.out)) hb); clear HO_6; clear HO_10; clear HB; have HO_6 := n0_; have HO_10 := n1_; have HB := n2_; clear n0_ n1_ n2_; (try clear hb); (try clear hb2); (try clear hk); (try clear hi)) | ((with_reducible refine gate_callee (f := 8) rfl ?_); refine goesL_ (some 96) rfl rfl Try.func8 (by kernel_rfl) rfl #[.slice A0 l0.length c0] rfl (by (try simp only [List.map_toArray, List.map_cons, List.map_nil]); first | done | rfl | (simp only [List.length_drop, List.length_take]; rfl)) ?_; (with_reducible refine (laws_toValueSS.calls kj45 _ _ l0 t140 _ ?side1 ?side2 A69.out).mono ?_); (case side1 => repeat (first | exact (Kd.C_below HR0.out HB.out) | (with_reducible refine Kd.C_alloc ?_ _) | (with_reducible refine Kd.C_drewN ?_ _) | (with_reducible refine Kd.C_drew ?_))); (case side2 => exact HC0.out); rintro e w76 ⟨v141, rfl, ho0, hb⟩; refine ⟨_, rfl, ?_⟩; obtain ⟨nq9q, hq9q⟩ := nAt_ hb; have n0_ := Aside0.mk (S_elderNq (by (with_reducible repeat (first | apply Kd.S_alloc | apply Kd.S_drewN | apply Kd.S_drew)); exact HO_6.out) (Kd.S_base ho0) hb hq9q); have n1_ := Aside0.mk (S_elderNq (by (with_reducible repeat (first | apply Kd.S_alloc | apply Kd.S_drewN | apply Kd.S_drew)); exact HO_10.out) (Kd.S_base ho0) hb hq9q); have n2_ := Aside0.mk (S_geNq (Kd.S_new' (Kd.S_new' ho0 (Kd.S_lt (by (with_reducible repeat (first | apply Kd.S_alloc | apply Kd.S_drewN | apply Kd.S_drew)); exact HO_6.out))) (Kd.S_lt (by (with_reducible repeat (first | apply Kd.S_alloc | apply Kd.S_drewN | apply Kd.S_drew)); exact HO_10.out))) hq9q (below_size (by repeat (first | (with_reducible first | exact HB.out | apply below_alloc | apply pw_below_drewN | apply below_drew1) | exact HB.out)))); have n3_ := Aside0.mk (below_step (by repeat (first | (with_reducible first | exact HB.out | apply below_alloc | apply pw_below_drewN | apply below_drew1) | exact HB.out)) hb); clear HO_6; clear HO_10; clear HB; have HO_6 := n0_; have HO_10 := n1_; have HO142 := n2_; have HB := n3_; clear n0_ n1_ n2_ n3_; (try clear hb); (try clear hb2); (try clear hk); (try clear hi); (try clear ho0); (try clear hq9q)) | ((with_reducible refine gate_callee (f := 8) rfl ?_); refine goesL_ (some 98) rfl rfl Try.func8 (by kernel_rfl) rfl #[.slice A1 l1.length c1] rfl (by (try simp only [List.map_toArray, List.map_cons, List.map_nil]); first | done | rfl | (simp only [List.length_drop, List.length_take]; rfl)) ?_; (with_reducible refine (laws_toValueSS.calls kj45 _ _ l1 t143 _ ?side1 ?side2 A70.out).mono ?_); (case side1 => repeat (first | exact (Kd.C_below HR1.out HB.out) | (with_reducible refine Kd.C_alloc ?_ _) | (with_reducible refine Kd.C_drewN ?_ _) | (with_reducible refine Kd.C_drew ?_))); (case side2 => exact HC1.out); rintro e w77 ⟨v144, rfl, ho0, hb⟩; refine ⟨_, rfl, ?_⟩; obtain ⟨nq10q, hq10q⟩ := nAt_ hb; have n0_ := Aside0.mk (S_elderNq (by (with_reducible repeat (first | apply Kd.S_alloc | apply Kd.S_drewN | apply Kd.S_drew)); exact HO_6.out) (Kd.S_base ho0) hb hq10q); have n1_ := Aside0.mk (S_elderNq (by (with_reducible repeat (first | apply Kd.S_alloc | apply Kd.S_drewN | apply Kd.S_drew)); exact HO_10.out) (Kd.S_base ho0) hb hq10q); have n2_ := Aside0.mk (S_elderNq (by (with_reducible repeat (first | apply Kd.S_alloc | apply Kd.S_drewN | apply Kd.S_drew)); exact HO142.out) (Kd.S_base ho0) hb hq10q); have n3_ := Aside0.mk (S_geNq (Kd.S_new' (Kd.S_new' (Kd.S_new' ho0 (Kd.S_lt (by (with_reducible repeat (first | apply Kd.S_alloc | apply Kd.S_drewN | apply Kd.S_drew)); exact HO_6.out))) (Kd.S_lt (by (with_reducible repeat (first | apply Kd.S_alloc | apply Kd.S_drewN | apply Kd.S_drew)); exact HO_10.out))) (Kd.S_lt (by (with_reducible repeat (first | apply Kd.S_alloc | apply Kd.S_drewN | apply Kd.S_drew)); exact HO142.out))) hq10q (below_size (by repeat (first | (with_reducible first | exact HB.out | apply below_alloc | apply pw_below_drewN | apply below_drew1) | exact HB.out)))); have n4_ := Aside0.mk (below_step (by repeat (first | (with_reducible first | exact HB.out | apply below_alloc | apply pw_below_drewN | apply below_drew1) | exact HB.out)) hb); clear HO_6; clear HO_10; clear HO142; clear HB; have HO_6 := n0_; have HO_10 := n1_; have HO142 := n2_; have HO145 := n3_; have HB := n4_; clear n0_ n1_ n2_ n3_ n4_; (try clear hb); (try clear hb2); (try clear hk); (try clear hi); (try clear ho0); (try clear hq10q); obtain ⟨Ao78, co78, eo78⟩ := Kd.S_slice HO142.out; subst eo78; obtain ⟨Ao79, co79, eo79⟩ := Kd.S_slice HO145.out; subst eo79) | ((with_reducible refine gate_callee (f := 9) rfl ?_); refine goesL_ (some 99) rfl rfl Try.func9 (by kernel_rfl) rfl #[.slice Ao78 t140.length co78, .slice Ao79 t143.length co79] rfl (by (try simp only [List.map_toArray, List.map_cons, List.map_nil]); first | done | rfl | (simp only [List.length_drop, List.length_take]; rfl)) ?_; (with_reducible refine (impl_ProductRows.calls kj45 _ _ t140 _ _ t143 t146 t147 _ ?side1 ?side2 ?side3 ?side4 A71.out).mono ?_); (case side1 => repeat (first | exact (Kd.S_reads' HO142.out).2.2 | (with_reducible refine Kd.C_alloc ?_ _) | (with_reducible refine Kd.C_drewN ?_ _) | (with_reducible refine Kd.C_drew ?_))); (case side2 => exact (Kd.S_reads' HO142.out).2.1); (case side3 => repeat (first | exact (Kd.S_reads' HO145.out).2.2 | (with_reducible refine Kd.C_alloc ?_ _) | (with_reducible refine Kd.C_drewN ?_ _) | (with_reducible refine Kd.C_drew ?_))); (case side4 => exact (Kd.S_reads' HO145.out).2.1); rintro e w80 ⟨v148, rfl, ho0, hb⟩; refine ⟨_, rfl, ?_⟩; obtain ⟨nq11q, hq11q⟩ := nAt_ hb; have n0_ := Aside0.mk (S_elderNq (by (with_reducible repeat (first | apply Kd.S_alloc | apply Kd.S_drewN | apply Kd.S_drew)); exact HO_6.out) (Kd.S_base ho0) hb hq11q); have n1_ := Aside0.mk (S_elderNq (by (with_reducible repeat (first | apply Kd.S_alloc | apply Kd.S_drewN | apply Kd.S_drew)); exact HO_10.out) (Kd.S_base ho0) hb hq11q); have n2_ := Aside0.mk (S_elderNq (by (with_reducible repeat (first | apply Kd.S_alloc | apply Kd.S_drewN | apply Kd.S_drew)); exact HO142.out) (Kd.S_base ho0) hb hq11q); have n3_ := Aside0.mk (S_elderNq (by (with_reducible repeat (first | apply Kd.S_alloc | apply Kd.S_drewN | apply Kd.S_drew)); exact HO145.out) (Kd.S_base ho0) hb hq11q); have n4_ := Aside0.mk (S_geNq (Kd.S_new' (Kd.S_new' (Kd.S_new' (Kd.S_new' ho0 (Kd.S_lt (by (with_reducible repeat (first | apply Kd.S_alloc | apply Kd.S_drewN | apply Kd.S_drew)); exact HO_6.out))) (Kd.S_lt (by (with_reducible repeat (first | apply Kd.S_alloc | apply Kd.S_drewN | apply Kd.S_drew)); exact HO_10.out))) (Kd.S_lt (by (with_reducible repeat (first | apply Kd.S_alloc | apply Kd.S_drewN | apply Kd.S_drew)); exact HO142.out))) (Kd.S_lt (by (with_reducible repeat (first | apply Kd.S_alloc | apply Kd.S_drewN | apply Kd.S_drew)); exact HO145.out))) hq11q (below_size (by repeat (first | (with_reducible first | exact HB.out | apply below_alloc | apply pw_below_drewN | apply below_drew1) | exact HB.out)))); have n5_ := Aside0.mk (below_step (by repeat (first | (with_reducible first | exact HB.out | apply below_alloc | apply pw_below_drewN | apply below_drew1) | exact HB.out)) hb); clear HO_6; clear HO_10; clear HO142; clear HO145; clear HB; have HO_6 := n0_; have HO_10 := n1_; have HO142 := n2_; have HO145 := n3_; have HO149 := n4_; have HB := n5_; clear n0_ n1_ n2_ n3_ n4_ n5_; (try clear hb); (try clear hb2); (try clear hk); (try clear hi); (try clear ho0); (try clear hq11q)))
                          (try simp only [Act.put, List.setIfInBounds_toArray, List.set_cons_zero, List.set_cons_succ])
                          go_cut [110] (fun v110 wc => ∃ (kq : Nat) (x110_71 : Bool), v110 = .bool x110_71 ∧ Aside0 (laws_FnExactProductRows.j2 kq t138 t137 x110_71 = some r) ∧ Aside0 (kq ≤ kj45) ∧ Aside0 (Kd.S (Kd.slice 110 k110) 75 wc w.heap.size (fun k_ => nq6q ≤ k_ ∧ k_ < nq7q ∧ k_ < nq8q ∧ k_ < nq9q ∧ k_ < nq10q ∧ k_ < nq11q) (.slice Ao73 t119.length co73) t138) ∧ Aside0 (Below w.heap.size w wc))
                          case first =>
                            have H := HC72.out
                            clear HC72
                            replace H := Option.bind_eq_some_iff.mp H
                            obtain ⟨t150, A810, H⟩ := H
                            replace H : (if t150 = true then (laws_FnExactProductRows.j2 kj45 t138 t137 (t147 != t110)) else (laws_FnExactProductRows.j2 kj45 t138 t137 true)) = some r := H
                            have A81 := Aside0.mk A810
                            clear A810
                            by_cases c82 : t150 = true
                            · subst c82
                              have H1 : (laws_FnExactProductRows.j2 kj45 t138 t137 (t147 != t110)) = some r := by rw [if_pos rfl] at H; exact H
                              clear H
                              have H := H1
                              clear H1
                              have H' := Aside0.mk H
                              clear H
                              obtain ⟨Ao83, co83, eo83⟩ := Kd.S_slice HO149.out
                              subst eo83
                              obtain ⟨Ao84, co84, eo84⟩ := Kd.S_slice HO_6.out
                              subst eo84
                              go_wp2_with (first | ((with_reducible refine gate_callee (f := 10) rfl ?_); refine goesL_ (some 104) rfl rfl Try.func10 (by kernel_rfl) rfl #[.slice Ao83 t146.length co83, .slice Ao84 t109.length co84] rfl (by (try simp only [List.map_toArray, List.map_cons, List.map_nil]); first | done | rfl | (simp only [List.length_drop, List.length_take]; rfl)) ?_; (with_reducible refine (laws_eqValueSS.calls kj45 _ _ t146 _ _ t109 true _ ?side1 ?side2 ?side3 ?side4 A81.out).mono ?_); (case side1 => repeat (first | exact (Kd.S_reads' HO149.out).2.2 | (with_reducible refine Kd.C_alloc ?_ _) | (with_reducible refine Kd.C_drewN ?_ _) | (with_reducible refine Kd.C_drew ?_))); (case side2 => exact (Kd.S_reads' HO149.out).2.1); (case side3 => repeat (first | exact (Kd.S_reads' HO_6.out).2.2 | (with_reducible refine Kd.C_alloc ?_ _) | (with_reducible refine Kd.C_drewN ?_ _) | (with_reducible refine Kd.C_drew ?_))); (case side4 => exact (Kd.S_reads' HO_6.out).2.1); rintro e w85 ⟨rfl, hb⟩; refine ⟨_, rfl, ?_⟩; have n0_ := Aside0.mk (Kd.S_below (by (with_reducible repeat (first | apply Kd.S_alloc | apply Kd.S_drewN | apply Kd.S_drew)); exact HO_6.out) hb); have n1_ := Aside0.mk (Kd.S_below (by (with_reducible repeat (first | apply Kd.S_alloc | apply Kd.S_drewN | apply Kd.S_drew)); exact HO_10.out) hb); have n2_ := Aside0.mk (Kd.S_below (by (with_reducible repeat (first | apply Kd.S_alloc | apply Kd.S_drewN | apply Kd.S_drew)); exact HO142.out) hb); have n3_ := Aside0.mk (Kd.S_below (by (with_reducible repeat (first | apply Kd.S_alloc | apply Kd.S_drewN | apply Kd.S_drew)); exact HO145.out) hb); have n4_ := Aside0.mk (Kd.S_below (by (with_reducible repeat (first | apply Kd.S_alloc | apply Kd.S_drewN | apply Kd.S_drew)); exact HO149.out) hb); have n5_ := Aside0.mk (below_step (by repeat (first | (with_reducible first | exact HB.out | apply below_alloc | apply pw_below_drewN | apply below_drew1) | exact HB.out)) hb); clear HO_6; clear HO_10; clear HO142; clear HO145; clear HO149; clear HB; have HO_6 := n0_; have HO_10 := n1_; have HO142 := n2_; have HO145 := n3_; have HO149 := n4_; have HB := n5_; clear n0_ n1_ n2_ n3_ n4_ n5_; (try clear hb); (try clear hb2); (try clear hk); (try clear hi)))
                              go_meet
                              case rel => exact ⟨_, ((t147 != t110)), (by first | rfl | (simp; done) | (simp [*]; done)), H', ⟨by have := HJ15.out; have := HJ45.out; first | omega | exact Nat.le_refl _⟩, ⟨by (with_reducible repeat (first | apply Kd.S_alloc | apply Kd.S_drewN | apply Kd.S_drew)); exact Kd.S_mono HO_10.out (fun _ hk => ⟨hk.1.1.1.1.1.1.2.1, ⟨hk.1.1.1.1.1.1.2.2.1, ⟨hk.1.1.1.1.1.1.2.2.2, ⟨hk.1.1.1.1.2, ⟨hk.1.1.2, hk.2⟩⟩⟩⟩⟩)⟩, ⟨by repeat (first | (with_reducible first | exact HB.out | apply below_alloc | apply pw_below_drewN | apply below_drew1) | exact HB.out)⟩⟩
                            · replace c82 := Bool.eq_false_iff.mpr c82
                              subst c82
                              have H1 : (laws_FnExactProductRows.j2 kj45 t138 t137 true) = some r := by rw [if_neg (show ¬ (false = true) by decide)] at H; exact H
                              clear H
                              have H := H1
                              clear H1
                              have H' := Aside0.mk H
                              clear H
                              obtain ⟨Ao86, co86, eo86⟩ := Kd.S_slice HO149.out
                              subst eo86
                              obtain ⟨Ao87, co87, eo87⟩ := Kd.S_slice HO_6.out
                              subst eo87
                              go_wp2_with (first | ((with_reducible refine gate_callee (f := 10) rfl ?_); refine goesL_ (some 104) rfl rfl Try.func10 (by kernel_rfl) rfl #[.slice Ao86 t146.length co86, .slice Ao87 t109.length co87] rfl (by (try simp only [List.map_toArray, List.map_cons, List.map_nil]); first | done | rfl | (simp only [List.length_drop, List.length_take]; rfl)) ?_; (with_reducible refine (laws_eqValueSS.calls kj45 _ _ t146 _ _ t109 false _ ?side1 ?side2 ?side3 ?side4 A81.out).mono ?_); (case side1 => repeat (first | exact (Kd.S_reads' HO149.out).2.2 | (with_reducible refine Kd.C_alloc ?_ _) | (with_reducible refine Kd.C_drewN ?_ _) | (with_reducible refine Kd.C_drew ?_))); (case side2 => exact (Kd.S_reads' HO149.out).2.1); (case side3 => repeat (first | exact (Kd.S_reads' HO_6.out).2.2 | (with_reducible refine Kd.C_alloc ?_ _) | (with_reducible refine Kd.C_drewN ?_ _) | (with_reducible refine Kd.C_drew ?_))); (case side4 => exact (Kd.S_reads' HO_6.out).2.1); rintro e w88 ⟨rfl, hb⟩; refine ⟨_, rfl, ?_⟩; have n0_ := Aside0.mk (Kd.S_below (by (with_reducible repeat (first | apply Kd.S_alloc | apply Kd.S_drewN | apply Kd.S_drew)); exact HO_6.out) hb); have n1_ := Aside0.mk (Kd.S_below (by (with_reducible repeat (first | apply Kd.S_alloc | apply Kd.S_drewN | apply Kd.S_drew)); exact HO_10.out) hb); have n2_ := Aside0.mk (Kd.S_below (by (with_reducible repeat (first | apply Kd.S_alloc | apply Kd.S_drewN | apply Kd.S_drew)); exact HO142.out) hb); have n3_ := Aside0.mk (Kd.S_below (by (with_reducible repeat (first | apply Kd.S_alloc | apply Kd.S_drewN | apply Kd.S_drew)); exact HO145.out) hb); have n4_ := Aside0.mk (Kd.S_below (by (with_reducible repeat (first | apply Kd.S_alloc | apply Kd.S_drewN | apply Kd.S_drew)); exact HO149.out) hb); have n5_ := Aside0.mk (below_step (by repeat (first | (with_reducible first | exact HB.out | apply below_alloc | apply pw_below_drewN | apply below_drew1) | exact HB.out)) hb); clear HO_6; clear HO_10; clear HO142; clear HO145; clear HO149; clear HB; have HO_6 := n0_; have HO_10 := n1_; have HO142 := n2_; have HO145 := n3_; have HO149 := n4_; have HB := n5_; clear n0_ n1_ n2_ n3_ n4_ n5_; (try clear hb); (try clear hb2); (try clear hk); (try clear hi)))
                              go_meet
                              case rel => exact ⟨_, (true), (by first | rfl | (simp; done) | (simp [*]; done)), H', ⟨by have := HJ15.out; have := HJ45.out; first | omega | exact Nat.le_refl _⟩, ⟨by (with_reducible repeat (first | apply Kd.S_alloc | apply Kd.S_drewN | apply Kd.S_drew)); exact Kd.S_mono HO_10.out (fun _ hk => ⟨hk.1.1.1.1.1.1.2.1, ⟨hk.1.1.1.1.1.1.2.2.1, ⟨hk.1.1.1.1.1.1.2.2.2, ⟨hk.1.1.1.1.2, ⟨hk.1.1.2, hk.2⟩⟩⟩⟩⟩)⟩, ⟨by repeat (first | (with_reducible first | exact HB.out | apply below_alloc | apply pw_below_drewN | apply below_drew1) | exact HB.out)⟩⟩
                          case rest =>
                            clear HC72
                            try clear c1
                            try clear q1
                            try clear p2
                            try clear q2
                            try clear c3
                            try clear q3
                            try clear c4
                            try clear c4b0
                            try clear q4
                            try clear c5
                            try clear q5
                            try clear c6
                            try clear q6
                            try clear c7
                            try clear c7b0
                            try clear q7
                            try clear c8
                            try clear q8
                            try clear c9
                            try clear q9
                            try clear c10
                            try clear q10
                            try clear c11
                            try clear q11
                            try clear c12
                            try clear c30
                            try clear c37
                            try clear c40
                            try clear c43
                            try clear c55
                            try clear c55b0
                            try clear c57
                            try clear c64
                            try clear c67
                            try clear c67b0
                            try clear c68
                            try clear c68b0
                            try clear c68b1
                            try clear c82
                            try clear p2
                            try clear q1
                            try clear q2
                            try clear q3
                            try clear q4
                            try clear q5
                            try clear q6
                            try clear q7
                            try clear q8
                            obtain ⟨kq, x110_71, rfl, HA, HJ71, HO_10, HB⟩ := hcut
                            have hl10_71 := (Kd.S_reads' HO_10.out).1
                            rw [hl10_71] at HO_10
                            (try simp only [hl10_71])
                            cases kq with
                            | zero => exact absurd HA.out (by simp [laws_FnExactProductRows.j2])
                            | succ kj71 =>
                              have H := HA.out
                              clear HA
                              simp only [laws_FnExactProductRows.j2] at H
                              by_cases c89 : x110_71 = true
                              · subst c89
                                have H1 : (none) = some r := by rw [if_pos rfl] at H; exact H
                                clear H
                                have H := H1
                                clear H1
                                exact absurd H (by simp)
                              · replace c89 := Bool.eq_false_iff.mpr c89
                                subst c89
                                have H1 : ((laws_heldValueSS.f kj71 t138 1).bind fun t151 => (if t151 < 0 then (none) else (if t151 = t137 then (some true) else (none)))) = some r := by rw [if_neg (show ¬ (false = true) by decide)] at H; exact H
                                clear H
                                have H := H1
                                clear H1
                                replace H := Option.bind_eq_some_iff.mp H
                                obtain ⟨t151, A900, H⟩ := H
                                replace H : (if t151 < 0 then (none) else (if t151 = t137 then (some true) else (none))) = some r := H
                                have A90 := Aside0.mk A900
                                clear A900
                                by_cases c91 : t151 < 0
                                · rw [if_pos c91] at H
                                  exact absurd H (by simp)
                                · rw [if_neg c91] at H
                                  have c91b0 : decide (t151 < 0) = false := decide_eq_false c91
                                  clear c91
                                  by_cases c92 : t151 = t137
                                  · rw [if_pos c92] at H
                                    have c92b0 : (t151 == t137) = true := beq_iff_eq.mpr c92
                                    have c92b1 : (t151 != t137) = false := bne_eq_false_iff_eq.mpr c92
                                    clear c92
                                    obtain rfl := Option.some.inj H
                                    go_wp2_with (first | ((with_reducible refine gate_callee (f := 12) rfl ?_); refine goesL_ (some 113) rfl rfl Try.func12 (by kernel_rfl) rfl #[.slice Ao73 t138.length co73, .int .i64 1] rfl (by (try simp only [List.map_toArray, List.map_cons, List.map_nil]); first | done | rfl | (simp only [List.length_drop, List.length_take]; rfl)) ?_; (with_reducible refine (laws_heldValueSS.calls kj71 _ _ t138 1 t151 _ ?side1 ?side2 A90.out).mono ?_); (case side1 => repeat (first | exact (Kd.S_reads' HO_10.out).2.2 | (with_reducible refine Kd.C_alloc ?_ _) | (with_reducible refine Kd.C_drewN ?_ _) | (with_reducible refine Kd.C_drew ?_))); (case side2 => exact (Kd.S_reads' HO_10.out).2.1); rintro e w93 ⟨rfl, hb⟩; refine ⟨_, rfl, ?_⟩; have n0_ := Aside0.mk (Kd.S_below (by (with_reducible repeat (first | apply Kd.S_alloc | apply Kd.S_drewN | apply Kd.S_drew)); exact HO_10.out) hb); have n1_ := Aside0.mk (below_step (by repeat (first | (with_reducible first | exact HB.out | apply below_alloc | apply pw_below_drewN | apply below_drew1) | exact HB.out)) hb); clear HO_10; clear HB; have HO_10 := n0_; have HB := n1_; clear n0_ n1_; (try clear hb); (try clear hb2); (try clear hk); (try clear hi)))
                                    go_ret
                                    exact ⟨by first | rfl | (simp [errW_none, errW_some] <;> rfl) | (simp [*, errW_none, errW_some] <;> rfl), by repeat (first | (with_reducible first | exact HB.out | apply below_alloc | apply pw_below_drewN | apply below_drew1) | exact HB.out)⟩
                                  · rw [if_neg c92] at H
                                    exact absurd H (by simp)
                        · rw [if_neg c68] at H
                          exact absurd H (by simp)
              · replace c43 := Bool.eq_false_iff.mpr c43
                subst c43
                have H1 : (none) = some r := by rw [if_neg (show ¬ (false = true) by decide)] at H; exact H
                clear H
                have H := H1
                clear H1
                exact absurd H (by simp)
            · replace c40 := Bool.eq_false_iff.mpr c40
              subst c40
              have H1 : (none) = some r := by rw [if_neg (show ¬ (false = true) by decide)] at H; exact H
              clear H
              have H := H1
              clear H1
              exact absurd H (by simp)

end Go.Proofs.Ytgcbeihkbldeaaa.X
