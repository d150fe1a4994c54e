/- Contracts of functions, and what is told of them. -/
import Derived.Test.YtjknmljdnolilaaDoorYFnExactTableOK3
import Derived.Test.YtjknmljdnolilaaDoorYFnExactTableOK4
import Derived.Test.YtjknmljdnolilaaDoorYFnExactTableOK6
import Derived.Test.YtjknmljdnolilaaDoorYFnExactTableOK7
import Derived.Test.YtjknmljdnolilaaDoorYFnExactTableOK10
import Derived.Test.YtjknmljdnolilaaDoorYFnExactTableOK12
import Derived.OpenShut
import Derived.Laws.Strings
import Derived.Test.YtjknmljdnolilaaDoorYFnExactTableOK8
import Derived.Test.YtjknmljdnolilaaDoorYFnExactTableOK11
import Derived.Test.YtjknmljdnolilaaDoorYFnExactTableOK5
set_option linter.unusedSimpArgs false
set_option linter.unusedVariables false
section
namespace Go.Proofs.YtjknmljdnolilaaDoor.X
open Go.RowKit Go.Proofs.YtjknmljdnolilaaDoorW.PrintWords Go.Proofs.YtjknmljdnolilaaDoorW.PrintLast Go.Proofs.YtjknmljdnolilaaDoorW.PrintMore
attribute [local go_sem] max2_int min2_int max_two min_two max_three min_three max_four min_four   -- for this text's walks alone

/-! ### laws_FnExactTableOK: function 4 -/
def laws_FnExactTableOK.f (k : Nat) (a0_0 : ByteArray) (l0_1 : List (S97)) (a0_2 : Int) (l0_3 : List (S99)) : Option (Bool) := (laws_szTable.f k a0_0 l0_1 a0_2 l0_3 1048576).bind fun t102 => (if t102 < 0 then (some true) else ((laws_toTable.f k a0_0 l0_1 a0_2 l0_3).bind fun bt103 => ((spec_TableOK.f k bt103.1 bt103.2.1 bt103.2.2.1 bt103.2.2.2).bind fun t111 => ((laws_toTable.f k a0_0 l0_1 a0_2 l0_3).bind fun bt112 => ((impl_TableOK.f k bt112.1 bt112.2.1 bt112.2.2.1 bt112.2.2.2).bind fun t121 => (if (t121 != t111) = true then (none) else ((laws_toTable.f k a0_0 l0_1 a0_2 l0_3).bind fun bt122 => ((laws_eqTable.f k bt112.1 bt112.2.1 bt112.2.2.1 bt112.2.2.2 bt122.1 bt122.2.1 bt122.2.2.1 bt122.2.2.2).bind fun t130 => (if t130 = true then (some true) else (none))))))))))
theorem laws_FnExactTableOK.mono : ∀ a0 a1 a2 a3 k, LeO (laws_FnExactTableOK.f k a0 a1 a2 a3) (laws_FnExactTableOK.f (k + 1) a0 a1 a2 a3) := by
  intro a0 a1 a2 a3 k
  unfold laws_FnExactTableOK.f
  repeat' first
      | (with_reducible exact impl_TableOK.mono _ _ _ _ _)
      | (with_reducible exact laws_eqTable.mono _ _ _ _ _ _ _ _ _)
      | (with_reducible exact laws_szTable.mono _ _ _ _ _ _)
      | (with_reducible exact laws_toTable.mono _ _ _ _ _)
      | (with_reducible exact spec_TableOK.mono _ _ _ _ _)
      | (with_reducible exact LeO.refl _)
      | (with_reducible exact LeO.none _)
      | (with_reducible refine LeO.ite ?_ ?_)
      | (with_reducible refine LeO.bind ?_ (fun _ => ?_))
      | exact impl_TableOK.mono _ _ _ _ _
      | exact laws_eqTable.mono _ _ _ _ _ _ _ _ _
      | exact laws_szTable.mono _ _ _ _ _ _
      | exact laws_toTable.mono _ _ _ _ _
      | exact spec_TableOK.mono _ _ _ _ _
      | exact LeO.none _
      | refine LeO.ite ?_ ?_
      | refine LeO.bind ?_ (fun _ => ?_)
set_option maxHeartbeats 8000000 in
set_option maxRecDepth 100000 in
theorem laws_FnExactTableOK.calls (k : Nat) (a0_0 : ByteArray) (A0_1 : Option Addr) (c0_1 : Nat) (l0_1 : List (S97)) (a0_2 : Int) (A0_3 : Option Addr) (c0_3 : Nat) (l0_3 : List (S99)) (r : Bool) (w : World) (hr0_1 : Kd.C k97 w A0_1 l0_1.length l0_1) (hc0_1 : l0_1.length ≤ c0_1) (hr0_3 : Kd.C k99 w A0_3 l0_3.length l0_3) (hc0_3 : l0_3.length ≤ c0_3) (h : laws_FnExactTableOK.f k a0_0 l0_1 a0_2 l0_3 = some r) :
    Calls Tryd.prog 4 #[.agg #[.string a0_0, .slice A0_1 l0_1.length c0_1, .int .i64 a0_2, .slice A0_3 l0_3.length c0_3]] w fun e w' => e = .returned (.bool r) ∧ Below w.heap.size w w' := by
  have hu33 := Tryd.underlying33
  have hu39 := Tryd.underlying39
  have HR0_1 := ak_ hr0_1
  have HC0_1 := ak_ hc0_1
  clear hr0_1 hc0_1
  have HR0_3 := ak_ hr0_3
  have HC0_3 := ak_ hc0_3
  clear hr0_3 hc0_3
  have HB := ak_ (Below.refl w.heap.size w)
  have H : ((laws_szTable.f k a0_0 l0_1 a0_2 l0_3 1048576).bind fun t102 => (if t102 < 0 then (some true) else ((laws_toTable.f k a0_0 l0_1 a0_2 l0_3).bind fun bt103 => ((spec_TableOK.f k bt103.1 bt103.2.1 bt103.2.2.1 bt103.2.2.2).bind fun t111 => ((laws_toTable.f k a0_0 l0_1 a0_2 l0_3).bind fun bt112 => ((impl_TableOK.f k bt112.1 bt112.2.1 bt112.2.2.1 bt112.2.2.2).bind fun t121 => (if (t121 != t111) = true then (none) else ((laws_toTable.f k a0_0 l0_1 a0_2 l0_3).bind fun bt122 => ((laws_eqTable.f k bt112.1 bt112.2.1 bt112.2.2.1 bt112.2.2.2 bt122.1 bt122.2.1 bt122.2.2.1 bt122.2.2.2).bind fun t130 => (if t130 = true then (some true) else (none))))))))))) = some r := h
  clear h
  replace H := Option.bind_eq_some_iff.mp H
  obtain ⟨t102, A20, H⟩ := H
  replace H : (if t102 < 0 then (some true) else ((laws_toTable.f k a0_0 l0_1 a0_2 l0_3).bind fun bt103 => ((spec_TableOK.f k bt103.1 bt103.2.1 bt103.2.2.1 bt103.2.2.2).bind fun t111 => ((laws_toTable.f k a0_0 l0_1 a0_2 l0_3).bind fun bt112 => ((impl_TableOK.f k bt112.1 bt112.2.1 bt112.2.2.1 bt112.2.2.2).bind fun t121 => (if (t121 != t111) = true then (none) else ((laws_toTable.f k a0_0 l0_1 a0_2 l0_3).bind fun bt122 => ((laws_eqTable.f k bt112.1 bt112.2.1 bt112.2.2.1 bt112.2.2.2 bt122.1 bt122.2.1 bt122.2.2.1 bt122.2.2.2).bind fun t130 => (if t130 = true then (some true) else (none)))))))))) = some r := H
  have A2 := ak_ A20
  clear A20
  by_cases c3 : t102 < 0
  · rw [if_pos c3] at H
    have c3b0 : decide (t102 < 0) = true := decide_eq_true c3
    clear c3
    obtain rfl := Option.some.inj H
    go_enter Tryd.func4, Tryd.ntmps4
    go_wp2_with (first | ((with_reducible refine gate_dst (N := 1) rfl ?_); refine box_event ?hg (N := 1) ?hd (cs := #[.string a0_0, .slice A0_1 l0_1.length c0_1, .int .i64 a0_2, .slice A0_3 l0_3.length c0_3]) (t := 33) ?hr ?_; (case hd => rfl); (case hg => rfl); (case hr => first | (go_simp; done) | (go_simp; rfl)); intro gb101 hg w4 hbox hb; have n0_ := ak_ (below_step z1_ hb); have n1_ := ak_ (hbox); have n2_ := ak_ ((by rw [hg]; exact (below_size z1_) : w.heap.size ≤ gb101)); have n3_ := ak_ ((by rw [hg]; exact (below_size z1_) : w.heap.size ≤ gb101)); clear HB; have HB := n0_; have BK101 := n1_; have GW101 := n2_; have GE101 := n3_; clear n0_ n1_ n2_ n3_; clear hb hbox hg; have hcz5_0 : w4.cell? ⟨gb101, 0, none⟩ = some (.string a0_0) := (blk_cell BK101.out 0).trans rfl; have hcz5_1 : w4.cell? ⟨gb101, 1, none⟩ = some (.slice A0_1 l0_1.length c0_1) := (blk_cell BK101.out 1).trans rfl; have hcz5_2 : w4.cell? ⟨gb101, 2, none⟩ = some (.int .i64 a0_2) := (blk_cell BK101.out 2).trans rfl; have hcz5_3 : w4.cell? ⟨gb101, 3, none⟩ = some (.slice A0_3 l0_3.length c0_3) := (blk_cell BK101.out 3).trans rfl; have hfz5_0 := blk_frozen BK101.out 0; have hfz5_1 := blk_frozen BK101.out 1; have hfz5_2 := blk_frozen BK101.out 2; have hfz5_3 := blk_frozen BK101.out 3) | ((with_reducible refine gate_callee (f := 12) rfl ?_); refine goesL_ (some 9) rfl rfl Tryd.func12 (by kernel_rfl) rfl #[.agg #[.string a0_0, .slice A0_1 l0_1.length c0_1, .int .i64 a0_2, .slice A0_3 l0_3.length c0_3], .int .i64 1048576] rfl z3_ ?_; (with_reducible refine (laws_szTable.calls k a0_0 _ _ l0_1 a0_2 _ _ l0_3 1048576 t102 _ ?side1 ?side2 ?side3 ?side4 A2.out).mono ?_); (case side1 => repeat (first | exact (Kd.C_below HR0_1.out HB.out) | (with_reducible refine Kd.C_alloc ?_ _) | (with_reducible refine Kd.C_drewN ?_ _) | (with_reducible refine Kd.C_drew ?_))); (case side2 => exact HC0_1.out); (case side3 => repeat (first | exact (Kd.C_below HR0_3.out HB.out) | (with_reducible refine Kd.C_alloc ?_ _) | (with_reducible refine Kd.C_drewN ?_ _) | (with_reducible refine Kd.C_drew ?_))); (case side4 => exact HC0_3.out); rintro e w6 ⟨rfl, hb⟩; refine ⟨_, rfl, ?_⟩; have n0_ := ak_ (blk_below (g := gb101) (o := .cells #[.string a0_0, .slice A0_1 l0_1.length c0_1, .int .i64 a0_2, .slice A0_3 l0_3.length c0_3] 33 (0, 0)) z2_ hb); have n1_ := ak_ (below_step z0_ hb); clear BK101; clear HB; have BK101 := n0_; have HB := n1_; clear n0_ n1_; (try clear hb); (try clear hb2); (try clear hk); (try clear hi)))
    go_ret
    exact ⟨z7_, z0_⟩
  rw [if_neg c3] at H
  have c3b0 : decide (t102 < 0) = false := decide_eq_false c3
  clear c3
  replace H := Option.bind_eq_some_iff.mp H
  obtain ⟨⟨t103, t104, t107, t108⟩, A70, H⟩ := H
  replace H : ((spec_TableOK.f k t103 t104 t107 t108).bind fun t111 => ((laws_toTable.f k a0_0 l0_1 a0_2 l0_3).bind fun bt112 => ((impl_TableOK.f k bt112.1 bt112.2.1 bt112.2.2.1 bt112.2.2.2).bind fun t121 => (if (t121 != t111) = true then (none) else ((laws_toTable.f k a0_0 l0_1 a0_2 l0_3).bind fun bt122 => ((laws_eqTable.f k bt112.1 bt112.2.1 bt112.2.2.1 bt112.2.2.2 bt122.1 bt122.2.1 bt122.2.2.1 bt122.2.2.2).bind fun t130 => (if t130 = true then (some true) else (none)))))))) = some r := H
  have A7 := ak_ A70
  clear A70
  replace H := Option.bind_eq_some_iff.mp H
  obtain ⟨t111, A80, H⟩ := H
  replace H : ((laws_toTable.f k a0_0 l0_1 a0_2 l0_3).bind fun bt112 => ((impl_TableOK.f k bt112.1 bt112.2.1 bt112.2.2.1 bt112.2.2.2).bind fun t121 => (if (t121 != t111) = true then (none) else ((laws_toTable.f k a0_0 l0_1 a0_2 l0_3).bind fun bt122 => ((laws_eqTable.f k bt112.1 bt112.2.1 bt112.2.2.1 bt112.2.2.2 bt122.1 bt122.2.1 bt122.2.2.1 bt122.2.2.2).bind fun t130 => (if t130 = true then (some true) else (none))))))) = some r := H
  have A8 := ak_ A80
  clear A80
  replace H := Option.bind_eq_some_iff.mp H
  obtain ⟨⟨t112, t113, t116, t117⟩, A90, H⟩ := H
  replace H : ((impl_TableOK.f k t112 t113 t116 t117).bind fun t121 => (if (t121 != t111) = true then (none) else ((laws_toTable.f k a0_0 l0_1 a0_2 l0_3).bind fun bt122 => ((laws_eqTable.f k t112 t113 t116 t117 bt122.1 bt122.2.1 bt122.2.2.1 bt122.2.2.2).bind fun t130 => (if t130 = true then (some true) else (none)))))) = some r := H
  have A9 := ak_ A90
  clear A90
  replace H := Option.bind_eq_some_iff.mp H
  obtain ⟨t121, A100, H⟩ := H
  replace H : (if (t121 != t111) = true then (none) else ((laws_toTable.f k a0_0 l0_1 a0_2 l0_3).bind fun bt122 => ((laws_eqTable.f k t112 t113 t116 t117 bt122.1 bt122.2.1 bt122.2.2.1 bt122.2.2.2).bind fun t130 => (if t130 = true then (some true) else (none))))) = some r := H
  have A10 := ak_ A100
  clear A100
  by_cases c11 : (t121 != t111) = true
  · rw [if_pos c11] at H
    exact absurd H (by simp)
  rw [if_neg c11] at H
  have c11b0 : (t121 != t111) = false := by simpa using c11
  (try (have c11b1 : decide (t121 = t111) = true := by simpa using c11))
  (try (have c11b2 : (t121 == t111) = true := by simpa using c11))
  clear c11
  replace H := Option.bind_eq_some_iff.mp H
  obtain ⟨⟨t122, t123, t126, t127⟩, A120, H⟩ := H
  replace H : ((laws_eqTable.f k t112 t113 t116 t117 t122 t123 t126 t127).bind fun t130 => (if t130 = true then (some true) else (none))) = some r := H
  have A12 := ak_ A120
  clear A120
  replace H := Option.bind_eq_some_iff.mp H
  obtain ⟨t130, A130, H⟩ := H
  replace H : (if t130 = true then (some true) else (none)) = some r := H
  have A13 := ak_ A130
  clear A130
  by_cases c14 : t130 = true
  rotate_left
  · replace c14 := Bool.eq_false_iff.mpr c14
    subst c14
    have H1 : (none) = some r := by rw [if_neg (show ¬ (false = true) by decide)] at H; exact H
    clear H
    have H := H1
    clear H1
    exact absurd H (by simp)

  subst c14
  have H1 : (some true) = some r := by rw [if_pos rfl] at H; exact H
  clear H
  have H := H1
  clear H1
  obtain rfl := Option.some.inj H
  go_enter Tryd.func4, Tryd.ntmps4
  try go_wp2_with (first | ((with_reducible refine gate_dst (N := 1) rfl ?_); refine box_event ?hg (N := 1) ?hd (cs := #[.string a0_0, .slice A0_1 l0_1.length c0_1, .int .i64 a0_2, .slice A0_3 l0_3.length c0_3]) (t := 33) ?hr ?_; (case hd => rfl); (case hg => rfl); (case hr => first | (go_simp; done) | (go_simp; rfl)); intro gb101 hg w15 hbox hb; have n0_ := ak_ (below_step z1_ hb); have n1_ := ak_ (hbox); have n2_ := ak_ ((by rw [hg]; exact (below_size z1_) : w.heap.size ≤ gb101)); have n3_ := ak_ ((by rw [hg]; exact (below_size z1_) : w.heap.size ≤ gb101)); clear HB; have HB := n0_; have BK101 := n1_; have GW101 := n2_; have GE101 := n3_; clear n0_ n1_ n2_ n3_; clear hb hbox hg; have hcz16_0 : w15.cell? ⟨gb101, 0, none⟩ = some (.string a0_0) := (blk_cell BK101.out 0).trans rfl; have hcz16_1 : w15.cell? ⟨gb101, 1, none⟩ = some (.slice A0_1 l0_1.length c0_1) := (blk_cell BK101.out 1).trans rfl; have hcz16_2 : w15.cell? ⟨gb101, 2, none⟩ = some (.int .i64 a0_2) := (blk_cell BK101.out 2).trans rfl; have hcz16_3 : w15.cell? ⟨gb101, 3, none⟩ = some (.slice A0_3 l0_3.length c0_3) := (blk_cell BK101.out 3).trans rfl; have hfz16_0 := blk_frozen BK101.out 0; have hfz16_1 := blk_frozen BK101.out 1; have hfz16_2 := blk_frozen BK101.out 2; have hfz16_3 := blk_frozen BK101.out 3) | ((with_reducible refine gate_callee (f := 12) rfl ?_); refine goesL_ (some 9) rfl rfl Tryd.func12 (by kernel_rfl) rfl #[.agg #[.string a0_0, .slice A0_1 l0_1.length c0_1, .int .i64 a0_2, .slice A0_3 l0_3.length c0_3], .int .i64 1048576] rfl z3_ ?_; (with_reducible refine (laws_szTable.calls k a0_0 _ _ l0_1 a0_2 _ _ l0_3 1048576 t102 _ ?side1 ?side2 ?side3 ?side4 A2.out).mono ?_); (case side1 => repeat (first | exact (Kd.C_below HR0_1.out HB.out) | (with_reducible refine Kd.C_alloc ?_ _) | (with_reducible refine Kd.C_drewN ?_ _) | (with_reducible refine Kd.C_drew ?_))); (case side2 => exact HC0_1.out); (case side3 => repeat (first | exact (Kd.C_below HR0_3.out HB.out) | (with_reducible refine Kd.C_alloc ?_ _) | (with_reducible refine Kd.C_drewN ?_ _) | (with_reducible refine Kd.C_drew ?_))); (case side4 => exact HC0_3.out); rintro e w17 ⟨rfl, hb⟩; refine ⟨_, rfl, ?_⟩; have n0_ := ak_ (blk_below (g := gb101) (o := .cells #[.string a0_0, .slice A0_1 l0_1.length c0_1, .int .i64 a0_2, .slice A0_3 l0_3.length c0_3] 33 (0, 0)) z2_ hb); have n1_ := ak_ (below_step z0_ hb); clear BK101; clear HB; have BK101 := n0_; have HB := n1_; clear n0_ n1_; (try clear hb); (try clear hb2); (try clear hk); (try clear hi); have hcz18_0 : w17.cell? ⟨gb101, 0, none⟩ = some (.string a0_0) := (blk_cell BK101.out 0).trans rfl; have hcz18_1 : w17.cell? ⟨gb101, 1, none⟩ = some (.slice A0_1 l0_1.length c0_1) := (blk_cell BK101.out 1).trans rfl; have hcz18_2 : w17.cell? ⟨gb101, 2, none⟩ = some (.int .i64 a0_2) := (blk_cell BK101.out 2).trans rfl; have hcz18_3 : w17.cell? ⟨gb101, 3, none⟩ = some (.slice A0_3 l0_3.length c0_3) := (blk_cell BK101.out 3).trans rfl; have hfz18_0 := blk_frozen BK101.out 0; have hfz18_1 := blk_frozen BK101.out 1; have hfz18_2 := blk_frozen BK101.out 2; have hfz18_3 := blk_frozen BK101.out 3) | ((with_reducible refine gate_callee (f := 14) rfl ?_); refine goesL_ (some 13) rfl rfl Tryd.func14 (by kernel_rfl) rfl #[.agg #[.string a0_0, .slice A0_1 l0_1.length c0_1, .int .i64 a0_2, .slice A0_3 l0_3.length c0_3]] rfl z3_ ?_; (with_reducible refine (laws_toTable.calls k a0_0 _ _ l0_1 a0_2 _ _ l0_3 t103 t104 t107 t108 _ ?side1 ?side2 ?side3 ?side4 A7.out).mono ?_); (case side1 => repeat (first | exact (Kd.C_below HR0_1.out HB.out) | (with_reducible refine Kd.C_alloc ?_ _) | (with_reducible refine Kd.C_drewN ?_ _) | (with_reducible refine Kd.C_drew ?_))); (case side2 => exact HC0_1.out); (case side3 => repeat (first | exact (Kd.C_below HR0_3.out HB.out) | (with_reducible refine Kd.C_alloc ?_ _) | (with_reducible refine Kd.C_drewN ?_ _) | (with_reducible refine Kd.C_drew ?_))); (case side4 => exact HC0_3.out); rintro e w19 ⟨v105, v109, rfl, ho0, ho1, hb⟩; refine ⟨_, rfl, ?_⟩; have n0_ := ak_ (Kd.R_lower ho0 (below_size z0_)); have n1_ := ak_ (Kd.S_lower ho1 (below_size z0_)); have n2_ := ak_ (blk_below (g := gb101) (o := .cells #[.string a0_0, .slice A0_1 l0_1.length c0_1, .int .i64 a0_2, .slice A0_3 l0_3.length c0_3] 33 (0, 0)) z2_ hb); have n3_ := ak_ (below_step z0_ hb); clear BK101; clear HB; have HO106 := n0_; have HO110 := n1_; have BK101 := n2_; have HB := n3_; clear n0_ n1_ n2_ n3_; (try clear hb); (try clear hb2); (try clear hk); (try clear hi); (try clear ho0); (try clear ho1); obtain ⟨Ao20, co20, eo20⟩ := Kd.R_slice HO106.out; subst eo20; obtain ⟨Ao21, co21, eo21⟩ := Kd.S_slice HO110.out; subst eo21) | ((with_reducible refine gate_callee (f := 13) rfl ?_); refine goesL_ (some 14) rfl rfl Tryd.func13 (by kernel_rfl) rfl #[.agg #[.string t103, .slice Ao20 t104.length co20, .int .i64 t107, .slice Ao21 t108.length co21]] rfl z3_ ?_; (with_reducible refine (spec_TableOK.calls k t103 _ _ t104 t107 _ _ t108 t111 _ ?side1 ?side2 ?side3 ?side4 A8.out).mono ?_); (case side1 => repeat (first | exact (Kd.R_reads' HO106.out).2.2 | (with_reducible refine Kd.C_alloc ?_ _) | (with_reducible refine Kd.C_drewN ?_ _) | (with_reducible refine Kd.C_drew ?_))); (case side2 => exact (Kd.R_reads' HO106.out).2.1); (case side3 => repeat (first | exact (Kd.S_reads' HO110.out).2.2 | (with_reducible refine Kd.C_alloc ?_ _) | (with_reducible refine Kd.C_drewN ?_ _) | (with_reducible refine Kd.C_drew ?_))); (case side4 => exact (Kd.S_reads' HO110.out).2.1); rintro e w22 ⟨rfl, hb⟩; refine ⟨_, rfl, ?_⟩; have n0_ := ak_ (Kd.R_below z24_ hb); have n1_ := ak_ (Kd.S_below z25_ hb); have n2_ := ak_ (blk_below (g := gb101) (o := .cells #[.string a0_0, .slice A0_1 l0_1.length c0_1, .int .i64 a0_2, .slice A0_3 l0_3.length c0_3] 33 (0, 0)) z2_ hb); have n3_ := ak_ (below_step z0_ hb); clear HO106; clear HO110; clear BK101; clear HB; have HO106 := n0_; have HO110 := n1_; have BK101 := n2_; have HB := n3_; clear n0_ n1_ n2_ n3_; (try clear hb); (try clear hb2); (try clear hk); (try clear hi); have hcz23_0 : w22.cell? ⟨gb101, 0, none⟩ = some (.string a0_0) := (blk_cell BK101.out 0).trans rfl; have hcz23_1 : w22.cell? ⟨gb101, 1, none⟩ = some (.slice A0_1 l0_1.length c0_1) := (blk_cell BK101.out 1).trans rfl; have hcz23_2 : w22.cell? ⟨gb101, 2, none⟩ = some (.int .i64 a0_2) := (blk_cell BK101.out 2).trans rfl; have hcz23_3 : w22.cell? ⟨gb101, 3, none⟩ = some (.slice A0_3 l0_3.length c0_3) := (blk_cell BK101.out 3).trans rfl; have hfz23_0 := blk_frozen BK101.out 0; have hfz23_1 := blk_frozen BK101.out 1; have hfz23_2 := blk_frozen BK101.out 2; have hfz23_3 := blk_frozen BK101.out 3) | ((with_reducible refine gate_callee (f := 14) rfl ?_); refine goesL_ (some 16) rfl rfl Tryd.func14 (by kernel_rfl) rfl #[.agg #[.string a0_0, .slice A0_1 l0_1.length c0_1, .int .i64 a0_2, .slice A0_3 l0_3.length c0_3]] rfl z3_ ?_; (with_reducible refine (laws_toTable.calls k a0_0 _ _ l0_1 a0_2 _ _ l0_3 t112 t113 t116 t117 _ ?side1 ?side2 ?side3 ?side4 A9.out).mono ?_); (case side1 => repeat (first | exact (Kd.C_below HR0_1.out HB.out) | (with_reducible refine Kd.C_alloc ?_ _) | (with_reducible refine Kd.C_drewN ?_ _) | (with_reducible refine Kd.C_drew ?_))); (case side2 => exact HC0_1.out); (case side3 => repeat (first | exact (Kd.C_below HR0_3.out HB.out) | (with_reducible refine Kd.C_alloc ?_ _) | (with_reducible refine Kd.C_drewN ?_ _) | (with_reducible refine Kd.C_drew ?_))); (case side4 => exact HC0_3.out); rintro e w24 ⟨v114, v118, rfl, ho0, ho1, hb⟩; refine ⟨_, rfl, ?_⟩; have n0_ := ak_ (Kd.R_elder' z24_ (Kd.R_base ho0) hb); have n1_ := ak_ (Kd.S_elder' z25_ (Kd.S_base ho1) hb); have n2_ := ak_ (Kd.R_lower (Kd.R_new' ho0 (Kd.R_lt z24_)) (below_size z0_)); have n3_ := ak_ (Kd.S_lower (Kd.S_new' ho1 (Kd.S_lt z25_)) (below_size z0_)); have n4_ := ak_ (blk_below (g := gb101) (o := .cells #[.string a0_0, .slice A0_1 l0_1.length c0_1, .int .i64 a0_2, .slice A0_3 l0_3.length c0_3] 33 (0, 0)) z2_ hb); have n5_ := ak_ (below_step z0_ hb); clear HO106; clear HO110; clear BK101; clear HB; have HO106 := n0_; have HO110 := n1_; have HO115 := n2_; have HO119 := n3_; have BK101 := n4_; have HB := n5_; clear n0_ n1_ n2_ n3_ n4_ n5_; (try clear hb); (try clear hb2); (try clear hk); (try clear hi); (try clear ho0); (try clear ho1)) | ((with_reducible refine gate_dst (N := 5) rfl ?_); refine box_event ?hg (N := 5) ?hd (cs := #[.string (⟨#[]⟩ : ByteArray), .slice none 0 0, .int .i64 0, .slice none 0 0]) (t := 39) ?hr ?_; (case hd => rfl); (case hg => rfl); (case hr => first | (go_simp; done) | (go_simp; rfl)); intro gb120 hg w25 hbox hb; have n0_ := ak_ (Kd.R_below z24_ hb); have n1_ := ak_ (Kd.S_below z25_ hb); have n2_ := ak_ (Kd.R_below z42_ hb); have n3_ := ak_ (Kd.S_below z43_ hb); have n4_ := ak_ (blk_below (g := gb101) (o := .cells #[.string a0_0, .slice A0_1 l0_1.length c0_1, .int .i64 a0_2, .slice A0_3 l0_3.length c0_3] 33 (0, 0)) z2_ hb); have n5_ := ak_ (below_step z0_ hb); have n6_ := ak_ (hbox); have n7_ := ak_ ((by rw [hg]; exact (below_size z0_) : w.heap.size ≤ gb120)); have n8_ := ak_ ((by rw [hg]; exact (below_size z0_) : w.heap.size ≤ gb120)); have n9_ := ak_ ((z36_ : gb101 ≠ gb120)); have n10_ := ak_ ((z37_ : gb120 ≠ gb101)); clear HO106; clear HO110; clear HO115; clear HO119; clear BK101; clear HB; have HO106 := n0_; have HO110 := n1_; have HO115 := n2_; have HO119 := n3_; have BK101 := n4_; have HB := n5_; have BK120 := n6_; have GW120 := n7_; have GE120 := n8_; have NB101_120 := n9_; have NB120_101 := n10_; clear n0_ n1_ n2_ n3_ n4_ n5_ n6_ n7_ n8_ n9_ n10_; clear hb hbox hg; have hnb26 := NB120_101.out; have hnc26 := NB101_120.out; have hcz27_0 : w25.cell? ⟨gb120, 0, none⟩ = some (.string (⟨#[]⟩ : ByteArray)) := (blk_cell BK120.out 0).trans rfl; have hcz27_1 : w25.cell? ⟨gb120, 1, none⟩ = some (.slice none 0 0) := (blk_cell BK120.out 1).trans rfl; have hcz27_2 : w25.cell? ⟨gb120, 2, none⟩ = some (.int .i64 0) := (blk_cell BK120.out 2).trans rfl; have hcz27_3 : w25.cell? ⟨gb120, 3, none⟩ = some (.slice none 0 0) := (blk_cell BK120.out 3).trans rfl; have hfz27_0 := blk_frozen BK120.out 0; have hfz27_1 := blk_frozen BK120.out 1; have hfz27_2 := blk_frozen BK120.out 2; have hfz27_3 := blk_frozen BK120.out 3; obtain ⟨Ao28, co28, eo28⟩ := Kd.R_slice HO115.out; subst eo28; obtain ⟨Ao29, co29, eo29⟩ := Kd.S_slice HO119.out; subst eo29) | ((with_reducible refine gate_callee (f := 15) rfl ?_); refine goesL_ (some 18) rfl rfl Tryd.func15 (by kernel_rfl) rfl #[.agg #[.string t112, .slice Ao28 t113.length co28, .int .i64 t116, .slice Ao29 t117.length co29]] rfl z3_ ?_; (with_reducible refine (impl_TableOK.calls k t112 _ _ t113 t116 _ _ t117 t121 _ ?side1 ?side2 ?side3 ?side4 A10.out).mono ?_); (case side1 => refine (Kd.R_reads' (e := 70) (base := w.heap.size) (ok := fun k_ => (True ∧ some k_ ≠ (.slice Ao20 t104.length co20 : Value).ownBlock)) (n := t113.length) (c := co28) ?_).2.2; exact z27_); (case side2 => exact (Kd.R_reads' HO115.out).2.1); (case side3 => refine (Kd.S_reads' (e := 75) (base := w.heap.size) (ok := fun k_ => (True ∧ some k_ ≠ (.slice Ao21 t108.length co21 : Value).ownBlock)) (n := t117.length) (c := co29) ?_).2.2; exact z28_); (case side4 => exact (Kd.S_reads' HO119.out).2.1); rintro e w30 ⟨rfl, hb⟩; refine ⟨_, rfl, ?_⟩; have n0_ := ak_ (Kd.R_below (by (with_reducible repeat (first | apply Kd.R_alloc | apply Kd.R_drewN | apply Kd.R_drew)); exact (Kd.R_mono (Kd.R_far (p := ⟨gb120, 3, none⟩) (Kd.R_far (p := ⟨gb120, 2, none⟩) (Kd.R_far (p := ⟨gb120, 1, none⟩) (Kd.R_far (p := ⟨gb120, 0, none⟩) (Kd.R_types HO106.out BK120.out (by decide)) (fun _ hk => hk.2) (.string t112)) (fun _ hk => hk.2) (.slice Ao28 t113.length co28)) (fun _ hk => hk.2) (.int .i64 t116)) (fun _ hk => hk.2) (.slice Ao29 t117.length co29)) (fun _ h_ => h_.1))) hb); have n1_ := ak_ (Kd.S_below (by (with_reducible repeat (first | apply Kd.S_alloc | apply Kd.S_drewN | apply Kd.S_drew)); exact (Kd.S_mono (Kd.S_far (p := ⟨gb120, 3, none⟩) (Kd.S_far (p := ⟨gb120, 2, none⟩) (Kd.S_far (p := ⟨gb120, 1, none⟩) (Kd.S_far (p := ⟨gb120, 0, none⟩) (Kd.S_types HO110.out BK120.out (by decide)) (fun _ hk => hk.2) (.string t112)) (fun _ hk => hk.2) (.slice Ao28 t113.length co28)) (fun _ hk => hk.2) (.int .i64 t116)) (fun _ hk => hk.2) (.slice Ao29 t117.length co29)) (fun _ h_ => h_.1))) hb); have n2_ := ak_ (Kd.R_below z27_ hb); have n3_ := ak_ (Kd.S_below z28_ hb); have n4_ := ak_ (blk_below (g := gb101) (o := .cells #[.string a0_0, .slice A0_1 l0_1.length c0_1, .int .i64 a0_2, .slice A0_3 l0_3.length c0_3] 33 (0, 0)) (by (with_reducible repeat (first | refine blk_drewN ?_ _ | refine blk_drew ?_ | refine blk_alloc ?_ _)); refine blk_far ?_ NB101_120.out _; (with_reducible repeat (first | refine blk_drewN ?_ _ | refine blk_drew ?_ | refine blk_alloc ?_ _)); refine blk_far ?_ NB101_120.out _; (with_reducible repeat (first | refine blk_drewN ?_ _ | refine blk_drew ?_ | refine blk_alloc ?_ _)); refine blk_far ?_ NB101_120.out _; (with_reducible repeat (first | refine blk_drewN ?_ _ | refine blk_drew ?_ | refine blk_alloc ?_ _)); refine blk_far ?_ NB101_120.out _; (with_reducible repeat (first | refine blk_drewN ?_ _ | refine blk_drew ?_ | refine blk_alloc ?_ _)); exact BK101.out) hb); have n5_ := ak_ (blk_below (g := gb120) (o := .cells #[.string t112, .slice Ao28 t113.length co28, .int .i64 t116, .slice Ao29 t117.length co29] 39 (0, 0)) (by (with_reducible repeat (first | refine blk_drewN ?_ _ | refine blk_drew ?_ | refine blk_alloc ?_ _)); refine blk_put (cs := #[.string t112, .slice Ao28 t113.length co28, .int .i64 t116, .slice none 0 0]) ?_ 3 _ rfl; (with_reducible repeat (first | refine blk_drewN ?_ _ | refine blk_drew ?_ | refine blk_alloc ?_ _)); refine blk_put (cs := #[.string t112, .slice Ao28 t113.length co28, .int .i64 0, .slice none 0 0]) ?_ 2 _ rfl; (with_reducible repeat (first | refine blk_drewN ?_ _ | refine blk_drew ?_ | refine blk_alloc ?_ _)); refine blk_put (cs := #[.string t112, .slice none 0 0, .int .i64 0, .slice none 0 0]) ?_ 1 _ rfl; (with_reducible repeat (first | refine blk_drewN ?_ _ | refine blk_drew ?_ | refine blk_alloc ?_ _)); refine blk_put (cs := #[.string (⟨#[]⟩ : ByteArray), .slice none 0 0, .int .i64 0, .slice none 0 0]) ?_ 0 _ rfl; (with_reducible repeat (first | refine blk_drewN ?_ _ | refine blk_drew ?_ | refine blk_alloc ?_ _)); exact BK120.out) hb); have n6_ := ak_ (below_step z22_ hb); clear HO106; clear HO110; clear HO115; clear HO119; clear BK101; clear BK120; clear HB; have HO106 := n0_; have HO110 := n1_; have HO115 := n2_; have HO119 := n3_; have BK101 := n4_; have BK120 := n5_; have HB := n6_; clear n0_ n1_ n2_ n3_ n4_ n5_ n6_; (try clear hb); (try clear hb2); (try clear hk); (try clear hi)))
  have n0_ := ak_ (Kd.R_drew HO106.out)
  have n1_ := ak_ (Kd.S_drew HO110.out)
  have n2_ := ak_ (Kd.R_drew HO115.out)
  have n3_ := ak_ (Kd.S_drew HO119.out)
  have n4_ := ak_ (blk_drew BK101.out)
  have n5_ := ak_ (blk_drew BK120.out)
  have n6_ := ak_ (below_drew1 HB.out)
  clear HO106
  clear HO110
  clear HO115
  clear HO119
  clear BK101
  clear BK120
  clear HB
  have HO106 := n0_
  have HO110 := n1_
  have HO115 := n2_
  have HO119 := n3_
  have BK101 := n4_
  have BK120 := n5_
  have HB := n6_
  clear n0_ n1_ n2_ n3_ n4_ n5_ n6_
  refine start_ (n := 5) (S := fun w' => w'.cell? ⟨gb120, 0, none⟩ = some (.string t112) ∧ w'.cell? ⟨gb120, 1, none⟩ = some (.slice Ao28 t113.length co28) ∧ w'.cell? ⟨gb120, 2, none⟩ = some (.int .i64 t116) ∧ w'.cell? ⟨gb120, 3, none⟩ = some (.slice Ao29 t117.length co29) ∧ w'.cell? ⟨gb101, 0, none⟩ = some (.string a0_0) ∧ w'.cell? ⟨gb101, 1, none⟩ = some (.slice A0_1 l0_1.length c0_1) ∧ w'.cell? ⟨gb101, 2, none⟩ = some (.int .i64 a0_2) ∧ w'.cell? ⟨gb101, 3, none⟩ = some (.slice A0_3 l0_3.length c0_3)) (ds := []) #[false, false, false, false, false] (by kernel_rfl) rfl rfl ⟨(blk_cell BK120.out 0).trans rfl, (blk_cell BK120.out 1).trans rfl, (blk_cell BK120.out 2).trans rfl, (blk_cell BK120.out 3).trans rfl, (blk_cell BK101.out 0).trans rfl, (blk_cell BK101.out 1).trans rfl, (blk_cell BK101.out 2).trans rfl, (blk_cell BK101.out 3).trans rfl⟩ (fun hHeld => ?_)
  generalize w30.drew = w31 at HO106 HO110 HO115 HO119 BK101 BK120 HB hHeld ⊢
  refine take_ (i := 0) (N := some 22) (v := ?_) (a' := ?_) #[true, false, false, false, false] rfl rfl (by kernel_rfl) (fun _ _ _ h => h) (Or.inl ⟨by rfl, ?_⟩) hHeld ?_ ?_
  rotate_left
  · rintro w' ⟨s0, s1, s2, s3, s4, s5, s6, s7⟩
    go_simp
    with_reducible rfl
  rotate_left
  · simp only [Act.put, List.setIfInBounds_toArray, List.set_cons_zero, List.set_cons_succ, i64_w, i32_w]
    rfl
  refine take_ (i := 1) (N := some 23) (v := ?_) (a' := ?_) #[true, true, false, false, false] rfl rfl (by kernel_rfl) (fun _ _ _ h => h) (Or.inl ⟨by rfl, ?_⟩) hHeld ?_ ?_
  rotate_left
  · rintro w' ⟨s0, s1, s2, s3, s4, s5, s6, s7⟩
    go_simp
    with_reducible rfl
  rotate_left
  · simp only [Act.put, List.setIfInBounds_toArray, List.set_cons_zero, List.set_cons_succ, i64_w, i32_w]
    rfl
  refine one_ (i := 2) (N := some 24) #[true, true, true, false, false] rfl rfl (by kernel_rfl) (by decide) (fun K hK => ?_)
  refine goes_ Tryd.func14 (by kernel_rfl) rfl #[.agg #[.string a0_0, .slice A0_1 l0_1.length c0_1, .int .i64 a0_2, .slice A0_3 l0_3.length c0_3]] (by rfl) rfl rfl z3_ ?_
  with_reducible refine (laws_toTable.calls k a0_0 _ _ l0_1 a0_2 _ _ l0_3 t122 t123 t126 t127 _ ?side1 ?side2 ?side3 ?side4 A12.out).mono ?_
  (case side1 => repeat (first | exact (Kd.C_below HR0_1.out HB.out) | (with_reducible refine Kd.C_alloc ?_ _) | (with_reducible refine Kd.C_drewN ?_ _) | (with_reducible refine Kd.C_drew ?_)))
  (case side2 => exact HC0_1.out)
  (case side3 => repeat (first | exact (Kd.C_below HR0_3.out HB.out) | (with_reducible refine Kd.C_alloc ?_ _) | (with_reducible refine Kd.C_drewN ?_ _) | (with_reducible refine Kd.C_drew ?_)))
  (case side4 => exact HC0_3.out)
  rintro e w32 ⟨v124, v128, rfl, ho0, ho1, hb⟩
  refine ⟨_, rfl, ?_⟩
  have n0_ := ak_ (Kd.R_elder' z24_ (Kd.R_base ho0) hb)
  have n1_ := ak_ (Kd.S_elder' z25_ (Kd.S_base ho1) hb)
  have n2_ := ak_ (Kd.R_elder' z42_ (Kd.R_base ho0) hb)
  have n3_ := ak_ (Kd.S_elder' z43_ (Kd.S_base ho1) hb)
  have n4_ := ak_ (Kd.R_lower (Kd.R_new' (Kd.R_new' ho0 (Kd.R_lt z24_)) (Kd.R_lt z42_)) (below_size z22_))
  have n5_ := ak_ (Kd.S_lower (Kd.S_new' (Kd.S_new' ho1 (Kd.S_lt z25_)) (Kd.S_lt z43_)) (below_size z22_))
  have n6_ := ak_ (blk_below (g := gb101) (o := .cells #[.string a0_0, .slice A0_1 l0_1.length c0_1, .int .i64 a0_2, .slice A0_3 l0_3.length c0_3] 33 (0, 0)) z2_ hb)
  have n7_ := ak_ (blk_below (g := gb120) (o := .cells #[.string t112, .slice Ao28 t113.length co28, .int .i64 t116, .slice Ao29 t117.length co29] 39 (0, 0)) (by (with_reducible repeat (first | refine blk_drewN ?_ _ | refine blk_drew ?_ | refine blk_alloc ?_ _)); exact BK120.out) hb)
  have n8_ := ak_ (below_step z22_ hb)
  clear HO106
  clear HO110
  clear HO115
  clear HO119
  clear BK101
  clear BK120
  clear HB
  have HO106 := n0_
  have HO110 := n1_
  have HO115 := n2_
  have HO119 := n3_
  have HO125 := n4_
  have HO129 := n5_
  have BK101 := n6_
  have BK120 := n7_
  have HB := n8_
  clear n0_ n1_ n2_ n3_ n4_ n5_ n6_ n7_ n8_
  (try clear hb)
  (try clear hb2)
  (try clear hk)
  (try clear hi)
  (try clear ho0)
  (try clear ho1)
  obtain ⟨Ao33, co33, eo33⟩ := Kd.R_slice HO125.out
  (first | subst eo33 | (injection eo33 with f1_ f2_ f3_; have f4_ := f1_.symm; have f5_ := f3_.symm; clear f1_ f2_ f3_; subst f4_; subst f5_))
  obtain ⟨Ao34, co34, eo34⟩ := Kd.S_slice HO129.out
  (first | subst eo34 | (injection eo34 with f1_ f2_ f3_; have f4_ := f1_.symm; have f5_ := f3_.symm; clear f1_ f2_ f3_; subst f4_; subst f5_))
  refine hK.out _ _ ⟨(blk_cell BK120.out 0).trans rfl, (blk_cell BK120.out 1).trans rfl, (blk_cell BK120.out 2).trans rfl, (blk_cell BK120.out 3).trans rfl, (blk_cell BK101.out 0).trans rfl, (blk_cell BK101.out 1).trans rfl, (blk_cell BK101.out 2).trans rfl, (blk_cell BK101.out 3).trans rfl⟩ (fun hHeld => ?_)
  clear hK K
  refine norm_ (a' := ?_) ?_ ?_
  rotate_left
  · show Act.put _ (some 24) _ = _
    simp only [Act.put, List.setIfInBounds_toArray, List.set_cons_zero, List.set_cons_succ, i64_w, i32_w]
    rfl
  refine one_ (i := 3) (N := some 25) #[true, true, true, true, false] rfl rfl (by kernel_rfl) (by decide) (fun K hK => ?_)
  refine goes_ Tryd.func16 (by kernel_rfl) rfl #[.agg #[.string t112, .slice Ao28 t113.length co28, .int .i64 t116, .slice Ao29 t117.length co29], .agg #[.string t122, .slice Ao33 t123.length co33, .int .i64 t126, .slice Ao34 t127.length co34]] (by rfl) rfl rfl z3_ ?_
  with_reducible refine (laws_eqTable.calls k t112 _ _ t113 t116 _ _ t117 t122 _ _ t123 t126 _ _ t127 true _ ?side1 ?side2 ?side3 ?side4 ?side5 ?side6 ?side7 ?side8 A13.out).mono ?_
  (case side1 => repeat (first | exact (Kd.R_reads' HO115.out).2.2 | (with_reducible refine Kd.C_alloc ?_ _) | (with_reducible refine Kd.C_drewN ?_ _) | (with_reducible refine Kd.C_drew ?_)))
  (case side2 => exact (Kd.R_reads' HO115.out).2.1)
  (case side3 => repeat (first | exact (Kd.S_reads' HO119.out).2.2 | (with_reducible refine Kd.C_alloc ?_ _) | (with_reducible refine Kd.C_drewN ?_ _) | (with_reducible refine Kd.C_drew ?_)))
  (case side4 => exact (Kd.S_reads' HO119.out).2.1)
  (case side5 => repeat (first | exact (Kd.R_reads' HO125.out).2.2 | (with_reducible refine Kd.C_alloc ?_ _) | (with_reducible refine Kd.C_drewN ?_ _) | (with_reducible refine Kd.C_drew ?_)))
  (case side6 => exact (Kd.R_reads' HO125.out).2.1)
  (case side7 => repeat (first | exact (Kd.S_reads' HO129.out).2.2 | (with_reducible refine Kd.C_alloc ?_ _) | (with_reducible refine Kd.C_drewN ?_ _) | (with_reducible refine Kd.C_drew ?_)))
  (case side8 => exact (Kd.S_reads' HO129.out).2.1)
  rintro e w35 ⟨rfl, hb⟩
  refine ⟨_, rfl, ?_⟩
  have n0_ := ak_ (Kd.R_below z24_ hb)
  have n1_ := ak_ (Kd.S_below z25_ hb)
  have n2_ := ak_ (Kd.R_below z42_ hb)
  have n3_ := ak_ (Kd.S_below z43_ hb)
  have n4_ := ak_ (Kd.R_below (by (with_reducible repeat (first | apply Kd.R_alloc | apply Kd.R_drewN | apply Kd.R_drew)); exact HO125.out) hb)
  have n5_ := ak_ (Kd.S_below (by (with_reducible repeat (first | apply Kd.S_alloc | apply Kd.S_drewN | apply Kd.S_drew)); exact HO129.out) hb)
  have n6_ := ak_ (blk_below (g := gb101) (o := .cells #[.string a0_0, .slice A0_1 l0_1.length c0_1, .int .i64 a0_2, .slice A0_3 l0_3.length c0_3] 33 (0, 0)) z2_ hb)
  have n7_ := ak_ (blk_below (g := gb120) (o := .cells #[.string t112, .slice Ao28 t113.length co28, .int .i64 t116, .slice Ao29 t117.length co29] 39 (0, 0)) (by (with_reducible repeat (first | refine blk_drewN ?_ _ | refine blk_drew ?_ | refine blk_alloc ?_ _)); exact BK120.out) hb)
  have n8_ := ak_ (below_step z22_ hb)
  clear HO106
  clear HO110
  clear HO115
  clear HO119
  clear HO125
  clear HO129
  clear BK101
  clear BK120
  clear HB
  have HO106 := n0_
  have HO110 := n1_
  have HO115 := n2_
  have HO119 := n3_
  have HO125 := n4_
  have HO129 := n5_
  have BK101 := n6_
  have BK120 := n7_
  have HB := n8_
  clear n0_ n1_ n2_ n3_ n4_ n5_ n6_ n7_ n8_
  (try clear hb)
  (try clear hb2)
  (try clear hk)
  (try clear hi)
  refine hK.out _ _ ⟨(blk_cell BK120.out 0).trans rfl, (blk_cell BK120.out 1).trans rfl, (blk_cell BK120.out 2).trans rfl, (blk_cell BK120.out 3).trans rfl, (blk_cell BK101.out 0).trans rfl, (blk_cell BK101.out 1).trans rfl, (blk_cell BK101.out 2).trans rfl, (blk_cell BK101.out 3).trans rfl⟩ (fun hHeld => ?_)
  clear hK K
  refine norm_ (a' := ?_) ?_ ?_
  rotate_left
  · show Act.put _ (some 25) _ = _
    simp only [Act.put, List.setIfInBounds_toArray, List.set_cons_zero, List.set_cons_succ, i64_w, i32_w]
    rfl
  refine pure_ (i := 4) (N := some 26) (v := ?_) (a' := ?_) #[true, true, true, true, true] rfl rfl (by kernel_rfl) (fun _ _ _ h => h) (Or.inl ⟨by rfl, ?_⟩) ?_ ?_
  rotate_left
  · intro w'
    go_simp
    with_reducible rfl
  rotate_left
  · simp only [Act.put, List.setIfInBounds_toArray, List.set_cons_zero, List.set_cons_succ, i64_w, i32_w]
    rfl
  refine done_ (by kernel_rfl) ?_
  try go_wp2
  go_ret
  exact ⟨z7_, z22_⟩
end Go.Proofs.YtjknmljdnolilaaDoor.X
end

section
namespace Go.Proofs.YtjknmljdnolilaaDoor.X
open Go.RowKit Go.Proofs.YtjknmljdnolilaaDoorW.PrintWords Go.Proofs.YtjknmljdnolilaaDoorW.PrintLast Go.Proofs.YtjknmljdnolilaaDoorW.PrintMore
attribute [local go_sem] max2_int min2_int max_two min_two max_three min_three max_four min_four   -- for this text's walks alone

/-- THE ONE PURE STATEMENT of laws_FnExactTableOK. -/
def laws_FnExactTableOK.Need : Prop := ∀ (a0_0 : ByteArray) (l0_1 : List (S97)) (a0_2 : Int) (l0_3 : List (S99)), a0_0.size ≤ maxLen → (l0_1.length ≤ maxLen ∧ ∀ x0_ ∈ l0_1, Q97 x0_) → (Lit.int .i64 a0_2).wf = true → (l0_3.length ≤ maxLen ∧ ∀ x0_ ∈ l0_3, Q99 x0_) → ∃ k, laws_FnExactTableOK.f k a0_0 l0_1 a0_2 l0_3 = some true
end Go.Proofs.YtjknmljdnolilaaDoor.X
end

section
/- Small facts on numbers and texts. -/
namespace Go.Proofs.YtjknmljdnolilaaDoor.Pure
open Go.RowKit Go.Proofs.YtjknmljdnolilaaDoor.X Go.Proofs.YtjknmljdnolilaaDoorW.PrintWords Go.Proofs.YtjknmljdnolilaaDoorW.PrintLast
theorem wrap_in (a : Int) (ha : -9223372036854775808 ≤ a ∧ a ≤ 9223372036854775807) : wrap64 a = a := by unfold wrap64; omega
theorem wrap_range (a : Int) : -9223372036854775808 ≤ wrap64 a ∧ wrap64 a ≤ 9223372036854775807 := by unfold wrap64; omega
theorem i64_of {n : Int} (h : (Lit.int .i64 n).wf = true) : -9223372036854775808 ≤ n ∧ n ≤ 9223372036854775807 := bounds_i64 h
theorem u8_of {n : Int} (h : (Lit.int .u8 n).wf = true) : 0 ≤ n ∧ n ≤ 255 := bounds_u8 h
theorem toList_eq (s : ByteArray) : s.toList = s.data.toList := ByteArray.toList_eq s
theorem toList_inj {s t : ByteArray} (h : s.toList = t.toList) : s = t := by
  rw [toList_eq, toList_eq] at h
  have := Array.ext' h
  cases s; cases t; simp_all
theorem toList_iff {s t : ByteArray} : s.toList = t.toList ↔ s = t := ⟨toList_inj, fun h => by rw [h]⟩
theorem toList_mk (l : List UInt8) : (⟨⟨l⟩⟩ : ByteArray).toList = l := by rw [toList_eq]
theorem length_toList (s : ByteArray) : s.toList.length = s.size := by rw [toList_eq]; rfl
theorem empty_iff {s : ByteArray} : s.toList = [] ↔ s = (⟨#[]⟩ : ByteArray) := by
  rw [← toList_iff, show (⟨#[]⟩ : ByteArray).toList = [] from toList_mk []]
end Go.Proofs.YtjknmljdnolilaaDoor.Pure
end

section
/- What Contains and Index over texts tell. -/
namespace Go.Proofs.YtjknmljdnolilaaDoor.Pure
open Go.RowKit Go.Proofs.YtjknmljdnolilaaDoor.X Go.Proofs.YtjknmljdnolilaaDoorW.PrintWords Go.Proofs.YtjknmljdnolilaaDoorW.PrintLast
theorem index_loop (l : List ByteArray) (x : ByteArray) (hl : l.length ≤ 9223372036854775807) (d : Nat) : ∀ (k i : Nat), l.length - i = d → i ≤ l.length → d < k →
    slices_Index_string_string.l0 k l x (l.length : Int) (i : Int) = some (match (l.drop i).findIdx? (fun y => x.toList == y.toList) with | some j => ((i + j : Nat) : Int) | none => -1) := by
  induction d with
  | zero =>
    intro k i hd hi hk
    obtain ⟨k, rfl⟩ : ∃ m, k = m + 1 := ⟨k - 1, by omega⟩
    simp only [slices_Index_string_string.l0]
    rw [if_neg (by omega), List.drop_of_length_le (by omega)]
    rfl
  | succ d ih =>
    intro k i hd hi hk
    obtain ⟨k, rfl⟩ : ∃ m, k = m + 1 := ⟨k - 1, by omega⟩
    have hlt : i < l.length := by omega
    simp only [slices_Index_string_string.l0]
    rw [if_pos (by omega), if_pos (by omega), if_pos (by omega), List.drop_eq_getElem_cons hlt, List.findIdx?_cons]
    have hr : rdOf ByteArray.empty l (i : Int) = l[i] := by simp [rdOf, hlt]
    rw [hr]
    by_cases c : x.toList = l[i].toList
    · have : (x.toList == l[i].toList) = true := by rw [c]; simp
      rw [if_pos c, this]; simp
    · have : (x.toList == l[i].toList) = false := by simpa using c
      rw [if_neg c, this, show wrap64 ((i : Int) + 1) = ((i + 1 : Nat) : Int) from by unfold wrap64; omega, ih k (i + 1) (by omega) (by omega) (by omega)]
      cases (l.drop (i + 1)).findIdx? (fun y => x.toList == y.toList) with
      | none => rfl
      | some j => show some (((i + 1 + j : Nat)) : Int) = some (((i + (j + 1) : Nat)) : Int); rw [show i + 1 + j = i + (j + 1) by omega]
theorem contains_is (l : List ByteArray) (x : ByteArray) (hl : l.length ≤ 9223372036854775807) (k : Nat) (hk : l.length < k) :
    slices_Contains_string_string.f k l x = some (l.any fun y => x.toList == y.toList) := by
  unfold slices_Contains_string_string.f slices_Index_string_string.f
  rw [show (0 : Int) = ((0 : Nat) : Int) from rfl, index_loop l x hl l.length k 0 (by omega) (by omega) hk, List.drop_zero]
  simp only [Option.bind_some, Option.some.injEq]
  have := fIdx_any (fun y => x.toList == y.toList) l
  unfold fIdx at this
  rw [← this]
  cases l.findIdx? (fun y => x.toList == y.toList) <;> simp
end Go.Proofs.YtjknmljdnolilaaDoor.Pure
end

section
/- Names: the program and the reference tell the same. -/
namespace Go.Proofs.YtjknmljdnolilaaDoor.Pure
open Go.RowKit Go.Proofs.YtjknmljdnolilaaDoor.X Go.Proofs.YtjknmljdnolilaaDoorW.PrintWords Go.Proofs.YtjknmljdnolilaaDoorW.PrintLast
def letter (x : Int) : Bool := decide (97 ≤ x ∧ x ≤ 122) || (decide (65 ≤ x ∧ x ≤ 90) || x == 95)
def digit (x : Int) : Bool := decide (48 ≤ x ∧ x ≤ 57)
theorem impl_letter (x : Int) : impl_isLetter.f x = some (letter x) := by
  unfold impl_isLetter.f letter
  by_cases a : 97 ≤ x <;> by_cases b : x ≤ 122 <;> by_cases c : 65 ≤ x <;> by_cases d : x ≤ 90 <;> simp [a, b, c, d]
theorem spec_letter (x : Int) : spec_l00Letter.f x = some (letter x) := by
  unfold spec_l00Letter.f letter
  by_cases a : 97 ≤ x <;> by_cases b : x ≤ 122 <;> by_cases c : 65 ≤ x <;> by_cases d : x ≤ 90 <;> simp [a, b, c, d]
theorem impl_digit (x : Int) : impl_isDigit.f x = some (digit x) := by
  unfold impl_isDigit.f digit
  by_cases a : 48 ≤ x <;> by_cases b : x ≤ 57 <;> simp [a, b]
theorem spec_digit (x : Int) : spec_l00Digit.f x = some (digit x) := by
  unfold spec_l00Digit.f digit
  by_cases a : 48 ≤ x <;> by_cases b : x ≤ 57 <;> simp [a, b]
theorem impl_in (a b c : Int) : impl_within.f a b c = some (decide (b ≤ a) && decide (a ≤ c)) := by
  unfold impl_within.f
  by_cases h : a ≥ b
  · rw [if_pos h]; simp [show b ≤ a from h]
  · rw [if_neg h]; simp [show ¬ b ≤ a from h]
theorem spec_in (a b c : Int) : spec_l01In.f a b c = some (decide (b ≤ a) && decide (a ≤ c)) := by
  unfold spec_l01In.f
  by_cases h : a ≥ b
  · rw [if_pos h]; simp [show b ≤ a from h]
  · rw [if_neg h]; simp [show ¬ b ≤ a from h]
theorem next64 (i n : Nat) (h : i < n) (hn : n ≤ maxLen) : wrap64 ((i : Int) + 1) = ((i + 1 : Nat) : Int) := by simp only [maxLen] at hn; unfold wrap64; omega
def okAt (x : ByteArray) (i : Nat) : Bool := letter (bt x (i : Int)) || (decide (i ≠ 0) && digit (bt x (i : Int)))
def okFrom (x : ByteArray) : Nat → Nat → Bool
  | 0, _ => true
  | d + 1, i => okAt x i && okFrom x d (i + 1)
theorem impl_name_l0 (x : ByteArray) (hx : x.size ≤ maxLen) : ∀ d k i, i + d = x.size → impl_NameOK.l0 (k + d + 1) x (x.size : Int) (i : Int) = some (okFrom x d i && (decide (1 ≤ (x.size : Int)) && decide ((x.size : Int) ≤ 40)))
  | 0, k, i, h => by
    rw [show k + 0 + 1 = k + 1 from rfl, impl_NameOK.l0, if_neg (by omega), impl_in]; rfl
  | d + 1, k, i, h => by
    rw [show k + (d + 1) + 1 = (k + d + 1) + 1 by omega, impl_NameOK.l0, if_pos (by omega), if_pos (by omega), if_pos (by omega), impl_letter, impl_digit, next64 i x.size (by omega) hx, impl_name_l0 x hx d k (i + 1) (by omega), okFrom, okAt]
    simp only [Option.bind_some]
    cases letter (bt x (i : Int)) with
    | true => rw [if_pos rfl]; simp
    | false =>
      rw [if_neg (by decide)]
      by_cases h0 : i = 0
      · subst h0; rw [if_pos (show ((0 : Nat) : Int) = 0 from rfl)]; simp
      · rw [if_neg (by omega)]
        cases digit (bt x (i : Int)) with
        | true => rw [if_pos rfl]; simp [h0]
        | false => rw [if_neg (by decide)]; simp
theorem spec_name_l0 (x : ByteArray) (hx : x.size ≤ maxLen) : ∀ d k i, i + d = x.size → 1 ≤ i → spec_l00Word.l0 (k + d + 1) x (i : Int) = some (okFrom x d i)
  | 0, k, i, h, _ => by rw [show k + 0 + 1 = k + 1 from rfl, spec_l00Word.l0, if_neg (by omega)]; rfl
  | d + 1, k, i, h, h1 => by
    rw [show k + (d + 1) + 1 = (k + d + 1) + 1 by omega, spec_l00Word.l0, if_pos (by omega), if_pos (by omega), spec_letter, spec_digit, next64 i x.size (by omega) hx, spec_name_l0 x hx d k (i + 1) (by omega) (by omega), okFrom, okAt]
    simp only [Option.bind_some]
    have h0 : i ≠ 0 := by omega
    cases letter (bt x (i : Int)) <;> cases digit (bt x (i : Int)) <;> simp [h0]
def nameok (x : ByteArray) : Bool := okFrom x x.size 0 && (decide (1 ≤ (x.size : Int)) && decide ((x.size : Int) ≤ 40))
theorem impl_name (x : ByteArray) (hx : x.size ≤ maxLen) (k : Nat) (hk : x.size < k) : impl_NameOK.f k x = some (nameok x) := by
  obtain ⟨k, rfl⟩ : ∃ m, k = m + x.size + 1 := ⟨k - x.size - 1, by omega⟩
  exact impl_name_l0 x hx x.size k 0 (by omega)
theorem spec_name (x : ByteArray) (hx : x.size ≤ maxLen) (k : Nat) (hk : x.size + 1 < k) : spec_NameOK.f k x = some (nameok x) := by
  obtain ⟨k, rfl⟩ : ∃ m, k = m + x.size + 2 := ⟨k - x.size - 2, by omega⟩
  unfold spec_NameOK.f spec_l00Word.f nameok
  by_cases h1 : (x.size : Int) < 1
  · rw [if_pos h1, show k + x.size + 2 = (k + x.size + 1) + 1 by omega, spec_l00Word.j0, if_pos rfl]
    simp [show ¬ 1 ≤ (x.size : Int) by omega]
  rw [if_neg h1]
  by_cases h2 : (x.size : Int) > 40
  · rw [if_pos h2, show k + x.size + 2 = (k + x.size + 1) + 1 by omega, spec_l00Word.j0, if_pos rfl]
    simp [show ¬ (x.size : Int) ≤ 40 by omega]
  rw [if_neg h2, if_pos (by omega), spec_letter]
  obtain ⟨d, hd⟩ : ∃ d, x.size = d + 1 := ⟨x.size - 1, by omega⟩
  have e := spec_name_l0 x hx d (k + 1) 1 (by omega) (by omega)
  simp only [Option.bind_some]
  rw [show k + x.size + 2 = (k + 1 + d + 1) + 1 by omega, spec_l00Word.j0]
  rw [show (1 : Int) = ((1 : Nat) : Int) from rfl] at *
  rw [e, hd, okFrom, okAt]
  have g1 : decide (((1 : Nat) : Int) ≤ ((d + 1 : Nat) : Int)) = true := by simp; omega
  have g2 : decide (((d + 1 : Nat) : Int) ≤ 40) = true := by simp; omega
  rw [g1, g2]
  show _ = some (((letter (bt x 0) || (decide (0 ≠ 0) && _)) && okFrom x d (0 + 1)) && _)
  cases letter (bt x 0) <;> simp
def words : List ByteArray := [(⟨#[115, 101, 108, 101, 99, 116]⟩ : ByteArray), (⟨#[102, 114, 111, 109]⟩ : ByteArray), (⟨#[106, 111, 105, 110]⟩ : ByteArray), (⟨#[111, 110]⟩ : ByteArray), (⟨#[119, 104, 101, 114, 101]⟩ : ByteArray), (⟨#[103, 114, 111, 117, 112]⟩ : ByteArray), (⟨#[98, 121]⟩ : ByteArray), (⟨#[111, 114, 100, 101, 114]⟩ : ByteArray), (⟨#[108, 105, 109, 105, 116]⟩ : ByteArray), (⟨#[100, 101, 115, 99]⟩ : ByteArray), (⟨#[105, 110, 115, 101, 114, 116]⟩ : ByteArray), (⟨#[105, 110, 116, 111]⟩ : ByteArray), (⟨#[118, 97, 108, 117, 101, 115]⟩ : ByteArray), (⟨#[117, 112, 100, 97, 116, 101]⟩ : ByteArray), (⟨#[115, 101, 116]⟩ : ByteArray), (⟨#[100, 101, 108, 101, 116, 101]⟩ : ByteArray), (⟨#[97, 110, 100]⟩ : ByteArray), (⟨#[111, 114]⟩ : ByteArray), (⟨#[110, 111, 116]⟩ : ByteArray), (⟨#[105, 115]⟩ : ByteArray), (⟨#[110, 117, 108, 108]⟩ : ByteArray), (⟨#[116, 114, 117, 101]⟩ : ByteArray), (⟨#[102, 97, 108, 115, 101]⟩ : ByteArray), (⟨#[99, 111, 117, 110, 116]⟩ : ByteArray), (⟨#[115, 117, 109]⟩ : ByteArray), (⟨#[109, 105, 110]⟩ : ByteArray), (⟨#[109, 97, 120]⟩ : ByteArray), (⟨#[97, 115]⟩ : ByteArray)]
theorem spec_words : spec_l09Words.f = some words := rfl
theorem impl_words : impl_reserved.f = some words := by kernel_rfl
def free (x : ByteArray) : Bool := nameok x && !(words.any fun y => x.toList == y.toList)
theorem impl_free (x : ByteArray) (hx : x.size ≤ maxLen) (k : Nat) (hk : x.size + 40 < k) : impl_isFree.f k x = some (free x) := by
  unfold impl_isFree.f free
  rw [impl_name x hx k (by omega), impl_words, Option.bind_some, Option.bind_some, contains_is words x (by decide) k (by have : words.length = 28 := rfl; omega), Option.bind_some]
  cases nameok x <;> simp
theorem spec_free_l0 (x : ByteArray) : ∀ d k i, i + d = words.length → spec_l09Name.l0 (k + d + 1) x (i : Int) = some (!((words.drop i).any fun y => x.toList == y.toList))
  | 0, k, i, h => by
    rw [show k + 0 + 1 = k + 1 from rfl, spec_l09Name.l0, spec_words, Option.bind_some, if_neg (by omega), List.drop_of_length_le (by omega)]; rfl
  | d + 1, k, i, h => by
    have hw : words.length = 28 := rfl
    have hlt : i < words.length := by omega
    rw [show k + (d + 1) + 1 = (k + d + 1) + 1 by omega, spec_l09Name.l0, spec_words, Option.bind_some, if_pos (by omega), Option.bind_some, if_pos (by omega), if_pos (by omega), next64 i 28 (by omega) (by simp only [maxLen]; omega), spec_free_l0 x d k (i + 1) (by omega), List.drop_eq_getElem_cons hlt, List.any_cons]
    rw [show rdOf ByteArray.empty words (i : Int) = words[i] by simp [rdOf, hlt]]
    by_cases c : words[i].toList = x.toList
    · rw [if_pos c, show (x.toList == words[i].toList) = true by rw [c]; simp]; rfl
    · rw [if_neg c, show (x.toList == words[i].toList) = false by simpa using fun e => c e.symm]; simp
theorem spec_free (x : ByteArray) (hx : x.size ≤ maxLen) (k : Nat) (hk : x.size + 40 < k) : spec_l09Name.f k x = some (free x) := by
  unfold spec_l09Name.f free
  have hw : words.length = 28 := rfl
  obtain ⟨m, rfl⟩ : ∃ m, k = m + words.length + 1 := ⟨k - 29, by omega⟩
  have e := spec_free_l0 x words.length m 0 (by omega)
  rw [show ((0 : Nat) : Int) = 0 from rfl, List.drop_zero] at e
  rw [spec_name x hx _ (by omega), Option.bind_some, e]
  cases nameok x <;> simp
end Go.Proofs.YtjknmljdnolilaaDoor.Pure
end

section
/- Copies, likeness and sizes of columns. -/
namespace Go.Proofs.YtjknmljdnolilaaDoor.Pure
open Go.RowKit Go.Proofs.YtjknmljdnolilaaDoor.X Go.Proofs.YtjknmljdnolilaaDoorW.PrintWords Go.Proofs.YtjknmljdnolilaaDoorW.PrintLast
theorem rdlColumn_ (V : List S97) (i : Nat) (h : i < V.length) : rd_T97 V (i : Int) = V[i] := by simp [rd_T97, h]
theorem rdiColumn_ (V : List S70) (i : Nat) (h : i < V.length) : rd_T70 V (i : Int) = V[i] := by simp [rd_T70, h]
def cvColumn (x : S97) : S70 := ⟨x.f0, x.f1, x.f2⟩
theorem eqColumn_refl (x : S70) : laws_eqColumn.f x.f0 x.f1 x.f2 x.f0 x.f1 x.f2 = some true := by unfold laws_eqColumn.f; simp
theorem eqColumnS_l0 (V : List S70) (hV : V.length ≤ 1048576) (d : Nat) : ∀ k i, V.length - i = d → i ≤ V.length → laws_eqColumnS.l0 (k + d + 1) V V (i : Int) = some true := by
  induction d with
  | zero => intro k i h1 h2; rw [laws_eqColumnS.l0, if_neg (by omega)]
  | succ d ih =>
    intro k i h1 h2
    rw [show k + (d + 1) + 1 = (k + d + 1) + 1 by omega, laws_eqColumnS.l0, if_pos (by omega), if_pos (by omega), if_pos (by omega), eqColumn_refl, Option.bind_some, if_pos rfl, next64 i V.length (by omega) (by simp only [maxLen]; omega)]
    exact ih k (i + 1) (by omega) (by omega)
theorem eqColumnS_refl (V : List S70) (hV : V.length ≤ 1048576) (k : Nat) (hk : V.length < k) : laws_eqColumnS.f k V V = some true := by
  obtain ⟨k, rfl⟩ : ∃ m, k = m + V.length + 1 := ⟨k - V.length - 1, by omega⟩
  unfold laws_eqColumnS.f
  rw [if_pos rfl]
  exact eqColumnS_l0 V hV V.length k 0 (by omega) (by omega)
theorem toColumnS_l0 (L : List S97) (hV : L.length ≤ 1048576) (d : Nat) : ∀ k i (R : List S70), L.length - i = d → i ≤ L.length → R.length = L.length →
    laws_toColumnS.l0 (k + d + 1) L R (i : Int) = some (R.take i ++ (L.drop i).map cvColumn) := by
  induction d with
  | zero =>
    intro k i R h1 h2 h3
    rw [laws_toColumnS.l0, if_neg (by omega), List.take_of_length_le (by omega), List.drop_of_length_le (by omega), List.map_nil, List.append_nil]
  | succ d ih =>
    intro k i R h1 h2 h3
    have hlt : i < L.length := by omega
    rw [show k + (d + 1) + 1 = (k + d + 1) + 1 by omega, laws_toColumnS.l0, if_pos (by omega), if_pos (by omega), rdlColumn_ L i hlt]
    unfold laws_toColumn.f
    rw [Option.bind_some, if_pos (by omega), next64 i L.length (by omega) (by simp only [maxLen]; omega), ih k (i + 1) _ (by omega) (by omega) (by rw [List.length_set]; exact h3)]
    congr 1
    rw [show (i : Int).toNat = i from rfl, List.drop_eq_getElem_cons hlt, List.map_cons]
    rw [show List.take (i + 1) (R.set i (⟨L[i].f0, L[i].f1, L[i].f2⟩ : S70)) = List.take i R ++ [cvColumn L[i]] from ?_, List.append_assoc]
    · rfl
    · rw [List.take_succ_eq_append_getElem (by rw [List.length_set]; omega), List.getElem_set_self]
      congr 1
      exact List.take_set_of_le (Nat.le_refl i)
theorem toColumnS_is (L : List S97) (hV : L.length ≤ 1048576) (k : Nat) (hk : L.length < k) : laws_toColumnS.f k L = some (L.map cvColumn) := by
  obtain ⟨k, rfl⟩ : ∃ m, k = m + L.length + 1 := ⟨k - L.length - 1, by omega⟩
  unfold laws_toColumnS.f
  rw [if_pos (by omega), if_pos (by omega)]
  have := toColumnS_l0 L hV L.length k 0 (List.replicate ((L.length : Int)).toNat z70) (by omega) (by omega) (by simp)
  simpa using this
theorem szColumn_is (x : S97) (m : Int) (hm : 0 ≤ m ∧ m ≤ 1048576) (hx : x.f0.size ≤ maxLen) : ∃ n, laws_szColumn.f x.f0 x.f1 x.f2 m = some n ∧ -1 ≤ n ∧ n ≤ m := by
  simp only [maxLen] at hx
  unfold laws_szColumn.f
  rw [wrap_in (m - (x.f0.size : Int)) (by omega)]
  by_cases c0 : m - (x.f0.size : Int) < 0
  · rw [if_pos c0]; exact ⟨_, rfl, by omega⟩
  rw [if_neg c0]
  exact ⟨_, rfl, by omega⟩
theorem szColumnS_l0 (L : List S97) (hV : L.length ≤ 1048576) (hx : ∀ x ∈ L, x.f0.size ≤ maxLen) (d : Nat) : ∀ k i (m : Int), L.length - i = d → i ≤ L.length → 0 ≤ m ∧ m ≤ 1048576 → ∃ n, laws_szColumnS.l0 (k + d + 1) L m (i : Int) = some n ∧ -1 ≤ n ∧ n ≤ m := by
  induction d with
  | zero => intro k i m h1 h2 hm; exact ⟨_, by rw [laws_szColumnS.l0, if_neg (by omega)], by omega⟩
  | succ d ih =>
    intro k i m h1 h2 hm
    have hlt : i < L.length := by omega
    rw [show k + (d + 1) + 1 = (k + d + 1) + 1 by omega, laws_szColumnS.l0, if_pos (by omega), if_pos (by omega), rdlColumn_ L i hlt]
    obtain ⟨n, e, h3, h4⟩ := szColumn_is L[i] m hm (hx _ (List.getElem_mem hlt))
    rw [e, Option.bind_some]
    by_cases hn : n < 0
    · rw [if_pos hn]; exact ⟨_, rfl, by omega⟩
    · rw [if_neg hn, next64 i L.length (by omega) (by simp only [maxLen]; omega)]
      obtain ⟨n2, e2, h5, h6⟩ := ih k (i + 1) n (by omega) (by omega) (by omega)
      exact ⟨n2, e2, by omega⟩
theorem szColumnS_is (L : List S97) (hM : L.length ≤ maxLen) (hx : ∀ x ∈ L, x.f0.size ≤ maxLen) (m : Int) (hm : 0 ≤ m ∧ m ≤ 1048576) (k : Nat) (hk : L.length < k) : ∃ n, laws_szColumnS.f k L m = some n ∧ -1 ≤ n ∧ n ≤ m ∧ (n < 0 ∨ L.length ≤ 1048576) := by
  simp only [maxLen] at hM
  unfold laws_szColumnS.f
  rw [wrap_in (m - (L.length : Int)) (by omega)]
  by_cases c : m - (L.length : Int) < 0
  · rw [if_pos c]; exact ⟨_, rfl, by omega⟩
  rw [if_neg c]
  obtain ⟨k, rfl⟩ : ∃ q, k = q + L.length + 1 := ⟨k - L.length - 1, by omega⟩
  obtain ⟨n, e, h1, h2⟩ := szColumnS_l0 L (by omega) hx L.length k 0 (m - (L.length : Int)) (by omega) (by omega) (by omega)
  exact ⟨n, e, by omega, by omega, .inr (by omega)⟩
end Go.Proofs.YtjknmljdnolilaaDoor.Pure
end

section
/- Copies and likeness of indexes. -/
namespace Go.Proofs.YtjknmljdnolilaaDoor.Pure
open Go.RowKit Go.Proofs.YtjknmljdnolilaaDoor.X Go.Proofs.YtjknmljdnolilaaDoorW.PrintWords Go.Proofs.YtjknmljdnolilaaDoorW.PrintLast
theorem rd_is (V : List Int) (i : Nat) (h : i < V.length) : rd V (i : Int) = V[i] := by simp [rd, h]
theorem toInt_l0 (L : List Int) (hV : L.length ≤ 1048576) (d : Nat) : ∀ k i (R : List Int), L.length - i = d → i ≤ L.length → R.length = L.length →
    laws_toIntS.l0 (k + d + 1) L R (i : Int) = some (R.take i ++ L.drop i) := by
  induction d with
  | zero =>
    intro k i R h1 h2 h3
    rw [laws_toIntS.l0, if_neg (by omega), List.take_of_length_le (by omega), List.drop_of_length_le (by omega), List.append_nil]
  | succ d ih =>
    intro k i R h1 h2 h3
    have hlt : i < L.length := by omega
    rw [show k + (d + 1) + 1 = (k + d + 1) + 1 by omega, laws_toIntS.l0, if_pos (by omega), if_pos (by omega), if_pos (by omega), rd_is L i hlt, next64 i L.length (by omega) (by simp only [maxLen]; omega), ih k (i + 1) _ (by omega) (by omega) (by rw [List.length_set]; exact h3)]
    congr 1
    rw [show (i : Int).toNat = i from rfl, List.drop_eq_getElem_cons hlt]
    rw [show List.take (i + 1) (R.set i L[i]) = List.take i R ++ [L[i]] from ?_, List.append_assoc]
    · rfl
    · rw [List.take_succ_eq_append_getElem (by rw [List.length_set]; omega), List.getElem_set_self]
      congr 1
      exact List.take_set_of_le (Nat.le_refl i)
theorem toInt_is (L : List Int) (hV : L.length ≤ 1048576) (k : Nat) (hk : L.length < k) : laws_toIntS.f k L = some L := by
  obtain ⟨k, rfl⟩ : ∃ m, k = m + L.length + 1 := ⟨k - L.length - 1, by omega⟩
  unfold laws_toIntS.f
  rw [if_pos (by omega), if_pos (by omega)]
  have := toInt_l0 L hV L.length k 0 (List.replicate ((L.length : Int)).toNat 0) (by omega) (by omega) (by simp)
  simpa using this
theorem eqInt_l0 (V : List Int) (hV : V.length ≤ 1048576) (d : Nat) : ∀ k i, V.length - i = d → i ≤ V.length → laws_eqIntS.l0 (k + d + 1) V V (i : Int) = some true := by
  induction d with
  | zero => intro k i h1 h2; rw [laws_eqIntS.l0, if_neg (by omega)]
  | succ d ih =>
    intro k i h1 h2
    rw [show k + (d + 1) + 1 = (k + d + 1) + 1 by omega, laws_eqIntS.l0, if_pos (by omega), if_pos (by omega), if_pos (by omega), if_pos rfl, next64 i V.length (by omega) (by simp only [maxLen]; omega)]
    exact ih k (i + 1) (by omega) (by omega)
theorem eqInt_refl (V : List Int) (hV : V.length ≤ 1048576) (k : Nat) (hk : V.length < k) : laws_eqIntS.f k V V = some true := by
  obtain ⟨k, rfl⟩ : ∃ m, k = m + V.length + 1 := ⟨k - V.length - 1, by omega⟩
  unfold laws_eqIntS.f
  rw [if_pos rfl]
  exact eqInt_l0 V hV V.length k 0 (by omega) (by omega)
def cvIndex (x : S99) : S75 := ⟨x.f0, x.f1⟩
theorem rdlIndex_ (V : List S99) (i : Nat) (h : i < V.length) : rd_T99 V (i : Int) = V[i] := by simp [rd_T99, h]
theorem rdiIndex_ (V : List S75) (i : Nat) (h : i < V.length) : rd_T75 V (i : Int) = V[i] := by simp [rd_T75, h]
theorem toIndex_is (x : S99) (M k : Nat) (hM : M ≤ 1048576) (hx : x.f1.length ≤ M) (hk : M < k) : laws_toIndex.f k x.f0 x.f1 = some (x.f0, x.f1) := by
  unfold laws_toIndex.f
  rw [toInt_is x.f1 (by omega) k (by omega)]; rfl
theorem toIndexS_l0 (L : List S99) (hV : L.length ≤ 1048576) (M : Nat) (hM : M ≤ 1048576) (hx : ∀ x ∈ L, x.f1.length ≤ M) (d : Nat) : ∀ k i (R : List S75), M ≤ k → L.length - i = d → i ≤ L.length → R.length = L.length →
    laws_toIndexS.l0 (k + d + 1) L R (i : Int) = some (R.take i ++ (L.drop i).map cvIndex) := by
  induction d with
  | zero =>
    intro k i R _ h1 h2 h3
    rw [laws_toIndexS.l0, if_neg (by omega), List.take_of_length_le (by omega), List.drop_of_length_le (by omega), List.map_nil, List.append_nil]
  | succ d ih =>
    intro k i R hk h1 h2 h3
    have hlt : i < L.length := by omega
    rw [show k + (d + 1) + 1 = (k + d + 1) + 1 by omega, laws_toIndexS.l0, if_pos (by omega), if_pos (by omega), rdlIndex_ L i hlt, toIndex_is L[i] M _ hM (hx _ (List.getElem_mem hlt)) (by omega),
      Option.bind_some, if_pos (by omega), next64 i L.length (by omega) (by simp only [maxLen]; omega), ih k (i + 1) _ hk (by omega) (by omega) (by rw [List.length_set]; exact h3)]
    congr 1
    rw [show (i : Int).toNat = i from rfl, List.drop_eq_getElem_cons hlt, List.map_cons]
    rw [show List.take (i + 1) (R.set i (⟨L[i].f0, L[i].f1⟩ : S75)) = List.take i R ++ [cvIndex L[i]] from ?_, List.append_assoc]
    · rfl
    · rw [List.take_succ_eq_append_getElem (by rw [List.length_set]; omega), List.getElem_set_self]
      congr 1
      exact List.take_set_of_le (Nat.le_refl i)
theorem toIndexS_is (L : List S99) (hV : L.length ≤ 1048576) (M : Nat) (hM : M ≤ 1048576) (hx : ∀ x ∈ L, x.f1.length ≤ M) (k : Nat) (hk : L.length + M < k) : laws_toIndexS.f k L = some (L.map cvIndex) := by
  obtain ⟨k, rfl⟩ : ∃ m, k = m + L.length + 1 := ⟨k - L.length - 1, by omega⟩
  unfold laws_toIndexS.f
  rw [if_pos (by omega), if_pos (by omega)]
  have := toIndexS_l0 L hV M hM hx L.length k 0 (List.replicate ((L.length : Int)).toNat z75) (by omega) (by omega) (by omega) (by simp)
  simpa using this
theorem eqIndex_refl (x : S75) (M k : Nat) (hM : M ≤ 1048576) (hx : x.f1.length ≤ M) (hk : M < k) : laws_eqIndex.f k x.f0 x.f1 x.f0 x.f1 = some true := by
  unfold laws_eqIndex.f
  rw [if_pos rfl, eqInt_refl x.f1 (by omega) k (by omega)]; rfl
theorem eqIndexS_l0 (V : List S75) (hV : V.length ≤ 1048576) (M : Nat) (hM : M ≤ 1048576) (hx : ∀ x ∈ V, x.f1.length ≤ M) (d : Nat) : ∀ k i, M ≤ k → V.length - i = d → i ≤ V.length → laws_eqIndexS.l0 (k + d + 1) V V (i : Int) = some true := by
  induction d with
  | zero => intro k i _ h1 h2; rw [laws_eqIndexS.l0, if_neg (by omega)]
  | succ d ih =>
    intro k i hk h1 h2
    have hlt : i < V.length := by omega
    rw [show k + (d + 1) + 1 = (k + d + 1) + 1 by omega, laws_eqIndexS.l0, if_pos (by omega), if_pos (by omega), if_pos (by omega), rdiIndex_ V i hlt, eqIndex_refl V[i] M _ hM (hx _ (List.getElem_mem hlt)) (by omega), Option.bind_some, if_pos rfl, next64 i V.length (by omega) (by simp only [maxLen]; omega)]
    exact ih k (i + 1) hk (by omega) (by omega)
theorem eqIndexS_refl (V : List S75) (hV : V.length ≤ 1048576) (M : Nat) (hM : M ≤ 1048576) (hx : ∀ x ∈ V, x.f1.length ≤ M) (k : Nat) (hk : V.length + M < k) : laws_eqIndexS.f k V V = some true := by
  obtain ⟨k, rfl⟩ : ∃ m, k = m + V.length + 1 := ⟨k - V.length - 1, by omega⟩
  unfold laws_eqIndexS.f
  rw [if_pos rfl]
  exact eqIndexS_l0 V hV M hM hx V.length k 0 (by omega) (by omega) (by omega)
theorem szIndex_is (x : S99) (m : Int) (hm : 0 ≤ m ∧ m ≤ 1048576) (hx : x.f0.size ≤ maxLen ∧ x.f1.length ≤ maxLen) :
    ∃ n, laws_szIndex.f x.f0 x.f1 m = some n ∧ -1 ≤ n ∧ n ≤ m ∧ (n < 0 ∨ x.f1.length ≤ 1048576) := by
  simp only [maxLen] at hx
  unfold laws_szIndex.f laws_szIntS.f
  rw [wrap_in (m - (x.f0.size : Int)) (by omega)]
  by_cases c : m - (x.f0.size : Int) < 0
  · rw [if_pos c]; exact ⟨_, rfl, by omega, by omega, .inl (by omega)⟩
  rw [if_neg c, wrap_in (m - (x.f0.size : Int) - (x.f1.length : Int)) (by omega)]
  by_cases c2 : m - (x.f0.size : Int) - (x.f1.length : Int) < 0
  · rw [if_pos c2, Option.bind_some, if_pos (by omega)]; exact ⟨_, rfl, by omega, by omega, .inl (by omega)⟩
  rw [if_neg c2, Option.bind_some, if_neg c2]
  exact ⟨_, rfl, by omega, by omega, .inr (by omega)⟩
theorem szIndexS_l0 (L : List S99) (hV : L.length ≤ 1048576) (hx : ∀ x ∈ L, x.f0.size ≤ maxLen ∧ x.f1.length ≤ maxLen) (d : Nat) : ∀ k i (m : Int), L.length - i = d → i ≤ L.length → 0 ≤ m ∧ m ≤ 1048576 →
    ∃ n, laws_szIndexS.l0 (k + d + 1) L m (i : Int) = some n ∧ -1 ≤ n ∧ n ≤ m ∧ (n < 0 ∨ ∀ x ∈ L.drop i, x.f1.length ≤ 1048576) := by
  induction d with
  | zero => intro k i m h1 h2 hm; exact ⟨_, by rw [laws_szIndexS.l0, if_neg (by omega)], by omega, by omega, .inr (by rw [List.drop_of_length_le (by omega)]; intro x hx; cases hx)⟩
  | succ d ih =>
    intro k i m h1 h2 hm
    have hlt : i < L.length := by omega
    rw [show k + (d + 1) + 1 = (k + d + 1) + 1 by omega, laws_szIndexS.l0, if_pos (by omega), if_pos (by omega), rdlIndex_ L i hlt]
    obtain ⟨n, e, h3, h4, h5⟩ := szIndex_is L[i] m hm (hx _ (List.getElem_mem hlt))
    rw [e, Option.bind_some]
    by_cases hn : n < 0
    · rw [if_pos hn]; exact ⟨_, rfl, by omega, by omega, .inl (by omega)⟩
    · rw [if_neg hn, next64 i L.length (by omega) (by simp only [maxLen]; omega)]
      obtain ⟨n2, e2, h6, h7, h8⟩ := ih k (i + 1) n (by omega) (by omega) (by omega)
      refine ⟨n2, e2, by omega, by omega, ?_⟩
      rcases h8 with h8 | h8
      · exact .inl h8
      · refine .inr fun x hx => ?_
        rw [List.drop_eq_getElem_cons hlt] at hx
        rcases List.mem_cons.1 hx with rfl | hx
        · exact h5.resolve_left hn
        · exact h8 x hx
theorem szIndexS_is (L : List S99) (hM : L.length ≤ maxLen) (hx : ∀ x ∈ L, x.f0.size ≤ maxLen ∧ x.f1.length ≤ maxLen) (m : Int) (hm : 0 ≤ m ∧ m ≤ 1048576) (k : Nat) (hk : L.length < k) :
    ∃ n, laws_szIndexS.f k L m = some n ∧ -1 ≤ n ∧ n ≤ m ∧ (n < 0 ∨ (L.length ≤ 1048576 ∧ ∀ x ∈ L, x.f1.length ≤ 1048576)) := by
  simp only [maxLen] at hM
  unfold laws_szIndexS.f
  rw [wrap_in (m - (L.length : Int)) (by omega)]
  by_cases c : m - (L.length : Int) < 0
  · rw [if_pos c]; exact ⟨_, rfl, by omega, by omega, .inl (by omega)⟩
  rw [if_neg c]
  obtain ⟨k, rfl⟩ : ∃ q, k = q + L.length + 1 := ⟨k - L.length - 1, by omega⟩
  obtain ⟨n, e, h1, h2, h3⟩ := szIndexS_l0 L (by omega) hx L.length k 0 (m - (L.length : Int)) (by omega) (by omega) (by omega)
  rw [List.drop_zero] at h3
  exact ⟨n, e, by omega, by omega, h3.imp id fun h => ⟨by omega, h⟩⟩
end Go.Proofs.YtjknmljdnolilaaDoor.Pure
end

section
/- The first place of what is looked for. -/
namespace Go.Proofs.YtjknmljdnolilaaDoor.Pure
open Go.RowKit Go.Proofs.YtjknmljdnolilaaDoor.X Go.Proofs.YtjknmljdnolilaaDoorW.PrintWords Go.Proofs.YtjknmljdnolilaaDoorW.PrintLast
theorem fIdx_nil {α : Type} (p : α → Bool) : fIdx p [] = -1 := rfl
theorem fIdx_cons {α : Type} (p : α → Bool) (x : α) (xs : List α) : fIdx p (x :: xs) = if p x = true then 0 else if fIdx p xs < 0 then -1 else fIdx p xs + 1 := by
  unfold fIdx
  rw [List.findIdx?_cons]
  by_cases h : p x = true
  · rw [if_pos h, h]; rfl
  · rw [if_neg h, if_neg h]
    cases xs.findIdx? p with
    | none => rfl
    | some j => show ((j + 1 : Nat) : Int) = _; rw [if_neg (show ¬ ((j : Nat) : Int) < 0 by omega)]; rfl
theorem fIdx_ge {α : Type} (p : α → Bool) (l : List α) : -1 ≤ fIdx p l := by
  unfold fIdx
  cases l.findIdx? p with
  | none => exact Int.le_refl _
  | some j => show (-1 : Int) ≤ ((j : Nat) : Int); omega
theorem fIdx_self {α : Type} (p : α → Bool) : ∀ (l : List α) (i : Nat) (h : i < l.length), p l[i] = true → (fIdx p l = (i : Int) ↔ fIdx p (l.take i) < 0)
  | [], i, h, _ => by simp at h
  | x :: xs, 0, _, hp => by
    have hx : p x = true := hp
    rw [fIdx_cons, if_pos hx, List.take_zero, fIdx_nil]; simp
  | x :: xs, i + 1, h, hp => by
    rw [List.take_succ_cons, fIdx_cons, fIdx_cons]
    by_cases hx : p x = true
    · rw [if_pos hx, if_pos hx]
      constructor
      · intro e; omega
      · intro e; omega
    · rw [if_neg hx, if_neg hx]
      have ih := fIdx_self p xs i (by simpa using h) hp
      have g1 := fIdx_ge p xs
      have g2 := fIdx_ge p (xs.take i)
      by_cases a : fIdx p xs < 0
      · rw [if_pos a]
        have : ¬ fIdx p (xs.take i) < 0 := fun b => by have := ih.2 b; omega
        rw [if_neg this]
        constructor <;> intro e <;> omega
      · rw [if_neg a]
        by_cases b : fIdx p (xs.take i) < 0
        · rw [if_pos b]; have := ih.2 b; constructor <;> intro e <;> omega
        · rw [if_neg b]
          have : fIdx p xs ≠ (i : Int) := fun e => b (ih.1 e)
          constructor <;> intro e <;> omega
end Go.Proofs.YtjknmljdnolilaaDoor.Pure
end

section
/- Columns and indexes by their names. -/
namespace Go.Proofs.YtjknmljdnolilaaDoor.Pure
open Go.RowKit Go.Proofs.YtjknmljdnolilaaDoor.X Go.Proofs.YtjknmljdnolilaaDoorW.PrintWords Go.Proofs.YtjknmljdnolilaaDoorW.PrintLast
theorem findColumn_l0 (V : List S70) (t : ByteArray) (hV : V.length ≤ 1048576) (d : Nat) : ∀ k i, V.length - i = d → i ≤ V.length →
    spec_l09Column.l0 (k + d + 1) V t (i : Int) = some (if fIdx (fun x => x.f0.toList == t.toList) (V.drop i) < 0 then -1 else (i : Int) + fIdx (fun x => x.f0.toList == t.toList) (V.drop i)) := by
  induction d with
  | zero => intro k i h1 h2; rw [spec_l09Column.l0, if_neg (by omega), List.drop_of_length_le (by omega), fIdx_nil]; rfl
  | succ d ih =>
    intro k i h1 h2
    have hlt : i < V.length := by omega
    rw [show k + (d + 1) + 1 = (k + d + 1) + 1 by omega, spec_l09Column.l0, if_pos (by omega), if_pos (by omega), rdiColumn_ V i hlt, next64 i V.length (by omega) (by simp only [maxLen]; omega), ih k (i + 1) (by omega) (by omega), List.drop_eq_getElem_cons hlt, fIdx_cons]
    by_cases c : V[i].f0.toList = t.toList
    · rw [if_pos c, if_pos (show (V[i].f0.toList == t.toList) = true by rw [c]; simp)]; simp
    · rw [if_neg c, if_neg (show ¬ (V[i].f0.toList == t.toList) = true by simpa using c)]
      have g := fIdx_ge (fun x : S70 => x.f0.toList == t.toList) (V.drop (i + 1))
      by_cases a : fIdx (fun x : S70 => x.f0.toList == t.toList) (V.drop (i + 1)) < 0
      · rw [if_pos a, if_pos a, if_pos (by decide)]
      · rw [if_neg a, if_neg a, if_neg (by omega)]; congr 1; omega
theorem findColumn_is (V : List S70) (t : ByteArray) (hV : V.length ≤ 1048576) (k : Nat) (hk : V.length < k) : spec_l09Column.f k V t = some (fIdx (fun x => x.f0.toList == t.toList) V) := by
  obtain ⟨k, rfl⟩ : ∃ m, k = m + V.length + 1 := ⟨k - V.length - 1, by omega⟩
  unfold spec_l09Column.f
  have e := findColumn_l0 V t hV V.length k 0 (by omega) (by omega)
  rw [show ((0 : Nat) : Int) = 0 from rfl, List.drop_zero] at e
  rw [e]
  have g := fIdx_ge (fun x : S70 => x.f0.toList == t.toList) V
  split
  · congr 1; omega
  · congr 1; omega
theorem findIndex_l0 (V : List S75) (t : ByteArray) (hV : V.length ≤ 1048576) (d : Nat) : ∀ k i, V.length - i = d → i ≤ V.length →
    spec_l09Index.l0 (k + d + 1) V t (i : Int) = some (if fIdx (fun x => x.f0.toList == t.toList) (V.drop i) < 0 then -1 else (i : Int) + fIdx (fun x => x.f0.toList == t.toList) (V.drop i)) := by
  induction d with
  | zero => intro k i h1 h2; rw [spec_l09Index.l0, if_neg (by omega), List.drop_of_length_le (by omega), fIdx_nil]; rfl
  | succ d ih =>
    intro k i h1 h2
    have hlt : i < V.length := by omega
    rw [show k + (d + 1) + 1 = (k + d + 1) + 1 by omega, spec_l09Index.l0, if_pos (by omega), if_pos (by omega), rdiIndex_ V i hlt, next64 i V.length (by omega) (by simp only [maxLen]; omega), ih k (i + 1) (by omega) (by omega), List.drop_eq_getElem_cons hlt, fIdx_cons]
    by_cases c : V[i].f0.toList = t.toList
    · rw [if_pos c, if_pos (show (V[i].f0.toList == t.toList) = true by rw [c]; simp)]; simp
    · rw [if_neg c, if_neg (show ¬ (V[i].f0.toList == t.toList) = true by simpa using c)]
      have g := fIdx_ge (fun x : S75 => x.f0.toList == t.toList) (V.drop (i + 1))
      by_cases a : fIdx (fun x : S75 => x.f0.toList == t.toList) (V.drop (i + 1)) < 0
      · rw [if_pos a, if_pos a, if_pos (by decide)]
      · rw [if_neg a, if_neg a, if_neg (by omega)]; congr 1; omega
theorem findIndex_is (V : List S75) (t : ByteArray) (hV : V.length ≤ 1048576) (k : Nat) (hk : V.length < k) : spec_l09Index.f k V t = some (fIdx (fun x => x.f0.toList == t.toList) V) := by
  obtain ⟨k, rfl⟩ : ∃ m, k = m + V.length + 1 := ⟨k - V.length - 1, by omega⟩
  unfold spec_l09Index.f
  have e := findIndex_l0 V t hV V.length k 0 (by omega) (by omega)
  rw [show ((0 : Nat) : Int) = 0 from rfl, List.drop_zero] at e
  rw [e]
  have g := fIdx_ge (fun x : S75 => x.f0.toList == t.toList) V
  split
  · congr 1; omega
  · congr 1; omega
end Go.Proofs.YtjknmljdnolilaaDoor.Pure
end

section
/- Right indexes. -/
namespace Go.Proofs.YtjknmljdnolilaaDoor.Pure
open Go.RowKit Go.Proofs.YtjknmljdnolilaaDoor.X Go.Proofs.YtjknmljdnolilaaDoorW.PrintWords Go.Proofs.YtjknmljdnolilaaDoorW.PrintLast
theorem has_l0 (V : List Int) (t : Int) (hV : V.length ≤ 1048576) (d : Nat) : ∀ k i, V.length - i = d → i ≤ V.length → spec_l03Has.l0 (k + d + 1) V t (i : Int) = some ((V.drop i).contains t) := by
  induction d with
  | zero => intro k i h1 h2; rw [spec_l03Has.l0, if_neg (by omega), List.drop_of_length_le (by omega)]; rfl
  | succ d ih =>
    intro k i h1 h2
    have hlt : i < V.length := by omega
    rw [show k + (d + 1) + 1 = (k + d + 1) + 1 by omega, spec_l03Has.l0, if_pos (by omega), if_pos (by omega), rd_is V i hlt, next64 i V.length (by omega) (by simp only [maxLen]; omega), ih k (i + 1) (by omega) (by omega), List.drop_eq_getElem_cons hlt, List.contains_cons]
    by_cases c : V[i] = t
    · rw [if_pos c, c]; simp
    · rw [if_neg c, show (t == V[i]) = false by simpa using fun e => c e.symm]; simp
theorem has_is (V : List Int) (t : Int) (hV : V.length ≤ 1048576) (k : Nat) (hk : V.length < k) : spec_l03Has.f k V t = some (V.contains t) := by
  obtain ⟨k, rfl⟩ : ∃ m, k = m + V.length + 1 := ⟨k - V.length - 1, by omega⟩
  have e := has_l0 V t hV V.length k 0 (by omega) (by omega)
  rw [List.drop_zero] at e
  exact e
theorem index_int_l0 (V : List Int) (t : Int) (hV : V.length ≤ 1048576) (d : Nat) : ∀ k i, V.length - i = d → i ≤ V.length →
    ∃ r, slices_Index_int_int.l0 (k + d + 1) V t (V.length : Int) (i : Int) = some r ∧ (0 ≤ r ↔ (V.drop i).contains t = true) := by
  induction d with
  | zero => intro k i h1 h2; exact ⟨-1, by rw [slices_Index_int_int.l0, if_neg (by omega)], by rw [List.drop_of_length_le (by omega)]; simp⟩
  | succ d ih =>
    intro k i h1 h2
    have hlt : i < V.length := by omega
    rw [show k + (d + 1) + 1 = (k + d + 1) + 1 by omega, slices_Index_int_int.l0, if_pos (by omega), if_pos (by omega), if_pos (by omega), rd_is V i hlt, next64 i V.length (by omega) (by simp only [maxLen]; omega), List.drop_eq_getElem_cons hlt, List.contains_cons]
    by_cases c : t = V[i]
    · rw [if_pos c]; exact ⟨_, rfl, by rw [show (t == V[i]) = true by simpa using c]; simp⟩
    · rw [if_neg c, show (t == V[i]) = false by simpa using c, Bool.false_or]; exact ih k (i + 1) (by omega) (by omega)
theorem contains_int (V : List Int) (t : Int) (hV : V.length ≤ 1048576) (k : Nat) (hk : V.length < k) : slices_Contains_int_int.f k V t = some (V.contains t) := by
  obtain ⟨k, rfl⟩ : ∃ m, k = m + V.length + 1 := ⟨k - V.length - 1, by omega⟩
  unfold slices_Contains_int_int.f slices_Index_int_int.f
  obtain ⟨r, e, h⟩ := index_int_l0 V t hV V.length k 0 (by omega) (by omega)
  rw [List.drop_zero] at h
  rw [show ((0 : Nat) : Int) = 0 from rfl] at e
  rw [e, Option.bind_some]
  congr 1
  rw [Bool.eq_iff_iff, decide_eq_true_eq]
  exact h
/-- Whether a number stands twice, told from a place on. -/
def twF (L : List Int) : Nat → Nat → Bool
  | 0, _ => false
  | d + 1, i => (L.take i).contains (rd L (i : Int)) || twF L d (i + 1)
theorem twice_l0 (L : List Int) (hV : L.length ≤ 1048576) : ∀ d k i, i + d = L.length → L.length ≤ k → impl_isTwice.l0 (k + d + 1) L L (L.length : Int) (i : Int) = some (twF L d i)
  | 0, k, i, h, hk => by rw [show k + 0 + 1 = k + 1 from rfl, impl_isTwice.l0, if_neg (by omega)]; rfl
  | d + 1, k, i, h, hk => by
    rw [show k + (d + 1) + 1 = (k + d + 1) + 1 by omega, impl_isTwice.l0, if_pos (by omega), if_pos (by omega), if_pos (by omega), if_pos (by omega), show (i : Int).toNat = i from rfl,
      contains_int (L.take i) _ (by rw [List.length_take]; omega) _ (by rw [List.length_take]; omega), Option.bind_some, next64 i L.length (by omega) (by simp only [maxLen]; omega), twice_l0 L hV d k (i + 1) (by omega) hk, twF]
    cases (L.take i).contains (rd L (i : Int)) <;> simp
theorem twice_is (L : List Int) (hV : L.length ≤ 1048576) (k : Nat) (hk : L.length + L.length < k) : impl_isTwice.f k L = some (twF L L.length 0) := by
  obtain ⟨k, rfl⟩ : ∃ m, k = m + L.length + 1 := ⟨k - L.length - 1, by omega⟩
  exact twice_l0 L hV L.length k 0 (by omega) (by omega)
def inr (n : Int) (x : Int) : Bool := decide (0 ≤ x) && decide (x ≤ n - 1)
theorem spec_index_l0 (n0 : ByteArray) (C : List S70) (q : Int) (X : List S75) (nm : ByteArray) (L : List Int) (hV : L.length ≤ 1048576) (hC : C.length ≤ 1048576) : ∀ d k i, i + d = L.length → L.length ≤ k →
    spec_l09IndexOK.l0 (k + d + 1) (i : Int) n0 C q X nm L = some ((L.drop i).all (inr (C.length : Int)) && !(twF L d i))
  | 0, k, i, h, hk => by rw [show k + 0 + 1 = k + 1 from rfl, spec_l09IndexOK.l0, if_neg (by omega), List.drop_of_length_le (by omega)]; rfl
  | d + 1, k, i, h, hk => by
    have hlt : i < L.length := by omega
    rw [show k + (d + 1) + 1 = (k + d + 1) + 1 by omega, spec_l09IndexOK.l0, if_pos (by omega), if_pos (by omega), if_pos (by omega), show (i : Int).toNat = i from rfl, wrap_in ((C.length : Int) - 1) (by omega), spec_in,
      has_is (L.take i) _ (by rw [List.length_take]; omega) _ (by rw [List.length_take]; omega), Option.bind_some, Option.bind_some, next64 i L.length (by omega) (by simp only [maxLen]; omega), spec_index_l0 n0 C q X nm L hV hC d k (i + 1) (by omega) hk, twF, List.drop_eq_getElem_cons hlt, List.all_cons, rd_is L i hlt]
    show (if inr (C.length : Int) L[i] = true then _ else _) = _
    cases inr (C.length : Int) L[i] <;> cases (L.take i).contains L[i] <;> simp
end Go.Proofs.YtjknmljdnolilaaDoor.Pure
end
