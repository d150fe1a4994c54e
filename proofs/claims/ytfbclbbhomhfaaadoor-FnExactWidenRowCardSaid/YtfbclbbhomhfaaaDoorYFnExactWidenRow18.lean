/- Contracts of functions, and what is told of them. -/
import Derived.Test.YtfbclbbhomhfaaaDoorYFnExactWidenRow3
import Derived.Test.YtfbclbbhomhfaaaDoorYFnExactWidenRow17
import Derived.Test.YtfbclbbhomhfaaaDoorYFnExactWidenRow16
set_option linter.unusedSimpArgs false
set_option linter.unusedVariables false
section
namespace Go.Proofs.YtfbclbbhomhfaaaDoor.X
open Go.RowKit Go.Proofs.YtfbclbbhomhfaaaDoorW.PrintWords Go.Proofs.YtfbclbbhomhfaaaDoorW.PrintLast Go.Proofs.YtfbclbbhomhfaaaDoorW.PrintMore
attribute [local go_sem] max2_int min2_int max_two min_two max_three min_three max_four min_four   -- for this text's walks alone

section
def spec_WidenRow.f (k : Nat) (a0_0 : ByteArray) (l0_1 : List (S72)) (a0_2 : Int) (l0_3 : List (S74)) (l1 : List (S41)) (a2_0 : Int) (a2_1 : Int) (a2_2 : ByteArray) : Option ((List (S41)) × Int) := if (l1.length : Int) > 4096 then (some ((([] : List (S41))), 2)) else ((spec_CheckRow.f k a0_0 l0_1 a0_2 l0_3 l1).bind fun bt106 => (if bt106.1 = 0 then (if (l1.length : Int) = 8 then (some ((([] : List (S41))), 7)) else ((spec_ValueOK.f a2_0 a2_1 a2_2).bind fun t114 => (if t114 = true then ((some (([] : List (S41)) : List (S41))).bind fun y115 => (if y115.length + l1.length < 4398046511104 then ((some (y115 ++ l1 : List (S41))).bind fun y118 => ((some (([(⟨a2_0, a2_1, a2_2⟩ : S41)] : List (S41)) : List (S41))).bind fun y121 => (if y118.length + y121.length < 4398046511104 then (some ((y118 ++ y121), 0)) else (none)))) else (none))) else (some ((([] : List (S41))), 1))))) else (some ((([] : List (S41))), bt106.1))))
theorem spec_WidenRow.mono : ∀ a0 a1 a2 a3 a4 a5 a6 a7 k, LeO (spec_WidenRow.f k a0 a1 a2 a3 a4 a5 a6 a7) (spec_WidenRow.f (k + 1) a0 a1 a2 a3 a4 a5 a6 a7) := by
  intro a0 a1 a2 a3 a4 a5 a6 a7 k
  unfold spec_WidenRow.f
  repeat' first
      | (with_reducible exact spec_CheckRow.mono _ _ _ _ _ _)
      | (with_reducible exact LeO.refl _)
      | (with_reducible exact LeO.none _)
      | (with_reducible refine LeO.ite ?_ ?_)
      | (with_reducible refine LeO.bind ?_ (fun _ => ?_))
      | exact spec_CheckRow.mono _ _ _ _ _ _
      | exact LeO.none _
      | refine LeO.ite ?_ ?_
      | refine LeO.bind ?_ (fun _ => ?_)
def spec_WidenRow.T10 : Bool × List (List Nat × List Nat) := (true, [([], []), ([], []), ([0, 1], [0, 1]), ([], []), ([3], [3]), ([2, 4, 2], [2, 4]), ([5, 5, 0, 1, 2, 3, 4, 5], [5]), ([6, 0, 1, 2, 3, 4, 5, 6], [])])
def spec_WidenRow.B10 : List Nat := [0, 0, 3, 0, 8, 31, 63, 127]
theorem spec_WidenRow.tab10 : rtab .any (opsOf Tryd.f7 10) = spec_WidenRow.T10 := by kernel_rfl
theorem spec_WidenRow.bits10 : waitsOk spec_WidenRow.T10.2 spec_WidenRow.B10 = true := by kernel_rfl
set_option maxHeartbeats 8000000 in
set_option maxRecDepth 100000 in
theorem spec_WidenRow.calls (k : Nat) (a0_0 : ByteArray) (A0_1 : Option Addr) (c0_1 : Nat) (l0_1 : List (S72)) (a0_2 : Int) (A0_3 : Option Addr) (c0_3 : Nat) (l0_3 : List (S74)) (A1 : Option Addr) (c1 : Nat) (l1 : List (S41)) (a2_0 : Int) (a2_1 : Int) (a2_2 : ByteArray) (r1 : List (S41)) (r2 : Int) (w : World) (hr0_1 : Kd.C k72 w A0_1 l0_1.length l0_1) (hc0_1 : l0_1.length ≤ c0_1) (hr0_3 : Kd.C k74 w A0_3 l0_3.length l0_3) (hc0_3 : l0_3.length ≤ c0_3) (hr1 : Kd.C k41 w A1 l1.length l1) (hc1 : l1.length ≤ c1) (h : spec_WidenRow.f k a0_0 l0_1 a0_2 l0_3 l1 a2_0 a2_1 a2_2 = some (r1, r2)) :
    Calls Tryd.prog 7 #[.agg #[.string a0_0, .slice A0_1 l0_1.length c0_1, .int .i64 a0_2, .slice A0_3 l0_3.length c0_3], .slice A1 l1.length c1, .agg #[.int .i64 a2_0, .int .i64 a2_1, .string a2_2]] w fun e w' => ∃ v0_ : Value, e = .returned (.tuple #[v0_, .int .i64 r2]) ∧ Kd.R k41 41 w' w.heap.size (fun _ => True) v0_ r1 ∧ Below w.heap.size w w' := by
  have hu38 := Tryd.underlying38
  have hu41 := Tryd.underlying41
  have HR0_1 := ak_ hr0_1
  have HC0_1 := ak_ hc0_1
  clear hr0_1 hc0_1
  have HR0_3 := ak_ hr0_3
  have HC0_3 := ak_ hc0_3
  clear hr0_3 hc0_3
  have HR1 := ak_ hr1
  have HC1 := ak_ hc1
  clear hr1 hc1
  have HB := ak_ (Below.refl w.heap.size w)
  have H : (if (l1.length : Int) > 4096 then (some ((([] : List (S41))), 2)) else ((spec_CheckRow.f k a0_0 l0_1 a0_2 l0_3 l1).bind fun bt106 => (if bt106.1 = 0 then (if (l1.length : Int) = 8 then (some ((([] : List (S41))), 7)) else ((spec_ValueOK.f a2_0 a2_1 a2_2).bind fun t114 => (if t114 = true then ((some (([] : List (S41)) : List (S41))).bind fun y115 => (if y115.length + l1.length < 4398046511104 then ((some (y115 ++ l1 : List (S41))).bind fun y118 => ((some (([(⟨a2_0, a2_1, a2_2⟩ : S41)] : List (S41)) : List (S41))).bind fun y121 => (if y118.length + y121.length < 4398046511104 then (some ((y118 ++ y121), 0)) else (none)))) else (none))) else (some ((([] : List (S41))), 1))))) else (some ((([] : List (S41))), bt106.1))))) = some (r1, r2) := h
  clear h
  by_cases c4 : (l1.length : Int) > 4096
  · rw [if_pos c4] at H
    have c4b0 : decide (4096 < (l1.length : Int)) = true := decide_eq_true c4
    have c4b1 : decide (4096 < l1.length) = true := decide_eq_true (by omega)
    clear c4
    obtain ⟨y103, hy103⟩ : ∃ y_ : List (S41), y_ = (([] : List (S41))) := ⟨_, rfl⟩
    replace H : (some (y103, 2)) = some (r1, r2) := by first | (rw [hy103]; with_reducible exact H) | (have H2_ := (Option.bind_some _ _).symm.trans H; rw [hy103]; with_reducible exact H2_) | (have H2_ := (Option.bind_some _ _).symm.trans H; with_reducible exact H2_) | with_reducible exact H | (rw [hy103]; exact H) | exact H
    have Ny103 := ak_ hy103
    clear hy103
    simp only [Option.some.injEq, Prod.mk.injEq] at H
    obtain ⟨rfl, rfl⟩ := H
    go_enter Tryd.func7, Tryd.ntmps7
    go_wp2_with (first | ((with_reducible refine gate_dst (N := 3) rfl ?_); refine bx_ 3 (cs := #[.string a0_0, .slice A0_1 l0_1.length c0_1, .int .i64 a0_2, .slice A0_3 l0_3.length c0_3]) (t := 38) (h_ := ?_); intro gb101 hg w5 hbox hb; have n_ := a4_ (below_step z0_ hb) (hbox) ((gs_ w hg (below_size z0_))) ((gs_ w hg (below_size z0_))); clear HB; obtain ⟨HB, BK101, GW101, GE101⟩ := n_; clear hb hbox hg) | ((with_reducible refine gate_dst (N := 5) rfl ?_); refine bx_ 5 (cs := #[.int .i64 a2_0, .int .i64 a2_1, .string a2_2]) (t := 41) (h_ := ?_); intro gb102 hg w6 hbox hb; have n_ := a7_ (blk_below (g := gb101) (o := .cells #[.string a0_0, .slice A0_1 l0_1.length c0_1, .int .i64 a0_2, .slice A0_3 l0_3.length c0_3] 38 (0, 0)) z2_ hb) (below_step z1_ hb) (hbox) ((gs_ w hg (below_size z1_))) ((gs_ w hg (below_size z1_))) ((z17_ : gb101 ≠ gb102)) ((z18_ : gb102 ≠ gb101)); clear BK101 HB; obtain ⟨BK101, HB, BK102, GW102, GE102, NB101_102, NB102_101⟩ := n_; clear hb hbox hg) | ((with_reducible refine gate_dst (N := 13) rfl ?_); refine Kd.R_lit k41 _ 41 ?hg (N := 13) ?hd (xs := ([] : List (S41))) (inner := []) (ok := fun _ => True) (okp := fun _ => True) ?hr ?hp (fun _ hk => hk) trivial (Below.refl _ _) (Nat.le_refl _) (by simp) ?_; (case hd => rfl); (case hg => rfl); (case hr => first | (go_simp; done) | (go_simp; rfl)); (case hp => exact (Reps.none _ _)); intro v104 w7 ho8 hb hg_ hnew_; clear hg_ hnew_; (first | rw [← Ny103.out] at ho8 | (simp only [Int.reduceToNat] at ho8; rw [← Ny103.out] at ho8)); have n_ := a4_ (Kd.R_lower (Kd.R_newB ho8 (g := gb102) (o := .cells #[.int .i64 a2_0, .int .i64 a2_1, .string a2_2] 41 (0, 0)) z5_) (below_size z3_)) (blk_below (g := gb101) (o := .cells #[.string a0_0, .slice A0_1 l0_1.length c0_1, .int .i64 a0_2, .slice A0_3 l0_3.length c0_3] 38 (0, 0)) z2_ hb) (blk_below (g := gb102) (o := .cells #[.int .i64 a2_0, .int .i64 a2_1, .string a2_2] 41 (0, 0)) z5_ hb) (below_step z3_ hb); clear BK101 BK102 HB; obtain ⟨HO105, BK101, BK102, HB⟩ := n_; clear hb ho8))
    go_ret2
    exact ⟨_, z6_, by (with_reducible repeat (first | apply Kd.R_alloc | apply Kd.R_drewN | apply Kd.R_drew)); exact Kd.R_mono HO105.out (fun _ hk => trivial), z3_⟩
  rw [if_neg c4] at H
  have c4b0 : decide (4096 < (l1.length : Int)) = false := decide_eq_false c4
  have c4b1 : decide (4096 < l1.length) = false := decide_eq_false (by omega)
  clear c4
  replace H := Option.bind_eq_some_iff.mp H
  obtain ⟨⟨t106, t107⟩, A90, H⟩ := H
  replace H : (if t106 = 0 then (if (l1.length : Int) = 8 then (some ((([] : List (S41))), 7)) else ((spec_ValueOK.f a2_0 a2_1 a2_2).bind fun t114 => (if t114 = true then ((some (([] : List (S41)) : List (S41))).bind fun y115 => (if y115.length + l1.length < 4398046511104 then ((some (y115 ++ l1 : List (S41))).bind fun y118 => ((some (([(⟨a2_0, a2_1, a2_2⟩ : S41)] : List (S41)) : List (S41))).bind fun y121 => (if y118.length + y121.length < 4398046511104 then (some ((y118 ++ y121), 0)) else (none)))) else (none))) else (some ((([] : List (S41))), 1))))) else (some ((([] : List (S41))), t106))) = some (r1, r2) := H
  have A9 := ak_ A90
  clear A90
  by_cases c10 : t106 = 0
  rotate_left
  · rw [if_neg c10] at H
    have c10b0 : (t106 == 0) = false := beq_eq_false_iff_ne.mpr c10
    have c10b1 : (t106 != 0) = true := bne_iff_ne.mpr c10
    obtain ⟨y108, hy108⟩ : ∃ y_ : List (S41), y_ = (([] : List (S41))) := ⟨_, rfl⟩
    replace H : (some (y108, t106)) = some (r1, r2) := by first | (rw [hy108]; with_reducible exact H) | (have H2_ := (Option.bind_some _ _).symm.trans H; rw [hy108]; with_reducible exact H2_) | (have H2_ := (Option.bind_some _ _).symm.trans H; with_reducible exact H2_) | with_reducible exact H | (rw [hy108]; exact H) | exact H
    have Ny108 := ak_ hy108
    clear hy108
    simp only [Option.some.injEq, Prod.mk.injEq] at H
    obtain ⟨rfl, rfl⟩ := H
    go_enter Tryd.func7, Tryd.ntmps7
    go_wp2_with (first | ((with_reducible refine gate_dst (N := 3) rfl ?_); refine bx_ 3 (cs := #[.string a0_0, .slice A0_1 l0_1.length c0_1, .int .i64 a0_2, .slice A0_3 l0_3.length c0_3]) (t := 38) (h_ := ?_); intro gb101 hg w48 hbox hb; have n_ := a4_ (below_step z0_ hb) (hbox) ((gs_ w hg (below_size z0_))) ((gs_ w hg (below_size z0_))); clear HB; obtain ⟨HB, BK101, GW101, GE101⟩ := n_; clear hb hbox hg) | ((with_reducible refine gate_dst (N := 5) rfl ?_); refine bx_ 5 (cs := #[.int .i64 a2_0, .int .i64 a2_1, .string a2_2]) (t := 41) (h_ := ?_); intro gb102 hg w49 hbox hb; have n_ := a7_ (blk_below (g := gb101) (o := .cells #[.string a0_0, .slice A0_1 l0_1.length c0_1, .int .i64 a0_2, .slice A0_3 l0_3.length c0_3] 38 (0, 0)) z2_ hb) (below_step z1_ hb) (hbox) ((gs_ w hg (below_size z1_))) ((gs_ w hg (below_size z1_))) ((z17_ : gb101 ≠ gb102)) ((z18_ : gb102 ≠ gb101)); clear BK101 HB; obtain ⟨BK101, HB, BK102, GW102, GE102, NB101_102, NB102_101⟩ := n_; clear hb hbox hg; have hnb50 := NB101_102.out; have hnc50 := NB102_101.out; obtain ⟨hcz51_0, hcz51_1, hcz51_2, hcz51_3, hfz51_0, hfz51_1, hfz51_2, hfz51_3⟩ := bcf4 BK101.out) | ((with_reducible refine gate_callee (f := 19) rfl ?_); refine goesL_ (some 17) rfl rfl Tryd.func19 (by kernel_rfl) rfl #[.agg #[.string a0_0, .slice A0_1 l0_1.length c0_1, .int .i64 a0_2, .slice A0_3 l0_3.length c0_3], .slice A1 l1.length c1] rfl z4_ ?_; (with_reducible refine (spec_CheckRow.calls k a0_0 _ _ l0_1 a0_2 _ _ l0_3 _ _ l1 t106 t107 _ ?side1 ?side2 ?side3 ?side4 ?side5 ?side6 A9.out).mono ?_); (case side1 => repeat (first | exact (Kd.C_below HR0_1.out HB.out) | (with_reducible refine Kd.C_alloc ?_ _) | (with_reducible refine Kd.C_drewN ?_ _) | (with_reducible refine Kd.C_drew ?_))); (case side2 => exact HC0_1.out); (case side3 => repeat (first | exact (Kd.C_below HR0_3.out HB.out) | (with_reducible refine Kd.C_alloc ?_ _) | (with_reducible refine Kd.C_drewN ?_ _) | (with_reducible refine Kd.C_drew ?_))); (case side4 => exact HC0_3.out); (case side5 => repeat (first | exact (Kd.C_below HR1.out HB.out) | (with_reducible refine Kd.C_alloc ?_ _) | (with_reducible refine Kd.C_drewN ?_ _) | (with_reducible refine Kd.C_drew ?_))); (case side6 => exact HC1.out); rintro e w52 ⟨rfl, hb⟩; refine ⟨_, rfl, ?_⟩; have n_ := a3_ (blk_below (g := gb101) (o := .cells #[.string a0_0, .slice A0_1 l0_1.length c0_1, .int .i64 a0_2, .slice A0_3 l0_3.length c0_3] 38 (0, 0)) z2_ hb) (blk_below (g := gb102) (o := .cells #[.int .i64 a2_0, .int .i64 a2_1, .string a2_2] 41 (0, 0)) z5_ hb) (below_step z3_ hb); clear BK101 BK102 HB; obtain ⟨BK101, BK102, HB⟩ := n_; (try clear hb); (try clear hb2); (try clear hk); (try clear hi)) | ((with_reducible refine gate_dst (N := 22) rfl ?_); refine Kd.R_lit k41 _ 41 ?hg (N := 22) ?hd (xs := ([] : List (S41))) (inner := []) (ok := fun _ => True) (okp := fun _ => True) ?hr ?hp (fun _ hk => hk) trivial (Below.refl _ _) (Nat.le_refl _) (by simp) ?_; (case hd => rfl); (case hg => rfl); (case hr => first | (go_simp; done) | (go_simp; rfl)); (case hp => exact (Reps.none _ _)); intro v109 w53 ho54 hb hg_ hnew_; clear hg_ hnew_; (first | rw [← Ny108.out] at ho54 | (simp only [Int.reduceToNat] at ho54; rw [← Ny108.out] at ho54)); have n_ := a4_ (Kd.R_lower (Kd.R_newB ho54 (g := gb102) (o := .cells #[.int .i64 a2_0, .int .i64 a2_1, .string a2_2] 41 (0, 0)) z5_) (below_size z3_)) (blk_below (g := gb101) (o := .cells #[.string a0_0, .slice A0_1 l0_1.length c0_1, .int .i64 a0_2, .slice A0_3 l0_3.length c0_3] 38 (0, 0)) z2_ hb) (blk_below (g := gb102) (o := .cells #[.int .i64 a2_0, .int .i64 a2_1, .string a2_2] 41 (0, 0)) z5_ hb) (below_step z3_ hb); clear BK101 BK102 HB; obtain ⟨HO110, BK101, BK102, HB⟩ := n_; clear hb ho54))
    go_ret2
    exact ⟨_, z6_, by (with_reducible repeat (first | apply Kd.R_alloc | apply Kd.R_drewN | apply Kd.R_drew)); exact Kd.R_mono HO110.out (fun _ hk => trivial), z3_⟩

  rw [if_pos c10] at H
  have c10b0 : (t106 == 0) = true := beq_iff_eq.mpr c10
  have c10b1 : (t106 != 0) = false := bne_eq_false_iff_eq.mpr c10
  clear c10
  by_cases c11 : (l1.length : Int) = 8
  · rw [if_pos c11] at H
    have c11b0 : ((l1.length : Int) == 8) = true := beq_iff_eq.mpr c11
    have c11b1 : ((l1.length : Int) != 8) = false := bne_eq_false_iff_eq.mpr c11
    clear c11
    obtain ⟨y111, hy111⟩ : ∃ y_ : List (S41), y_ = (([] : List (S41))) := ⟨_, rfl⟩
    replace H : (some (y111, 7)) = some (r1, r2) := by first | (rw [hy111]; with_reducible exact H) | (have H2_ := (Option.bind_some _ _).symm.trans H; rw [hy111]; with_reducible exact H2_) | (have H2_ := (Option.bind_some _ _).symm.trans H; with_reducible exact H2_) | with_reducible exact H | (rw [hy111]; exact H) | exact H
    have Ny111 := ak_ hy111
    clear hy111
    simp only [Option.some.injEq, Prod.mk.injEq] at H
    obtain ⟨rfl, rfl⟩ := H
    go_enter Tryd.func7, Tryd.ntmps7
    go_wp2_with (first | ((with_reducible refine gate_dst (N := 3) rfl ?_); refine bx_ 3 (cs := #[.string a0_0, .slice A0_1 l0_1.length c0_1, .int .i64 a0_2, .slice A0_3 l0_3.length c0_3]) (t := 38) (h_ := ?_); intro gb101 hg w12 hbox hb; have n_ := a4_ (below_step z0_ hb) (hbox) ((gs_ w hg (below_size z0_))) ((gs_ w hg (below_size z0_))); clear HB; obtain ⟨HB, BK101, GW101, GE101⟩ := n_; clear hb hbox hg) | ((with_reducible refine gate_dst (N := 5) rfl ?_); refine bx_ 5 (cs := #[.int .i64 a2_0, .int .i64 a2_1, .string a2_2]) (t := 41) (h_ := ?_); intro gb102 hg w13 hbox hb; have n_ := a7_ (blk_below (g := gb101) (o := .cells #[.string a0_0, .slice A0_1 l0_1.length c0_1, .int .i64 a0_2, .slice A0_3 l0_3.length c0_3] 38 (0, 0)) z2_ hb) (below_step z1_ hb) (hbox) ((gs_ w hg (below_size z1_))) ((gs_ w hg (below_size z1_))) ((z17_ : gb101 ≠ gb102)) ((z18_ : gb102 ≠ gb101)); clear BK101 HB; obtain ⟨BK101, HB, BK102, GW102, GE102, NB101_102, NB102_101⟩ := n_; clear hb hbox hg; have hnb14 := NB101_102.out; have hnc14 := NB102_101.out; obtain ⟨hcz15_0, hcz15_1, hcz15_2, hcz15_3, hfz15_0, hfz15_1, hfz15_2, hfz15_3⟩ := bcf4 BK101.out) | ((with_reducible refine gate_callee (f := 19) rfl ?_); refine goesL_ (some 17) rfl rfl Tryd.func19 (by kernel_rfl) rfl #[.agg #[.string a0_0, .slice A0_1 l0_1.length c0_1, .int .i64 a0_2, .slice A0_3 l0_3.length c0_3], .slice A1 l1.length c1] rfl z4_ ?_; (with_reducible refine (spec_CheckRow.calls k a0_0 _ _ l0_1 a0_2 _ _ l0_3 _ _ l1 t106 t107 _ ?side1 ?side2 ?side3 ?side4 ?side5 ?side6 A9.out).mono ?_); (case side1 => repeat (first | exact (Kd.C_below HR0_1.out HB.out) | (with_reducible refine Kd.C_alloc ?_ _) | (with_reducible refine Kd.C_drewN ?_ _) | (with_reducible refine Kd.C_drew ?_))); (case side2 => exact HC0_1.out); (case side3 => repeat (first | exact (Kd.C_below HR0_3.out HB.out) | (with_reducible refine Kd.C_alloc ?_ _) | (with_reducible refine Kd.C_drewN ?_ _) | (with_reducible refine Kd.C_drew ?_))); (case side4 => exact HC0_3.out); (case side5 => repeat (first | exact (Kd.C_below HR1.out HB.out) | (with_reducible refine Kd.C_alloc ?_ _) | (with_reducible refine Kd.C_drewN ?_ _) | (with_reducible refine Kd.C_drew ?_))); (case side6 => exact HC1.out); rintro e w16 ⟨rfl, hb⟩; refine ⟨_, rfl, ?_⟩; have n_ := a3_ (blk_below (g := gb101) (o := .cells #[.string a0_0, .slice A0_1 l0_1.length c0_1, .int .i64 a0_2, .slice A0_3 l0_3.length c0_3] 38 (0, 0)) z2_ hb) (blk_below (g := gb102) (o := .cells #[.int .i64 a2_0, .int .i64 a2_1, .string a2_2] 41 (0, 0)) z5_ hb) (below_step z3_ hb); clear BK101 BK102 HB; obtain ⟨BK101, BK102, HB⟩ := n_; (try clear hb); (try clear hb2); (try clear hk); (try clear hi)) | ((with_reducible refine gate_dst (N := 27) rfl ?_); refine Kd.R_lit k41 _ 41 ?hg (N := 27) ?hd (xs := ([] : List (S41))) (inner := []) (ok := fun _ => True) (okp := fun _ => True) ?hr ?hp (fun _ hk => hk) trivial (Below.refl _ _) (Nat.le_refl _) (by simp) ?_; (case hd => rfl); (case hg => rfl); (case hr => first | (go_simp; done) | (go_simp; rfl)); (case hp => exact (Reps.none _ _)); intro v112 w17 ho18 hb hg_ hnew_; clear hg_ hnew_; (first | rw [← Ny111.out] at ho18 | (simp only [Int.reduceToNat] at ho18; rw [← Ny111.out] at ho18)); have n_ := a4_ (Kd.R_lower (Kd.R_newB ho18 (g := gb102) (o := .cells #[.int .i64 a2_0, .int .i64 a2_1, .string a2_2] 41 (0, 0)) z5_) (below_size z3_)) (blk_below (g := gb101) (o := .cells #[.string a0_0, .slice A0_1 l0_1.length c0_1, .int .i64 a0_2, .slice A0_3 l0_3.length c0_3] 38 (0, 0)) z2_ hb) (blk_below (g := gb102) (o := .cells #[.int .i64 a2_0, .int .i64 a2_1, .string a2_2] 41 (0, 0)) z5_ hb) (below_step z3_ hb); clear BK101 BK102 HB; obtain ⟨HO113, BK101, BK102, HB⟩ := n_; clear hb ho18))
    go_ret2
    exact ⟨_, z6_, by (with_reducible repeat (first | apply Kd.R_alloc | apply Kd.R_drewN | apply Kd.R_drew)); exact Kd.R_mono HO113.out (fun _ hk => trivial), z3_⟩
  rw [if_neg c11] at H
  have c11b0 : ((l1.length : Int) == 8) = false := beq_eq_false_iff_ne.mpr c11
  have c11b1 : ((l1.length : Int) != 8) = true := bne_iff_ne.mpr c11
  replace H := Option.bind_eq_some_iff.mp H
  obtain ⟨t114, A190, H⟩ := H
  have A19 := ak_ A190
  clear A190
  by_cases c20 : t114 = true
  rotate_left
  · replace c20 := Bool.eq_false_iff.mpr c20
    subst c20
    have H1 : (some ((([] : List (S41))), 1)) = some (r1, r2) := by rw [if_neg (show ¬ (false = true) by decide)] at H; exact H
    clear H
    have H := H1
    clear H1
    obtain ⟨y127, hy127⟩ : ∃ y_ : List (S41), y_ = (([] : List (S41))) := ⟨_, rfl⟩
    replace H : (some (y127, 1)) = some (r1, r2) := by first | (rw [hy127]; with_reducible exact H) | (have H2_ := (Option.bind_some _ _).symm.trans H; rw [hy127]; with_reducible exact H2_) | (have H2_ := (Option.bind_some _ _).symm.trans H; with_reducible exact H2_) | with_reducible exact H | (rw [hy127]; exact H) | exact H
    have Ny127 := ak_ hy127
    clear hy127
    simp only [Option.some.injEq, Prod.mk.injEq] at H
    obtain ⟨rfl, rfl⟩ := H
    go_enter Tryd.func7, Tryd.ntmps7
    go_wp2_with (first | ((with_reducible refine gate_dst (N := 3) rfl ?_); refine bx_ 3 (cs := #[.string a0_0, .slice A0_1 l0_1.length c0_1, .int .i64 a0_2, .slice A0_3 l0_3.length c0_3]) (t := 38) (h_ := ?_); intro gb101 hg w39 hbox hb; have n_ := a4_ (below_step z0_ hb) (hbox) ((gs_ w hg (below_size z0_))) ((gs_ w hg (below_size z0_))); clear HB; obtain ⟨HB, BK101, GW101, GE101⟩ := n_; clear hb hbox hg) | ((with_reducible refine gate_dst (N := 5) rfl ?_); refine bx_ 5 (cs := #[.int .i64 a2_0, .int .i64 a2_1, .string a2_2]) (t := 41) (h_ := ?_); intro gb102 hg w40 hbox hb; have n_ := a7_ (blk_below (g := gb101) (o := .cells #[.string a0_0, .slice A0_1 l0_1.length c0_1, .int .i64 a0_2, .slice A0_3 l0_3.length c0_3] 38 (0, 0)) z2_ hb) (below_step z1_ hb) (hbox) ((gs_ w hg (below_size z1_))) ((gs_ w hg (below_size z1_))) ((z17_ : gb101 ≠ gb102)) ((z18_ : gb102 ≠ gb101)); clear BK101 HB; obtain ⟨BK101, HB, BK102, GW102, GE102, NB101_102, NB102_101⟩ := n_; clear hb hbox hg; have hnb41 := NB101_102.out; have hnc41 := NB102_101.out; obtain ⟨hcz42_0, hcz42_1, hcz42_2, hcz42_3, hfz42_0, hfz42_1, hfz42_2, hfz42_3⟩ := bcf4 BK101.out) | ((with_reducible refine gate_callee (f := 19) rfl ?_); refine goesL_ (some 17) rfl rfl Tryd.func19 (by kernel_rfl) rfl #[.agg #[.string a0_0, .slice A0_1 l0_1.length c0_1, .int .i64 a0_2, .slice A0_3 l0_3.length c0_3], .slice A1 l1.length c1] rfl z4_ ?_; (with_reducible refine (spec_CheckRow.calls k a0_0 _ _ l0_1 a0_2 _ _ l0_3 _ _ l1 t106 t107 _ ?side1 ?side2 ?side3 ?side4 ?side5 ?side6 A9.out).mono ?_); (case side1 => repeat (first | exact (Kd.C_below HR0_1.out HB.out) | (with_reducible refine Kd.C_alloc ?_ _) | (with_reducible refine Kd.C_drewN ?_ _) | (with_reducible refine Kd.C_drew ?_))); (case side2 => exact HC0_1.out); (case side3 => repeat (first | exact (Kd.C_below HR0_3.out HB.out) | (with_reducible refine Kd.C_alloc ?_ _) | (with_reducible refine Kd.C_drewN ?_ _) | (with_reducible refine Kd.C_drew ?_))); (case side4 => exact HC0_3.out); (case side5 => repeat (first | exact (Kd.C_below HR1.out HB.out) | (with_reducible refine Kd.C_alloc ?_ _) | (with_reducible refine Kd.C_drewN ?_ _) | (with_reducible refine Kd.C_drew ?_))); (case side6 => exact HC1.out); rintro e w43 ⟨rfl, hb⟩; refine ⟨_, rfl, ?_⟩; have n_ := a3_ (blk_below (g := gb101) (o := .cells #[.string a0_0, .slice A0_1 l0_1.length c0_1, .int .i64 a0_2, .slice A0_3 l0_3.length c0_3] 38 (0, 0)) z2_ hb) (blk_below (g := gb102) (o := .cells #[.int .i64 a2_0, .int .i64 a2_1, .string a2_2] 41 (0, 0)) z5_ hb) (below_step z3_ hb); clear BK101 BK102 HB; obtain ⟨BK101, BK102, HB⟩ := n_; (try clear hb); (try clear hb2); (try clear hk); (try clear hi); obtain ⟨hcz44_0, hcz44_1, hcz44_2, hfz44_0, hfz44_1, hfz44_2⟩ := bcf3 BK102.out) | ((with_reducible refine gate_callee (f := 20) rfl ?_); refine goesL_ (some 29) rfl rfl Tryd.func20 (by kernel_rfl) rfl #[.agg #[.int .i64 a2_0, .int .i64 a2_1, .string a2_2]] rfl z4_ ?_; (with_reducible refine (spec_ValueOK.calls a2_0 a2_1 a2_2 false _ A19.out).mono ?_); rintro e w45 ⟨rfl, hb⟩; refine ⟨_, rfl, ?_⟩; have n_ := a3_ (blk_below (g := gb101) (o := .cells #[.string a0_0, .slice A0_1 l0_1.length c0_1, .int .i64 a0_2, .slice A0_3 l0_3.length c0_3] 38 (0, 0)) z2_ hb) (blk_below (g := gb102) (o := .cells #[.int .i64 a2_0, .int .i64 a2_1, .string a2_2] 41 (0, 0)) z5_ hb) (below_step z3_ hb); clear BK101 BK102 HB; obtain ⟨BK101, BK102, HB⟩ := n_; (try clear hb); (try clear hb2); (try clear hk); (try clear hi)) | ((with_reducible refine gate_dst (N := 31) rfl ?_); refine Kd.R_lit k41 _ 41 ?hg (N := 31) ?hd (xs := ([] : List (S41))) (inner := []) (ok := fun _ => True) (okp := fun _ => True) ?hr ?hp (fun _ hk => hk) trivial (Below.refl _ _) (Nat.le_refl _) (by simp) ?_; (case hd => rfl); (case hg => rfl); (case hr => first | (go_simp; done) | (go_simp; rfl)); (case hp => exact (Reps.none _ _)); intro v128 w46 ho47 hb hg_ hnew_; clear hg_ hnew_; (first | rw [← Ny127.out] at ho47 | (simp only [Int.reduceToNat] at ho47; rw [← Ny127.out] at ho47)); have n_ := a4_ (Kd.R_lower (Kd.R_newB ho47 (g := gb102) (o := .cells #[.int .i64 a2_0, .int .i64 a2_1, .string a2_2] 41 (0, 0)) z5_) (below_size z3_)) (blk_below (g := gb101) (o := .cells #[.string a0_0, .slice A0_1 l0_1.length c0_1, .int .i64 a0_2, .slice A0_3 l0_3.length c0_3] 38 (0, 0)) z2_ hb) (blk_below (g := gb102) (o := .cells #[.int .i64 a2_0, .int .i64 a2_1, .string a2_2] 41 (0, 0)) z5_ hb) (below_step z3_ hb); clear BK101 BK102 HB; obtain ⟨HO129, BK101, BK102, HB⟩ := n_; clear hb ho47))
    go_ret2
    exact ⟨_, z6_, by (with_reducible repeat (first | apply Kd.R_alloc | apply Kd.R_drewN | apply Kd.R_drew)); exact Kd.R_mono HO129.out (fun _ hk => trivial), z3_⟩
  subst c20
  have H1 : ((some (([] : List (S41)) : List (S41))).bind fun y115 => (if y115.length + l1.length < 4398046511104 then ((some (y115 ++ l1 : List (S41))).bind fun y118 => ((some (([(⟨a2_0, a2_1, a2_2⟩ : S41)] : List (S41)) : List (S41))).bind fun y121 => (if y118.length + y121.length < 4398046511104 then (some ((y118 ++ y121), 0)) else (none)))) else (none))) = some (r1, r2) := by rw [if_pos rfl] at H; exact H
  clear H
  have H := H1
  clear H1
  obtain ⟨y115, hy115⟩ : ∃ y_ : List (S41), y_ = (([] : List (S41))) := ⟨_, rfl⟩
  replace H : (if y115.length + l1.length < 4398046511104 then ((some (y115 ++ l1 : List (S41))).bind fun y118 => ((some (([(⟨a2_0, a2_1, a2_2⟩ : S41)] : List (S41)) : List (S41))).bind fun y121 => (if y118.length + y121.length < 4398046511104 then (some ((y118 ++ y121), 0)) else (none)))) else (none)) = some (r1, r2) := by first | (rw [hy115]; with_reducible exact H) | (have H2_ := (Option.bind_some _ _).symm.trans H; rw [hy115]; with_reducible exact H2_) | (have H2_ := (Option.bind_some _ _).symm.trans H; with_reducible exact H2_) | with_reducible exact H | (rw [hy115]; exact H) | exact H
  have Ny115 := ak_ hy115
  clear hy115
  by_cases c21 : y115.length + l1.length < 4398046511104
  rotate_left
  · rw [if_neg c21] at H
    exact absurd H (by simp)
  rw [if_pos c21] at H
  have LMc21 := ak_ c21
  clear c21
  obtain ⟨y118, hy118⟩ : ∃ y_ : List (S41), y_ = (y115 ++ l1) := ⟨_, rfl⟩
  replace H : ((some (([(⟨a2_0, a2_1, a2_2⟩ : S41)] : List (S41)) : List (S41))).bind fun y121 => (if y118.length + y121.length < 4398046511104 then (some ((y118 ++ y121), 0)) else (none))) = some (r1, r2) := by first | (rw [hy118]; with_reducible exact H) | (have H2_ := (Option.bind_some _ _).symm.trans H; rw [hy118]; with_reducible exact H2_) | (have H2_ := (Option.bind_some _ _).symm.trans H; with_reducible exact H2_) | with_reducible exact H | (rw [hy118]; exact H) | exact H
  have Ny118 := ak_ hy118
  clear hy118
  obtain ⟨y121, hy121⟩ : ∃ y_ : List (S41), y_ = (([(⟨a2_0, a2_1, a2_2⟩ : S41)] : List (S41))) := ⟨_, rfl⟩
  replace H : (if y118.length + y121.length < 4398046511104 then (some ((y118 ++ y121), 0)) else (none)) = some (r1, r2) := by first | (rw [hy121]; with_reducible exact H) | (have H2_ := (Option.bind_some _ _).symm.trans H; rw [hy121]; with_reducible exact H2_) | (have H2_ := (Option.bind_some _ _).symm.trans H; with_reducible exact H2_) | with_reducible exact H | (rw [hy121]; exact H) | exact H
  have Ny121 := ak_ hy121
  clear hy121
  by_cases c22 : y118.length + y121.length < 4398046511104
  rotate_left
  · rw [if_neg c22] at H
    exact absurd H (by simp)
  rw [if_pos c22] at H
  have LMc22 := ak_ c22
  clear c22
  obtain ⟨y124, hy124⟩ : ∃ y_ : List (S41), y_ = (y118 ++ y121) := ⟨_, rfl⟩
  replace H : (some (y124, 0)) = some (r1, r2) := by first | (rw [hy124]; with_reducible exact H) | (have H2_ := (Option.bind_some _ _).symm.trans H; rw [hy124]; with_reducible exact H2_) | (have H2_ := (Option.bind_some _ _).symm.trans H; with_reducible exact H2_) | with_reducible exact H | (rw [hy124]; exact H) | exact H
  have Ny124 := ak_ hy124
  clear hy124
  simp only [Option.some.injEq, Prod.mk.injEq] at H
  obtain ⟨rfl, rfl⟩ := H
  go_enter Tryd.func7, Tryd.ntmps7
  try go_wp2_with (first | ((with_reducible refine gate_dst (N := 3) rfl ?_); refine bx_ 3 (cs := #[.string a0_0, .slice A0_1 l0_1.length c0_1, .int .i64 a0_2, .slice A0_3 l0_3.length c0_3]) (t := 38) (h_ := ?_); intro gb101 hg w23 hbox hb; have n_ := a4_ (below_step z0_ hb) (hbox) ((gs_ w hg (below_size z0_))) ((gs_ w hg (below_size z0_))); clear HB; obtain ⟨HB, BK101, GW101, GE101⟩ := n_; clear hb hbox hg) | ((with_reducible refine gate_dst (N := 5) rfl ?_); refine bx_ 5 (cs := #[.int .i64 a2_0, .int .i64 a2_1, .string a2_2]) (t := 41) (h_ := ?_); intro gb102 hg w24 hbox hb; have n_ := a7_ (blk_below (g := gb101) (o := .cells #[.string a0_0, .slice A0_1 l0_1.length c0_1, .int .i64 a0_2, .slice A0_3 l0_3.length c0_3] 38 (0, 0)) z2_ hb) (below_step z1_ hb) (hbox) ((gs_ w hg (below_size z1_))) ((gs_ w hg (below_size z1_))) ((z17_ : gb101 ≠ gb102)) ((z18_ : gb102 ≠ gb101)); clear BK101 HB; obtain ⟨BK101, HB, BK102, GW102, GE102, NB101_102, NB102_101⟩ := n_; clear hb hbox hg; have hnb25 := NB101_102.out; have hnc25 := NB102_101.out; obtain ⟨hcz26_0, hcz26_1, hcz26_2, hcz26_3, hfz26_0, hfz26_1, hfz26_2, hfz26_3⟩ := bcf4 BK101.out) | ((with_reducible refine gate_callee (f := 19) rfl ?_); refine goesL_ (some 17) rfl rfl Tryd.func19 (by kernel_rfl) rfl #[.agg #[.string a0_0, .slice A0_1 l0_1.length c0_1, .int .i64 a0_2, .slice A0_3 l0_3.length c0_3], .slice A1 l1.length c1] rfl z4_ ?_; (with_reducible refine (spec_CheckRow.calls k a0_0 _ _ l0_1 a0_2 _ _ l0_3 _ _ l1 t106 t107 _ ?side1 ?side2 ?side3 ?side4 ?side5 ?side6 A9.out).mono ?_); (case side1 => repeat (first | exact (Kd.C_below HR0_1.out HB.out) | (with_reducible refine Kd.C_alloc ?_ _) | (with_reducible refine Kd.C_drewN ?_ _) | (with_reducible refine Kd.C_drew ?_))); (case side2 => exact HC0_1.out); (case side3 => repeat (first | exact (Kd.C_below HR0_3.out HB.out) | (with_reducible refine Kd.C_alloc ?_ _) | (with_reducible refine Kd.C_drewN ?_ _) | (with_reducible refine Kd.C_drew ?_))); (case side4 => exact HC0_3.out); (case side5 => repeat (first | exact (Kd.C_below HR1.out HB.out) | (with_reducible refine Kd.C_alloc ?_ _) | (with_reducible refine Kd.C_drewN ?_ _) | (with_reducible refine Kd.C_drew ?_))); (case side6 => exact HC1.out); rintro e w27 ⟨rfl, hb⟩; refine ⟨_, rfl, ?_⟩; have n_ := a3_ (blk_below (g := gb101) (o := .cells #[.string a0_0, .slice A0_1 l0_1.length c0_1, .int .i64 a0_2, .slice A0_3 l0_3.length c0_3] 38 (0, 0)) z2_ hb) (blk_below (g := gb102) (o := .cells #[.int .i64 a2_0, .int .i64 a2_1, .string a2_2] 41 (0, 0)) z5_ hb) (below_step z3_ hb); clear BK101 BK102 HB; obtain ⟨BK101, BK102, HB⟩ := n_; (try clear hb); (try clear hb2); (try clear hk); (try clear hi); obtain ⟨hcz28_0, hcz28_1, hcz28_2, hfz28_0, hfz28_1, hfz28_2⟩ := bcf3 BK102.out) | ((with_reducible refine gate_callee (f := 20) rfl ?_); refine goesL_ (some 29) rfl rfl Tryd.func20 (by kernel_rfl) rfl #[.agg #[.int .i64 a2_0, .int .i64 a2_1, .string a2_2]] rfl z4_ ?_; (with_reducible refine (spec_ValueOK.calls a2_0 a2_1 a2_2 true _ A19.out).mono ?_); rintro e w29 ⟨rfl, hb⟩; refine ⟨_, rfl, ?_⟩; have n_ := a3_ (blk_below (g := gb101) (o := .cells #[.string a0_0, .slice A0_1 l0_1.length c0_1, .int .i64 a0_2, .slice A0_3 l0_3.length c0_3] 38 (0, 0)) z2_ hb) (blk_below (g := gb102) (o := .cells #[.int .i64 a2_0, .int .i64 a2_1, .string a2_2] 41 (0, 0)) z5_ hb) (below_step z3_ hb); clear BK101 BK102 HB; obtain ⟨BK101, BK102, HB⟩ := n_; (try clear hb); (try clear hb2); (try clear hk); (try clear hi)))
  have n_ := a3_ (blk_drew BK101.out) (blk_drew BK102.out) (below_drew1 HB.out)
  clear BK101 BK102 HB
  obtain ⟨BK101, BK102, HB⟩ := n_
  refine start_ (n := 8) (S := fun w' => w'.cell? ⟨gb102, 0, none⟩ = some (.int .i64 a2_0) ∧ w'.cell? ⟨gb102, 1, none⟩ = some (.int .i64 a2_1) ∧ w'.cell? ⟨gb102, 2, none⟩ = some (.string a2_2)) (ds := []) #[false, false, false, false, false, false, false, false] (by kernel_rfl) rfl rfl ⟨(blk_cell BK102.out 0).trans rfl, (blk_cell BK102.out 1).trans rfl, (blk_cell BK102.out 2).trans rfl⟩ (fun hHeld => ?_); refine with_tabW spec_WidenRow.tab10 spec_WidenRow.bits10 (fun HT_ HW_ => ?_)
  generalize w29.drew = w30 at BK101 BK102 HB hHeld ⊢
  refine pu_ 1 (N := some 33) #[false, true, false, false, false, false, false, false] HT_.out (h_ := ?_)
  refine tk_ 3 (N := some 35) #[false, true, false, true, false, false, false, false] HT_.out HW_.out hHeld (hy := by rintro w' ⟨s0, s1, s2⟩; go_simp; with_reducible rfl) (h_ := ?_)
  refine join_ (σ := Value × Value × Value) 3 #[true, true, true, true, true, false, false, false] (fun s_ => [(32, s_.1), (34, s_.2.1), (36, s_.2.2)]) (fun s_ w' => (w'.cell? ⟨gb102, 0, none⟩ = some (.int .i64 a2_0) ∧ w'.cell? ⟨gb102, 1, none⟩ = some (.int .i64 a2_1) ∧ w'.cell? ⟨gb102, 2, none⟩ = some (.string a2_2)) ∧ (Kd.R k41 41 w' w.heap.size (fun k_ => some k_ ≠ (s_.2.2 : Value).ownBlock ∧ k_ ≠ gb102) s_.2.1 y118) ∧ (Kd.R k41 41 w' w.heap.size (fun k_ => some k_ ≠ (s_.2.1 : Value).ownBlock ∧ k_ ≠ gb102) s_.2.2 y121) ∧ (w'.heap[gb101]? = some (.cells #[.string a0_0, .slice A0_1 l0_1.length c0_1, .int .i64 a0_2, .slice A0_3 l0_3.length c0_3] 38 (0, 0))) ∧ (w'.heap[gb102]? = some (.cells #[.int .i64 a2_0, .int .i64 a2_1, .string a2_2] 41 (0, 0))) ∧ (Below w.heap.size w w')) ?_ ?_
  rotate_left
  · intro hCont
    refine two_ (i := 0) (j := 4) (Ni := some 32) (Nj := some 36) #[true, true, false, true, false, false, false, false] #[false, true, false, true, true, false, false, false] rfl rfl rfl rfl (two_of HT_.out (by kernel_rfl)) (by decide) (by decide) (fun K hK => ?_) (fun K hK => ?_)
    rotate_left
    · skip
      refine Kd.R_lit_step k41 _ 41 ?hg (N := 36) ?hd (xs := ([(⟨a2_0, a2_1, a2_2⟩ : S41)] : List (S41))) (inner := [.int .i64 a2_0, .int .i64 a2_1, .string a2_2]) (ok := fun _ => True) (okp := fun _ => True) ?hr ?hp (fun _ hk => hk) trivial (Below.refl _ _) (Nat.le_refl _) (by simp) ?_; (case hd => rfl); (case hg => rfl); (case hr => first | (go_simp; done) | (go_simp; rfl)); (case hp => exact (Reps.c3 (show Kd.M k41 _ _ _ (⟨a2_0, a2_1, a2_2⟩ : S41) [.int .i64 a2_0, .int .i64 a2_1, .string a2_2] from (k41_mkM _ _ _ (⟨a2_0, a2_1, a2_2⟩ : S41) )) (Reps.none _ _)))
      intro v122 w31 ho32 hb hg_ hnew_
      clear hg_ hnew_
      (first | rw [← Ny121.out] at ho32 | (simp only [Int.reduceToNat] at ho32; rw [← Ny121.out] at ho32))
      have n_ := a4_ (Kd.R_lower (Kd.R_newB ho32 (g := gb102) (o := .cells #[.int .i64 a2_0, .int .i64 a2_1, .string a2_2] 41 (0, 0)) z5_) (below_size z3_)) (blk_below (g := gb101) (o := .cells #[.string a0_0, .slice A0_1 l0_1.length c0_1, .int .i64 a0_2, .slice A0_3 l0_3.length c0_3] 38 (0, 0)) z2_ hb) (blk_below (g := gb102) (o := .cells #[.int .i64 a2_0, .int .i64 a2_1, .string a2_2] 41 (0, 0)) z5_ hb) (below_step z3_ hb)
      clear BK101 BK102 HB
      obtain ⟨HO123, BK101, BK102, HB⟩ := n_
      clear hb ho32
      refine hK.out _ _ ⟨(blk_cell BK102.out 0).trans rfl, (blk_cell BK102.out 1).trans rfl, (blk_cell BK102.out 2).trans rfl⟩ (fun hHeld => ?_)
      clear hK K
      refine norm_ (a' := ?_) ?_ ?_
      rotate_left
      · show Act.put _ (some 36) _ = _
        simp only [Act.put, List.setIfInBounds_toArray, List.set_cons_zero, List.set_cons_succ, i64_w, i32_w]
        rfl
      refine one_ (i := 0) (N := some 32) #[true, true, false, true, true, false, false, false] rfl rfl (one_of HT_.out (by kernel_rfl)) (by decide) (fun K hK => ?_)
      refine Kd.R_lit_step k41 _ 41 ?hg (N := 32) ?hd (xs := ([] : List (S41))) (inner := []) (ok := fun _ => True) (okp := fun _ => True) ?hr ?hp (fun _ hk => hk) trivial (Below.refl _ _) (Nat.le_refl _) (by simp) ?_; (case hd => rfl); (case hg => rfl); (case hr => first | (go_simp; done) | (go_simp; rfl)); (case hp => exact (Reps.none _ _))
      intro v116 w33 ho34 hb hg_ hnew_
      clear hg_ hnew_
      (first | rw [← Ny115.out] at ho34 | (simp only [Int.reduceToNat] at ho34; rw [← Ny115.out] at ho34))
      have n_ := a5_ (Kd.R_elder' z47_ (Kd.R_base ho34) hb) (Kd.R_lower (Kd.R_newB (Kd.R_new' ho34 (Kd.R_lt z47_)) (g := gb102) (o := .cells #[.int .i64 a2_0, .int .i64 a2_1, .string a2_2] 41 (0, 0)) z5_) (below_size z3_)) (blk_below (g := gb101) (o := .cells #[.string a0_0, .slice A0_1 l0_1.length c0_1, .int .i64 a0_2, .slice A0_3 l0_3.length c0_3] 38 (0, 0)) z2_ hb) (blk_below (g := gb102) (o := .cells #[.int .i64 a2_0, .int .i64 a2_1, .string a2_2] 41 (0, 0)) z5_ hb) (below_step z3_ hb)
      clear HO123 BK101 BK102 HB
      obtain ⟨HO123, HO117, BK101, BK102, HB⟩ := n_
      clear hb ho34
      refine hK.out _ _ ⟨(blk_cell BK102.out 0).trans rfl, (blk_cell BK102.out 1).trans rfl, (blk_cell BK102.out 2).trans rfl⟩ (fun hHeld => ?_)
      clear hK K
      refine norm_ (a' := ?_) ?_ ?_
      rotate_left
      · show Act.put _ (some 32) _ = _
        simp only [Act.put, List.setIfInBounds_toArray, List.set_cons_zero, List.set_cons_succ, i64_w, i32_w]
        rfl
      refine one_ (i := 2) (N := some 34) #[true, true, true, true, true, false, false, false] rfl rfl (one_of HT_.out (by kernel_rfl)) (by decide) (fun K hK => ?_)
      refine Kd.R_append_rows_step k41 (w0 := w) w.heap.size (by rfl) (.tmp 32) (.tmp 33) 32 41 (.agg #[(.int .i64 0), (.int .i64 0), (.string ⟨#[]⟩)]) 32 rfl Tryd.underlying32 info41 rfl (by decide) (by omega) v116 y115 l1 _ _ _ (fun k_ => some k_ ≠ (v122 : Value).ownBlock ∧ k_ ≠ gb102) (fun _ => False) rfl rfl ?aO ?aR (fun _ _ h => h) (fun _ h => h.elim) ?aF ?aB ?aS ?aL ?_
      (case aR => repeat (first | exact (Kd.C_below HR1.out HB.out) | (with_reducible refine Kd.C_alloc ?_ _) | (with_reducible refine Kd.C_drewN ?_ _) | (with_reducible refine Kd.C_drew ?_)))
      (case aB => exact z3_)
      (case aF => exact (fun k_ hk => ⟨Kd.fresh' (Kd.R_lt z47_) k_ hk, Kd.freshB (g := gb102) (o := .cells #[.int .i64 a2_0, .int .i64 a2_1, .string a2_2] 41 (0, 0)) z5_ k_ hk⟩))
      (case aO => exact (by (with_reducible repeat (first | apply Kd.R_alloc | apply Kd.R_drewN | apply Kd.R_drew)); exact Kd.R_mono HO117.out (fun _ hk => ⟨hk.1.2, hk.2⟩)))
      (case aS => exact (below_size z3_))
      (case aL => have := LMc21.out; omega)
      intro v119 w35 ho hb hg hat
      rw [← Ny118.out] at ho
      have n_ := a5_ (blk_grown (g := gb101) (o := .cells #[.string a0_0, .slice A0_1 l0_1.length c0_1, .int .i64 a0_2, .slice A0_3 l0_3.length c0_3] 38 (0, 0)) z2_ hg (Kd.R_ne HO117.out BK101.out (by decide))) (blk_grown (g := gb102) (o := .cells #[.int .i64 a2_0, .int .i64 a2_1, .string a2_2] 41 (0, 0)) z5_ hg (Kd.R_away HO117.out (fun _ hk => hk.2))) (Kd.R_after (ok := (fun k_ => k_ ≠ gb102)) (by (with_reducible repeat (first | apply Kd.R_alloc | apply Kd.R_drewN | apply Kd.R_drew)); exact Kd.R_mono HO123.out (fun _ hk => ⟨hk.1.2, hk.2⟩)) hg hat) (hb) (ho)
      clear BK101 BK102 HO123 HB HO117
      obtain ⟨BK101, BK102, HO123, HB, HO120⟩ := n_
      clear ho hb hg hat
      refine hK.out _ _ ⟨(blk_cell BK102.out 0).trans rfl, (blk_cell BK102.out 1).trans rfl, (blk_cell BK102.out 2).trans rfl⟩ (fun hHeld => ?_)
      clear hK K
      refine norm_ (a' := ?_) ?_ ?_
      rotate_left
      · show Act.put _ (some 34) _ = _
        simp only [Act.put, List.setIfInBounds_toArray, List.set_cons_zero, List.set_cons_succ, i64_w, i32_w]
        rfl
      exact norm_ z57_ (hCont (v116, v119, v122) _ ⟨hHeld, z48_, z67_, z2_, z5_, z3_⟩)
    skip
    refine Kd.R_lit_step k41 _ 41 ?hg (N := 32) ?hd (xs := ([] : List (S41))) (inner := []) (ok := fun _ => True) (okp := fun _ => True) ?hr ?hp (fun _ hk => hk) trivial (Below.refl _ _) (Nat.le_refl _) (by simp) ?_; (case hd => rfl); (case hg => rfl); (case hr => first | (go_simp; done) | (go_simp; rfl)); (case hp => exact (Reps.none _ _))
    intro v116 w31 ho32 hb hg_ hnew_
    clear hg_ hnew_
    (first | rw [← Ny115.out] at ho32 | (simp only [Int.reduceToNat] at ho32; rw [← Ny115.out] at ho32))
    have n_ := a4_ (Kd.R_lower (Kd.R_newB ho32 (g := gb102) (o := .cells #[.int .i64 a2_0, .int .i64 a2_1, .string a2_2] 41 (0, 0)) z5_) (below_size z3_)) (blk_below (g := gb101) (o := .cells #[.string a0_0, .slice A0_1 l0_1.length c0_1, .int .i64 a0_2, .slice A0_3 l0_3.length c0_3] 38 (0, 0)) z2_ hb) (blk_below (g := gb102) (o := .cells #[.int .i64 a2_0, .int .i64 a2_1, .string a2_2] 41 (0, 0)) z5_ hb) (below_step z3_ hb)
    clear BK101 BK102 HB
    obtain ⟨HO117, BK101, BK102, HB⟩ := n_
    clear hb ho32
    refine hK.out _ _ ⟨(blk_cell BK102.out 0).trans rfl, (blk_cell BK102.out 1).trans rfl, (blk_cell BK102.out 2).trans rfl⟩ (fun hHeld => ?_)
    clear hK K
    refine norm_ (a' := ?_) ?_ ?_
    rotate_left
    · show Act.put _ (some 32) _ = _
      simp only [Act.put, List.setIfInBounds_toArray, List.set_cons_zero, List.set_cons_succ, i64_w, i32_w]
      rfl
    refine two_ (i := 2) (j := 4) (Ni := some 34) (Nj := some 36) #[true, true, true, true, false, false, false, false] #[true, true, false, true, true, false, false, false] rfl rfl rfl rfl (two_of HT_.out (by kernel_rfl)) (by decide) (by decide) (fun K hK => ?_) (fun K hK => ?_)
    rotate_left
    · skip
      refine Kd.R_lit_step k41 _ 41 ?hg (N := 36) ?hd (xs := ([(⟨a2_0, a2_1, a2_2⟩ : S41)] : List (S41))) (inner := [.int .i64 a2_0, .int .i64 a2_1, .string a2_2]) (ok := fun _ => True) (okp := fun _ => True) ?hr ?hp (fun _ hk => hk) trivial (Below.refl _ _) (Nat.le_refl _) (by simp) ?_; (case hd => rfl); (case hg => rfl); (case hr => first | (go_simp; done) | (go_simp; rfl)); (case hp => exact (Reps.c3 (show Kd.M k41 _ _ _ (⟨a2_0, a2_1, a2_2⟩ : S41) [.int .i64 a2_0, .int .i64 a2_1, .string a2_2] from (k41_mkM _ _ _ (⟨a2_0, a2_1, a2_2⟩ : S41) )) (Reps.none _ _)))
      intro v122 w33 ho34 hb hg_ hnew_
      clear hg_ hnew_
      (first | rw [← Ny121.out] at ho34 | (simp only [Int.reduceToNat] at ho34; rw [← Ny121.out] at ho34))
      have n_ := a5_ (Kd.R_elder' (by (with_reducible repeat (first | apply Kd.R_alloc | apply Kd.R_drewN | apply Kd.R_drew)); exact HO117.out) (Kd.R_base ho34) hb) (Kd.R_lower (Kd.R_newB (Kd.R_new' ho34 (Kd.R_lt (by (with_reducible repeat (first | apply Kd.R_alloc | apply Kd.R_drewN | apply Kd.R_drew)); exact HO117.out))) (g := gb102) (o := .cells #[.int .i64 a2_0, .int .i64 a2_1, .string a2_2] 41 (0, 0)) z5_) (below_size z3_)) (blk_below (g := gb101) (o := .cells #[.string a0_0, .slice A0_1 l0_1.length c0_1, .int .i64 a0_2, .slice A0_3 l0_3.length c0_3] 38 (0, 0)) z2_ hb) (blk_below (g := gb102) (o := .cells #[.int .i64 a2_0, .int .i64 a2_1, .string a2_2] 41 (0, 0)) z5_ hb) (below_step z3_ hb)
      clear HO117 BK101 BK102 HB
      obtain ⟨HO117, HO123, BK101, BK102, HB⟩ := n_
      clear hb ho34
      refine hK.out _ _ ⟨(blk_cell BK102.out 0).trans rfl, (blk_cell BK102.out 1).trans rfl, (blk_cell BK102.out 2).trans rfl⟩ (fun hHeld => ?_)
      clear hK K
      refine norm_ (a' := ?_) ?_ ?_
      rotate_left
      · show Act.put _ (some 36) _ = _
        simp only [Act.put, List.setIfInBounds_toArray, List.set_cons_zero, List.set_cons_succ, i64_w, i32_w]
        rfl
      refine one_ (i := 2) (N := some 34) #[true, true, true, true, true, false, false, false] rfl rfl (one_of HT_.out (by kernel_rfl)) (by decide) (fun K hK => ?_)
      refine Kd.R_append_rows_step k41 (w0 := w) w.heap.size (by rfl) (.tmp 32) (.tmp 33) 32 41 (.agg #[(.int .i64 0), (.int .i64 0), (.string ⟨#[]⟩)]) 32 rfl Tryd.underlying32 info41 rfl (by decide) (by omega) v116 y115 l1 _ _ _ (fun k_ => some k_ ≠ (v122 : Value).ownBlock ∧ k_ ≠ gb102) (fun _ => False) rfl rfl ?aO ?aR (fun _ _ h => h) (fun _ h => h.elim) ?aF ?aB ?aS ?aL ?_
      (case aR => repeat (first | exact (Kd.C_below HR1.out HB.out) | (with_reducible refine Kd.C_alloc ?_ _) | (with_reducible refine Kd.C_drewN ?_ _) | (with_reducible refine Kd.C_drew ?_)))
      (case aB => exact z3_)
      (case aF => exact (fun k_ hk => ⟨Kd.fresh' (Kd.R_lt z47_) k_ hk, Kd.freshB (g := gb102) (o := .cells #[.int .i64 a2_0, .int .i64 a2_1, .string a2_2] 41 (0, 0)) z5_ k_ hk⟩))
      (case aO => exact (by (with_reducible repeat (first | apply Kd.R_alloc | apply Kd.R_drewN | apply Kd.R_drew)); exact Kd.R_mono HO117.out (fun _ hk => ⟨hk.2, hk.1.2⟩)))
      (case aS => exact (below_size z3_))
      (case aL => have := LMc21.out; omega)
      intro v119 w35 ho hb hg hat
      rw [← Ny118.out] at ho
      have n_ := a5_ (blk_grown (g := gb101) (o := .cells #[.string a0_0, .slice A0_1 l0_1.length c0_1, .int .i64 a0_2, .slice A0_3 l0_3.length c0_3] 38 (0, 0)) z2_ hg (Kd.R_ne HO117.out BK101.out (by decide))) (blk_grown (g := gb102) (o := .cells #[.int .i64 a2_0, .int .i64 a2_1, .string a2_2] 41 (0, 0)) z5_ hg (Kd.R_away HO117.out (fun _ hk => hk.1.2))) (Kd.R_after (ok := (fun k_ => k_ ≠ gb102)) (by (with_reducible repeat (first | apply Kd.R_alloc | apply Kd.R_drewN | apply Kd.R_drew)); exact Kd.R_mono HO123.out (fun _ hk => ⟨hk.2, hk.1.2⟩)) hg hat) (hb) (ho)
      clear BK101 BK102 HO123 HB HO117
      obtain ⟨BK101, BK102, HO123, HB, HO120⟩ := n_
      clear ho hb hg hat
      refine hK.out _ _ ⟨(blk_cell BK102.out 0).trans rfl, (blk_cell BK102.out 1).trans rfl, (blk_cell BK102.out 2).trans rfl⟩ (fun hHeld => ?_)
      clear hK K
      refine norm_ (a' := ?_) ?_ ?_
      rotate_left
      · show Act.put _ (some 34) _ = _
        simp only [Act.put, List.setIfInBounds_toArray, List.set_cons_zero, List.set_cons_succ, i64_w, i32_w]
        rfl
      exact norm_ z57_ (hCont (v116, v119, v122) _ ⟨hHeld, z48_, z67_, z2_, z5_, z3_⟩)
    skip
    refine Kd.R_append_rows_step k41 (w0 := w) w.heap.size (by rfl) (.tmp 32) (.tmp 33) 32 41 (.agg #[(.int .i64 0), (.int .i64 0), (.string ⟨#[]⟩)]) 32 rfl Tryd.underlying32 info41 rfl (by decide) (by omega) v116 y115 l1 _ _ _ (fun k_ => k_ ≠ gb102) (fun _ => False) rfl rfl ?aO ?aR (fun _ _ h => h) (fun _ h => h.elim) ?aF ?aB ?aS ?aL ?_
    (case aR => repeat (first | exact (Kd.C_below HR1.out HB.out) | (with_reducible refine Kd.C_alloc ?_ _) | (with_reducible refine Kd.C_drewN ?_ _) | (with_reducible refine Kd.C_drew ?_)))
    (case aB => exact z3_)
    (case aF => exact (fun k_ hk => Kd.freshB (g := gb102) (o := .cells #[.int .i64 a2_0, .int .i64 a2_1, .string a2_2] 41 (0, 0)) z5_ k_ hk))
    (case aO => exact (by (with_reducible repeat (first | apply Kd.R_alloc | apply Kd.R_drewN | apply Kd.R_drew)); exact Kd.R_mono HO117.out (fun _ hk => hk.2)))
    (case aS => exact (below_size z3_))
    (case aL => have := LMc21.out; omega)
    intro v119 w33 ho hb hg hat
    rw [← Ny118.out] at ho
    have n_ := a4_ (blk_grown (g := gb101) (o := .cells #[.string a0_0, .slice A0_1 l0_1.length c0_1, .int .i64 a0_2, .slice A0_3 l0_3.length c0_3] 38 (0, 0)) z2_ hg (Kd.R_ne HO117.out BK101.out (by decide))) (blk_grown (g := gb102) (o := .cells #[.int .i64 a2_0, .int .i64 a2_1, .string a2_2] 41 (0, 0)) z5_ hg (Kd.R_away HO117.out (fun _ hk => hk.2))) (hb) (ho)
    clear BK101 BK102 HB HO117
    obtain ⟨BK101, BK102, HB, HO120⟩ := n_
    clear ho hb hg hat
    refine hK.out _ _ ⟨(blk_cell BK102.out 0).trans rfl, (blk_cell BK102.out 1).trans rfl, (blk_cell BK102.out 2).trans rfl⟩ (fun hHeld => ?_)
    clear hK K
    refine norm_ (a' := ?_) ?_ ?_
    rotate_left
    · show Act.put _ (some 34) _ = _
      simp only [Act.put, List.setIfInBounds_toArray, List.set_cons_zero, List.set_cons_succ, i64_w, i32_w]
      rfl
    refine one_ (i := 4) (N := some 36) #[true, true, true, true, true, false, false, false] rfl rfl (one_of HT_.out (by kernel_rfl)) (by decide) (fun K hK => ?_)
    refine Kd.R_lit_step k41 _ 41 ?hg (N := 36) ?hd (xs := ([(⟨a2_0, a2_1, a2_2⟩ : S41)] : List (S41))) (inner := [.int .i64 a2_0, .int .i64 a2_1, .string a2_2]) (ok := fun _ => True) (okp := fun _ => True) ?hr ?hp (fun _ hk => hk) trivial (Below.refl _ _) (Nat.le_refl _) (by simp) ?_; (case hd => rfl); (case hg => rfl); (case hr => first | (go_simp; done) | (go_simp; rfl)); (case hp => exact (Reps.c3 (show Kd.M k41 _ _ _ (⟨a2_0, a2_1, a2_2⟩ : S41) [.int .i64 a2_0, .int .i64 a2_1, .string a2_2] from (k41_mkM _ _ _ (⟨a2_0, a2_1, a2_2⟩ : S41) )) (Reps.none _ _)))
    intro v122 w34 ho35 hb hg_ hnew_
    clear hg_ hnew_
    (first | rw [← Ny121.out] at ho35 | (simp only [Int.reduceToNat] at ho35; rw [← Ny121.out] at ho35))
    have n_ := a5_ (Kd.R_elder' z48_ (Kd.R_base ho35) hb) (Kd.R_lower (Kd.R_newB (Kd.R_new' ho35 (Kd.R_lt z48_)) (g := gb102) (o := .cells #[.int .i64 a2_0, .int .i64 a2_1, .string a2_2] 41 (0, 0)) z5_) (below_size z3_)) (blk_below (g := gb101) (o := .cells #[.string a0_0, .slice A0_1 l0_1.length c0_1, .int .i64 a0_2, .slice A0_3 l0_3.length c0_3] 38 (0, 0)) z2_ hb) (blk_below (g := gb102) (o := .cells #[.int .i64 a2_0, .int .i64 a2_1, .string a2_2] 41 (0, 0)) z5_ hb) (below_step z3_ hb)
    clear HO120 BK101 BK102 HB
    obtain ⟨HO120, HO123, BK101, BK102, HB⟩ := n_
    clear hb ho35
    refine hK.out _ _ ⟨(blk_cell BK102.out 0).trans rfl, (blk_cell BK102.out 1).trans rfl, (blk_cell BK102.out 2).trans rfl⟩ (fun hHeld => ?_)
    clear hK K
    refine norm_ (a' := ?_) ?_ ?_
    rotate_left
    · show Act.put _ (some 36) _ = _
      simp only [Act.put, List.setIfInBounds_toArray, List.set_cons_zero, List.set_cons_succ, i64_w, i32_w]
      rfl
    exact norm_ z57_ (hCont (v116, v119, v122) _ ⟨hHeld, (by (with_reducible repeat (first | apply Kd.R_alloc | apply Kd.R_drewN | apply Kd.R_drew)); exact Kd.R_mono HO120.out (fun _ hk => ⟨hk.2, hk.1⟩)), (by (with_reducible repeat (first | apply Kd.R_alloc | apply Kd.R_drewN | apply Kd.R_drew)); exact Kd.R_mono HO123.out (fun _ hk => ⟨hk.1.2, hk.2⟩)), z2_, z5_, z3_⟩)
  rintro ⟨v116, v119, v122⟩ w36 ⟨hS_, h0_, h1_, h2_, h3_, h4_⟩
  have n0_ : Aside0 (Kd.R k41 41 w36 w.heap.size (fun k_ => some k_ ≠ (v122 : Value).ownBlock ∧ k_ ≠ gb102) v119 y118) := ⟨h0_⟩
  have n1_ : Aside0 (Kd.R k41 41 w36 w.heap.size (fun k_ => some k_ ≠ (v119 : Value).ownBlock ∧ k_ ≠ gb102) v122 y121) := ⟨h1_⟩
  have n2_ : Aside0 (w36.heap[gb101]? = some (.cells #[.string a0_0, .slice A0_1 l0_1.length c0_1, .int .i64 a0_2, .slice A0_3 l0_3.length c0_3] 38 (0, 0))) := ⟨h2_⟩
  have n3_ : Aside0 (w36.heap[gb102]? = some (.cells #[.int .i64 a2_0, .int .i64 a2_1, .string a2_2] 41 (0, 0))) := ⟨h3_⟩
  have n4_ : Aside0 (Below w.heap.size w w36) := ⟨h4_⟩
  clear BK101
  clear BK102
  clear HB
  clear h0_ h1_ h2_ h3_ h4_
  have HO120 := n0_
  have HO123 := n1_
  have BK101 := n2_
  have BK102 := n3_
  have HB := n4_
  clear n0_ n1_ n2_ n3_ n4_
  have hHeld : w36.cell? ⟨gb102, 0, none⟩ = some (.int .i64 a2_0) ∧ w36.cell? ⟨gb102, 1, none⟩ = some (.int .i64 a2_1) ∧ w36.cell? ⟨gb102, 2, none⟩ = some (.string a2_2) := hS_
  obtain ⟨Ao38, co38, eo38⟩ := Kd.R_slice HO123.out
  (first | subst eo38 | (injection eo38 with f1_ f2_ f3_; have f4_ := f1_.symm; have f5_ := f3_.symm; clear f1_ f2_ f3_; subst f4_; subst f5_))
  refine norm_ (a' := ?_) ?_ ?_
  rotate_left
  · simp only [putAll, Act.put, List.setIfInBounds_toArray, List.set_cons_zero, List.set_cons_succ]
    rfl
  refine one_ (i := 5) (N := some 37) #[true, true, true, true, true, true, false, false] rfl rfl (one_of HT_.out (by kernel_rfl)) (by decide) (fun K hK => ?_)
  refine Kd.R_append_rows_step k41 (w0 := w) w.heap.size (by rfl) (.tmp 34) (.tmp 36) 32 41 (.agg #[(.int .i64 0), (.int .i64 0), (.string ⟨#[]⟩)]) 32 rfl Tryd.underlying32 info41 rfl (by decide) (by omega) v119 y118 y121 _ _ _ (fun k_ => some k_ ≠ (.slice Ao38 y121.length co38 : Value).ownBlock ∧ k_ ≠ gb102) (fun _ => False) rfl rfl ?aO ?aR (fun _ _ h => h) (fun _ h => h.elim) ?aF ?aB ?aS ?aL ?_
  (case aR => repeat (first | exact (Kd.R_reads' HO123.out).2.2 | (with_reducible refine Kd.C_alloc ?_ _) | (with_reducible refine Kd.C_drewN ?_ _) | (with_reducible refine Kd.C_drew ?_)))
  (case aB => exact z3_)
  (case aF => exact (fun k_ hk => ⟨Kd.fresh' (Kd.R_lt z47_) k_ hk, Kd.freshB (g := gb102) (o := .cells #[.int .i64 a2_0, .int .i64 a2_1, .string a2_2] 41 (0, 0)) z5_ k_ hk⟩))
  (case aO => exact z48_)
  (case aS => exact (below_size z3_))
  (case aL => have := LMc22.out; omega)
  intro v125 w37 ho hb hg hat
  rw [← Ny124.out] at ho
  have n_ := a5_ (blk_grown (g := gb101) (o := .cells #[.string a0_0, .slice A0_1 l0_1.length c0_1, .int .i64 a0_2, .slice A0_3 l0_3.length c0_3] 38 (0, 0)) z2_ hg (Kd.R_ne HO120.out BK101.out (by decide))) (blk_grown (g := gb102) (o := .cells #[.int .i64 a2_0, .int .i64 a2_1, .string a2_2] 41 (0, 0)) z5_ hg (Kd.R_away HO120.out (fun _ hk => hk.2))) (Kd.R_after (ok := (fun k_ => k_ ≠ gb102)) z67_ hg hat) (hb) (ho)
  clear BK101 BK102 HO123 HB HO120
  obtain ⟨BK101, BK102, HO123, HB, HO126⟩ := n_
  clear ho hb hg hat
  refine hK.out _ _ ⟨(blk_cell BK102.out 0).trans rfl, (blk_cell BK102.out 1).trans rfl, (blk_cell BK102.out 2).trans rfl⟩ (fun hHeld => ?_)
  clear hK K
  refine norm_ (a' := ?_) ?_ ?_
  rotate_left
  · show Act.put _ (some 37) _ = _
    simp only [Act.put, List.setIfInBounds_toArray, List.set_cons_zero, List.set_cons_succ, i64_w, i32_w]
    rfl
  refine pu_ 6 (N := some 6) #[true, true, true, true, true, true, true, false] HT_.out (h_ := ?_)
  refine pu_ 7 (N := some 7) #[true, true, true, true, true, true, true, true] HT_.out (h_ := ?_)
  refine done_ (done_of HT_.out (by kernel_rfl)) ?_
  try go_wp2
  go_ret2
  exact ⟨_, z6_, by (with_reducible repeat (first | apply Kd.R_alloc | apply Kd.R_drewN | apply Kd.R_drew)); exact Kd.R_mono HO126.out (fun _ hk => trivial), z3_⟩
end

section
def laws_toColumn.f (a0_0 : ByteArray) (a0_1 : Int) (a0_2 : Bool) : Option (ByteArray × Int × Bool) := some (a0_0, a0_1, a0_2)
set_option maxHeartbeats 8000000 in
set_option maxRecDepth 100000 in
theorem laws_toColumn.calls (a0_0 : ByteArray) (a0_1 : Int) (a0_2 : Bool) (r1 : ByteArray) (r2 : Int) (r3 : Bool) (w : World) (h : laws_toColumn.f a0_0 a0_1 a0_2 = some (r1, r2, r3)) :
    Calls Tryd.prog 38 #[.agg #[.string a0_0, .int .i64 a0_1, .bool a0_2]] w fun e w' => e = .returned (.agg #[.string r1, .int .i64 r2, .bool r3]) ∧ Below w.heap.size w w' := by
  have hu64 := Tryd.underlying64
  have hu72 := Tryd.underlying72
  have HB := ak_ (Below.refl w.heap.size w)
  have H : (some (a0_0, a0_1, a0_2)) = some (r1, r2, r3) := h
  clear h
  simp only [Option.some.injEq, Prod.mk.injEq] at H
  obtain ⟨rfl, rfl, rfl⟩ := H
  go_enter Tryd.func38, Tryd.ntmps38
  go_wp2_with (first | ((with_reducible refine gate_dst (N := 1) rfl ?_); refine bx_ 1 (cs := #[.string a0_0, .int .i64 a0_1, .bool a0_2]) (t := 64) (h_ := ?_); intro gb101 hg w2 hbox hb; have n_ := a4_ (below_step z0_ hb) (hbox) ((gs_ w hg (below_size z0_))) ((gs_ w hg (below_size z0_))); clear HB; obtain ⟨HB, BK101, GW101, GE101⟩ := n_; clear hb hbox hg) | ((with_reducible refine gate_dst (N := 2) rfl ?_); refine bx_ 2 (cs := #[.string (⟨#[]⟩ : ByteArray), .int .i64 0, .bool false]) (t := 72) (h_ := ?_); intro gb102 hg w3 hbox hb; have n_ := a7_ (blk_below (g := gb101) (o := .cells #[.string a0_0, .int .i64 a0_1, .bool a0_2] 64 (0, 0)) z2_ hb) (below_step z1_ hb) (hbox) ((gs_ w hg (below_size z1_))) ((gs_ w hg (below_size z1_))) ((by rw [hg]; exact Nat.ne_of_lt (blk_lt (g := gb101) (o := .cells #[.string a0_0, .int .i64 a0_1, .bool a0_2] 64 (0, 0)) z2_) : gb101 ≠ gb102)) ((by rw [hg]; exact Nat.ne_of_gt (blk_lt (g := gb101) (o := .cells #[.string a0_0, .int .i64 a0_1, .bool a0_2] 64 (0, 0)) z2_) : gb102 ≠ gb101)); clear BK101 HB; obtain ⟨BK101, HB, BK102, GW102, GE102, NB101_102, NB102_101⟩ := n_; clear hb hbox hg) | ((with_reducible refine gate_dst (N := 3) rfl ?_); refine bx_ 3 (cs := #[.string (⟨#[]⟩ : ByteArray), .int .i64 0, .bool false]) (t := 72) (h_ := ?_); intro gb103 hg w4 hbox hb; have n_ := a10_ (blk_below (g := gb101) (o := .cells #[.string a0_0, .int .i64 a0_1, .bool a0_2] 64 (0, 0)) z2_ hb) (blk_below (g := gb102) (o := .cells #[.string (⟨#[]⟩ : ByteArray), .int .i64 0, .bool false] 72 (0, 0)) z5_ hb) (below_step z3_ hb) (hbox) ((gs_ w hg (below_size z3_))) ((gs_ w hg (below_size z3_))) ((by rw [hg]; exact Nat.ne_of_lt (blk_lt (g := gb101) (o := .cells #[.string a0_0, .int .i64 a0_1, .bool a0_2] 64 (0, 0)) z2_) : gb101 ≠ gb103)) ((by rw [hg]; exact Nat.ne_of_gt (blk_lt (g := gb101) (o := .cells #[.string a0_0, .int .i64 a0_1, .bool a0_2] 64 (0, 0)) z2_) : gb103 ≠ gb101)) ((by rw [hg]; exact Nat.ne_of_lt (blk_lt (g := gb102) (o := .cells #[.string (⟨#[]⟩ : ByteArray), .int .i64 0, .bool false] 72 (0, 0)) z5_) : gb102 ≠ gb103)) ((by rw [hg]; exact Nat.ne_of_gt (blk_lt (g := gb102) (o := .cells #[.string (⟨#[]⟩ : ByteArray), .int .i64 0, .bool false] 72 (0, 0)) z5_) : gb103 ≠ gb102)); clear BK101 BK102 HB; obtain ⟨BK101, BK102, HB, BK103, GW103, GE103, NB101_103, NB103_101, NB102_103, NB103_102⟩ := n_; clear hb hbox hg; have hnb5 := NB101_102.out; have hnc5 := NB102_101.out; have hnb6 := NB101_103.out; have hnc6 := NB103_101.out; obtain ⟨hcz7_0, hcz7_1, hcz7_2, hfz7_0, hfz7_1, hfz7_2⟩ := bcf3 BK101.out; have hnb8 := NB103_102.out; have hnc8 := NB102_103.out; obtain ⟨hcz9_0, hcz9_1, hcz9_2, hfz9_0, hfz9_1, hfz9_2⟩ := bcf3 BK103.out; obtain ⟨hcz10_0, hcz10_1, hcz10_2, hfz10_0, hfz10_1, hfz10_2⟩ := bcf3 BK102.out))
  refine bodyPost_ret (results_cell_row rfl _ _ gb102 72 #[.string a0_0, .int .i64 a0_1, .bool a0_2] (0, 0) _ rfl (by (with_reducible repeat (first | refine blk_drewN ?_ _ | refine blk_drew ?_ | refine blk_alloc ?_ _)); refine blk_put (cs := #[.string a0_0, .int .i64 a0_1, .bool false]) ?_ 2 _ rfl; (with_reducible repeat (first | refine blk_drewN ?_ _ | refine blk_drew ?_ | refine blk_alloc ?_ _)); refine blk_put (cs := #[.string a0_0, .int .i64 0, .bool false]) ?_ 1 _ rfl; (with_reducible repeat (first | refine blk_drewN ?_ _ | refine blk_drew ?_ | refine blk_alloc ?_ _)); refine blk_put (cs := #[.string (⟨#[]⟩ : ByteArray), .int .i64 0, .bool false]) ?_ 0 _ rfl; (with_reducible repeat (first | refine blk_drewN ?_ _ | refine blk_drew ?_ | refine blk_alloc ?_ _)); refine blk_far ?_ NB102_103.out _; (with_reducible repeat (first | refine blk_drewN ?_ _ | refine blk_drew ?_ | refine blk_alloc ?_ _)); refine blk_far ?_ NB102_103.out _; (with_reducible repeat (first | refine blk_drewN ?_ _ | refine blk_drew ?_ | refine blk_alloc ?_ _)); refine blk_far ?_ NB102_103.out _; (with_reducible repeat (first | refine blk_drewN ?_ _ | refine blk_drew ?_ | refine blk_alloc ?_ _)); exact BK102.out) Tryd.underlying72 rfl (by kernel_rfl)) rfl ?_
  exact ⟨z6_, z16_⟩
end

end Go.Proofs.YtfbclbbhomhfaaaDoor.X
end
