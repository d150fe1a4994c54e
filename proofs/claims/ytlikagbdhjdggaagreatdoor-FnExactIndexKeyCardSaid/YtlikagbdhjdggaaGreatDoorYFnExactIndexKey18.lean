/- Contracts of functions, and what is told of them. -/
import Derived.Test.YtlikagbdhjdggaaGreatDoorYFnExactIndexKey16
import Derived.Test.YtlikagbdhjdggaaGreatDoorYFnExactIndexKey17
set_option linter.unusedSimpArgs false
set_option linter.unusedVariables false
set_option maxHeartbeats 16000000
set_option maxRecDepth 1000000
section
namespace Go.Proofs.YtlikagbdhjdggaaGreatDoor.X
open Go.RowKit Go.Proofs.YtlikagbdhjdggaaGreatDoorW.PrintWords Go.Proofs.YtlikagbdhjdggaaGreatDoorW.PrintLast Go.Proofs.YtlikagbdhjdggaaGreatDoorW.PrintMore
attribute [local go_sem] max2_int min2_int max_two min_two max_three min_three max_four min_four

section
def impl_CheckRow.f (k : Nat) (a0_0 : ByteArray) (l0_1 : List (S78)) (a0_2 : Int) (l0_3 : List (S58)) (l1 : List (S61)) : Option (Int × Int) := if (l1.length : Int) > 4096 then (some (2, 0)) else ((impl_TableOK.f k a0_0 l0_1 a0_2 l0_3).bind fun t102 => (if t102 = true then ((impl_rowOK.f l1).bind fun t103 => (if t103 = true then ((impl_Table_rowCode.f k a0_0 l0_1 a0_2 l0_3 l1).bind fun bt104 => (some (bt104.1, bt104.2))) else (some (1, 0)))) else (some (1, 0))))
theorem impl_CheckRow.mono : ∀ a0 a1 a2 a3 a4 k, LeO (impl_CheckRow.f k a0 a1 a2 a3 a4) (impl_CheckRow.f (k + 1) a0 a1 a2 a3 a4) := by
 intro a0 a1 a2 a3 a4 k
 unfold impl_CheckRow.f
 repeat' first
   | (with_reducible exact impl_TableOK.mono _ _ _ _ _)
   | (with_reducible exact impl_Table_rowCode.mono _ _ _ _ _ _)
   | (with_reducible exact LeO.refl _)
   | (with_reducible exact LeO.none _)
   | (with_reducible refine LeO.ite ?_ ?_)
   | (with_reducible refine LeO.bind ?_ (fun _ => ?_))
   | exact impl_TableOK.mono _ _ _ _ _
   | exact impl_Table_rowCode.mono _ _ _ _ _ _
   | exact LeO.none _
   | refine LeO.ite ?_ ?_
   | refine LeO.bind ?_ (fun _ => ?_)
theorem impl_CheckRow.calls (k : Nat) (a0_0 : ByteArray) (A0_1 : Option Addr) (c0_1 : Nat) (l0_1 : List (S78)) (a0_2 : Int) (A0_3 : Option Addr) (c0_3 : Nat) (l0_3 : List (S58)) (A1 : Option Addr) (c1 : Nat) (l1 : List (S61)) (r1 : Int) (r2 : Int) (w : World) (hr0_1 : Kd.C k78 w A0_1 l0_1.length l0_1) (hc0_1 : l0_1.length ≤ c0_1) (hr0_3 : Kd.C k58 w A0_3 l0_3.length l0_3) (hc0_3 : l0_3.length ≤ c0_3) (hr1 : Kd.C k61 w A1 l1.length l1) (hc1 : l1.length ≤ c1) (h : impl_CheckRow.f k a0_0 l0_1 a0_2 l0_3 l1 = some (r1, r2)) :
  Calls Tryz.prog 27 #[.agg #[.string a0_0, .slice A0_1 l0_1.length c0_1, .int .i64 a0_2, .slice A0_3 l0_3.length c0_3], .slice A1 l1.length c1] w fun e w' => e = .returned (.tuple #[.int .i64 r1, .int .i64 r2]) ∧ Below w.heap.size w w' := by
 have hu35 := Tryz.underlying35
 have HR0_1 := ak_ hr0_1
 have HC0_1 := ak_ hc0_1
 clear hr0_1 hc0_1
 have HR0_3 := ak_ hr0_3
 have HC0_3 := ak_ hc0_3
 clear hr0_3 hc0_3
 have HR1 := ak_ hr1
 have HC1 := ak_ hc1
 clear hr1 hc1
 have HB := ak_ (Below.refl w.heap.size w)
 have H := h
 unfold impl_CheckRow.f at H
 clear h
 by_cases c3 : (l1.length : Int) > 4096
 ·rw [if_pos c3] at H
  have c3b0 : decide (4096 < (l1.length : Int)) = true := decide_eq_true c3
  have c3b1 : decide (4096 < l1.length) = true := decide_eq_true (by omega)
  clear c3
  simp only [Option.some.injEq, Prod.mk.injEq] at H
  obtain ⟨rfl, rfl⟩ := H
  go_enter Tryz.func27, Tryz.ntmps27
  go_wp2_with (first | ((with_reducible refine gate_dst (N := 2) rfl ?_); refine bx_ 2 (cs := #[.string a0_0, .slice A0_1 l0_1.length c0_1, .int .i64 a0_2, .slice A0_3 l0_3.length c0_3]) (t := 35) (h_ := ?_); intro gb101 hg w4 hbox hb; have n_ := a4_ (below_step z0_ hb) (hbox) ((gs_ w hg (below_size z0_))) ((gs_ w hg (below_size z0_))); clear HB; obtain ⟨HB, BK101, GW101, GE101⟩ := n_; clear hb hbox hg))
  go_ret2
  exact ⟨z6_, z1_⟩
 rw [if_neg c3] at H
 have c3b0 : decide (4096 < (l1.length : Int)) = false := decide_eq_false c3
 have c3b1 : decide (4096 < l1.length) = false := decide_eq_false (by omega)
 clear c3
 replace H := Option.bind_eq_some_iff.mp H
 obtain ⟨t102, A50, H⟩ := H
 have A5 := ak_ A50
 clear A50
 by_cases c6 : t102 = true
 rotate_left
 ·replace c6 := Bool.eq_false_iff.mpr c6
  subst c6
  have H1 : (some (1, 0)) = some (r1, r2) := by rw [if_neg (show ¬ (false = true) by decide)] at H; exact H
  clear H
  have H := H1
  clear H1
  simp only [Option.some.injEq, Prod.mk.injEq] at H
  obtain ⟨rfl, rfl⟩ := H
  go_enter Tryz.func27, Tryz.ntmps27
  go_wp2_with (first | ((with_reducible refine gate_dst (N := 2) rfl ?_); refine bx_ 2 (cs := #[.string a0_0, .slice A0_1 l0_1.length c0_1, .int .i64 a0_2, .slice A0_3 l0_3.length c0_3]) (t := 35) (h_ := ?_); intro gb101 hg w20 hbox hb; have n_ := a4_ (below_step z0_ hb) (hbox) ((gs_ w hg (below_size z0_))) ((gs_ w hg (below_size z0_))); clear HB; obtain ⟨HB, BK101, GW101, GE101⟩ := n_; clear hb hbox hg; obtain ⟨hcz21_0, hcz21_1, hcz21_2, hcz21_3, hfz21_0, hfz21_1, hfz21_2, hfz21_3⟩ := bcf4 BK101.out) | ((with_reducible refine gate_callee (f := 44) rfl ?_); refine goesL_ (some 12) rfl rfl Tryz.func44 (by kernel_rfl) rfl #[.agg #[.string a0_0, .slice A0_1 l0_1.length c0_1, .int .i64 a0_2, .slice A0_3 l0_3.length c0_3]] rfl z3_ ?_; (with_reducible refine (impl_TableOK.calls k a0_0 _ _ l0_1 a0_2 _ _ l0_3 false _ ?side1 ?side2 ?side3 ?side4 A5.out).mono ?_); (case side1 => exact cz_ ((Kd.C_below HR0_1.out HB.out))); (case side2 => exact HC0_1.out); (case side3 => exact cz_ ((Kd.C_below HR0_3.out HB.out))); (case side4 => exact HC0_3.out); rintro e w22 ⟨rfl, hb⟩; refine ⟨_, rfl, ?_⟩; have n_ := a2_ (blk_below (g := gb101) (o := .cells #[.string a0_0, .slice A0_1 l0_1.length c0_1, .int .i64 a0_2, .slice A0_3 l0_3.length c0_3] 35 (0, 0)) z2_ hb) (below_step z1_ hb); clear BK101 HB; obtain ⟨BK101, HB⟩ := n_; (try clear hb); (try clear hb2); (try clear hk); (try clear hi)))
  go_ret2
  exact ⟨z6_, z1_⟩

 subst c6
 have H1 : ((impl_rowOK.f l1).bind fun t103 => (if t103 = true then ((impl_Table_rowCode.f k a0_0 l0_1 a0_2 l0_3 l1).bind fun bt104 => (some (bt104.1, bt104.2))) else (some (1, 0)))) = some (r1, r2) := by rw [if_pos rfl] at H; exact H
 clear H
 have H := H1
 clear H1
 replace H := Option.bind_eq_some_iff.mp H
 obtain ⟨t103, A70, H⟩ := H
 have A7 := ak_ A70
 clear A70
 by_cases c8 : t103 = true
 rotate_left
 ·replace c8 := Bool.eq_false_iff.mpr c8
  subst c8
  have H1 : (some (1, 0)) = some (r1, r2) := by rw [if_neg (show ¬ (false = true) by decide)] at H; exact H
  clear H
  have H := H1
  clear H1
  simp only [Option.some.injEq, Prod.mk.injEq] at H
  obtain ⟨rfl, rfl⟩ := H
  go_enter Tryz.func27, Tryz.ntmps27
  go_wp2_with (first | ((with_reducible refine gate_dst (N := 2) rfl ?_); refine bx_ 2 (cs := #[.string a0_0, .slice A0_1 l0_1.length c0_1, .int .i64 a0_2, .slice A0_3 l0_3.length c0_3]) (t := 35) (h_ := ?_); intro gb101 hg w16 hbox hb; have n_ := a4_ (below_step z0_ hb) (hbox) ((gs_ w hg (below_size z0_))) ((gs_ w hg (below_size z0_))); clear HB; obtain ⟨HB, BK101, GW101, GE101⟩ := n_; clear hb hbox hg; obtain ⟨hcz17_0, hcz17_1, hcz17_2, hcz17_3, hfz17_0, hfz17_1, hfz17_2, hfz17_3⟩ := bcf4 BK101.out) | ((with_reducible refine gate_callee (f := 44) rfl ?_); refine goesL_ (some 12) rfl rfl Tryz.func44 (by kernel_rfl) rfl #[.agg #[.string a0_0, .slice A0_1 l0_1.length c0_1, .int .i64 a0_2, .slice A0_3 l0_3.length c0_3]] rfl z3_ ?_; (with_reducible refine (impl_TableOK.calls k a0_0 _ _ l0_1 a0_2 _ _ l0_3 true _ ?side1 ?side2 ?side3 ?side4 A5.out).mono ?_); (case side1 => exact cz_ ((Kd.C_below HR0_1.out HB.out))); (case side2 => exact HC0_1.out); (case side3 => exact cz_ ((Kd.C_below HR0_3.out HB.out))); (case side4 => exact HC0_3.out); rintro e w18 ⟨rfl, hb⟩; refine ⟨_, rfl, ?_⟩; have n_ := a2_ (blk_below (g := gb101) (o := .cells #[.string a0_0, .slice A0_1 l0_1.length c0_1, .int .i64 a0_2, .slice A0_3 l0_3.length c0_3] 35 (0, 0)) z2_ hb) (below_step z1_ hb); clear BK101 HB; obtain ⟨BK101, HB⟩ := n_; (try clear hb); (try clear hb2); (try clear hk); (try clear hi)) | (go_at_call 45; (with_reducible refine (impl_rowOK.calls _ _ l1 false _ ?side1 ?side2 A7.out).mono ?_); (case side1 => exact cz_ ((Kd.C_below HR1.out HB.out))); (case side2 => exact HC1.out); rintro e w19 ⟨rfl, hb⟩; have n_ := a2_ (blk_below (g := gb101) (o := .cells #[.string a0_0, .slice A0_1 l0_1.length c0_1, .int .i64 a0_2, .slice A0_3 l0_3.length c0_3] 35 (0, 0)) z2_ hb) (below_step z1_ hb); clear BK101 HB; obtain ⟨BK101, HB⟩ := n_; (try clear hb); (try clear hb2); (try clear hk); (try clear hi)))
  go_ret2
  exact ⟨z6_, z1_⟩
 subst c8
 have H1 : ((impl_Table_rowCode.f k a0_0 l0_1 a0_2 l0_3 l1).bind fun bt104 => (some (bt104.1, bt104.2))) = some (r1, r2) := by rw [if_pos rfl] at H; exact H
 clear H
 have H := H1
 clear H1
 replace H := Option.bind_eq_some_iff.mp H
 obtain ⟨⟨t104, t105⟩, A90, H⟩ := H
 replace H : (some (t104, t105)) = some (r1, r2) := H
 have A9 := ak_ A90
 clear A90
 simp only [Option.some.injEq, Prod.mk.injEq] at H
 obtain ⟨rfl, rfl⟩ := H
 go_enter Tryz.func27, Tryz.ntmps27
 go_wp2_with (first | ((with_reducible refine gate_dst (N := 2) rfl ?_); refine bx_ 2 (cs := #[.string a0_0, .slice A0_1 l0_1.length c0_1, .int .i64 a0_2, .slice A0_3 l0_3.length c0_3]) (t := 35) (h_ := ?_); intro gb101 hg w10 hbox hb; have n_ := a4_ (below_step z0_ hb) (hbox) ((gs_ w hg (below_size z0_))) ((gs_ w hg (below_size z0_))); clear HB; obtain ⟨HB, BK101, GW101, GE101⟩ := n_; clear hb hbox hg; obtain ⟨hcz11_0, hcz11_1, hcz11_2, hcz11_3, hfz11_0, hfz11_1, hfz11_2, hfz11_3⟩ := bcf4 BK101.out) | ((with_reducible refine gate_callee (f := 44) rfl ?_); refine goesL_ (some 12) rfl rfl Tryz.func44 (by kernel_rfl) rfl #[.agg #[.string a0_0, .slice A0_1 l0_1.length c0_1, .int .i64 a0_2, .slice A0_3 l0_3.length c0_3]] rfl z3_ ?_; (with_reducible refine (impl_TableOK.calls k a0_0 _ _ l0_1 a0_2 _ _ l0_3 true _ ?side1 ?side2 ?side3 ?side4 A5.out).mono ?_); (case side1 => exact cz_ ((Kd.C_below HR0_1.out HB.out))); (case side2 => exact HC0_1.out); (case side3 => exact cz_ ((Kd.C_below HR0_3.out HB.out))); (case side4 => exact HC0_3.out); rintro e w12 ⟨rfl, hb⟩; refine ⟨_, rfl, ?_⟩; have n_ := a2_ (blk_below (g := gb101) (o := .cells #[.string a0_0, .slice A0_1 l0_1.length c0_1, .int .i64 a0_2, .slice A0_3 l0_3.length c0_3] 35 (0, 0)) z2_ hb) (below_step z1_ hb); clear BK101 HB; obtain ⟨BK101, HB⟩ := n_; (try clear hb); (try clear hb2); (try clear hk); (try clear hi)) | (go_at_call 45; (with_reducible refine (impl_rowOK.calls _ _ l1 true _ ?side1 ?side2 A7.out).mono ?_); (case side1 => exact cz_ ((Kd.C_below HR1.out HB.out))); (case side2 => exact HC1.out); rintro e w13 ⟨rfl, hb⟩; have n_ := a2_ (blk_below (g := gb101) (o := .cells #[.string a0_0, .slice A0_1 l0_1.length c0_1, .int .i64 a0_2, .slice A0_3 l0_3.length c0_3] 35 (0, 0)) z2_ hb) (below_step z1_ hb); clear BK101 HB; obtain ⟨BK101, HB⟩ := n_; (try clear hb); (try clear hb2); (try clear hk); (try clear hi); obtain ⟨hcz14_0, hcz14_1, hcz14_2, hcz14_3, hfz14_0, hfz14_1, hfz14_2, hfz14_3⟩ := bcf4 BK101.out) | ((with_reducible refine gate_callee (f := 46) rfl ?_); refine goesL_ (some 21) rfl rfl Tryz.func46 (by kernel_rfl) rfl #[.agg #[.string a0_0, .slice A0_1 l0_1.length c0_1, .int .i64 a0_2, .slice A0_3 l0_3.length c0_3], .slice A1 l1.length c1] rfl z3_ ?_; (with_reducible refine (impl_Table_rowCode.calls k a0_0 _ _ l0_1 a0_2 _ _ l0_3 _ _ l1 t104 t105 _ ?side1 ?side2 ?side3 ?side4 ?side5 ?side6 A9.out).mono ?_); (case side1 => exact cz_ ((Kd.C_below HR0_1.out HB.out))); (case side2 => exact HC0_1.out); (case side3 => exact cz_ ((Kd.C_below HR0_3.out HB.out))); (case side4 => exact HC0_3.out); (case side5 => exact cz_ ((Kd.C_below HR1.out HB.out))); (case side6 => exact HC1.out); rintro e w15 ⟨rfl, hb⟩; refine ⟨_, rfl, ?_⟩; have n_ := a2_ (blk_below (g := gb101) (o := .cells #[.string a0_0, .slice A0_1 l0_1.length c0_1, .int .i64 a0_2, .slice A0_3 l0_3.length c0_3] 35 (0, 0)) z2_ hb) (below_step z1_ hb); clear BK101 HB; obtain ⟨BK101, HB⟩ := n_; (try clear hb); (try clear hb2); (try clear hk); (try clear hi)))
 go_ret2
 exact ⟨z6_, z1_⟩
end

section
def impl_highBytes.l0 : Nat → Int → Int → List Int → Int → Int → Option (List Int)
 | 0, _, _, _, _, _ => none
 | k + 1, x0, x1, x5, x10, x11 => if x11 < x10 then (if 0 ≤ (wrap64 (8 * (wrap64 ((wrap64 (x1 - 1)) - x11)))) then (if 0 ≤ x11 then (if x11 < (x5.length : Int) then (impl_highBytes.l0 k x0 x1 (x5.set (x11 : Int).toNat ((shr .u64 x0 (wrap64 (8 * (wrap64 ((wrap64 (x1 - 1)) - x11))))) % 256)) x10 (wrap64 (x11 + 1))) else (none)) else (none)) else (none)) else (some x5)
def impl_highBytes.f (k : Nat) (a0 : Int) (a1 : Int) : Option (List Int) := if 0 ≤ a1 then (if (a1 : Int).toNat ≤ 281474976710656 then ((some (List.replicate (a1 : Int).toNat 0 : List Int)).bind fun y101 => (impl_highBytes.l0 k a0 a1 y101 (y101.length : Int) 0)) else (none)) else (none)
theorem impl_highBytes.mono_l : ∀ k, (∀ y0 y1 y2 y3 y4, LeO (impl_highBytes.l0 k y0 y1 y2 y3 y4) (impl_highBytes.l0 (k + 1) y0 y1 y2 y3 y4))
 | 0 => fun _ _ _ _ _ r h => by simp [impl_highBytes.l0] at h
 | k + 1 => by
  have ih0 := impl_highBytes.mono_l k
  intro y0 y1 y2 y3 y4
  unfold impl_highBytes.l0
  repeat' first | with_reducible (first | exact ih0 _ _ _ _ _ | exact LeO.refl _ | exact LeO.none _ | refine LeO.ite ?_ ?_ | refine LeO.bind ?_ (fun _ => ?_)) | exact ih0 _ _ _ _ _ | exact LeO.none _ | refine LeO.ite ?_ ?_ | refine LeO.bind ?_ (fun _ => ?_)
theorem impl_highBytes.mono : ∀ a0 a1 k, LeO (impl_highBytes.f k a0 a1) (impl_highBytes.f (k + 1) a0 a1) := by
 intro a0 a1 k
 have ih0 := impl_highBytes.mono_l k
 unfold impl_highBytes.f
 repeat' first
   | (with_reducible exact ih0 _ _ _ _ _)
   | (with_reducible exact LeO.refl _)
   | (with_reducible exact LeO.none _)
   | (with_reducible refine LeO.ite ?_ ?_)
   | (with_reducible refine LeO.bind ?_ (fun _ => ?_))
   | exact ih0 _ _ _ _ _
   | exact LeO.none _
   | refine LeO.ite ?_ ?_
   | refine LeO.bind ?_ (fun _ => ?_)
theorem impl_highBytes.calls (k : Nat) (a0 : Int) (a1 : Int) (r : List Int) (w : World) (h : impl_highBytes.f k a0 a1 = some r) :
  Calls Tryz.prog 69 #[.int .u64 a0, .int .i64 a1] w fun e w' => ∃ v0_ : Value, e = .returned (v0_) ∧ Kd.R (Kd.int .u8) 5 w' w.heap.size (fun _ => True) v0_ r ∧ Below w.heap.size w w' := by
 have HB := ak_ (Below.refl w.heap.size w)
 have H := h
 unfold impl_highBytes.f at H
 clear h
 by_cases c3 : 0 ≤ a1
 rotate_left
 ·rw [if_neg c3] at H
  exact absurd H (by simp)

 rw [if_pos c3] at H
 have c3b0 := eq_true c3
 have c3b1 := decide_eq_true c3
 clear c3
 by_cases c4 : (a1 : Int).toNat ≤ 281474976710656
 rotate_left
 ·rw [if_neg c4] at H
  exact absurd H (by simp)
 rw [if_pos c4] at H
 have c4b0 := eq_true c4
 have c4b1 := decide_eq_true c4
 clear c4
 obtain ⟨y101, hy101⟩ : ∃ y_ : List Int, y_ = (List.replicate (a1 : Int).toNat 0) := ⟨_, rfl⟩
 replace H : (impl_highBytes.l0 k a0 a1 y101 (y101.length : Int) 0) = some r := by first | (rw [hy101]; with_reducible exact H) | (have H2_ := (Option.bind_some _ _).symm.trans H; rw [hy101]; with_reducible exact H2_) | (have H2_ := (Option.bind_some _ _).symm.trans H; with_reducible exact H2_) | with_reducible exact H | (rw [hy101]; exact H) | exact H
 have Ny101 := ak_ hy101
 clear hy101
 have H' := ak_ H
 clear H
 go_enter Tryz.func69, Tryz.ntmps69
 go_wp2_with (first | ((with_reducible refine gate_dst (N := 8) rfl ?_); refine Kd.R_make (Kd.int .u8) _ 5 rfl (N := 8) rfl 29 _ _ rfl a1 rfl rfl Tryz.underlying29 (.int .u8 0) 1 info5 rfl (by decide) (by omega) 0 (ok := fun _ => True) (okp := fun _ => True) rfl (fun _ hk => hk) trivial (of_decide_eq_true z5_) (Nat.le_trans (Nat.mul_le_mul_right _ (of_decide_eq_true z5_ : a1.toNat ≤ 281474976710656)) (by omega)) (Below.refl _ _) (Nat.le_refl _) ?_; intro v102 w5 ho6 hb hg_ hnew_; clear hg_ hnew_; (first | rw [← Ny101.out] at ho6 | (simp only [Int.reduceToNat] at ho6; rw [← Ny101.out] at ho6)); have n_ := a2_ (Kd.R_lower ho6 (below_size z0_)) (below_step z0_ hb); clear HB; obtain ⟨HO103, HB⟩ := n_; clear hb ho6; obtain ⟨Ao7, co7, eo7⟩ := Kd.R_slice HO103.out; subst eo7))
 go_loopg [11] k (fun kq v11 w' => ∃ (x5_1 : List Int) (x11_1 : Int), v11 = .int .i64 x11_1 ∧ Aside0 (impl_highBytes.l0 kq a0 a1 x5_1 (y101.length : Int) x11_1 = some r) ∧ Aside0 (kq ≤ k) ∧ Aside0 (Kd.R (Kd.int .u8) 5 w' w.heap.size (fun _ => True) (.slice Ao7 y101.length co7) x5_1) ∧ Aside0 (Below w.heap.size w w'))
 case atStart => exact ⟨(y101), (0), z8_, H', ⟨Nat.le_refl _⟩, ⟨z37_⟩, ⟨z0_⟩⟩
 case round =>
  clear H'
  try clear p2
  try clear c3
  try clear c3b0
  try clear c3b1
  try clear c4
  try clear c4b0
  try clear c4b1
  try clear c6
  obtain ⟨x5_1, x11_1, rfl, HA, HK1, HO_5, HB⟩ := hrel
  have hl5_1 := (Kd.R_reads' HO_5.out).1
  rw [hl5_1] at HO_5
  (try simp only [hl5_1])
  cases gk with
  | zero => exact absurd HA.out (by simp [impl_highBytes.l0])
  | succ k1 =>
   have H := HA.out
   clear HA
   simp only [impl_highBytes.l0] at H
   by_cases c8 : x11_1 < (y101.length : Int)
   rotate_left
   ·rw [if_neg c8] at H
    have c8b0 := decide_eq_false c8
    (try simp only [hl5_1] at c8b0)
    clear c8
    obtain rfl := Option.some.inj H
    go_wp2
    go_ret
    exact ⟨_, z6_, by (with_reducible repeat (first | apply Kd.R_alloc | apply Kd.R_drewN | apply Kd.R_drew)); exact HO_5.out, z0_⟩
   rw [if_pos c8] at H
   have c8b0 := decide_eq_true c8
   clear c8
   obtain ⟨ji9, hji9⟩ : ∃ j_ : Int, (wrap64 (8 * (wrap64 ((wrap64 (a1 - 1)) - x11_1)))) = j_ := ⟨_, rfl⟩
   replace H : (if 0 ≤ (ji9) then (if 0 ≤ x11_1 then (if x11_1 < (x5_1.length : Int) then (impl_highBytes.l0 k1 a0 a1 (x5_1.set (x11_1 : Int).toNat ((shr .u64 a0 (ji9)) % 256)) (y101.length : Int) (wrap64 (x11_1 + 1))) else (none)) else (none)) else (none)) = some r := by first | (rw [hji9] at H; exact H) | (simp only [hji9] at H ⊢; exact H)
   have hji9w : (IntKind.i64.wrap (8 * (wrap64 ((wrap64 (a1 - 1)) - x11_1)))) = ji9 := (i64_w _).trans hji9
   by_cases c10 : 0 ≤ (ji9)
   rotate_left
   ·rw [if_neg c10] at H
    exact absurd H (by simp)
   rw [if_pos c10] at H
   have c10b0 := eq_true c10
   have c10b1 := decide_eq_true c10
   clear c10
   obtain ⟨ji11, hji11⟩ : ∃ j_ : Int, (shr .u64 a0 (ji9)) = j_ := ⟨_, rfl⟩
   replace H : (if 0 ≤ x11_1 then (if x11_1 < (x5_1.length : Int) then (impl_highBytes.l0 k1 a0 a1 (x5_1.set (x11_1 : Int).toNat ((ji11) % 256)) (y101.length : Int) (wrap64 (x11_1 + 1))) else (none)) else (none)) = some r := by first | (rw [hji11] at H; exact H) | (simp only [hji11] at H ⊢; exact H)
   have hji11_ : (a0 / 2 ^ min (ji9).toNat 64) = ji11 := hji11
   have hji11z : (ji9) ≤ 64 → (a0 / 2 ^ (ji9).toNat) = ji11 := shr_small hji11
   by_cases c12 : 0 ≤ x11_1
   rotate_left
   ·rw [if_neg c12] at H
    exact absurd H (by simp)
   rw [if_pos c12] at H
   have c12b0 := decide_eq_true c12
   clear c12
   by_cases c13 : x11_1 < (x5_1.length : Int)
   rotate_left
   ·rw [if_neg c13] at H
    exact absurd H (by simp)
   rw [if_pos c13] at H
   have c13b0 := decide_eq_true c13
   clear c13
   obtain ⟨y104, hy104⟩ : ∃ y_ : List Int, y_ = (x5_1.set (x11_1 : Int).toNat ((ji11) % 256)) := ⟨_, rfl⟩
   replace H : (impl_highBytes.l0 k1 a0 a1 y104 (y101.length : Int) (wrap64 (x11_1 + 1))) = some r := by first | (rw [hy104]; with_reducible exact H) | (have H2_ := (Option.bind_some _ _).symm.trans H; rw [hy104]; with_reducible exact H2_) | (have H2_ := (Option.bind_some _ _).symm.trans H; with_reducible exact H2_) | with_reducible exact H | (rw [hy104]; exact H) | exact H
   have Ny104 := ak_ hy104
   clear hy104
   have H' := ak_ H
   clear H
   have p14 : 0 ≤ (x11_1 : Int) := of_decide_eq_true z5_
   have q14 : (x11_1 : Int) < ((x5_1.length : Int) : Int) := of_decide_eq_true z5_
   obtain ⟨go14, co14, eo14, gb14, gl14, cl14, HG14⟩ := Kd.R_form HO_5.out (by omega)
   (first | cases eo14 | (injection eo14 with ea_ en_ ec_; (first | subst ea_ | (injection ea_ with ea_; subst ea_)); subst ec_; clear en_))
   have GB14 := ak_ gb14
   have GG14 := ak_ HG14
   clear gb14 gl14 HG14
   obtain ⟨hx14_0, hf14_0⟩ := Kd.R_celln 0 HO_5.out (x11_1 : Int) p14 q14
   replace p14 := eq_true p14
   replace q14 := eq_true q14
   have HP15 := Kd.R_putg HO_5.out (x11_1 : Int) ((ji11) % 256)
   go_wp2_with (first | ((with_reducible refine gate_store (t := 5) (p := 24) rfl ?_); refine store_event (t := 5) (p := 24) (v := ?vo_w16) (w1 := (wr.setCell ⟨go14, (x11_1 : Int).toNat, none⟩ (.int .u8 ((ji11) % 256)))) ?hg ?ho ?hn ?hr ?_; (case ho => rfl); (case hg => rfl); (case hn => rfl); (case hr => first | (go_simp; done) | (go_simp; rfl)); intro w16 hw; have hg : wr.grownBy w16 (some go14) := (by rw [hw]; exact HP15.2); have hp_ : Kd.R (Kd.int .u8) 5 w16 w.heap.size (fun _ => True) (.slice (some ⟨go14, 0, none⟩) x5_1.length co7) y104 := (by rw [hw, Ny104.out]; exact HP15.1); clear HP15; have n_ := a2_ (hp_) ((by rw [hw]; exact below_set (HB.out) GB14.out : Below w.heap.size w w16)); clear HO_5 HB; obtain ⟨HO_5, HB⟩ := n_; clear hg hw hp_))
   (try simp only [← hl5_1])
   go_roundg k1
   case measure => have := HK1.out; omega
   case rel => exact ⟨(y104), (wrap64 (x11_1 + 1)), z8_, H', ⟨by have := HK1.out; omega⟩, ⟨by (try simp only [hl5_1]); (with_reducible repeat (first | apply Kd.R_alloc | apply Kd.R_drewN | apply Kd.R_drew)); exact HO_5.out⟩, ⟨z0_⟩⟩
end

section
def repB (b : UInt8) (t : List UInt8) : List UInt8 → List UInt8
 | [] => []
 | c :: l => if c == b then t ++ repB b t l else c :: repB b t l
theorem repB_none (b : UInt8) (t : List UInt8) : ∀ l : List UInt8, Lib.countByte l b = 0 → repB b t l = l
 | [], _ => rfl
 | c :: l, h => by
  unfold Lib.countByte at h
  rw [List.count_cons] at h
  by_cases hc : (c == b) = true
  ·rw [if_pos hc] at h; omega
  ·rw [repB, if_neg hc, repB_none b t l (by unfold Lib.countByte; omega)]
theorem repB_hit (b : UInt8) (t : List UInt8) : ∀ (l : List UInt8) (g : Nat), Lib.countByte l b = g + 1 → ∃ j : Nat, Lib.indexByte l b = j ∧ j < l.length ∧ repB b t l = l.take j ++ t ++ repB b t (l.drop (j + 1)) ∧ Lib.countByte (l.drop (j + 1)) b = g
 | [], g, h => by simp [Lib.countByte] at h
 | c :: l, g, h => by
  unfold Lib.countByte at h
  rw [List.count_cons] at h
  by_cases hc : (c == b) = true
  ·rw [if_pos hc] at h
   refine ⟨0, by simp [Lib.indexByte, hc], by simp, ?_, ?_⟩
   ·simp [repB, hc]
   ·unfold Lib.countByte; simpa using h
  rw [if_neg hc] at h
  obtain ⟨j, h1, h2, h3, h4⟩ := repB_hit b t l g (by unfold Lib.countByte; omega)
  refine ⟨j + 1, ?_, by simp; omega, ?_, ?_⟩
  ·unfold Lib.indexByte
   rw [if_neg hc, h1, if_neg (by simp)]; try rfl
  ·rw [repB, if_neg hc, h3]; simp
  ·simpa using h4
theorem strings_Replace.some_ {P : Program} {ρ : Go.Shelf.Ren} (L : Go.Proofs.Lays.n154 P ρ) (X : Go.Proofs.Builder.Extra P ρ) (s old new : ByteArray) (b : UInt8) (K : Nat) (w : World) (hs : s.size < 4294967281) (ho : old.size = 1) (hne : old ≠ new)
  (hC : Calls P (ρ.f 138) #[.string s, .string old] w fun e w' => e = .returned (.int .i64 K) ∧ w' = w)
  (hI : ∀ x w2, Calls P (ρ.f 143) #[.string x, .string old] w2 fun e w' => e = .returned (.int .i64 (Lib.indexByte x.data.toList b)) ∧ w' = w2)
  (hK : Lib.countByte s.data.toList b = K) (hK0 : 1 ≤ K) (hKs : K ≤ s.size) (hlen : s.size + K * new.size ≤ 140737488355328) :
  Calls P (ρ.f 154) #[.string s, .string old, .string new, .int .i64 (-1)] w fun e w' => e = .returned (.string ⟨(repB b new.data.toList s.data.toList).toArray⟩) ∧ Below w.heap.size w w' := by
 have hbeq : (old.toList == new.toList) = false := (Lib.bytes_beq_false_iff old new).2 hne
 have hcz : ((K : Int) == 0) = false := beq_eq_false_iff_ne.2 (by omega)
 have hlenL : s.data.toList.length = s.size := (Lib.size_eq s).symm
 have hga := Lib.grow_arg s.size K new.size old.size hK0 (by rw [ho]; omega) hlen
 have hod : decide (0 < old.size) = true := decide_eq_true (by omega)
 have HO := ak_ ho
 clear ho
 have mixed := L.mixed
 have t72 := L.t72; have a72 := L.a72; have z72 := L.z72; have v72 := L.v72; have u72 := run_underlying L.t72
 have t70 := L.t70; have a70 := L.a70; have z70 := L.z70; have v70 := L.v70; have u70 := run_underlying L.t70
 have t37 := L.t37; have a37 := L.a37; have z37 := L.z37; have v37 := L.v37; have u37 := run_underlying L.t37
 have t3 := L.t3; have a3 := L.a3; have z3 := L.z3; have v3 := L.v3; have u3 := run_underlying L.t3
 have t9 := L.t9; have a9 := L.a9; have z9 := L.z9; have v9 := L.v9; have u9 := run_underlying L.t9
 have t4 := L.t4; have a4 := L.a4; have z4 := L.z4; have v4 := L.v4; have u4 := run_underlying L.t4
 have e138 : ∀ args w, (callFunc (ρ.f 138) args).run P w = .ok (.enter (ρ.f 138) args) w := enters_of L.f138 (by kernel_rfl) rfl
 have e143 : ∀ args w, (callFunc (ρ.f 143) args).run P w = .ok (.enter (ρ.f 143) args) w := enters_of L.f143 (by kernel_rfl) rfl
 have e165 : ∀ args w, (callFunc (ρ.f 165) args).run P w = .ok (.enter (ρ.f 165) args) w := enters_of L.f165 (by kernel_rfl) rfl
 have e166 : ∀ args w, (callFunc (ρ.f 166) args).run P w = .ok (.enter (ρ.f 166) args) w := enters_of L.f166 (by kernel_rfl) rfl
 have e169 : ∀ args w, (callFunc (ρ.f 169) args).run P w = .ok (.enter (ρ.f 169) args) w := enters_of L.f169 (by kernel_rfl) rfl
 go_enter L.f154, Go.Proofs.Body.n154_ntmps ρ
 go_wp2_with (first | (go_at_fn (ρ.f 138); refine hC.mono ?_; rintro e w' ⟨rfl, hw⟩; rw [hw]))
 clear hC
 rw [hga]
 refine (Any.Builder_Grow_fresh { L with } X w.heap.size w.heap.size _ _ (Nat.le_refl _) (heap_alloc_new w _) (by simp) (by omega)).mono ?_
 rintro e w1 ⟨rfl, hb0, hb1⟩
 have H1 := ak_ (Or.inr hb0 : Lib.IsBuilder (ρ.t 72) (ρ.t 5) w.heap.size w.heap.size (Lib.byteCells []) w1)
 have Hb1 := ak_ (((Below.refl w.heap.size w).alloc (Nat.le_refl _) _).trans hb1)
 clear hb0 hb1 hga
 go_wp2_with fail
 go_loopg [11, 53] K (fun g s11 s53 wx => ∃ (i p : Nat) (acc : List UInt8), s53 = .int .i64 i ∧ s11 = .int .i64 p ∧ i + g = K ∧ p ≤ s.size ∧
  Aside0 (Lib.IsBuilder (ρ.t 72) (ρ.t 5) w.heap.size w.heap.size (Lib.byteCells acc) wx) ∧ Aside0 (Below w.heap.size w wx) ∧ Aside0 (acc ++ repB b new.data.toList (s.data.toList.drop p) = repB b new.data.toList s.data.toList) ∧
  Lib.countByte (s.data.toList.drop p) b = g ∧ acc.length + (s.size - p) + g * new.size ≤ s.size + K * new.size)
 case atStart => exact ⟨0, 0, [], rfl, rfl, by omega, Nat.zero_le _, H1, Hb1, ak_ (by simp), by simpa using hK, by simp⟩
 case round =>
  obtain ⟨i, p, acc, rfl, rfl, hig, hp, HB, HW, HR, hg, hbd⟩ := hrel
  have hBw : w.heap.size ≤ wr.heap.size := HW.out.size
  have c1 : (0 : Int) ≤ (p : Int) := by omega
  have c2 : (p : Int) ≤ (s.size : Int) := by omega
  cases gk with
  | zero =>
   have hiK : ¬ ((i : Int) < (K : Int)) := by omega
   go_wp2_with fail
   refine (Any.Builder_WriteString { L with } X w.heap.size w.heap.size _ _ wr HB.out (by rw [Lib.byteCells_length, ByteArray.size_extract]; omega) hBw).mono ?_
   rintro e w3 ⟨rfl, h3, hb3⟩
   rw [Lib.strCells_eq, Lib.extract_to_end, ← Lib.byteCells_append] at h3
   have hfin : acc ++ s.data.toList.drop p = repB b new.data.toList s.data.toList := by rw [← HR.out, repB_none b _ _ hg]
   rw [hfin] at h3
   have H3 := ak_ (Or.inr h3 : Lib.IsBuilder (ρ.t 72) (ρ.t 5) w.heap.size w.heap.size _ w3)
   have Hb3 := ak_ (HW.out.trans hb3)
   have hBw3 : w.heap.size ≤ w3.heap.size := Hb3.out.size
   clear h3 hb3 hfin
   go_wp2_with fail
   refine (Any.Builder_String_any { L with } X w.heap.size w.heap.size _ w3 H3.out hBw3).mono ?_
   rintro e w5 ⟨rfl, hb5⟩
   have Hb5 := ak_ (Hb3.out.trans hb5)
   clear hb5
   go_wp2
   go_ret
   exact ⟨rfl, Hb5.out⟩
  | succ g =>
   have hiK : (i : Int) < (K : Int) := by omega
   obtain ⟨j, hj, hjl, hrep, hcnt⟩ := repB_hit b new.data.toList (s.data.toList.drop p) g hg
   have hroom : j + 1 ≤ s.size - p := by rw [List.length_drop, hlenL] at hjl; omega
   have hsucc : (g + 1) * new.size = g * new.size + new.size := Nat.succ_mul _ _
   have c3 : (p : Int) ≤ (p : Int) + (j : Int) := by omega
   have c4 : (p : Int) + (j : Int) ≤ (s.size : Int) := by omega
   have Hn := ak_ (show Lib.byteCells acc ++ Lib.strCells (s.extract p (p + j)) ++ Lib.strCells new = Lib.byteCells (acc ++ (s.data.toList.drop p).take j ++ new.data.toList) by
    rw [Lib.strCells_eq, Lib.strCells_eq, Lib.extract_data, Nat.add_sub_cancel_left, ← Lib.byteCells_append, ← Lib.byteCells_append])
   have Hrep := ak_ (show (acc ++ (s.data.toList.drop p).take j ++ new.data.toList) ++ repB b new.data.toList (s.data.toList.drop (p + j + old.size)) = repB b new.data.toList s.data.toList by
    rw [← HR.out, hrep, List.drop_drop, HO.out]
    simp only [List.append_assoc, Nat.add_assoc])
   have Hcnt := ak_ (show Lib.countByte (s.data.toList.drop (p + j + old.size)) b = g by rw [HO.out, show p + j + 1 = p + (j + 1) by omega, ← List.drop_drop]; exact hcnt)
   have htl : ((s.data.toList.drop p).take j).length = j := by rw [List.length_take, List.length_drop, hlenL]; omega
   clear hrep hcnt HR
   go_wp2_with (first | (go_at_fn (ρ.f 143); refine (hI _ _).mono ?_; rintro e w' ⟨rfl, hw⟩; rw [hw, Lib.extract_to_end, hj]))
   refine (Any.Builder_WriteString { L with } X w.heap.size w.heap.size _ (s.extract p (p + j)) wr HB.out (by rw [Lib.byteCells_length, ByteArray.size_extract]; omega) hBw).mono ?_
   rintro e w3 ⟨rfl, h3, hb3⟩
   have hBw3 : w.heap.size ≤ w3.heap.size := Nat.le_trans hBw hb3.size
   have H3 := ak_ h3
   have Hb3 := ak_ hb3
   clear h3 hb3
   go_wp2_with fail
   refine (Any.Builder_WriteString { L with } X w.heap.size w.heap.size _ new w3 (Or.inr H3.out) (by rw [List.length_append, Lib.byteCells_length, Lib.strCells_length, ByteArray.size_extract]; omega) hBw3).mono ?_
   rintro e w4 ⟨rfl, h4, hb4⟩
   rw [Hn.out] at h4
   have H4 := ak_ (Or.inr h4 : Lib.IsBuilder (ρ.t 72) (ρ.t 5) w.heap.size w.heap.size _ w4)
   have Hb4 := ak_ ((HW.out.trans Hb3.out).trans hb4)
   clear h4 hb4
   go_wp2
   have ho := HO.out
   go_roundg g
   case measure => omega
   case rel => exact ⟨i + 1, p + j + old.size, _, by first | rfl | (simp; unfold wrap64; omega), by first | rfl | (simp; done) | (simp; unfold wrap64; omega), by omega, by omega, H4, Hb4, Hrep, Hcnt.out, by simp only [List.length_append, htl, ← Lib.size_eq]; omega⟩
theorem strings_Replace.none_ {P : Program} {ρ : Go.Shelf.Ren} (L : Go.Proofs.Lays.n154 P ρ) (s old new : ByteArray) (w : World) (hne : old ≠ new)
  (hC : Calls P (ρ.f 138) #[.string s, .string old] w fun e w' => e = .returned (.int .i64 (0 : Nat)) ∧ w' = w) :
  Calls P (ρ.f 154) #[.string s, .string old, .string new, .int .i64 (-1)] w fun e w' => e = .returned (.string s) ∧ Below w.heap.size w w' := by
 have hbeq : (old.toList == new.toList) = false := (Lib.bytes_beq_false_iff old new).2 hne
 have t3 := L.t3; have a3 := L.a3; have z3 := L.z3; have v3 := L.v3
 have t9 := L.t9; have a9 := L.a9; have z9 := L.z9; have v9 := L.v9
 have t4 := L.t4; have a4 := L.a4; have z4 := L.z4; have v4 := L.v4
 have e138 : ∀ args w, (callFunc (ρ.f 138) args).run P w = .ok (.enter (ρ.f 138) args) w := enters_of L.f138 (by kernel_rfl) rfl
 go_enter L.f154, Go.Proofs.Body.n154_ntmps ρ
 go_wp2_with (first | (go_at_fn (ρ.f 138); refine hC.mono ?_; rintro e w' ⟨rfl, hw⟩; rw [hw]))
 go_ret
 exact ⟨rfl, Below.refl _ _⟩
def strings_ReplaceAll.f (a0 : ByteArray) (a1 : ByteArray) (a2 : ByteArray) : Option ByteArray := if a1.size = 1 ∧ a1 ≠ a2 ∧ a0.size < 4294967281 ∧ a2.size ≤ 1000 then some ⟨(repB (a1.data.getD 0 0) a2.data.toList a0.data.toList).toArray⟩ else none
theorem strings_ReplaceAll.calls (a0 : ByteArray) (a1 : ByteArray) (a2 : ByteArray) (r : ByteArray) (w : World) (h : strings_ReplaceAll.f a0 a1 a2 = some r) :
  Calls Tryz.prog 71 #[.string a0, .string a1, .string a2] w fun e w' => e = .returned (.string r) ∧ Below w.heap.size w w' := by
 unfold strings_ReplaceAll.f at h
 by_cases hc : a1.size = 1 ∧ a1 ≠ a2 ∧ a0.size < 4294967281 ∧ a2.size ≤ 1000
 case neg => rw [if_neg hc] at h; cases h
 rw [if_pos hc] at h
 obtain rfl := Option.some.inj h
 obtain ⟨h1, hne, hs, h2⟩ := hc
 obtain ⟨b, rfl⟩ := Lib.one_byte a1 h1
 have L := Tryz.lays155
 have hC := Any.strings_Count_one (ρ := Tryz.lays155_ren) { L with } a0 b w
 have hle : Lib.countByte a0.data.toList b ≤ a0.size := by rw [Lib.size_eq]; exact List.count_le_length
 have c : Calls Tryz.prog 87 #[.string a0, .string ⟨#[b]⟩, .string a2, .int .i64 (-1)] w fun e w' => e = .returned (.string ⟨(repB b a2.data.toList a0.data.toList).toArray⟩) ∧ Below w.heap.size w w' := by
  by_cases hk : Lib.countByte a0.data.toList b = 0
  rotate_left
  ·exact strings_Replace.some_ (ρ := Tryz.lays155_ren) { L with } Tryz.Builder_Extra_155 a0 ⟨#[b]⟩ a2 b _ w hs rfl hne hC (fun x w2 => Any.strings_Index_one (ρ := Tryz.lays155_ren) { L with } x b w2) rfl (by omega) hle (by
    have : Lib.countByte a0.data.toList b * a2.size ≤ 4294967281 * 1000 := Nat.mul_le_mul (by omega) h2
    omega)
  rw [hk] at hC
  refine (strings_Replace.none_ (ρ := Tryz.lays155_ren) { L with } a0 ⟨#[b]⟩ a2 w hne hC).mono ?_
  rintro e w' ⟨rfl, hw⟩
  exact ⟨by rw [repB_none b _ _ hk, Lib.mk_data], hw⟩
 go_enter Tryz.func71, Tryz.ntmps71
 go_wp2_with (go_at_call 87; refine c.mono ?_; rintro e w' ⟨rfl, hw⟩)
 go_ret
 exact ⟨rfl, hw⟩
end

end Go.Proofs.YtlikagbdhjdggaaGreatDoor.X
end
