/- Contracts of functions, and what is told of them. -/
import Derived.Test.YtfbclbbhomhfaaaGreatDoorYFnExactRowKey3
import Derived.Test.YtfbclbbhomhfaaaGreatDoorYFnExactRowKey13
set_option linter.unusedSimpArgs false
set_option linter.unusedVariables false
section
namespace Go.Proofs.YtfbclbbhomhfaaaGreatDoor.X
open Go.RowKit Go.Proofs.YtfbclbbhomhfaaaGreatDoorW.PrintWords Go.Proofs.YtfbclbbhomhfaaaGreatDoorW.PrintLast Go.Proofs.YtfbclbbhomhfaaaGreatDoorW.PrintMore
attribute [local go_sem] max2_int min2_int max_two min_two max_three min_three max_four min_four   -- for this text's walks alone

section
mutual
def spec_l01Key.l0 : Nat → List (S56) → List Int → Int → Option (List Int)
 | 0, _, _, _ => none
 | k + 1, x0, x3, x4 => if x4 < (x0.length : Int) then (if 0 ≤ x4 then (if x3.length < 140737488355328 then ((some (x3 ++ [((rd_T56 x0 x4).f0) % 256] : List Int)).bind fun y106 => (if ((rd_T56 x0 x4).f0) = 1 then (if y106.length < 140737488355328 then (spec_l01Key.l0 k x0 (y106 ++ [((rd_T56 x0 x4).f1) % 256]) (wrap64 (x4 + 1))) else (none)) else (if ((rd_T56 x0 x4).f0) = 2 then ((spec_l01Eight.f k ((rd_T56 x0 x4).f1)).bind fun t112 => (if y106.length + t112.length < 140737488355328 then (spec_l01Key.l0 k x0 (y106 ++ t112) (wrap64 (x4 + 1))) else (none))) else (if ((rd_T56 x0 x4).f0) = 3 then (spec_l01Key.j1 k x0 y106 x4 (((rd_T56 x0 x4).f0) == 3) ((rd_T56 x0 x4).f0) ((rd_T56 x0 x4).f1) ((rd_T56 x0 x4).f2)) else (spec_l01Key.j1 k x0 y106 x4 (((rd_T56 x0 x4).f0) == 4) ((rd_T56 x0 x4).f0) ((rd_T56 x0 x4).f1) ((rd_T56 x0 x4).f2)))))) else (none)) else (none)) else (some x3)
def spec_l01Key.j1 : Nat → List (S56) → List Int → Int → Bool → Int → Int → ByteArray → Option (List Int)
 | 0, _, _, _, _, _, _, _ => none
 | k + 1, x0, x3, x4, x41, x106000, x106001, x106002 => if x41 = true then (spec_l01Key.l1 k x0 x3 x4 0 x106000 x106001 x106002) else (spec_l01Key.l0 k x0 x3 (wrap64 (x4 + 1)))
def spec_l01Key.l1 : Nat → List (S56) → List Int → Int → Int → Int → Int → ByteArray → Option (List Int)
 | 0, _, _, _, _, _, _, _ => none
 | k + 1, x0, x3, x4, x6, x106000, x106001, x106002 => if x6 < (x106002.size : Int) then (if 0 ≤ x6 then (if x3.length < 140737488355328 then ((some (x3 ++ [bt x106002 x6] : List Int)).bind fun y118 => (if (bt x106002 x6) = 0 then (if y118.length < 140737488355328 then (spec_l01Key.l1 k x0 (y118 ++ [255]) x4 (wrap64 (x6 + 1)) x106000 x106001 x106002) else (none)) else (spec_l01Key.l1 k x0 y118 x4 (wrap64 (x6 + 1)) x106000 x106001 x106002))) else (none)) else (none)) else ((some (([0, 1] : List Int) : List Int)).bind fun y124 => (if x3.length + y124.length < 140737488355328 then (spec_l01Key.l0 k x0 (x3 ++ y124) (wrap64 (x4 + 1))) else (none)))
end
def spec_l01Key.f (k : Nat) (l0 : List (S56)) : Option (List Int) := spec_l01Key.l0 k l0 (([] : List Int)) 0
theorem spec_l01Key.mono_l : ∀ k, (∀ y0 y1 y2, LeO (spec_l01Key.l0 k y0 y1 y2) (spec_l01Key.l0 (k + 1) y0 y1 y2)) ∧ (∀ y0 y1 y2 y3 y4 y5 y6, LeO (spec_l01Key.j1 k y0 y1 y2 y3 y4 y5 y6) (spec_l01Key.j1 (k + 1) y0 y1 y2 y3 y4 y5 y6)) ∧ (∀ y0 y1 y2 y3 y4 y5 y6, LeO (spec_l01Key.l1 k y0 y1 y2 y3 y4 y5 y6) (spec_l01Key.l1 (k + 1) y0 y1 y2 y3 y4 y5 y6))
 | 0 => ⟨fun _ _ _ r h => by simp [spec_l01Key.l0] at h, fun _ _ _ _ _ _ _ r h => by simp [spec_l01Key.j1] at h, fun _ _ _ _ _ _ _ r h => by simp [spec_l01Key.l1] at h⟩
 | k + 1 => by
  obtain ⟨ih0, ih1, ih2⟩ := spec_l01Key.mono_l k
  refine ⟨?_, ?_, ?_⟩
  rotate_left
  ·intro y0 y1 y2 y3 y4 y5 y6
   unfold spec_l01Key.j1
   repeat' first
   | (with_reducible exact ih0 _ _ _)
   | (with_reducible exact ih1 _ _ _ _ _ _ _)
   | (with_reducible exact ih2 _ _ _ _ _ _ _)
   | (with_reducible exact spec_l01Eight.mono _ _)
   | (with_reducible exact LeO.refl _)
   | (with_reducible exact LeO.none _)
   | (with_reducible refine LeO.ite ?_ ?_)
   | (with_reducible refine LeO.bind ?_ (fun _ => ?_))
   | exact ih0 _ _ _
   | exact ih1 _ _ _ _ _ _ _
   | exact ih2 _ _ _ _ _ _ _
   | exact spec_l01Eight.mono _ _
   | exact LeO.none _
   | refine LeO.ite ?_ ?_
   | refine LeO.bind ?_ (fun _ => ?_)
  ·intro y0 y1 y2 y3 y4 y5 y6
   unfold spec_l01Key.l1
   repeat' first
   | (with_reducible exact ih0 _ _ _)
   | (with_reducible exact ih1 _ _ _ _ _ _ _)
   | (with_reducible exact ih2 _ _ _ _ _ _ _)
   | (with_reducible exact spec_l01Eight.mono _ _)
   | (with_reducible exact LeO.refl _)
   | (with_reducible exact LeO.none _)
   | (with_reducible refine LeO.ite ?_ ?_)
   | (with_reducible refine LeO.bind ?_ (fun _ => ?_))
   | exact ih0 _ _ _
   | exact ih1 _ _ _ _ _ _ _
   | exact ih2 _ _ _ _ _ _ _
   | exact spec_l01Eight.mono _ _
   | exact LeO.none _
   | refine LeO.ite ?_ ?_
   | refine LeO.bind ?_ (fun _ => ?_)
  intro y0 y1 y2
  unfold spec_l01Key.l0
  repeat' first
  | (with_reducible exact ih0 _ _ _)
  | (with_reducible exact ih1 _ _ _ _ _ _ _)
  | (with_reducible exact ih2 _ _ _ _ _ _ _)
  | (with_reducible exact spec_l01Eight.mono _ _)
  | (with_reducible exact LeO.refl _)
  | (with_reducible exact LeO.none _)
  | (with_reducible refine LeO.ite ?_ ?_)
  | (with_reducible refine LeO.bind ?_ (fun _ => ?_))
  | exact ih0 _ _ _
  | exact ih1 _ _ _ _ _ _ _
  | exact ih2 _ _ _ _ _ _ _
  | exact spec_l01Eight.mono _ _
  | exact LeO.none _
  | refine LeO.ite ?_ ?_
  | refine LeO.bind ?_ (fun _ => ?_)
theorem spec_l01Key.mono : ∀ a0 k, LeO (spec_l01Key.f k a0) (spec_l01Key.f (k + 1) a0) := by
 intro a0 k
 obtain ⟨ih0, ih1, ih2⟩ := spec_l01Key.mono_l k
 unfold spec_l01Key.f
 repeat' first
   | (with_reducible exact ih0 _ _ _)
   | (with_reducible exact ih1 _ _ _ _ _ _ _)
   | (with_reducible exact ih2 _ _ _ _ _ _ _)
   | (with_reducible exact spec_l01Eight.mono _ _)
   | (with_reducible exact LeO.refl _)
   | (with_reducible exact LeO.none _)
   | (with_reducible refine LeO.ite ?_ ?_)
   | (with_reducible refine LeO.bind ?_ (fun _ => ?_))
   | exact ih0 _ _ _
   | exact ih1 _ _ _ _ _ _ _
   | exact ih2 _ _ _ _ _ _ _
   | exact spec_l01Eight.mono _ _
   | exact LeO.none _
   | refine LeO.ite ?_ ?_
   | refine LeO.bind ?_ (fun _ => ?_)
set_option maxHeartbeats 8000000 in
set_option maxRecDepth 100000 in
theorem spec_l01Key.calls (k : Nat) (A0 : Option Addr) (c0 : Nat) (l0 : List (S56)) (r : List Int) (w : World) (hr0 : Kd.C k56 w A0 l0.length l0) (hc0 : l0.length ≤ c0) (h : spec_l01Key.f k l0 = some r) :
  Calls Tryz.prog 21 #[.slice A0 l0.length c0] w fun e w' => ∃ v0_ : Value, e = .returned (v0_) ∧ Kd.R (Kd.int .u8) 5 w' w.heap.size (fun _ => True) v0_ r ∧ Below w.heap.size w w' := by
 have hu56 := Tryz.underlying56
 have HR0 := ak_ hr0
 have HC0 := ak_ hc0
 clear hr0 hc0
 have HB := ak_ (Below.refl w.heap.size w)
 have H : (spec_l01Key.l0 k l0 (([] : List Int)) 0) = some r := h
 clear h
 obtain ⟨y101, hy101⟩ : ∃ y_ : List Int, y_ = (([] : List Int)) := ⟨_, rfl⟩
 replace H : (spec_l01Key.l0 k l0 y101 0) = some r := by first | (rw [hy101]; with_reducible exact H) | (have H2_ := (Option.bind_some _ _).symm.trans H; rw [hy101]; with_reducible exact H2_) | (have H2_ := (Option.bind_some _ _).symm.trans H; with_reducible exact H2_) | with_reducible exact H | (rw [hy101]; exact H) | exact H
 have Ny101 := ak_ hy101
 clear hy101
 have H' := ak_ H
 clear H
 go_enter Tryz.func21, Tryz.ntmps21
 go_wp2_with (first | ((with_reducible refine gate_dst (N := 7) rfl ?_); refine Kd.R_lit (Kd.int .u8) _ 5 ?hg (N := 7) ?hd (xs := ([] : List Int)) (inner := []) (ok := fun _ => True) (okp := fun _ => True) ?hr ?hp (fun _ hk => hk) trivial (Below.refl _ _) (Nat.le_refl _) (by simp) ?_; (case hd => rfl); (case hg => rfl); (case hr => first | (go_simp; done) | (go_simp; rfl)); (case hp => exact (Reps.none _ _)); intro v102 w2 ho3 hb hg_ hnew_; clear hg_ hnew_; (first | rw [← Ny101.out] at ho3 | (simp only [Int.reduceToNat] at ho3; rw [← Ny101.out] at ho3)); have n_ := a2_ (Kd.R_lower ho3 (below_size z0_)) (below_step z0_ hb); clear HB; obtain ⟨HO103, HB⟩ := n_; clear hb ho3))
 go_loopg [3, 4] k (fun kq v3 v4 w' => ∃ (x3_1 : List Int) (x4_1 : Int), v4 = .int .i64 x4_1 ∧ Aside0 (spec_l01Key.l0 kq l0 x3_1 x4_1 = some r) ∧ Aside0 (kq ≤ k) ∧ Aside0 (Kd.R (Kd.int .u8) 5 w' w.heap.size (fun _ => True) v3 x3_1) ∧ Aside0 (Below w.heap.size w w'))
 case atStart => exact ⟨(y101), (0), z8_, H', ⟨Nat.le_refl _⟩, ⟨z37_⟩, ⟨z0_⟩⟩
 case round =>
  clear H'
  try clear c2
  try clear p2
  obtain ⟨x3_1, x4_1, rfl, HA, HK1, HO_3, HB⟩ := hrel
  cases gk with
  | zero => exact absurd HA.out (by simp [spec_l01Key.l0])
  | succ k1 =>
   have H := HA.out
   clear HA
   simp only [spec_l01Key.l0] at H
   by_cases c4 : x4_1 < (l0.length : Int)
   rotate_left
   ·rw [if_neg c4] at H
    have c4b0 := decide_eq_false c4
    clear c4
    obtain rfl := Option.some.inj H
    go_wp2
    go_ret
    exact ⟨_, z6_, z18_, z0_⟩

   rw [if_pos c4] at H
   have c4b0 := decide_eq_true c4
   clear c4
   by_cases c5 : 0 ≤ x4_1
   rotate_left
   ·rw [if_neg c5] at H
    exact absurd H (by simp)
   rw [if_pos c5] at H
   have c5b0 := decide_eq_true c5
   clear c5
   by_cases c6 : x3_1.length < 140737488355328
   rotate_left
   ·rw [if_neg c6] at H
    exact absurd H (by simp)
   rw [if_pos c6] at H
   have LMc6 := ak_ c6
   clear c6
   obtain ⟨y106, hy106⟩ : ∃ y_ : List Int, y_ = (x3_1 ++ [((rd_T56 l0 x4_1).f0) % 256]) := ⟨_, rfl⟩
   replace H : (if ((rd_T56 l0 x4_1).f0) = 1 then (if y106.length < 140737488355328 then (spec_l01Key.l0 k1 l0 (y106 ++ [((rd_T56 l0 x4_1).f1) % 256]) (wrap64 (x4_1 + 1))) else (none)) else (if ((rd_T56 l0 x4_1).f0) = 2 then ((spec_l01Eight.f k1 ((rd_T56 l0 x4_1).f1)).bind fun t112 => (if y106.length + t112.length < 140737488355328 then (spec_l01Key.l0 k1 l0 (y106 ++ t112) (wrap64 (x4_1 + 1))) else (none))) else (if ((rd_T56 l0 x4_1).f0) = 3 then (spec_l01Key.j1 k1 l0 y106 x4_1 (((rd_T56 l0 x4_1).f0) == 3) ((rd_T56 l0 x4_1).f0) ((rd_T56 l0 x4_1).f1) ((rd_T56 l0 x4_1).f2)) else (spec_l01Key.j1 k1 l0 y106 x4_1 (((rd_T56 l0 x4_1).f0) == 4) ((rd_T56 l0 x4_1).f0) ((rd_T56 l0 x4_1).f1) ((rd_T56 l0 x4_1).f2))))) = some r := by first | (rw [hy106]; with_reducible exact H) | (have H2_ := (Option.bind_some _ _).symm.trans H; rw [hy106]; with_reducible exact H2_) | (have H2_ := (Option.bind_some _ _).symm.trans H; with_reducible exact H2_) | with_reducible exact H | (rw [hy106]; exact H) | exact H
   have Ny106 := ak_ hy106
   clear hy106
   by_cases c7 : ((rd_T56 l0 x4_1).f0) = 1
   ·rw [if_pos c7] at H
    have c7b0 : (((rd_T56 l0 x4_1).f0) == 1) = true := beq_iff_eq.mpr c7
    have c7b1 : (((rd_T56 l0 x4_1).f0) != 1) = false := bne_eq_false_iff_eq.mpr c7
    clear c7
    by_cases c8 : y106.length < 140737488355328
    ·rw [if_pos c8] at H
     have LMc8 := ak_ c8
     clear c8
     obtain ⟨y109, hy109⟩ : ∃ y_ : List Int, y_ = (y106 ++ [((rd_T56 l0 x4_1).f1) % 256]) := ⟨_, rfl⟩
     replace H : (spec_l01Key.l0 k1 l0 y109 (wrap64 (x4_1 + 1))) = some r := by first | (rw [hy109]; with_reducible exact H) | (have H2_ := (Option.bind_some _ _).symm.trans H; rw [hy109]; with_reducible exact H2_) | (have H2_ := (Option.bind_some _ _).symm.trans H; with_reducible exact H2_) | with_reducible exact H | (rw [hy109]; exact H) | exact H
     have Ny109 := ak_ hy109
     clear hy109
     have H' := ak_ H
     clear H
     have p104 : 0 ≤ (x4_1 : Int) := of_decide_eq_true z4_
     have q104 : x4_1 < (l0.length : Int) := of_decide_eq_true z4_
     obtain ⟨ad104, e104, hx104_0, hx104_1, hx104_2⟩ := at_T56 HR0.out x4_1 p104 q104
     cases e104
     replace hx104_0 := oc_ HB.out hx104_0
     replace hx104_1 := oc_ HB.out hx104_1
     replace hx104_2 := oc_ HB.out hx104_2
     replace p104 := eq_true p104
     replace q104 := eq_true q104
     go_wp2_with (first | ((with_reducible refine gate_dst (N := 5) rfl ?_); refine bx_ 5 (cs := #[.int .i64 0, .int .i64 0, .string (⟨#[]⟩ : ByteArray)]) (t := 56) (h_ := ?_); intro gb105 hg w9 hbox hb; have n_ := a5_ (Kd.R_below z18_ hb) (below_step z0_ hb) (hbox) ((gs_ w hg (below_size z0_))) ((gs_ w hg (below_size z0_))); clear HO_3 HB; obtain ⟨HO_3, HB, BK105, GW105, GE105⟩ := n_; clear hb hbox hg; obtain ⟨hcz10_0, hcz10_1, hcz10_2, hfz10_0, hfz10_1, hfz10_2⟩ := bcf3 BK105.out) | ((with_reducible refine gate_builtin (b := .append) (xs := #[.tmp 18, .tmp 22]) rfl ?_); at_builtin; refine Kd.R_append (Kd.int .u8) (w0 := w) w.heap.size rfl (.tmp 18) (.tmp 22) 29 5 (.int .u8 0) 1 rfl Tryz.underlying29 info5 rfl (by decide) (by omega) u3 x3_1 (((rd_T56 l0 x4_1).f0) % 256) [.int .u8 (((rd_T56 l0 x4_1).f0) % 256)] (fun _ => True) (fun _ => False) rfl z73_ ?aP (fun _ hk => hk.elim) ?aF ?aO ?aB ?aS ?aL ?_; (case aP => exact rfl); (case aB => exact z7_); (case aF => exact (fun _ _ => trivial)); (case aO => exact z36_); (case aS => exact (below_size z7_)); (case aL => have := LMc6.out; omega); intro v107 w11 ho hb hg hat; rw [← Ny106.out] at ho; have n_ := a3_ (blk_grown (g := gb105) (o := .cells #[.int .i64 ((rd_T56 l0 x4_1).f0), .int .i64 ((rd_T56 l0 x4_1).f1), .string ((rd_T56 l0 x4_1).f2)] 56 (0, 0)) z24_ hg (Kd.R_ne HO_3.out BK105.out (by decide))) (hb) (ho); clear BK105 HB HO_3; obtain ⟨BK105, HB, HO108⟩ := n_; clear ho hb hg hat; obtain ⟨hcz12_0, hcz12_1, hcz12_2, hfz12_0, hfz12_1, hfz12_2⟩ := bcf3 BK105.out) | ((with_reducible refine gate_builtin (b := .append) (xs := #[.tmp 28, .tmp 32]) rfl ?_); at_builtin; refine Kd.R_append (Kd.int .u8) (w0 := w) w.heap.size rfl (.tmp 28) (.tmp 32) 29 5 (.int .u8 0) 1 rfl Tryz.underlying29 info5 rfl (by decide) (by omega) v107 y106 (((rd_T56 l0 x4_1).f1) % 256) [.int .u8 (((rd_T56 l0 x4_1).f1) % 256)] (fun _ => True) (fun _ => False) rfl rfl ?aP (fun _ hk => hk.elim) ?aF ?aO ?aB ?aS ?aL ?_; (case aP => exact rfl); (case aB => exact z7_); (case aF => exact (fun _ _ => trivial)); (case aO => exact z30_); (case aS => exact (below_size z7_)); (case aL => have := LMc8.out; omega); intro v110 w13 ho hb hg hat; rw [← Ny109.out] at ho; have n_ := a3_ (blk_grown (g := gb105) (o := .cells #[.int .i64 ((rd_T56 l0 x4_1).f0), .int .i64 ((rd_T56 l0 x4_1).f1), .string ((rd_T56 l0 x4_1).f2)] 56 (0, 0)) z21_ hg (Kd.R_ne HO108.out BK105.out (by decide))) (hb) (ho); clear BK105 HB HO108; obtain ⟨BK105, HB, HO111⟩ := n_; clear ho hb hg hat))
     go_roundg k1
     case measure => have := HK1.out; omega
     case rel => exact ⟨(y109), (wrap64 (x4_1 + 1)), z8_, H', ⟨by have := HK1.out; omega⟩, ⟨by (with_reducible repeat (first | apply Kd.R_alloc | apply Kd.R_drewN | apply Kd.R_drew)); exact HO111.out⟩, ⟨z7_⟩⟩
    ·rw [if_neg c8] at H
     exact absurd H (by simp)
   rw [if_neg c7] at H
   have c7b0 : (((rd_T56 l0 x4_1).f0) == 1) = false := beq_eq_false_iff_ne.mpr c7
   have c7b1 : (((rd_T56 l0 x4_1).f0) != 1) = true := bne_iff_ne.mpr c7
   by_cases c14 : ((rd_T56 l0 x4_1).f0) = 2
   ·rw [if_pos c14] at H
    have c14b0 : (((rd_T56 l0 x4_1).f0) == 2) = true := beq_iff_eq.mpr c14
    have c14b1 : (((rd_T56 l0 x4_1).f0) != 2) = false := bne_eq_false_iff_eq.mpr c14
    clear c14
    replace H := Option.bind_eq_some_iff.mp H
    obtain ⟨t112, A150, H⟩ := H
    have A15 := ak_ A150
    clear A150
    by_cases c16 : y106.length + t112.length < 140737488355328
    ·rw [if_pos c16] at H
     have LMc16 := ak_ c16
     clear c16
     obtain ⟨y115, hy115⟩ : ∃ y_ : List Int, y_ = (y106 ++ t112) := ⟨_, rfl⟩
     replace H : (spec_l01Key.l0 k1 l0 y115 (wrap64 (x4_1 + 1))) = some r := by first | (rw [hy115]; with_reducible exact H) | (have H2_ := (Option.bind_some _ _).symm.trans H; rw [hy115]; with_reducible exact H2_) | (have H2_ := (Option.bind_some _ _).symm.trans H; with_reducible exact H2_) | with_reducible exact H | (rw [hy115]; exact H) | exact H
     have Ny115 := ak_ hy115
     clear hy115
     have H' := ak_ H
     clear H
     have p104 : 0 ≤ (x4_1 : Int) := of_decide_eq_true z4_
     have q104 : x4_1 < (l0.length : Int) := of_decide_eq_true z4_
     obtain ⟨ad104, e104, hx104_0, hx104_1, hx104_2⟩ := at_T56 HR0.out x4_1 p104 q104
     cases e104
     replace hx104_0 := oc_ HB.out hx104_0
     replace hx104_1 := oc_ HB.out hx104_1
     replace hx104_2 := oc_ HB.out hx104_2
     replace p104 := eq_true p104
     replace q104 := eq_true q104
     go_wp2_with (first | ((with_reducible refine gate_dst (N := 5) rfl ?_); refine bx_ 5 (cs := #[.int .i64 0, .int .i64 0, .string (⟨#[]⟩ : ByteArray)]) (t := 56) (h_ := ?_); intro gb105 hg w17 hbox hb; have n_ := a5_ (Kd.R_below z18_ hb) (below_step z0_ hb) (hbox) ((gs_ w hg (below_size z0_))) ((gs_ w hg (below_size z0_))); clear HO_3 HB; obtain ⟨HO_3, HB, BK105, GW105, GE105⟩ := n_; clear hb hbox hg; obtain ⟨hcz18_0, hcz18_1, hcz18_2, hfz18_0, hfz18_1, hfz18_2⟩ := bcf3 BK105.out) | ((with_reducible refine gate_builtin (b := .append) (xs := #[.tmp 18, .tmp 22]) rfl ?_); at_builtin; refine Kd.R_append (Kd.int .u8) (w0 := w) w.heap.size rfl (.tmp 18) (.tmp 22) 29 5 (.int .u8 0) 1 rfl Tryz.underlying29 info5 rfl (by decide) (by omega) u3 x3_1 (((rd_T56 l0 x4_1).f0) % 256) [.int .u8 (((rd_T56 l0 x4_1).f0) % 256)] (fun _ => True) (fun _ => False) rfl z73_ ?aP (fun _ hk => hk.elim) ?aF ?aO ?aB ?aS ?aL ?_; (case aP => exact rfl); (case aB => exact z7_); (case aF => exact (fun _ _ => trivial)); (case aO => exact z36_); (case aS => exact (below_size z7_)); (case aL => have := LMc6.out; omega); intro v107 w19 ho hb hg hat; rw [← Ny106.out] at ho; have n_ := a3_ (blk_grown (g := gb105) (o := .cells #[.int .i64 ((rd_T56 l0 x4_1).f0), .int .i64 ((rd_T56 l0 x4_1).f1), .string ((rd_T56 l0 x4_1).f2)] 56 (0, 0)) z24_ hg (Kd.R_ne HO_3.out BK105.out (by decide))) (hb) (ho); clear BK105 HB HO_3; obtain ⟨BK105, HB, HO108⟩ := n_; clear ho hb hg hat; obtain ⟨hcz20_0, hcz20_1, hcz20_2, hfz20_0, hfz20_1, hfz20_2⟩ := bcf3 BK105.out) | ((with_reducible refine gate_callee (f := 38) rfl ?_); refine goesL_ (some 39) rfl rfl Tryz.func38 (by kernel_rfl) rfl #[.int .i64 ((rd_T56 l0 x4_1).f1)] rfl z3_ ?_; (with_reducible refine (spec_l01Eight.calls k1 ((rd_T56 l0 x4_1).f1) t112 _ A15.out).mono ?_); rintro e w21 ⟨v113, rfl, ho0, hb⟩; refine ⟨_, rfl, ?_⟩; have n_ := a4_ (Kd.R_elder' z30_ (Kd.R_base ho0) hb) (Kd.R_lower (Kd.R_new' ho0 (Kd.R_lt z30_)) (below_size z7_)) (blk_below (g := gb105) (o := .cells #[.int .i64 ((rd_T56 l0 x4_1).f0), .int .i64 ((rd_T56 l0 x4_1).f1), .string ((rd_T56 l0 x4_1).f2)] 56 (0, 0)) z21_ hb) (below_step z7_ hb); clear HO108 BK105 HB; obtain ⟨HO108, HO114, BK105, HB⟩ := n_; (try clear hb); (try clear hb2); (try clear hk); (try clear hi); (try clear ho0); obtain ⟨Ao23, co23, eo23⟩ := Kd.R_slice HO114.out; subst eo23) | ((with_reducible refine gate_builtin (b := .append) (xs := #[.tmp 36, .tmp 39]) rfl ?_); at_builtin; refine Kd.R_append_rows (Kd.int .u8) (w0 := w) w.heap.size rfl (.tmp 36) (.tmp 39) 29 5 (.int .u8 0) 1 rfl Tryz.underlying29 info5 rfl (by decide) (by omega) v107 y106 t112 _ _ _ (fun k_ => some k_ ≠ (.slice Ao23 t112.length co23 : Value).ownBlock) (fun _ => False) rfl rfl ?aO ?aR (fun _ _ h => h) (fun _ h => h.elim) ?aF ?aB ?aS ?aL ?_; (case aR => repeat (first | exact (Kd.R_reads' HO114.out).2.2 | (with_reducible refine Kd.C_alloc ?_ _) | (with_reducible refine Kd.C_drewN ?_ _) | (with_reducible refine Kd.C_drew ?_))); (case aB => exact z7_); (case aF => exact (fun k_ hk => Kd.fresh' (Kd.R_lt z40_) k_ hk)); (case aO => exact (by (with_reducible repeat (first | apply Kd.R_alloc | apply Kd.R_drewN | apply Kd.R_drew)); exact Kd.R_mono HO108.out (fun _ hk => hk.2))); (case aS => exact (below_size z7_)); (case aL => have := LMc16.out; omega); intro v116 w22 ho hb hg hat; rw [← Ny115.out] at ho; have n_ := a4_ (blk_grown (g := gb105) (o := .cells #[.int .i64 ((rd_T56 l0 x4_1).f0), .int .i64 ((rd_T56 l0 x4_1).f1), .string ((rd_T56 l0 x4_1).f2)] 56 (0, 0)) z21_ hg (Kd.R_ne HO108.out BK105.out (by decide))) (Kd.R_after (ok := (fun _ => True)) z40_ hg hat) (hb) (ho); clear BK105 HO114 HB HO108; obtain ⟨BK105, HO114, HB, HO117⟩ := n_; clear ho hb hg hat))
     go_roundg k1
     case measure => have := HK1.out; omega
     case rel => exact ⟨(y115), (wrap64 (x4_1 + 1)), z8_, H', ⟨by have := HK1.out; omega⟩, ⟨by (with_reducible repeat (first | apply Kd.R_alloc | apply Kd.R_drewN | apply Kd.R_drew)); exact Kd.R_mono HO117.out (fun _ hk => trivial)⟩, ⟨z7_⟩⟩
    ·rw [if_neg c16] at H
     exact absurd H (by simp)
   rw [if_neg c14] at H
   have c14b0 : (((rd_T56 l0 x4_1).f0) == 2) = false := beq_eq_false_iff_ne.mpr c14
   have c14b1 : (((rd_T56 l0 x4_1).f0) != 2) = true := bne_iff_ne.mpr c14
   have HC24 := ak_ H
   clear H
   have p104 : 0 ≤ (x4_1 : Int) := of_decide_eq_true z4_
   have q104 : x4_1 < (l0.length : Int) := of_decide_eq_true z4_
   obtain ⟨ad104, e104, hx104_0, hx104_1, hx104_2⟩ := at_T56 HR0.out x4_1 p104 q104
   cases e104
   replace hx104_0 := oc_ HB.out hx104_0
   replace hx104_1 := oc_ HB.out hx104_1
   replace hx104_2 := oc_ HB.out hx104_2
   replace p104 := eq_true p104
   replace q104 := eq_true q104
   go_upto_if 41 with (first | ((with_reducible refine gate_dst (N := 5) rfl ?_); refine bx_ 5 (cs := #[.int .i64 0, .int .i64 0, .string (⟨#[]⟩ : ByteArray)]) (t := 56) (h_ := ?_); intro gb105 hg w25 hbox hb; have n_ := a5_ (Kd.R_below z18_ hb) (below_step z0_ hb) (hbox) ((gs_ w hg (below_size z0_))) ((gs_ w hg (below_size z0_))); clear HO_3 HB; obtain ⟨HO_3, HB, BK105, GW105, GE105⟩ := n_; clear hb hbox hg; obtain ⟨hcz26_0, hcz26_1, hcz26_2, hfz26_0, hfz26_1, hfz26_2⟩ := bcf3 BK105.out) | ((with_reducible refine gate_builtin (b := .append) (xs := #[.tmp 18, .tmp 22]) rfl ?_); at_builtin; refine Kd.R_append (Kd.int .u8) (w0 := w) w.heap.size rfl (.tmp 18) (.tmp 22) 29 5 (.int .u8 0) 1 rfl Tryz.underlying29 info5 rfl (by decide) (by omega) u3 x3_1 (((rd_T56 l0 x4_1).f0) % 256) [.int .u8 (((rd_T56 l0 x4_1).f0) % 256)] (fun _ => True) (fun _ => False) rfl z73_ ?aP (fun _ hk => hk.elim) ?aF ?aO ?aB ?aS ?aL ?_; (case aP => exact rfl); (case aB => exact z7_); (case aF => exact (fun _ _ => trivial)); (case aO => exact z36_); (case aS => exact (below_size z7_)); (case aL => have := LMc6.out; omega); intro v107 w27 ho hb hg hat; rw [← Ny106.out] at ho; have n_ := a3_ (blk_grown (g := gb105) (o := .cells #[.int .i64 ((rd_T56 l0 x4_1).f0), .int .i64 ((rd_T56 l0 x4_1).f1), .string ((rd_T56 l0 x4_1).f2)] 56 (0, 0)) z24_ hg (Kd.R_ne HO_3.out BK105.out (by decide))) (hb) (ho); clear BK105 HB HO_3; obtain ⟨BK105, HB, HO108⟩ := n_; clear ho hb hg hat; obtain ⟨hcz28_0, hcz28_1, hcz28_2, hfz28_0, hfz28_1, hfz28_2⟩ := bcf3 BK105.out))
   (try simp only [Act.put, List.setIfInBounds_toArray, List.set_cons_zero, List.set_cons_succ])
   go_cut [41] (fun v41 wc => ∃ (kq : Nat) (x41_23 : Bool), v41 = .bool x41_23 ∧ Aside0 (spec_l01Key.j1 kq l0 y106 x4_1 x41_23 ((rd_T56 l0 x4_1).f0) ((rd_T56 l0 x4_1).f1) ((rd_T56 l0 x4_1).f2) = some r) ∧ Aside0 (kq ≤ k1) ∧ Aside0 (Kd.R (Kd.int .u8) 5 wc w.heap.size (fun _ => True) v107 y106) ∧ Aside0 (wc.heap[gb105]? = some (.cells #[.int .i64 ((rd_T56 l0 x4_1).f0), .int .i64 ((rd_T56 l0 x4_1).f1), .string ((rd_T56 l0 x4_1).f2)] 56 (0, 0))) ∧ Aside0 (Below w.heap.size w wc))
   case first =>
    have H := HC24.out
    clear HC24
    by_cases c29 : ((rd_T56 l0 x4_1).f0) = 3
    rotate_left
    ·rw [if_neg c29] at H
     have c29b0 : (((rd_T56 l0 x4_1).f0) == 3) = false := beq_eq_false_iff_ne.mpr c29
     have c29b1 : (((rd_T56 l0 x4_1).f0) != 3) = true := bne_iff_ne.mpr c29
     (first | rw [c29b0] | (simp only [i64_w, i32_w]; rw [c29b0]) | skip)
     have H' := ak_ H
     clear H
     go_wp2
     go_meet
     case rel => exact ⟨_, ((((rd_T56 l0 x4_1).f0) == 4)), z8_, H', ⟨by have := HK1.out; first | omega | exact Nat.le_refl _⟩, ⟨z30_⟩, ⟨z21_⟩, ⟨z7_⟩⟩
    rw [if_pos c29] at H
    have c29b0 : (((rd_T56 l0 x4_1).f0) == 3) = true := beq_iff_eq.mpr c29
    have c29b1 : (((rd_T56 l0 x4_1).f0) != 3) = false := bne_eq_false_iff_eq.mpr c29
    clear c29
    (first | rw [c29b0] | (simp only [i64_w, i32_w]; rw [c29b0]) | skip)
    have H' := ak_ H
    clear H
    go_wp2
    go_meet
    case rel => exact ⟨_, ((((rd_T56 l0 x4_1).f0) == 3)), z8_, H', ⟨by have := HK1.out; first | omega | exact Nat.le_refl _⟩, ⟨z30_⟩, ⟨z21_⟩, ⟨z7_⟩⟩
   case rest =>
    clear HC24
    try clear c1
    try clear p1
    try clear q1
    try clear hx1
    try clear c2
    try clear p2
    try clear c3
    try clear c4
    try clear c4b0
    try clear c5
    try clear c5b0
    try clear c6
    try clear p6
    try clear c7
    try clear c7b0
    try clear c7b1
    try clear c8
    try clear p10
    try clear q10
    try clear hx10
    try clear c14
    try clear c14b0
    try clear c14b1
    try clear c16
    try clear c21
    try clear c29
    try clear c29b0
    try clear c29b1
    try clear hcz10_0
    try clear hcz10_1
    try clear hcz10_2
    try clear hcz12_0
    try clear hcz12_1
    try clear hcz12_2
    try clear hcz18_0
    try clear hcz18_1
    try clear hcz18_2
    try clear hcz20_0
    try clear hcz20_1
    try clear hcz20_2
    try clear hcz26_0
    try clear hcz26_1
    try clear hcz26_2
    try clear hcz28_0
    try clear hcz28_1
    try clear hcz28_2
    try clear hfz10_0
    try clear hfz10_1
    try clear hfz10_2
    try clear hfz12_0
    try clear hfz12_1
    try clear hfz12_2
    try clear hfz18_0
    try clear hfz18_1
    try clear hfz18_2
    try clear hfz20_0
    try clear hfz20_1
    try clear hfz20_2
    try clear hfz26_0
    try clear hfz26_1
    try clear hfz26_2
    try clear hfz28_0
    try clear hfz28_1
    try clear hfz28_2
    try clear hx104_0
    try clear hx104_1
    try clear hx104_2
    try clear p104
    try clear p2
    try clear q104
    obtain ⟨kq, x41_23, rfl, HA, HJ23, HO_3, BK105, HB⟩ := hcut
    cases kq with
    | zero => exact absurd HA.out (by simp [spec_l01Key.j1])
    | succ kj23 =>
     have H := HA.out
     clear HA
     simp only [spec_l01Key.j1] at H
     by_cases c30 : x41_23 = true
     rotate_left
     ·replace c30 := Bool.eq_false_iff.mpr c30
      subst c30
      have H1 : (spec_l01Key.l0 kj23 l0 y106 (wrap64 (x4_1 + 1))) = some r := by rw [if_neg (show ¬ (false = true) by decide)] at H; exact H
      clear H
      have H := H1
      clear H1
      have H' := ak_ H
      clear H
      go_wp2
      go_roundg kj23
      case measure => have := HK1.out; have := HJ23.out; omega
      case rel => exact ⟨(y106), (wrap64 (x4_1 + 1)), z8_, H', ⟨by have := HK1.out; have := HJ23.out; omega⟩, ⟨z18_⟩, ⟨z7_⟩⟩
     subst c30
     have H1 : (spec_l01Key.l1 kj23 l0 y106 x4_1 0 ((rd_T56 l0 x4_1).f0) ((rd_T56 l0 x4_1).f1) ((rd_T56 l0 x4_1).f2)) = some r := by rw [if_pos rfl] at H; exact H
     clear H
     have H := H1
     clear H1
     have H' := ak_ H
     clear H
     go_wp2
     go_loopg [3, 6] kj23 (fun kq v3 v6 w' => ∃ (x3_3 : List Int) (x6_3 : Int), v6 = .int .i64 x6_3 ∧ Aside0 (spec_l01Key.l1 kq l0 x3_3 x4_1 x6_3 ((rd_T56 l0 x4_1).f0) ((rd_T56 l0 x4_1).f1) ((rd_T56 l0 x4_1).f2) = some r) ∧ Aside0 (kq ≤ kj23) ∧ Aside0 (Kd.R (Kd.int .u8) 5 w' w.heap.size (fun _ => True) v3 x3_3) ∧ Aside0 (w'.heap[gb105]? = some (.cells #[.int .i64 ((rd_T56 l0 x4_1).f0), .int .i64 ((rd_T56 l0 x4_1).f1), .string ((rd_T56 l0 x4_1).f2)] 56 (0, 0))) ∧ Aside0 (Below w.heap.size w w'))
     case atStart => exact ⟨(y106), (0), z8_, H', ⟨Nat.le_refl _⟩, ⟨z18_⟩, ⟨z21_⟩, ⟨z7_⟩⟩
     case round =>
      clear H'
      try clear c1
      try clear p1
      try clear q1
      try clear hx1
      try clear c2
      try clear p2
      try clear c3
      try clear c4
      try clear c4b0
      try clear c5
      try clear c5b0
      try clear c6
      try clear p6
      try clear c7
      try clear c7b0
      try clear c7b1
      try clear c8
      try clear p10
      try clear q10
      try clear hx10
      try clear c14
      try clear c14b0
      try clear c14b1
      try clear c16
      try clear c21
      try clear c29
      try clear c29b0
      try clear c29b1
      try clear c30
      try clear hcz10_0
      try clear hcz10_1
      try clear hcz10_2
      try clear hcz12_0
      try clear hcz12_1
      try clear hcz12_2
      try clear hcz18_0
      try clear hcz18_1
      try clear hcz18_2
      try clear hcz20_0
      try clear hcz20_1
      try clear hcz20_2
      try clear hcz26_0
      try clear hcz26_1
      try clear hcz26_2
      try clear hcz28_0
      try clear hcz28_1
      try clear hcz28_2
      try clear hfz10_0
      try clear hfz10_1
      try clear hfz10_2
      try clear hfz12_0
      try clear hfz12_1
      try clear hfz12_2
      try clear hfz18_0
      try clear hfz18_1
      try clear hfz18_2
      try clear hfz20_0
      try clear hfz20_1
      try clear hfz20_2
      try clear hfz26_0
      try clear hfz26_1
      try clear hfz26_2
      try clear hfz28_0
      try clear hfz28_1
      try clear hfz28_2
      try clear hx104_0
      try clear hx104_1
      try clear hx104_2
      try clear p1
      try clear p10
      try clear p104
      try clear p2
      try clear p6
      try clear q1
      try clear q10
      try clear q104
      obtain ⟨x3_3, x6_3, rfl, HA, HK3, HO_3, BK105, HB⟩ := hrel
      cases gk with
      | zero => exact absurd HA.out (by simp [spec_l01Key.l1])
      | succ k3 =>
       have H := HA.out
       clear HA
       simp only [spec_l01Key.l1] at H
       by_cases c31 : x6_3 < (((rd_T56 l0 x4_1).f2).size : Int)
       rotate_left
       ·rw [if_neg c31] at H
        have c31b0 := decide_eq_false c31
        clear c31
        obtain ⟨y124, hy124⟩ : ∃ y_ : List Int, y_ = (([0, 1] : List Int)) := ⟨_, rfl⟩
        replace H : (if x3_3.length + y124.length < 140737488355328 then (spec_l01Key.l0 k3 l0 (x3_3 ++ y124) (wrap64 (x4_1 + 1))) else (none)) = some r := by first | (rw [hy124]; with_reducible exact H) | (have H2_ := (Option.bind_some _ _).symm.trans H; rw [hy124]; with_reducible exact H2_) | (have H2_ := (Option.bind_some _ _).symm.trans H; with_reducible exact H2_) | with_reducible exact H | (rw [hy124]; exact H) | exact H
        have Ny124 := ak_ hy124
        clear hy124
        by_cases c45 : x3_3.length + y124.length < 140737488355328
        ·rw [if_pos c45] at H
         have LMc45 := ak_ c45
         clear c45
         obtain ⟨y127, hy127⟩ : ∃ y_ : List Int, y_ = (x3_3 ++ y124) := ⟨_, rfl⟩
         replace H : (spec_l01Key.l0 k3 l0 y127 (wrap64 (x4_1 + 1))) = some r := by first | (rw [hy127]; with_reducible exact H) | (have H2_ := (Option.bind_some _ _).symm.trans H; rw [hy127]; with_reducible exact H2_) | (have H2_ := (Option.bind_some _ _).symm.trans H; with_reducible exact H2_) | with_reducible exact H | (rw [hy127]; exact H) | exact H
         have Ny127 := ak_ hy127
         clear hy127
         have H' := ak_ H
         clear H
         obtain ⟨hcz46_0, hcz46_1, hcz46_2, hfz46_0, hfz46_1, hfz46_2⟩ := bcf3 BK105.out
         go_wp2_with (first | ((with_reducible refine gate_dst (N := 67) rfl ?_); refine Kd.R_lit (Kd.int .u8) _ 5 ?hg (N := 67) ?hd (xs := ([0, 1] : List Int)) (inner := [.int .u8 0, .int .u8 1]) (ok := fun _ => True) (okp := fun _ => True) ?hr ?hp (fun _ hk => hk) trivial (Below.refl _ _) (Nat.le_refl _) (by simp) ?_; (case hd => rfl); (case hg => rfl); (case hr => first | (go_simp; done) | (go_simp; rfl)); (case hp => exact (Reps.one (show Kd.M (Kd.int .u8) _ _ _ 0 [.int .u8 0] from rfl) (Reps.one (show Kd.M (Kd.int .u8) _ _ _ 1 [.int .u8 1] from rfl) (Reps.none _ _)))); intro v125 w47 ho48 hb hg_ hnew_; clear hg_ hnew_; (first | rw [← Ny124.out] at ho48 | (simp only [Int.reduceToNat] at ho48; rw [← Ny124.out] at ho48)); have n_ := a4_ (Kd.R_elder' z18_ (Kd.R_base ho48) hb) (Kd.R_lower (Kd.R_new' ho48 (Kd.R_lt z18_)) (below_size z7_)) (blk_below (g := gb105) (o := .cells #[.int .i64 ((rd_T56 l0 x4_1).f0), .int .i64 ((rd_T56 l0 x4_1).f1), .string ((rd_T56 l0 x4_1).f2)] 56 (0, 0)) z21_ hb) (below_step z7_ hb); clear HO_3 BK105 HB; obtain ⟨HO_3, HO126, BK105, HB⟩ := n_; clear hb ho48; obtain ⟨Ao50, co50, eo50⟩ := Kd.R_slice HO126.out; subst eo50) | ((with_reducible refine gate_builtin (b := .append) (xs := #[.tmp 66, .tmp 67]) rfl ?_); at_builtin; refine Kd.R_append_rows (Kd.int .u8) (w0 := w) w.heap.size rfl (.tmp 66) (.tmp 67) 29 5 (.int .u8 0) 1 rfl Tryz.underlying29 info5 rfl (by decide) (by omega) u3 x3_3 y124 _ _ _ (fun k_ => some k_ ≠ (.slice Ao50 y124.length co50 : Value).ownBlock) (fun _ => False) rfl rfl ?aO ?aR (fun _ _ h => h) (fun _ h => h.elim) ?aF ?aB ?aS ?aL ?_; (case aR => repeat (first | exact (Kd.R_reads' HO126.out).2.2 | (with_reducible refine Kd.C_alloc ?_ _) | (with_reducible refine Kd.C_drewN ?_ _) | (with_reducible refine Kd.C_drew ?_))); (case aB => exact z7_); (case aF => exact (fun k_ hk => Kd.fresh' (Kd.R_lt (by (with_reducible repeat (first | apply Kd.R_alloc | apply Kd.R_drewN | apply Kd.R_drew)); exact HO126.out)) k_ hk)); (case aO => exact (by (with_reducible repeat (first | apply Kd.R_alloc | apply Kd.R_drewN | apply Kd.R_drew)); exact Kd.R_mono HO_3.out (fun _ hk => hk.2))); (case aS => exact (below_size z7_)); (case aL => have := LMc45.out; omega); intro v128 w49 ho hb hg hat; rw [← Ny127.out] at ho; have n_ := a4_ (blk_grown (g := gb105) (o := .cells #[.int .i64 ((rd_T56 l0 x4_1).f0), .int .i64 ((rd_T56 l0 x4_1).f1), .string ((rd_T56 l0 x4_1).f2)] 56 (0, 0)) z21_ hg (Kd.R_ne HO_3.out BK105.out (by decide))) (Kd.R_after (ok := (fun _ => True)) (by (with_reducible repeat (first | apply Kd.R_alloc | apply Kd.R_drewN | apply Kd.R_drew)); exact HO126.out) hg hat) (hb) (ho); clear BK105 HO126 HB HO_3; obtain ⟨BK105, HO126, HB, HO129⟩ := n_; clear ho hb hg hat))
         go_roundg k3
         case measure => have := HK1.out; have := HJ23.out; have := HK3.out; omega
         case rel => exact ⟨(y127), (wrap64 (x4_1 + 1)), z8_, H', ⟨by have := HK1.out; have := HJ23.out; have := HK3.out; omega⟩, ⟨by (with_reducible repeat (first | apply Kd.R_alloc | apply Kd.R_drewN | apply Kd.R_drew)); exact Kd.R_mono HO129.out (fun _ hk => trivial)⟩, ⟨z7_⟩⟩
        ·rw [if_neg c45] at H
         exact absurd H (by simp)
       rw [if_pos c31] at H
       have c31b0 := decide_eq_true c31
       clear c31
       by_cases c32 : 0 ≤ x6_3
       rotate_left
       ·rw [if_neg c32] at H
        exact absurd H (by simp)
       rw [if_pos c32] at H
       have c32b0 := decide_eq_true c32
       clear c32
       by_cases c34 : x3_3.length < 140737488355328
       rotate_left
       ·rw [if_neg c34] at H
        exact absurd H (by simp)
       rw [if_pos c34] at H
       have LMc34 := ak_ c34
       clear c34
       obtain ⟨y118, hy118⟩ : ∃ y_ : List Int, y_ = (x3_3 ++ [bt ((rd_T56 l0 x4_1).f2) x6_3]) := ⟨_, rfl⟩
       replace H : (if (bt ((rd_T56 l0 x4_1).f2) x6_3) = 0 then (if y118.length < 140737488355328 then (spec_l01Key.l1 k3 l0 (y118 ++ [255]) x4_1 (wrap64 (x6_3 + 1)) ((rd_T56 l0 x4_1).f0) ((rd_T56 l0 x4_1).f1) ((rd_T56 l0 x4_1).f2)) else (none)) else (spec_l01Key.l1 k3 l0 y118 x4_1 (wrap64 (x6_3 + 1)) ((rd_T56 l0 x4_1).f0) ((rd_T56 l0 x4_1).f1) ((rd_T56 l0 x4_1).f2))) = some r := by first | (rw [hy118]; with_reducible exact H) | (have H2_ := (Option.bind_some _ _).symm.trans H; rw [hy118]; with_reducible exact H2_) | (have H2_ := (Option.bind_some _ _).symm.trans H; with_reducible exact H2_) | with_reducible exact H | (rw [hy118]; exact H) | exact H
       have Ny118 := ak_ hy118
       clear hy118
       by_cases c36 : (bt ((rd_T56 l0 x4_1).f2) x6_3) = 0
       rotate_left
       ·rw [if_neg c36] at H
        have c36b0 : ((bt ((rd_T56 l0 x4_1).f2) x6_3) == 0) = false := beq_eq_false_iff_ne.mpr c36
        have c36b1 : ((bt ((rd_T56 l0 x4_1).f2) x6_3) != 0) = true := bne_iff_ne.mpr c36
        have H' := ak_ H
        clear H
        obtain ⟨hcz42_0, hcz42_1, hcz42_2, hfz42_0, hfz42_1, hfz42_2⟩ := bcf3 BK105.out
        have p33 : 0 ≤ (x6_3 : Int) := of_decide_eq_true z4_
        have q33 : x6_3 < (((rd_T56 l0 x4_1).f2).size : Int) := of_decide_eq_true z4_
        have hx33 := bt_at ((rd_T56 l0 x4_1).f2) x6_3
        replace p33 := eq_true p33
        replace q33 := eq_true q33
        go_wp2_with (first | ((with_reducible refine gate_builtin (b := .append) (xs := #[.tmp 51, .tmp 56]) rfl ?_); at_builtin; refine Kd.R_append (Kd.int .u8) (w0 := w) w.heap.size rfl (.tmp 51) (.tmp 56) 29 5 (.int .u8 0) 1 rfl Tryz.underlying29 info5 rfl (by decide) (by omega) u3 x3_3 (bt ((rd_T56 l0 x4_1).f2) x6_3) [.int .u8 (bt ((rd_T56 l0 x4_1).f2) x6_3)] (fun _ => True) (fun _ => False) rfl rfl ?aP (fun _ hk => hk.elim) ?aF ?aO ?aB ?aS ?aL ?_; (case aP => exact rfl); (case aB => exact z7_); (case aF => exact (fun _ _ => trivial)); (case aO => exact z18_); (case aS => exact (below_size z7_)); (case aL => have := LMc34.out; omega); intro v119 w43 ho hb hg hat; rw [← Ny118.out] at ho; have n_ := a3_ (blk_grown (g := gb105) (o := .cells #[.int .i64 ((rd_T56 l0 x4_1).f0), .int .i64 ((rd_T56 l0 x4_1).f1), .string ((rd_T56 l0 x4_1).f2)] 56 (0, 0)) z21_ hg (Kd.R_ne HO_3.out BK105.out (by decide))) (hb) (ho); clear BK105 HB HO_3; obtain ⟨BK105, HB, HO120⟩ := n_; clear ho hb hg hat; obtain ⟨hcz44_0, hcz44_1, hcz44_2, hfz44_0, hfz44_1, hfz44_2⟩ := bcf3 BK105.out; have p35 : 0 ≤ (x6_3 : Int) := of_decide_eq_true z4_; have q35 : x6_3 < (((rd_T56 l0 x4_1).f2).size : Int) := of_decide_eq_true z4_; have hx35 := bt_at ((rd_T56 l0 x4_1).f2) x6_3; replace p35 := eq_true p35; replace q35 := eq_true q35))
        go_roundg k3
        case measure => have := HK1.out; have := HJ23.out; have := HK3.out; omega
        case rel => exact ⟨(y118), (wrap64 (x6_3 + 1)), z8_, H', ⟨by have := HK1.out; have := HJ23.out; have := HK3.out; omega⟩, ⟨by (with_reducible repeat (first | apply Kd.R_alloc | apply Kd.R_drewN | apply Kd.R_drew)); exact HO120.out⟩, ⟨z21_⟩, ⟨z7_⟩⟩
       rw [if_pos c36] at H
       have c36b0 : ((bt ((rd_T56 l0 x4_1).f2) x6_3) == 0) = true := beq_iff_eq.mpr c36
       have c36b1 : ((bt ((rd_T56 l0 x4_1).f2) x6_3) != 0) = false := bne_eq_false_iff_eq.mpr c36
       clear c36
       by_cases c37 : y118.length < 140737488355328
       rotate_left
       ·rw [if_neg c37] at H
        exact absurd H (by simp)
       rw [if_pos c37] at H
       have LMc37 := ak_ c37
       clear c37
       obtain ⟨y121, hy121⟩ : ∃ y_ : List Int, y_ = (y118 ++ [255]) := ⟨_, rfl⟩
       replace H : (spec_l01Key.l1 k3 l0 y121 x4_1 (wrap64 (x6_3 + 1)) ((rd_T56 l0 x4_1).f0) ((rd_T56 l0 x4_1).f1) ((rd_T56 l0 x4_1).f2)) = some r := by first | (rw [hy121]; with_reducible exact H) | (have H2_ := (Option.bind_some _ _).symm.trans H; rw [hy121]; with_reducible exact H2_) | (have H2_ := (Option.bind_some _ _).symm.trans H; with_reducible exact H2_) | with_reducible exact H | (rw [hy121]; exact H) | exact H
       have Ny121 := ak_ hy121
       clear hy121
       have H' := ak_ H
       clear H
       obtain ⟨hcz38_0, hcz38_1, hcz38_2, hfz38_0, hfz38_1, hfz38_2⟩ := bcf3 BK105.out
       have p33 : 0 ≤ (x6_3 : Int) := of_decide_eq_true z4_
       have q33 : x6_3 < (((rd_T56 l0 x4_1).f2).size : Int) := of_decide_eq_true z4_
       have hx33 := bt_at ((rd_T56 l0 x4_1).f2) x6_3
       replace p33 := eq_true p33
       replace q33 := eq_true q33
       go_wp2_with (first | ((with_reducible refine gate_builtin (b := .append) (xs := #[.tmp 51, .tmp 56]) rfl ?_); at_builtin; refine Kd.R_append (Kd.int .u8) (w0 := w) w.heap.size rfl (.tmp 51) (.tmp 56) 29 5 (.int .u8 0) 1 rfl Tryz.underlying29 info5 rfl (by decide) (by omega) u3 x3_3 (bt ((rd_T56 l0 x4_1).f2) x6_3) [.int .u8 (bt ((rd_T56 l0 x4_1).f2) x6_3)] (fun _ => True) (fun _ => False) rfl rfl ?aP (fun _ hk => hk.elim) ?aF ?aO ?aB ?aS ?aL ?_; (case aP => exact rfl); (case aB => exact z7_); (case aF => exact (fun _ _ => trivial)); (case aO => exact z18_); (case aS => exact (below_size z7_)); (case aL => have := LMc34.out; omega); intro v119 w39 ho hb hg hat; rw [← Ny118.out] at ho; have n_ := a3_ (blk_grown (g := gb105) (o := .cells #[.int .i64 ((rd_T56 l0 x4_1).f0), .int .i64 ((rd_T56 l0 x4_1).f1), .string ((rd_T56 l0 x4_1).f2)] 56 (0, 0)) z21_ hg (Kd.R_ne HO_3.out BK105.out (by decide))) (hb) (ho); clear BK105 HB HO_3; obtain ⟨BK105, HB, HO120⟩ := n_; clear ho hb hg hat; obtain ⟨hcz40_0, hcz40_1, hcz40_2, hfz40_0, hfz40_1, hfz40_2⟩ := bcf3 BK105.out; have p35 : 0 ≤ (x6_3 : Int) := of_decide_eq_true z4_; have q35 : x6_3 < (((rd_T56 l0 x4_1).f2).size : Int) := of_decide_eq_true z4_; have hx35 := bt_at ((rd_T56 l0 x4_1).f2) x6_3; replace p35 := eq_true p35; replace q35 := eq_true q35) | ((with_reducible refine gate_builtin (b := .append) (xs := #[.tmp 63, .tmp 64]) rfl ?_); at_builtin; refine Kd.R_append (Kd.int .u8) (w0 := w) w.heap.size rfl (.tmp 63) (.tmp 64) 29 5 (.int .u8 0) 1 rfl Tryz.underlying29 info5 rfl (by decide) (by omega) v119 y118 255 [.int .u8 255] (fun _ => True) (fun _ => False) rfl rfl ?aP (fun _ hk => hk.elim) ?aF ?aO ?aB ?aS ?aL ?_; (case aP => exact rfl); (case aB => exact z7_); (case aF => exact (fun _ _ => trivial)); (case aO => exact (by (with_reducible repeat (first | apply Kd.R_alloc | apply Kd.R_drewN | apply Kd.R_drew)); exact HO120.out)); (case aS => exact (below_size z7_)); (case aL => have := LMc37.out; omega); intro v122 w41 ho hb hg hat; rw [← Ny121.out] at ho; have n_ := a3_ (blk_grown (g := gb105) (o := .cells #[.int .i64 ((rd_T56 l0 x4_1).f0), .int .i64 ((rd_T56 l0 x4_1).f1), .string ((rd_T56 l0 x4_1).f2)] 56 (0, 0)) z21_ hg (Kd.R_ne HO120.out BK105.out (by decide))) (hb) (ho); clear BK105 HB HO120; obtain ⟨BK105, HB, HO123⟩ := n_; clear ho hb hg hat))
       go_roundg k3
       case measure => have := HK1.out; have := HJ23.out; have := HK3.out; omega
       case rel => exact ⟨(y121), (wrap64 (x6_3 + 1)), z8_, H', ⟨by have := HK1.out; have := HJ23.out; have := HK3.out; omega⟩, ⟨by (with_reducible repeat (first | apply Kd.R_alloc | apply Kd.R_drewN | apply Kd.R_drew)); exact HO123.out⟩, ⟨z21_⟩, ⟨z7_⟩⟩
end

section
def spec_RowKey.f (k : Nat) (a0_0 : ByteArray) (l0_1 : List (S74)) (a0_2 : Int) (l0_3 : List (S76)) (l1 : List (S56)) : Option (List Int × Int) := if (l1.length : Int) > 4096 then (some ((([] : List Int)), 2)) else ((spec_CheckRow.f k a0_0 l0_1 a0_2 l0_3 l1).bind fun bt105 => (if bt105.1 = 0 then (if 0 ≤ a0_2 then (if a0_2 ≤ (l1.length : Int) then ((spec_l01Key.f k (l1.take (a0_2 : Int).toNat)).bind fun t111 => (some (t111, 0))) else (none)) else (none)) else (some ((([] : List Int)), bt105.1))))
theorem spec_RowKey.mono : ∀ a0 a1 a2 a3 a4 k, LeO (spec_RowKey.f k a0 a1 a2 a3 a4) (spec_RowKey.f (k + 1) a0 a1 a2 a3 a4) := by
 intro a0 a1 a2 a3 a4 k
 unfold spec_RowKey.f
 repeat' first
   | (with_reducible exact spec_CheckRow.mono _ _ _ _ _ _)
   | (with_reducible exact spec_l01Key.mono _ _)
   | (with_reducible exact LeO.refl _)
   | (with_reducible exact LeO.none _)
   | (with_reducible refine LeO.ite ?_ ?_)
   | (with_reducible refine LeO.bind ?_ (fun _ => ?_))
   | exact spec_CheckRow.mono _ _ _ _ _ _
   | exact spec_l01Key.mono _ _
   | exact LeO.none _
   | refine LeO.ite ?_ ?_
   | refine LeO.bind ?_ (fun _ => ?_)
set_option maxHeartbeats 8000000 in
set_option maxRecDepth 100000 in
theorem spec_RowKey.calls (k : Nat) (a0_0 : ByteArray) (A0_1 : Option Addr) (c0_1 : Nat) (l0_1 : List (S74)) (a0_2 : Int) (A0_3 : Option Addr) (c0_3 : Nat) (l0_3 : List (S76)) (A1 : Option Addr) (c1 : Nat) (l1 : List (S56)) (r1 : List Int) (r2 : Int) (w : World) (hr0_1 : Kd.C k74 w A0_1 l0_1.length l0_1) (hc0_1 : l0_1.length ≤ c0_1) (hr0_3 : Kd.C k76 w A0_3 l0_3.length l0_3) (hc0_3 : l0_3.length ≤ c0_3) (hr1 : Kd.C k56 w A1 l1.length l1) (hc1 : l1.length ≤ c1) (h : spec_RowKey.f k a0_0 l0_1 a0_2 l0_3 l1 = some (r1, r2)) :
  Calls Tryz.prog 6 #[.agg #[.string a0_0, .slice A0_1 l0_1.length c0_1, .int .i64 a0_2, .slice A0_3 l0_3.length c0_3], .slice A1 l1.length c1] w fun e w' => ∃ v0_ : Value, e = .returned (.tuple #[v0_, .int .i64 r2]) ∧ Kd.R (Kd.int .u8) 5 w' w.heap.size (fun _ => True) v0_ r1 ∧ Below w.heap.size w w' := by
 have hu35 := Tryz.underlying35
 have HR0_1 := ak_ hr0_1
 have HC0_1 := ak_ hc0_1
 clear hr0_1 hc0_1
 have HR0_3 := ak_ hr0_3
 have HC0_3 := ak_ hc0_3
 clear hr0_3 hc0_3
 have HR1 := ak_ hr1
 have HC1 := ak_ hc1
 clear hr1 hc1
 have HB := ak_ (Below.refl w.heap.size w)
 have H : (if (l1.length : Int) > 4096 then (some ((([] : List Int)), 2)) else ((spec_CheckRow.f k a0_0 l0_1 a0_2 l0_3 l1).bind fun bt105 => (if bt105.1 = 0 then (if 0 ≤ a0_2 then (if a0_2 ≤ (l1.length : Int) then ((spec_l01Key.f k (l1.take (a0_2 : Int).toNat)).bind fun t111 => (some (t111, 0))) else (none)) else (none)) else (some ((([] : List Int)), bt105.1))))) = some (r1, r2) := h
 clear h
 by_cases c3 : (l1.length : Int) > 4096
 ·rw [if_pos c3] at H
  have c3b0 : decide (4096 < (l1.length : Int)) = true := decide_eq_true c3
  have c3b1 : decide (4096 < l1.length) = true := decide_eq_true (by omega)
  clear c3
  obtain ⟨y102, hy102⟩ : ∃ y_ : List Int, y_ = (([] : List Int)) := ⟨_, rfl⟩
  replace H : (some (y102, 2)) = some (r1, r2) := by first | (rw [hy102]; with_reducible exact H) | (have H2_ := (Option.bind_some _ _).symm.trans H; rw [hy102]; with_reducible exact H2_) | (have H2_ := (Option.bind_some _ _).symm.trans H; with_reducible exact H2_) | with_reducible exact H | (rw [hy102]; exact H) | exact H
  have Ny102 := ak_ hy102
  clear hy102
  simp only [Option.some.injEq, Prod.mk.injEq] at H
  obtain ⟨rfl, rfl⟩ := H
  go_enter Tryz.func6, Tryz.ntmps6
  go_wp2_with (first | ((with_reducible refine gate_dst (N := 2) rfl ?_); refine bx_ 2 (cs := #[.string a0_0, .slice A0_1 l0_1.length c0_1, .int .i64 a0_2, .slice A0_3 l0_3.length c0_3]) (t := 35) (h_ := ?_); intro gb101 hg w4 hbox hb; have n_ := a4_ (below_step z0_ hb) (hbox) ((gs_ w hg (below_size z0_))) ((gs_ w hg (below_size z0_))); clear HB; obtain ⟨HB, BK101, GW101, GE101⟩ := n_; clear hb hbox hg) | ((with_reducible refine gate_dst (N := 11) rfl ?_); refine Kd.R_lit (Kd.int .u8) _ 5 ?hg (N := 11) ?hd (xs := ([] : List Int)) (inner := []) (ok := fun _ => True) (okp := fun _ => True) ?hr ?hp (fun _ hk => hk) trivial (Below.refl _ _) (Nat.le_refl _) (by simp) ?_; (case hd => rfl); (case hg => rfl); (case hr => first | (go_simp; done) | (go_simp; rfl)); (case hp => exact (Reps.none _ _)); intro v103 w5 ho6 hb hg_ hnew_; clear hg_ hnew_; (first | rw [← Ny102.out] at ho6 | (simp only [Int.reduceToNat] at ho6; rw [← Ny102.out] at ho6)); have n_ := a3_ (Kd.R_lower ho6 (below_size z1_)) (blk_below (g := gb101) (o := .cells #[.string a0_0, .slice A0_1 l0_1.length c0_1, .int .i64 a0_2, .slice A0_3 l0_3.length c0_3] 35 (0, 0)) z2_ hb) (below_step z1_ hb); clear BK101 HB; obtain ⟨HO104, BK101, HB⟩ := n_; clear hb ho6))
  go_ret2
  exact ⟨_, z6_, z49_, z1_⟩
 rw [if_neg c3] at H
 have c3b0 : decide (4096 < (l1.length : Int)) = false := decide_eq_false c3
 have c3b1 : decide (4096 < l1.length) = false := decide_eq_false (by omega)
 clear c3
 replace H := Option.bind_eq_some_iff.mp H
 obtain ⟨⟨t105, t106⟩, A70, H⟩ := H
 replace H : (if t105 = 0 then (if 0 ≤ a0_2 then (if a0_2 ≤ (l1.length : Int) then ((spec_l01Key.f k (l1.take (a0_2 : Int).toNat)).bind fun t111 => (some (t111, 0))) else (none)) else (none)) else (some ((([] : List Int)), t105))) = some (r1, r2) := H
 have A7 := ak_ A70
 clear A70
 by_cases c8 : t105 = 0
 rotate_left
 ·rw [if_neg c8] at H
  have c8b0 : (t105 == 0) = false := beq_eq_false_iff_ne.mpr c8
  have c8b1 : (t105 != 0) = true := bne_iff_ne.mpr c8
  obtain ⟨y114, hy114⟩ : ∃ y_ : List Int, y_ = (([] : List Int)) := ⟨_, rfl⟩
  replace H : (some (y114, t105)) = some (r1, r2) := by first | (rw [hy114]; with_reducible exact H) | (have H2_ := (Option.bind_some _ _).symm.trans H; rw [hy114]; with_reducible exact H2_) | (have H2_ := (Option.bind_some _ _).symm.trans H; with_reducible exact H2_) | with_reducible exact H | (rw [hy114]; exact H) | exact H
  have Ny114 := ak_ hy114
  clear hy114
  simp only [Option.some.injEq, Prod.mk.injEq] at H
  obtain ⟨rfl, rfl⟩ := H
  go_enter Tryz.func6, Tryz.ntmps6
  go_wp2_with (first | ((with_reducible refine gate_dst (N := 2) rfl ?_); refine bx_ 2 (cs := #[.string a0_0, .slice A0_1 l0_1.length c0_1, .int .i64 a0_2, .slice A0_3 l0_3.length c0_3]) (t := 35) (h_ := ?_); intro gb101 hg w18 hbox hb; have n_ := a4_ (below_step z0_ hb) (hbox) ((gs_ w hg (below_size z0_))) ((gs_ w hg (below_size z0_))); clear HB; obtain ⟨HB, BK101, GW101, GE101⟩ := n_; clear hb hbox hg; obtain ⟨hcz19_0, hcz19_1, hcz19_2, hcz19_3, hfz19_0, hfz19_1, hfz19_2, hfz19_3⟩ := bcf4 BK101.out) | ((with_reducible refine gate_callee (f := 20) rfl ?_); refine goesL_ (some 15) rfl rfl Tryz.func20 (by kernel_rfl) rfl #[.agg #[.string a0_0, .slice A0_1 l0_1.length c0_1, .int .i64 a0_2, .slice A0_3 l0_3.length c0_3], .slice A1 l1.length c1] rfl z3_ ?_; (with_reducible refine (spec_CheckRow.calls k a0_0 _ _ l0_1 a0_2 _ _ l0_3 _ _ l1 t105 t106 _ ?side1 ?side2 ?side3 ?side4 ?side5 ?side6 A7.out).mono ?_); (case side1 => repeat (first | exact (Kd.C_below HR0_1.out HB.out) | (with_reducible refine Kd.C_alloc ?_ _) | (with_reducible refine Kd.C_drewN ?_ _) | (with_reducible refine Kd.C_drew ?_))); (case side2 => exact HC0_1.out); (case side3 => repeat (first | exact (Kd.C_below HR0_3.out HB.out) | (with_reducible refine Kd.C_alloc ?_ _) | (with_reducible refine Kd.C_drewN ?_ _) | (with_reducible refine Kd.C_drew ?_))); (case side4 => exact HC0_3.out); (case side5 => repeat (first | exact (Kd.C_below HR1.out HB.out) | (with_reducible refine Kd.C_alloc ?_ _) | (with_reducible refine Kd.C_drewN ?_ _) | (with_reducible refine Kd.C_drew ?_))); (case side6 => exact HC1.out); rintro e w20 ⟨rfl, hb⟩; refine ⟨_, rfl, ?_⟩; have n_ := a2_ (blk_below (g := gb101) (o := .cells #[.string a0_0, .slice A0_1 l0_1.length c0_1, .int .i64 a0_2, .slice A0_3 l0_3.length c0_3] 35 (0, 0)) z2_ hb) (below_step z1_ hb); clear BK101 HB; obtain ⟨BK101, HB⟩ := n_; (try clear hb); (try clear hb2); (try clear hk); (try clear hi)) | ((with_reducible refine gate_dst (N := 20) rfl ?_); refine Kd.R_lit (Kd.int .u8) _ 5 ?hg (N := 20) ?hd (xs := ([] : List Int)) (inner := []) (ok := fun _ => True) (okp := fun _ => True) ?hr ?hp (fun _ hk => hk) trivial (Below.refl _ _) (Nat.le_refl _) (by simp) ?_; (case hd => rfl); (case hg => rfl); (case hr => first | (go_simp; done) | (go_simp; rfl)); (case hp => exact (Reps.none _ _)); intro v115 w21 ho22 hb hg_ hnew_; clear hg_ hnew_; (first | rw [← Ny114.out] at ho22 | (simp only [Int.reduceToNat] at ho22; rw [← Ny114.out] at ho22)); have n_ := a3_ (Kd.R_lower ho22 (below_size z1_)) (blk_below (g := gb101) (o := .cells #[.string a0_0, .slice A0_1 l0_1.length c0_1, .int .i64 a0_2, .slice A0_3 l0_3.length c0_3] 35 (0, 0)) z2_ hb) (below_step z1_ hb); clear BK101 HB; obtain ⟨HO116, BK101, HB⟩ := n_; clear hb ho22))
  go_ret2
  exact ⟨_, z6_, by (with_reducible repeat (first | apply Kd.R_alloc | apply Kd.R_drewN | apply Kd.R_drew)); exact HO116.out, z1_⟩

 rw [if_pos c8] at H
 have c8b0 : (t105 == 0) = true := beq_iff_eq.mpr c8
 have c8b1 : (t105 != 0) = false := bne_eq_false_iff_eq.mpr c8
 clear c8
 by_cases c9 : 0 ≤ a0_2
 rotate_left
 ·rw [if_neg c9] at H
  exact absurd H (by simp)
 rw [if_pos c9] at H
 have c9b0 := eq_true c9
 have c9b1 := decide_eq_true c9
 clear c9
 by_cases c10 : a0_2 ≤ (l1.length : Int)
 rotate_left
 ·rw [if_neg c10] at H
  exact absurd H (by simp)
 rw [if_pos c10] at H
 have c10b0 := eq_true c10
 have c10b1 := decide_eq_true c10
 clear c10
 obtain ⟨y107, hy107⟩ : ∃ y_ : List (S56), y_ = (l1.take (a0_2 : Int).toNat) := ⟨_, rfl⟩
 replace H : ((spec_l01Key.f k y107).bind fun t111 => (some (t111, 0))) = some (r1, r2) := by first | (rw [hy107]; with_reducible exact H) | (have H2_ := (Option.bind_some _ _).symm.trans H; rw [hy107]; with_reducible exact H2_) | (have H2_ := (Option.bind_some _ _).symm.trans H; with_reducible exact H2_) | with_reducible exact H | (rw [hy107]; exact H) | exact H
 have Ny107 := ak_ hy107
 clear hy107
 replace H := Option.bind_eq_some_iff.mp H
 obtain ⟨t111, A110, H⟩ := H
 have A11 := ak_ A110
 clear A110
 simp only [Option.some.injEq, Prod.mk.injEq] at H
 obtain ⟨rfl, rfl⟩ := H
 go_enter Tryz.func6, Tryz.ntmps6
 go_wp2_with (first | ((with_reducible refine gate_dst (N := 2) rfl ?_); refine bx_ 2 (cs := #[.string a0_0, .slice A0_1 l0_1.length c0_1, .int .i64 a0_2, .slice A0_3 l0_3.length c0_3]) (t := 35) (h_ := ?_); intro gb101 hg w12 hbox hb; have n_ := a4_ (below_step z0_ hb) (hbox) ((gs_ w hg (below_size z0_))) ((gs_ w hg (below_size z0_))); clear HB; obtain ⟨HB, BK101, GW101, GE101⟩ := n_; clear hb hbox hg; obtain ⟨hcz13_0, hcz13_1, hcz13_2, hcz13_3, hfz13_0, hfz13_1, hfz13_2, hfz13_3⟩ := bcf4 BK101.out) | ((with_reducible refine gate_callee (f := 20) rfl ?_); refine goesL_ (some 15) rfl rfl Tryz.func20 (by kernel_rfl) rfl #[.agg #[.string a0_0, .slice A0_1 l0_1.length c0_1, .int .i64 a0_2, .slice A0_3 l0_3.length c0_3], .slice A1 l1.length c1] rfl z3_ ?_; (with_reducible refine (spec_CheckRow.calls k a0_0 _ _ l0_1 a0_2 _ _ l0_3 _ _ l1 t105 t106 _ ?side1 ?side2 ?side3 ?side4 ?side5 ?side6 A7.out).mono ?_); (case side1 => repeat (first | exact (Kd.C_below HR0_1.out HB.out) | (with_reducible refine Kd.C_alloc ?_ _) | (with_reducible refine Kd.C_drewN ?_ _) | (with_reducible refine Kd.C_drew ?_))); (case side2 => exact HC0_1.out); (case side3 => repeat (first | exact (Kd.C_below HR0_3.out HB.out) | (with_reducible refine Kd.C_alloc ?_ _) | (with_reducible refine Kd.C_drewN ?_ _) | (with_reducible refine Kd.C_drew ?_))); (case side4 => exact HC0_3.out); (case side5 => repeat (first | exact (Kd.C_below HR1.out HB.out) | (with_reducible refine Kd.C_alloc ?_ _) | (with_reducible refine Kd.C_drewN ?_ _) | (with_reducible refine Kd.C_drew ?_))); (case side6 => exact HC1.out); rintro e w14 ⟨rfl, hb⟩; refine ⟨_, rfl, ?_⟩; have n_ := a2_ (blk_below (g := gb101) (o := .cells #[.string a0_0, .slice A0_1 l0_1.length c0_1, .int .i64 a0_2, .slice A0_3 l0_3.length c0_3] 35 (0, 0)) z2_ hb) (below_step z1_ hb); clear BK101 HB; obtain ⟨BK101, HB⟩ := n_; (try clear hb); (try clear hb2); (try clear hk); (try clear hi); obtain ⟨hcz15_0, hcz15_1, hcz15_2, hcz15_3, hfz15_0, hfz15_1, hfz15_2, hfz15_3⟩ := bcf4 BK101.out; have q16 : (a0_2 : Int) ≤ ((l1.length : Int) : Int) := of_decide_eq_true z4_; obtain ⟨i016, hi016, _, hsz16, _⟩ := info_parts info56; have hroom16 : l1.length ≤ c1 := HC1.out; have hC16 : Kd.C k56 _ A1 l1.length l1 := HR1.out; have hcut16 := cut_to (P := Tryz.prog) 37 56 .i64 Tryz.underlying37 hi016 A1 l1.length c1 a0_2 (of_decide_eq_true z4_) q16 hroom16; have hr16 := Kd.C_take (m := (a0_2 : Int).toNat) hC16 (by omega); have hy16 : y107.length = (a0_2 : Int).toNat := (by rw [Ny107.out, List.length_take]; omega); rw [← Ny107.out] at hr16; rw [← hy16] at hcut16; have HR110 := ak_ hr16; have HC110 := ak_ (show y107.length ≤ c1 from by omega); clear hr16 hC16 hroom16 hi016 hsz16; have KY16 := ak_ hy16; clear hy16; replace q16 := eq_true q16) | ((with_reducible refine gate_callee (f := 21) rfl ?_); refine goesL_ (some 26) rfl rfl Tryz.func21 (by kernel_rfl) rfl #[.slice A1 y107.length c1] rfl z3_ ?_; (with_reducible refine (spec_l01Key.calls k _ _ y107 t111 _ ?side1 ?side2 A11.out).mono ?_); (case side1 => repeat (first | exact (Kd.C_below HR110.out HB.out) | (with_reducible refine Kd.C_alloc ?_ _) | (with_reducible refine Kd.C_drewN ?_ _) | (with_reducible refine Kd.C_drew ?_))); (case side2 => exact HC110.out); rintro e w17 ⟨v112, rfl, ho0, hb⟩; refine ⟨_, rfl, ?_⟩; have n_ := a3_ (Kd.R_lower ho0 (below_size z1_)) (blk_below (g := gb101) (o := .cells #[.string a0_0, .slice A0_1 l0_1.length c0_1, .int .i64 a0_2, .slice A0_3 l0_3.length c0_3] 35 (0, 0)) z2_ hb) (below_step z1_ hb); clear BK101 HB; obtain ⟨HO113, BK101, HB⟩ := n_; (try clear hb); (try clear hb2); (try clear hk); (try clear hi); (try clear ho0)))
 go_ret2
 exact ⟨_, z6_, by (with_reducible repeat (first | apply Kd.R_alloc | apply Kd.R_drewN | apply Kd.R_drew)); exact HO113.out, z1_⟩
end

end Go.Proofs.YtfbclbbhomhfaaaGreatDoor.X
end
