/- Contracts of functions, and what is told of them. -/
import Derived.Test.YtlikagbdhjdggaaGreatDoorYFnExactIndexKey18
set_option linter.unusedSimpArgs false
set_option linter.unusedVariables false
set_option maxHeartbeats 8000000
set_option maxRecDepth 100000
section
namespace Go.Proofs.YtlikagbdhjdggaaGreatDoor.X
open Go.RowKit Go.Proofs.YtlikagbdhjdggaaGreatDoorW.PrintWords Go.Proofs.YtlikagbdhjdggaaGreatDoorW.PrintLast Go.Proofs.YtlikagbdhjdggaaGreatDoorW.PrintMore
attribute [local go_sem] max2_int min2_int max_two min_two max_three min_three max_four min_four

section
def impl_keyBytes.l0 : Nat → List Int → List (S61) → Int → Int → Option (List Int)
 | 0, _, _, _, _ => none
 | k + 1, x3, x7, x8, x9 => if x9 < x8 then (if 0 ≤ x9 then (if x9 < (x7.length : Int) then (if x3.length < 140737488355328 then ((some (x3 ++ [((rd_T61 x7 x9).f0) % 256] : List Int)).bind fun y106 => (if ((rd_T61 x7 x9).f0) = 1 then (if y106.length < 140737488355328 then (impl_keyBytes.l0 k (y106 ++ [((rd_T61 x7 x9).f1) % 256]) x7 x8 (wrap64 (x9 + 1))) else (none)) else (if ((rd_T61 x7 x9).f0) = 2 then ((impl_highBytes.f k (Go.bits .xor .u64 (IntKind.u64.wrap ((rd_T61 x7 x9).f1)) 9223372036854775808) 8).bind fun t112 => (if y106.length + t112.length < 140737488355328 then (impl_keyBytes.l0 k (y106 ++ t112) x7 x8 (wrap64 (x9 + 1))) else (none))) else ((impl_hasText.f ((rd_T61 x7 x9).f0)).bind fun t118 => (if t118 = true then ((strings_ReplaceAll.f ((rd_T61 x7 x9).f2) (⟨#[0]⟩ : ByteArray) (⟨#[0, 255]⟩ : ByteArray)).bind fun t119 => (if y106.length + t119.size < 140737488355328 then ((some (y106 ++ bytesOf t119 : List Int)).bind fun y120 => ((some (([0, 1] : List Int) : List Int)).bind fun y123 => (if y120.length + y123.length < 140737488355328 then (impl_keyBytes.l0 k (y120 ++ y123) x7 x8 (wrap64 (x9 + 1))) else (none)))) else (none))) else (impl_keyBytes.l0 k y106 x7 x8 (wrap64 (x9 + 1)))))))) else (none)) else (none)) else (none)) else (some x3)
def impl_keyBytes.f (k : Nat) (l0 : List (S61)) : Option (List Int) := impl_keyBytes.l0 k (([] : List Int)) l0 (l0.length : Int) 0
theorem impl_keyBytes.mono_l : ∀ k, (∀ y0 y1 y2 y3, LeO (impl_keyBytes.l0 k y0 y1 y2 y3) (impl_keyBytes.l0 (k + 1) y0 y1 y2 y3))
 | 0 => fun _ _ _ _ r h => by simp [impl_keyBytes.l0] at h
 | k + 1 => by
  have ih0 := impl_keyBytes.mono_l k
  intro y0 y1 y2 y3
  unfold impl_keyBytes.l0
  repeat' first | with_reducible (first | exact ih0 _ _ _ _ | exact impl_highBytes.mono _ _ _ | exact LeO.refl _ | exact LeO.none _ | refine LeO.ite ?_ ?_ | refine LeO.bind ?_ (fun _ => ?_)) | exact ih0 _ _ _ _ | exact impl_highBytes.mono _ _ _ | exact LeO.none _ | refine LeO.ite ?_ ?_ | refine LeO.bind ?_ (fun _ => ?_)
theorem impl_keyBytes.mono : ∀ a0 k, LeO (impl_keyBytes.f k a0) (impl_keyBytes.f (k + 1) a0) := by
 intro a0 k
 have ih0 := impl_keyBytes.mono_l k
 unfold impl_keyBytes.f
 repeat' first
   | (with_reducible exact ih0 _ _ _ _)
   | (with_reducible exact impl_highBytes.mono _ _ _)
   | (with_reducible exact LeO.refl _)
   | (with_reducible exact LeO.none _)
   | (with_reducible refine LeO.ite ?_ ?_)
   | (with_reducible refine LeO.bind ?_ (fun _ => ?_))
   | exact ih0 _ _ _ _
   | exact impl_highBytes.mono _ _ _
   | exact LeO.none _
   | refine LeO.ite ?_ ?_
   | refine LeO.bind ?_ (fun _ => ?_)
theorem impl_keyBytes.calls (k : Nat) (A0 : Option Addr) (c0 : Nat) (l0 : List (S61)) (r : List Int) (w : World) (hr0 : Kd.C k61 w A0 l0.length l0) (hc0 : l0.length ≤ c0) (h : impl_keyBytes.f k l0 = some r) :
  Calls Tryz.prog 47 #[.slice A0 l0.length c0] w fun e w' => ∃ v0_ : Value, e = .returned (v0_) ∧ Kd.R (Kd.int .u8) 5 w' w.heap.size (fun _ => True) v0_ r ∧ Below w.heap.size w w' := by
 have hu61 := Tryz.underlying61
 have HR0 := ak_ hr0
 have HC0 := ak_ hc0
 clear hr0 hc0
 have HB := ak_ (Below.refl w.heap.size w)
 have H : (impl_keyBytes.l0 k (([] : List Int)) l0 (l0.length : Int) 0) = some r := h
 clear h
 obtain ⟨y101, hy101⟩ : ∃ y_ : List Int, y_ = (([] : List Int)) := ⟨_, rfl⟩
 replace H : (impl_keyBytes.l0 k y101 l0 (l0.length : Int) 0) = some r := by first | (rw [hy101]; with_reducible exact H) | (have H2_ := (Option.bind_some _ _).symm.trans H; rw [hy101]; with_reducible exact H2_) | (have H2_ := (Option.bind_some _ _).symm.trans H; with_reducible exact H2_) | with_reducible exact H | (rw [hy101]; exact H) | exact H
 have Ny101 := ak_ hy101
 clear hy101
 have H' := ak_ H
 clear H
 go_enter Tryz.func47, Tryz.ntmps47
 go_wp2_with (first | ((with_reducible refine gate_dst (N := 6) rfl ?_); refine Kd.R_lit (Kd.int .u8) _ 5 ?hg (N := 6) ?hd (xs := ([] : List Int)) (inner := []) (ok := fun _ => True) (okp := fun _ => True) ?hr ?hp (fun _ hk => hk) trivial (Below.refl _ _) (Nat.le_refl _) (by simp) ?_; (case hd => rfl); (case hg => rfl); (case hr => first | (go_simp; done) | (go_simp; rfl)); (case hp => exact (Reps.none _ _)); intro v102 w2 ho3 hb hg_ hnew_; clear hg_ hnew_; (first | rw [← Ny101.out] at ho3 | (simp only [Int.reduceToNat] at ho3; rw [← Ny101.out] at ho3)); have n_ := a2_ (Kd.R_lower ho3 (below_size z0_)) (below_step z0_ hb); clear HB; obtain ⟨HO103, HB⟩ := n_; clear hb ho3))
 go_loopg [3, 9] k (fun kq v3 v9 w' => ∃ (x3_1 : List Int) (x9_1 : Int), v9 = .int .i64 x9_1 ∧ Aside0 (impl_keyBytes.l0 kq x3_1 l0 (l0.length : Int) x9_1 = some r) ∧ Aside0 (kq ≤ k) ∧ Aside0 (Kd.R (Kd.int .u8) 5 w' w.heap.size (fun _ => True) v3 x3_1) ∧ Aside0 (Below w.heap.size w w'))
 case atStart => exact ⟨(y101), (0), z8_, H', ⟨Nat.le_refl _⟩, ⟨z37_⟩, ⟨z0_⟩⟩
 case round =>
  clear H'
  try clear p2
  obtain ⟨x3_1, x9_1, rfl, HA, HK1, HO_3, HB⟩ := hrel
  cases gk with
  | zero => exact absurd HA.out (by simp [impl_keyBytes.l0])
  | succ k1 =>
   have H := HA.out
   clear HA
   simp only [impl_keyBytes.l0] at H
   by_cases c4 : x9_1 < (l0.length : Int)
   rotate_left
   ·rw [if_neg c4] at H
    have c4b0 := decide_eq_false c4
    clear c4
    obtain rfl := Option.some.inj H
    go_wp2
    go_ret
    exact ⟨_, z6_, z18_, z0_⟩

   rw [if_pos c4] at H
   have c4b0 := decide_eq_true c4
   clear c4
   by_cases c5 : 0 ≤ x9_1
   rotate_left
   ·rw [if_neg c5] at H
    exact absurd H (by simp)
   rw [if_pos c5] at H
   have c5b0 := decide_eq_true c5
   clear c5
   by_cases c6 : x9_1 < (l0.length : Int)
   rotate_left
   ·rw [if_neg c6] at H
    exact absurd H (by simp)
   rw [if_pos c6] at H
   have c6b0 := decide_eq_true c6
   clear c6
   by_cases c7 : x3_1.length < 140737488355328
   rotate_left
   ·rw [if_neg c7] at H
    exact absurd H (by simp)
   rw [if_pos c7] at H
   have LMc7 := ak_ c7
   clear c7
   obtain ⟨y106, hy106⟩ : ∃ y_ : List Int, y_ = (x3_1 ++ [((rd_T61 l0 x9_1).f0) % 256]) := ⟨_, rfl⟩
   replace H : (if ((rd_T61 l0 x9_1).f0) = 1 then (if y106.length < 140737488355328 then (impl_keyBytes.l0 k1 (y106 ++ [((rd_T61 l0 x9_1).f1) % 256]) l0 (l0.length : Int) (wrap64 (x9_1 + 1))) else (none)) else (if ((rd_T61 l0 x9_1).f0) = 2 then ((impl_highBytes.f k1 (Go.bits .xor .u64 (IntKind.u64.wrap ((rd_T61 l0 x9_1).f1)) 9223372036854775808) 8).bind fun t112 => (if y106.length + t112.length < 140737488355328 then (impl_keyBytes.l0 k1 (y106 ++ t112) l0 (l0.length : Int) (wrap64 (x9_1 + 1))) else (none))) else ((impl_hasText.f ((rd_T61 l0 x9_1).f0)).bind fun t118 => (if t118 = true then ((strings_ReplaceAll.f ((rd_T61 l0 x9_1).f2) (⟨#[0]⟩ : ByteArray) (⟨#[0, 255]⟩ : ByteArray)).bind fun t119 => (if y106.length + t119.size < 140737488355328 then ((some (y106 ++ bytesOf t119 : List Int)).bind fun y120 => ((some (([0, 1] : List Int) : List Int)).bind fun y123 => (if y120.length + y123.length < 140737488355328 then (impl_keyBytes.l0 k1 (y120 ++ y123) l0 (l0.length : Int) (wrap64 (x9_1 + 1))) else (none)))) else (none))) else (impl_keyBytes.l0 k1 y106 l0 (l0.length : Int) (wrap64 (x9_1 + 1))))))) = some r := by first | (rw [hy106]; with_reducible exact H) | (have H2_ := (Option.bind_some _ _).symm.trans H; rw [hy106]; with_reducible exact H2_) | (have H2_ := (Option.bind_some _ _).symm.trans H; with_reducible exact H2_) | with_reducible exact H | (rw [hy106]; exact H) | exact H
   have Ny106 := ak_ hy106
   clear hy106
   by_cases c8 : ((rd_T61 l0 x9_1).f0) = 1
   ·rw [if_pos c8] at H
    have c8b0 : (((rd_T61 l0 x9_1).f0) == 1) = true := beq_iff_eq.mpr c8
    have c8b1 : (((rd_T61 l0 x9_1).f0) != 1) = false := bne_eq_false_iff_eq.mpr c8
    clear c8
    by_cases c9 : y106.length < 140737488355328
    ·rw [if_pos c9] at H
     have LMc9 := ak_ c9
     clear c9
     obtain ⟨y109, hy109⟩ : ∃ y_ : List Int, y_ = (y106 ++ [((rd_T61 l0 x9_1).f1) % 256]) := ⟨_, rfl⟩
     replace H : (impl_keyBytes.l0 k1 y109 l0 (l0.length : Int) (wrap64 (x9_1 + 1))) = some r := by first | (rw [hy109]; with_reducible exact H) | (have H2_ := (Option.bind_some _ _).symm.trans H; rw [hy109]; with_reducible exact H2_) | (have H2_ := (Option.bind_some _ _).symm.trans H; with_reducible exact H2_) | with_reducible exact H | (rw [hy109]; exact H) | exact H
     have Ny109 := ak_ hy109
     clear hy109
     have H' := ak_ H
     clear H
     have p104 : 0 ≤ (x9_1 : Int) := of_decide_eq_true z5_
     have q104 : x9_1 < (l0.length : Int) := of_decide_eq_true z5_
     obtain ⟨ad104, e104, hx104_0, hx104_1, hx104_2⟩ := at_T61 HR0.out x9_1 p104 q104
     cases e104
     replace hx104_0 := oc_ HB.out hx104_0
     replace hx104_1 := oc_ HB.out hx104_1
     replace hx104_2 := oc_ HB.out hx104_2
     replace p104 := eq_true p104
     replace q104 := eq_true q104
     go_wp2_with (first | ((with_reducible refine gate_dst (N := 5) rfl ?_); refine bx_ 5 (cs := #[.int .i64 0, .int .i64 0, .string (⟨#[]⟩ : ByteArray)]) (t := 61) (h_ := ?_); intro gb105 hg w10 hbox hb; have n_ := a5_ (Kd.R_below z18_ hb) (below_step z0_ hb) (hbox) ((gs_ w hg (below_size z0_))) ((gs_ w hg (below_size z0_))); clear HO_3 HB; obtain ⟨HO_3, HB, BK105, GW105, GE105⟩ := n_; clear hb hbox hg; obtain ⟨hcz11_0, hcz11_1, hcz11_2, hfz11_0, hfz11_1, hfz11_2⟩ := bcf3 BK105.out) | ((with_reducible refine gate_builtin (b := .append) (xs := #[.tmp 13, .tmp 17]) rfl ?_); at_builtin; refine Kd.R_append (Kd.int .u8) (w0 := w) w.heap.size rfl (.tmp 13) (.tmp 17) 29 5 (.int .u8 0) 1 rfl Tryz.underlying29 info5 rfl (by decide) (by omega) u3 x3_1 (((rd_T61 l0 x9_1).f0) % 256) [.int .u8 (((rd_T61 l0 x9_1).f0) % 256)] (fun _ => True) (fun _ => False) rfl z74_ ?aP (fun _ hk => hk.elim) ?aF ?aO ?aB ?aS ?aL ?_; (case aP => exact rfl); (case aB => exact z7_); (case aF => exact (fun _ _ => trivial)); (case aO => exact z28_); (case aS => exact (below_size z7_)); (case aL => have := LMc7.out; omega); intro v107 w12 ho hb hg hat; rw [← Ny106.out] at ho; have n_ := a3_ (blk_grown (g := gb105) (o := .cells #[.int .i64 ((rd_T61 l0 x9_1).f0), .int .i64 ((rd_T61 l0 x9_1).f1), .string ((rd_T61 l0 x9_1).f2)] 61 (0, 0)) z20_ hg (Kd.R_ne HO_3.out BK105.out (by decide))) (hb) (ho); clear BK105 HB HO_3; obtain ⟨BK105, HB, HO108⟩ := n_; clear ho hb hg hat; obtain ⟨hcz13_0, hcz13_1, hcz13_2, hfz13_0, hfz13_1, hfz13_2⟩ := bcf3 BK105.out) | ((with_reducible refine gate_builtin (b := .append) (xs := #[.tmp 23, .tmp 27]) rfl ?_); at_builtin; refine Kd.R_append (Kd.int .u8) (w0 := w) w.heap.size rfl (.tmp 23) (.tmp 27) 29 5 (.int .u8 0) 1 rfl Tryz.underlying29 info5 rfl (by decide) (by omega) v107 y106 (((rd_T61 l0 x9_1).f1) % 256) [.int .u8 (((rd_T61 l0 x9_1).f1) % 256)] (fun _ => True) (fun _ => False) rfl rfl ?aP (fun _ hk => hk.elim) ?aF ?aO ?aB ?aS ?aL ?_; (case aP => exact rfl); (case aB => exact z7_); (case aF => exact (fun _ _ => trivial)); (case aO => exact z29_); (case aS => exact (below_size z7_)); (case aL => have := LMc9.out; omega); intro v110 w14 ho hb hg hat; rw [← Ny109.out] at ho; have n_ := a3_ (blk_grown (g := gb105) (o := .cells #[.int .i64 ((rd_T61 l0 x9_1).f0), .int .i64 ((rd_T61 l0 x9_1).f1), .string ((rd_T61 l0 x9_1).f2)] 61 (0, 0)) z21_ hg (Kd.R_ne HO108.out BK105.out (by decide))) (hb) (ho); clear BK105 HB HO108; obtain ⟨BK105, HB, HO111⟩ := n_; clear ho hb hg hat))
     go_roundg k1
     case measure => have := HK1.out; omega
     case rel => exact ⟨(y109), (wrap64 (x9_1 + 1)), z8_, H', ⟨by have := HK1.out; omega⟩, ⟨by (with_reducible repeat (first | apply Kd.R_alloc | apply Kd.R_drewN | apply Kd.R_drew)); exact HO111.out⟩, ⟨z7_⟩⟩
    ·rw [if_neg c9] at H
     exact absurd H (by simp)
   rw [if_neg c8] at H
   have c8b0 : (((rd_T61 l0 x9_1).f0) == 1) = false := beq_eq_false_iff_ne.mpr c8
   have c8b1 : (((rd_T61 l0 x9_1).f0) != 1) = true := bne_iff_ne.mpr c8
   by_cases c15 : ((rd_T61 l0 x9_1).f0) = 2
   ·rw [if_pos c15] at H
    have c15b0 : (((rd_T61 l0 x9_1).f0) == 2) = true := beq_iff_eq.mpr c15
    have c15b1 : (((rd_T61 l0 x9_1).f0) != 2) = false := bne_eq_false_iff_eq.mpr c15
    clear c15
    replace H := Option.bind_eq_some_iff.mp H
    obtain ⟨t112, A160, H⟩ := H
    have A16 := ak_ A160
    clear A160
    by_cases c17 : y106.length + t112.length < 140737488355328
    ·rw [if_pos c17] at H
     have LMc17 := ak_ c17
     clear c17
     obtain ⟨y115, hy115⟩ : ∃ y_ : List Int, y_ = (y106 ++ t112) := ⟨_, rfl⟩
     replace H : (impl_keyBytes.l0 k1 y115 l0 (l0.length : Int) (wrap64 (x9_1 + 1))) = some r := by first | (rw [hy115]; with_reducible exact H) | (have H2_ := (Option.bind_some _ _).symm.trans H; rw [hy115]; with_reducible exact H2_) | (have H2_ := (Option.bind_some _ _).symm.trans H; with_reducible exact H2_) | with_reducible exact H | (rw [hy115]; exact H) | exact H
     have Ny115 := ak_ hy115
     clear hy115
     have H' := ak_ H
     clear H
     have p104 : 0 ≤ (x9_1 : Int) := of_decide_eq_true z5_
     have q104 : x9_1 < (l0.length : Int) := of_decide_eq_true z5_
     obtain ⟨ad104, e104, hx104_0, hx104_1, hx104_2⟩ := at_T61 HR0.out x9_1 p104 q104
     cases e104
     replace hx104_0 := oc_ HB.out hx104_0
     replace hx104_1 := oc_ HB.out hx104_1
     replace hx104_2 := oc_ HB.out hx104_2
     replace p104 := eq_true p104
     replace q104 := eq_true q104
     go_wp2_with (first | ((with_reducible refine gate_dst (N := 5) rfl ?_); refine bx_ 5 (cs := #[.int .i64 0, .int .i64 0, .string (⟨#[]⟩ : ByteArray)]) (t := 61) (h_ := ?_); intro gb105 hg w18 hbox hb; have n_ := a5_ (Kd.R_below z18_ hb) (below_step z0_ hb) (hbox) ((gs_ w hg (below_size z0_))) ((gs_ w hg (below_size z0_))); clear HO_3 HB; obtain ⟨HO_3, HB, BK105, GW105, GE105⟩ := n_; clear hb hbox hg; obtain ⟨hcz19_0, hcz19_1, hcz19_2, hfz19_0, hfz19_1, hfz19_2⟩ := bcf3 BK105.out) | ((with_reducible refine gate_builtin (b := .append) (xs := #[.tmp 13, .tmp 17]) rfl ?_); at_builtin; refine Kd.R_append (Kd.int .u8) (w0 := w) w.heap.size rfl (.tmp 13) (.tmp 17) 29 5 (.int .u8 0) 1 rfl Tryz.underlying29 info5 rfl (by decide) (by omega) u3 x3_1 (((rd_T61 l0 x9_1).f0) % 256) [.int .u8 (((rd_T61 l0 x9_1).f0) % 256)] (fun _ => True) (fun _ => False) rfl z74_ ?aP (fun _ hk => hk.elim) ?aF ?aO ?aB ?aS ?aL ?_; (case aP => exact rfl); (case aB => exact z7_); (case aF => exact (fun _ _ => trivial)); (case aO => exact z28_); (case aS => exact (below_size z7_)); (case aL => have := LMc7.out; omega); intro v107 w20 ho hb hg hat; rw [← Ny106.out] at ho; have n_ := a3_ (blk_grown (g := gb105) (o := .cells #[.int .i64 ((rd_T61 l0 x9_1).f0), .int .i64 ((rd_T61 l0 x9_1).f1), .string ((rd_T61 l0 x9_1).f2)] 61 (0, 0)) z20_ hg (Kd.R_ne HO_3.out BK105.out (by decide))) (hb) (ho); clear BK105 HB HO_3; obtain ⟨BK105, HB, HO108⟩ := n_; clear ho hb hg hat; obtain ⟨hcz21_0, hcz21_1, hcz21_2, hfz21_0, hfz21_1, hfz21_2⟩ := bcf3 BK105.out) | ((with_reducible refine gate_callee (f := 69) rfl ?_); refine goesL_ (some 38) rfl rfl Tryz.func69 (by kernel_rfl) rfl #[.int .u64 (Go.bits .xor .u64 (IntKind.u64.wrap ((rd_T61 l0 x9_1).f1)) 9223372036854775808), .int .i64 8] rfl z3_ ?_; (with_reducible refine (impl_highBytes.calls k1 (Go.bits .xor .u64 (IntKind.u64.wrap ((rd_T61 l0 x9_1).f1)) 9223372036854775808) 8 t112 _ A16.out).mono ?_); rintro e w22 ⟨v113, rfl, ho0, hb⟩; refine ⟨_, rfl, ?_⟩; have n_ := a4_ (Kd.R_elder' z29_ (Kd.R_base ho0) hb) (Kd.R_lower (Kd.R_new' ho0 (Kd.R_lt z29_)) (below_size z7_)) (blk_below (g := gb105) (o := .cells #[.int .i64 ((rd_T61 l0 x9_1).f0), .int .i64 ((rd_T61 l0 x9_1).f1), .string ((rd_T61 l0 x9_1).f2)] 61 (0, 0)) z21_ hb) (below_step z7_ hb); clear HO108 BK105 HB; obtain ⟨HO108, HO114, BK105, HB⟩ := n_; (try clear hb); (try clear hb2); (try clear hk); (try clear hi); (try clear ho0); obtain ⟨Ao24, co24, eo24⟩ := Kd.R_slice HO114.out; subst eo24) | ((with_reducible refine gate_builtin (b := .append) (xs := #[.tmp 33, .tmp 38]) rfl ?_); at_builtin; refine Kd.R_append_rows (Kd.int .u8) (w0 := w) w.heap.size rfl (.tmp 33) (.tmp 38) 29 5 (.int .u8 0) 1 rfl Tryz.underlying29 info5 rfl (by decide) (by omega) v107 y106 t112 _ _ _ (fun k_ => some k_ ≠ (.slice Ao24 t112.length co24 : Value).ownBlock) (fun _ => False) rfl rfl ?aO ?aR (fun _ _ h => h) (fun _ h => h.elim) ?aF ?aB ?aS ?aL ?_; (case aR => exact cz_ ((Kd.R_reads' HO114.out).2.2)); (case aB => exact z7_); (case aF => exact (fun k_ hk => Kd.fresh' (Kd.R_lt z38_) k_ hk)); (case aO => exact z87_); (case aS => exact (below_size z7_)); (case aL => have := LMc17.out; omega); intro v116 w23 ho hb hg hat; rw [← Ny115.out] at ho; have n_ := a4_ (blk_grown (g := gb105) (o := .cells #[.int .i64 ((rd_T61 l0 x9_1).f0), .int .i64 ((rd_T61 l0 x9_1).f1), .string ((rd_T61 l0 x9_1).f2)] 61 (0, 0)) z21_ hg (Kd.R_ne HO108.out BK105.out (by decide))) (Kd.R_after (ok := (fun _ => True)) z38_ hg hat) (hb) (ho); clear BK105 HO114 HB HO108; obtain ⟨BK105, HO114, HB, HO117⟩ := n_; clear ho hb hg hat))
     go_roundg k1
     case measure => have := HK1.out; omega
     case rel => exact ⟨(y115), (wrap64 (x9_1 + 1)), z8_, H', ⟨by have := HK1.out; omega⟩, ⟨by (with_reducible repeat (first | apply Kd.R_alloc | apply Kd.R_drewN | apply Kd.R_drew)); exact Kd.R_mono HO117.out (fun _ hk => trivial)⟩, ⟨z7_⟩⟩
    ·rw [if_neg c17] at H
     exact absurd H (by simp)
   rw [if_neg c15] at H
   have c15b0 : (((rd_T61 l0 x9_1).f0) == 2) = false := beq_eq_false_iff_ne.mpr c15
   have c15b1 : (((rd_T61 l0 x9_1).f0) != 2) = true := bne_iff_ne.mpr c15
   replace H := Option.bind_eq_some_iff.mp H
   obtain ⟨t118, A250, H⟩ := H
   have A25 := ak_ A250
   clear A250
   by_cases c26 : t118 = true
   rotate_left
   ·replace c26 := Bool.eq_false_iff.mpr c26
    subst c26
    have H1 : (impl_keyBytes.l0 k1 y106 l0 (l0.length : Int) (wrap64 (x9_1 + 1))) = some r := by rw [if_neg (show ¬ (false = true) by decide)] at H; exact H
    clear H
    have H := H1
    clear H1
    have H' := ak_ H
    clear H
    have p104 : 0 ≤ (x9_1 : Int) := of_decide_eq_true z5_
    have q104 : x9_1 < (l0.length : Int) := of_decide_eq_true z5_
    obtain ⟨ad104, e104, hx104_0, hx104_1, hx104_2⟩ := at_T61 HR0.out x9_1 p104 q104
    cases e104
    replace hx104_0 := oc_ HB.out hx104_0
    replace hx104_1 := oc_ HB.out hx104_1
    replace hx104_2 := oc_ HB.out hx104_2
    replace p104 := eq_true p104
    replace q104 := eq_true q104
    go_wp2_with (first | ((with_reducible refine gate_dst (N := 5) rfl ?_); refine bx_ 5 (cs := #[.int .i64 0, .int .i64 0, .string (⟨#[]⟩ : ByteArray)]) (t := 61) (h_ := ?_); intro gb105 hg w40 hbox hb; have n_ := a5_ (Kd.R_below z18_ hb) (below_step z0_ hb) (hbox) ((gs_ w hg (below_size z0_))) ((gs_ w hg (below_size z0_))); clear HO_3 HB; obtain ⟨HO_3, HB, BK105, GW105, GE105⟩ := n_; clear hb hbox hg; obtain ⟨hcz41_0, hcz41_1, hcz41_2, hfz41_0, hfz41_1, hfz41_2⟩ := bcf3 BK105.out) | ((with_reducible refine gate_builtin (b := .append) (xs := #[.tmp 13, .tmp 17]) rfl ?_); at_builtin; refine Kd.R_append (Kd.int .u8) (w0 := w) w.heap.size rfl (.tmp 13) (.tmp 17) 29 5 (.int .u8 0) 1 rfl Tryz.underlying29 info5 rfl (by decide) (by omega) u3 x3_1 (((rd_T61 l0 x9_1).f0) % 256) [.int .u8 (((rd_T61 l0 x9_1).f0) % 256)] (fun _ => True) (fun _ => False) rfl z74_ ?aP (fun _ hk => hk.elim) ?aF ?aO ?aB ?aS ?aL ?_; (case aP => exact rfl); (case aB => exact z7_); (case aF => exact (fun _ _ => trivial)); (case aO => exact z28_); (case aS => exact (below_size z7_)); (case aL => have := LMc7.out; omega); intro v107 w42 ho hb hg hat; rw [← Ny106.out] at ho; have n_ := a3_ (blk_grown (g := gb105) (o := .cells #[.int .i64 ((rd_T61 l0 x9_1).f0), .int .i64 ((rd_T61 l0 x9_1).f1), .string ((rd_T61 l0 x9_1).f2)] 61 (0, 0)) z20_ hg (Kd.R_ne HO_3.out BK105.out (by decide))) (hb) (ho); clear BK105 HB HO_3; obtain ⟨BK105, HB, HO108⟩ := n_; clear ho hb hg hat; obtain ⟨hcz43_0, hcz43_1, hcz43_2, hfz43_0, hfz43_1, hfz43_2⟩ := bcf3 BK105.out) | ((with_reducible refine gate_callee (f := 70) rfl ?_); refine goesL_ (some 43) rfl rfl Tryz.func70 (by kernel_rfl) rfl #[.int .i64 ((rd_T61 l0 x9_1).f0)] rfl z3_ ?_; (with_reducible refine (impl_hasText.calls ((rd_T61 l0 x9_1).f0) false _ A25.out).mono ?_); rintro e w' ⟨rfl, ⟨nd, rfl⟩⟩; refine ⟨_, rfl, ?_⟩))
    go_roundg k1
    case measure => have := HK1.out; omega
    case rel => exact ⟨(y106), (wrap64 (x9_1 + 1)), z8_, H', ⟨by have := HK1.out; omega⟩, ⟨z29_⟩, ⟨z7_⟩⟩
   subst c26
   have H1 : ((strings_ReplaceAll.f ((rd_T61 l0 x9_1).f2) (⟨#[0]⟩ : ByteArray) (⟨#[0, 255]⟩ : ByteArray)).bind fun t119 => (if y106.length + t119.size < 140737488355328 then ((some (y106 ++ bytesOf t119 : List Int)).bind fun y120 => ((some (([0, 1] : List Int) : List Int)).bind fun y123 => (if y120.length + y123.length < 140737488355328 then (impl_keyBytes.l0 k1 (y120 ++ y123) l0 (l0.length : Int) (wrap64 (x9_1 + 1))) else (none)))) else (none))) = some r := by rw [if_pos rfl] at H; exact H
   clear H
   have H := H1
   clear H1
   replace H := Option.bind_eq_some_iff.mp H
   obtain ⟨t119, A270, H⟩ := H
   have A27 := ak_ A270
   clear A270
   by_cases c28 : y106.length + t119.size < 140737488355328
   rotate_left
   ·rw [if_neg c28] at H
    exact absurd H (by simp)
   rw [if_pos c28] at H
   have LMc28 := ak_ c28
   clear c28
   obtain ⟨y120, hy120⟩ : ∃ y_ : List Int, y_ = (y106 ++ bytesOf t119) := ⟨_, rfl⟩
   replace H : ((some (([0, 1] : List Int) : List Int)).bind fun y123 => (if y120.length + y123.length < 140737488355328 then (impl_keyBytes.l0 k1 (y120 ++ y123) l0 (l0.length : Int) (wrap64 (x9_1 + 1))) else (none))) = some r := by first | (rw [hy120]; with_reducible exact H) | (have H2_ := (Option.bind_some _ _).symm.trans H; rw [hy120]; with_reducible exact H2_) | (have H2_ := (Option.bind_some _ _).symm.trans H; with_reducible exact H2_) | with_reducible exact H | (rw [hy120]; exact H) | exact H
   have Ny120 := ak_ hy120
   clear hy120
   obtain ⟨y123, hy123⟩ : ∃ y_ : List Int, y_ = (([0, 1] : List Int)) := ⟨_, rfl⟩
   replace H : (if y120.length + y123.length < 140737488355328 then (impl_keyBytes.l0 k1 (y120 ++ y123) l0 (l0.length : Int) (wrap64 (x9_1 + 1))) else (none)) = some r := by first | (rw [hy123]; with_reducible exact H) | (have H2_ := (Option.bind_some _ _).symm.trans H; rw [hy123]; with_reducible exact H2_) | (have H2_ := (Option.bind_some _ _).symm.trans H; with_reducible exact H2_) | with_reducible exact H | (rw [hy123]; exact H) | exact H
   have Ny123 := ak_ hy123
   clear hy123
   by_cases c29 : y120.length + y123.length < 140737488355328
   rotate_left
   ·rw [if_neg c29] at H
    exact absurd H (by simp)
   rw [if_pos c29] at H
   have LMc29 := ak_ c29
   clear c29
   obtain ⟨y126, hy126⟩ : ∃ y_ : List Int, y_ = (y120 ++ y123) := ⟨_, rfl⟩
   replace H : (impl_keyBytes.l0 k1 y126 l0 (l0.length : Int) (wrap64 (x9_1 + 1))) = some r := by first | (rw [hy126]; with_reducible exact H) | (have H2_ := (Option.bind_some _ _).symm.trans H; rw [hy126]; with_reducible exact H2_) | (have H2_ := (Option.bind_some _ _).symm.trans H; with_reducible exact H2_) | with_reducible exact H | (rw [hy126]; exact H) | exact H
   have Ny126 := ak_ hy126
   clear hy126
   have H' := ak_ H
   clear H
   have p104 : 0 ≤ (x9_1 : Int) := of_decide_eq_true z5_
   have q104 : x9_1 < (l0.length : Int) := of_decide_eq_true z5_
   obtain ⟨ad104, e104, hx104_0, hx104_1, hx104_2⟩ := at_T61 HR0.out x9_1 p104 q104
   cases e104
   replace hx104_0 := oc_ HB.out hx104_0
   replace hx104_1 := oc_ HB.out hx104_1
   replace hx104_2 := oc_ HB.out hx104_2
   replace p104 := eq_true p104
   replace q104 := eq_true q104
   go_wp2_with (first | ((with_reducible refine gate_dst (N := 5) rfl ?_); refine bx_ 5 (cs := #[.int .i64 0, .int .i64 0, .string (⟨#[]⟩ : ByteArray)]) (t := 61) (h_ := ?_); intro gb105 hg w30 hbox hb; have n_ := a5_ (Kd.R_below z18_ hb) (below_step z0_ hb) (hbox) ((gs_ w hg (below_size z0_))) ((gs_ w hg (below_size z0_))); clear HO_3 HB; obtain ⟨HO_3, HB, BK105, GW105, GE105⟩ := n_; clear hb hbox hg; obtain ⟨hcz31_0, hcz31_1, hcz31_2, hfz31_0, hfz31_1, hfz31_2⟩ := bcf3 BK105.out) | ((with_reducible refine gate_builtin (b := .append) (xs := #[.tmp 13, .tmp 17]) rfl ?_); at_builtin; refine Kd.R_append (Kd.int .u8) (w0 := w) w.heap.size rfl (.tmp 13) (.tmp 17) 29 5 (.int .u8 0) 1 rfl Tryz.underlying29 info5 rfl (by decide) (by omega) u3 x3_1 (((rd_T61 l0 x9_1).f0) % 256) [.int .u8 (((rd_T61 l0 x9_1).f0) % 256)] (fun _ => True) (fun _ => False) rfl z74_ ?aP (fun _ hk => hk.elim) ?aF ?aO ?aB ?aS ?aL ?_; (case aP => exact rfl); (case aB => exact z7_); (case aF => exact (fun _ _ => trivial)); (case aO => exact z28_); (case aS => exact (below_size z7_)); (case aL => have := LMc7.out; omega); intro v107 w32 ho hb hg hat; rw [← Ny106.out] at ho; have n_ := a3_ (blk_grown (g := gb105) (o := .cells #[.int .i64 ((rd_T61 l0 x9_1).f0), .int .i64 ((rd_T61 l0 x9_1).f1), .string ((rd_T61 l0 x9_1).f2)] 61 (0, 0)) z20_ hg (Kd.R_ne HO_3.out BK105.out (by decide))) (hb) (ho); clear BK105 HB HO_3; obtain ⟨BK105, HB, HO108⟩ := n_; clear ho hb hg hat; obtain ⟨hcz33_0, hcz33_1, hcz33_2, hfz33_0, hfz33_1, hfz33_2⟩ := bcf3 BK105.out) | ((with_reducible refine gate_callee (f := 70) rfl ?_); refine goesL_ (some 43) rfl rfl Tryz.func70 (by kernel_rfl) rfl #[.int .i64 ((rd_T61 l0 x9_1).f0)] rfl z3_ ?_; (with_reducible refine (impl_hasText.calls ((rd_T61 l0 x9_1).f0) true _ A25.out).mono ?_); rintro e w' ⟨rfl, ⟨nd, rfl⟩⟩; refine ⟨_, rfl, ?_⟩) | ((with_reducible refine gate_callee (f := 71) rfl ?_); refine goesL_ (some 47) rfl rfl Tryz.func71 (by kernel_rfl) rfl #[.string ((rd_T61 l0 x9_1).f2), .string (⟨#[0]⟩ : ByteArray), .string (⟨#[0, 255]⟩ : ByteArray)] rfl z3_ ?_; (with_reducible refine (strings_ReplaceAll.calls ((rd_T61 l0 x9_1).f2) (⟨#[0]⟩ : ByteArray) (⟨#[0, 255]⟩ : ByteArray) t119 _ A27.out).mono ?_); rintro e w34 ⟨rfl, hb⟩; refine ⟨_, rfl, ?_⟩; have n_ := a3_ (Kd.R_below z29_ hb) (blk_below (g := gb105) (o := .cells #[.int .i64 ((rd_T61 l0 x9_1).f0), .int .i64 ((rd_T61 l0 x9_1).f1), .string ((rd_T61 l0 x9_1).f2)] 61 (0, 0)) z21_ hb) (below_step z7_ hb); clear HO108 BK105 HB; obtain ⟨HO108, BK105, HB⟩ := n_; (try clear hb); (try clear hb2); (try clear hk); (try clear hi)) | (at_builtin; refine print_append_str (w0 := w) w.heap.size rfl (.tmp 44) _ 29 9 5 rfl Tryz.underlying29 Tryz.underlying9 info5 v107 y106 t119 rfl rfl ?aO ?aB ?aS ?aL ?_; (case aB => exact z7_); (case aO => exact (Kd.own_of_R z29_)); (case aS => exact (below_size z7_)); (case aL => have := LMc28.out; omega); intro v121 w35 ho0 hb hg; have ho := Kd.R_of_own (h1 := fun _ => rfl) (ok := fun _ => True) ho0 (fun _ _ => trivial); clear ho0; have hat := True.intro; rw [← Ny120.out] at ho; change Kd.R (Kd.int .u8) 5 w35 w.heap.size (fun _ => True) v121 y120 at ho; have n_ := a3_ (blk_grown (g := gb105) (o := .cells #[.int .i64 ((rd_T61 l0 x9_1).f0), .int .i64 ((rd_T61 l0 x9_1).f1), .string ((rd_T61 l0 x9_1).f2)] 61 (0, 0)) z21_ hg (Kd.R_ne HO108.out BK105.out (by decide))) (hb) (ho); clear BK105 HB HO108; obtain ⟨BK105, HB, HO122⟩ := n_; clear ho hb hg hat) | ((with_reducible refine gate_dst (N := 50) rfl ?_); refine Kd.R_lit (Kd.int .u8) _ 5 ?hg (N := 50) ?hd (xs := ([0, 1] : List Int)) (inner := [.int .u8 0, .int .u8 1]) (ok := fun _ => True) (okp := fun _ => True) ?hr ?hp (fun _ hk => hk) trivial (Below.refl _ _) (Nat.le_refl _) (by simp) ?_; (case hd => rfl); (case hg => rfl); (case hr => first | (go_simp; done) | (go_simp; rfl)); (case hp => exact (Reps.one (show Kd.M (Kd.int .u8) _ _ _ 0 [.int .u8 0] from rfl) (Reps.one (show Kd.M (Kd.int .u8) _ _ _ 1 [.int .u8 1] from rfl) (Reps.none _ _)))); intro v124 w36 ho37 hb hg_ hnew_; clear hg_ hnew_; (first | rw [← Ny123.out] at ho37 | (simp only [Int.reduceToNat] at ho37; rw [← Ny123.out] at ho37)); have n_ := a4_ (Kd.R_elder' z63_ (Kd.R_base ho37) hb) (Kd.R_lower (Kd.R_new' ho37 (Kd.R_lt z63_)) (below_size z7_)) (blk_below (g := gb105) (o := .cells #[.int .i64 ((rd_T61 l0 x9_1).f0), .int .i64 ((rd_T61 l0 x9_1).f1), .string ((rd_T61 l0 x9_1).f2)] 61 (0, 0)) z21_ hb) (below_step z7_ hb); clear HO122 BK105 HB; obtain ⟨HO122, HO125, BK105, HB⟩ := n_; clear hb ho37; obtain ⟨Ao39, co39, eo39⟩ := Kd.R_slice HO125.out; subst eo39) | ((with_reducible refine gate_builtin (b := .append) (xs := #[.tmp 49, .tmp 50]) rfl ?_); at_builtin; refine Kd.R_append_rows (Kd.int .u8) (w0 := w) w.heap.size rfl (.tmp 49) (.tmp 50) 29 5 (.int .u8 0) 1 rfl Tryz.underlying29 info5 rfl (by decide) (by omega) v121 y120 y123 _ _ _ (fun k_ => some k_ ≠ (.slice Ao39 y123.length co39 : Value).ownBlock) (fun _ => False) rfl rfl ?aO ?aR (fun _ _ h => h) (fun _ h => h.elim) ?aF ?aB ?aS ?aL ?_; (case aR => exact cz_ ((Kd.R_reads' HO125.out).2.2)); (case aB => exact z7_); (case aF => exact (fun k_ hk => Kd.fresh' (Kd.R_lt (by (with_reducible repeat (first | apply Kd.R_alloc | apply Kd.R_drewN | apply Kd.R_drew)); exact HO125.out)) k_ hk)); (case aO => exact (by (with_reducible repeat (first | apply Kd.R_alloc | apply Kd.R_drewN | apply Kd.R_drew)); exact Kd.R_mono HO122.out (fun _ hk => hk.2))); (case aS => exact (below_size z7_)); (case aL => have := LMc29.out; omega); intro v127 w38 ho hb hg hat; rw [← Ny126.out] at ho; have n_ := a4_ (blk_grown (g := gb105) (o := .cells #[.int .i64 ((rd_T61 l0 x9_1).f0), .int .i64 ((rd_T61 l0 x9_1).f1), .string ((rd_T61 l0 x9_1).f2)] 61 (0, 0)) z21_ hg (Kd.R_ne HO122.out BK105.out (by decide))) (Kd.R_after (ok := (fun _ => True)) (by (with_reducible repeat (first | apply Kd.R_alloc | apply Kd.R_drewN | apply Kd.R_drew)); exact HO125.out) hg hat) (hb) (ho); clear BK105 HO125 HB HO122; obtain ⟨BK105, HO125, HB, HO128⟩ := n_; clear ho hb hg hat))
   go_roundg k1
   case measure => have := HK1.out; omega
   case rel => exact ⟨(y126), (wrap64 (x9_1 + 1)), z8_, H', ⟨by have := HK1.out; omega⟩, ⟨by (with_reducible repeat (first | apply Kd.R_alloc | apply Kd.R_drewN | apply Kd.R_drew)); exact Kd.R_mono HO128.out (fun _ hk => trivial)⟩, ⟨z7_⟩⟩
end

section
def impl_Table_rowKey.f (k : Nat) (a0_0 : ByteArray) (l0_1 : List (S78)) (a0_2 : Int) (l0_3 : List (S58)) (l1 : List (S61)) : Option (List Int) := if 0 ≤ a0_2 then (if a0_2 ≤ (l1.length : Int) then ((impl_keyBytes.f k (l1.take (a0_2 : Int).toNat)).bind fun t106 => (some t106)) else (none)) else (none)
theorem impl_Table_rowKey.mono : ∀ a0 a1 a2 a3 a4 k, LeO (impl_Table_rowKey.f k a0 a1 a2 a3 a4) (impl_Table_rowKey.f (k + 1) a0 a1 a2 a3 a4) := by
 intro a0 a1 a2 a3 a4 k
 unfold impl_Table_rowKey.f
 repeat' first
   | (with_reducible exact impl_keyBytes.mono _ _)
   | (with_reducible exact LeO.refl _)
   | (with_reducible exact LeO.none _)
   | (with_reducible refine LeO.ite ?_ ?_)
   | (with_reducible refine LeO.bind ?_ (fun _ => ?_))
   | exact impl_keyBytes.mono _ _
   | exact LeO.none _
   | refine LeO.ite ?_ ?_
   | refine LeO.bind ?_ (fun _ => ?_)
theorem impl_Table_rowKey.calls (k : Nat) (a0_0 : ByteArray) (A0_1 : Option Addr) (c0_1 : Nat) (l0_1 : List (S78)) (a0_2 : Int) (A0_3 : Option Addr) (c0_3 : Nat) (l0_3 : List (S58)) (A1 : Option Addr) (c1 : Nat) (l1 : List (S61)) (r : List Int) (w : World) (hr0_1 : Kd.C k78 w A0_1 l0_1.length l0_1) (hc0_1 : l0_1.length ≤ c0_1) (hr0_3 : Kd.C k58 w A0_3 l0_3.length l0_3) (hc0_3 : l0_3.length ≤ c0_3) (hr1 : Kd.C k61 w A1 l1.length l1) (hc1 : l1.length ≤ c1) (h : impl_Table_rowKey.f k a0_0 l0_1 a0_2 l0_3 l1 = some r) :
  Calls Tryz.prog 48 #[.agg #[.string a0_0, .slice A0_1 l0_1.length c0_1, .int .i64 a0_2, .slice A0_3 l0_3.length c0_3], .slice A1 l1.length c1] w fun e w' => ∃ v0_ : Value, e = .returned (v0_) ∧ Kd.R (Kd.int .u8) 5 w' w.heap.size (fun _ => True) v0_ r ∧ Below w.heap.size w w' := by
 have hu35 := Tryz.underlying35
 have HR0_1 := ak_ hr0_1
 have HC0_1 := ak_ hc0_1
 clear hr0_1 hc0_1
 have HR0_3 := ak_ hr0_3
 have HC0_3 := ak_ hc0_3
 clear hr0_3 hc0_3
 have HR1 := ak_ hr1
 have HC1 := ak_ hc1
 clear hr1 hc1
 have HB := ak_ (Below.refl w.heap.size w)
 have H := h
 unfold impl_Table_rowKey.f at H
 clear h
 by_cases c3 : 0 ≤ a0_2
 rotate_left
 ·rw [if_neg c3] at H
  exact absurd H (by simp)

 rw [if_pos c3] at H
 have c3b0 := eq_true c3
 have c3b1 := decide_eq_true c3
 clear c3
 by_cases c4 : a0_2 ≤ (l1.length : Int)
 rotate_left
 ·rw [if_neg c4] at H
  exact absurd H (by simp)
 rw [if_pos c4] at H
 have c4b0 := eq_true c4
 have c4b1 := decide_eq_true c4
 clear c4
 obtain ⟨y102, hy102⟩ : ∃ y_ : List (S61), y_ = (l1.take (a0_2 : Int).toNat) := ⟨_, rfl⟩
 replace H : ((impl_keyBytes.f k y102).bind fun t106 => (some t106)) = some r := by first | (rw [hy102]; with_reducible exact H) | (have H2_ := (Option.bind_some _ _).symm.trans H; rw [hy102]; with_reducible exact H2_) | (have H2_ := (Option.bind_some _ _).symm.trans H; with_reducible exact H2_) | with_reducible exact H | (rw [hy102]; exact H) | exact H
 have Ny102 := ak_ hy102
 clear hy102
 replace H := Option.bind_eq_some_iff.mp H
 obtain ⟨t106, A50, H⟩ := H
 have A5 := ak_ A50
 clear A50
 obtain rfl := Option.some.inj H
 go_enter Tryz.func48, Tryz.ntmps48
 go_wp2_with (first | ((with_reducible refine gate_dst (N := 2) rfl ?_); refine bx_ 2 (cs := #[.string a0_0, .slice A0_1 l0_1.length c0_1, .int .i64 a0_2, .slice A0_3 l0_3.length c0_3]) (t := 35) (h_ := ?_); intro gb101 hg w6 hbox hb; have n_ := a4_ (below_step z0_ hb) (hbox) ((gs_ w hg (below_size z0_))) ((gs_ w hg (below_size z0_))); clear HB; obtain ⟨HB, BK101, GW101, GE101⟩ := n_; clear hb hbox hg; obtain ⟨hcz7_0, hcz7_1, hcz7_2, hcz7_3, hfz7_0, hfz7_1, hfz7_2, hfz7_3⟩ := bcf4 BK101.out; have q8 : (a0_2 : Int) ≤ ((l1.length : Int) : Int) := of_decide_eq_true z5_; obtain ⟨i08, hi08, _, hsz8, _⟩ := info_parts info61; have hroom8 : l1.length ≤ c1 := HC1.out; have hC8 : Kd.C k61 _ A1 l1.length l1 := HR1.out; have hcut8 := cut_to (P := Tryz.prog) 37 61 .i64 Tryz.underlying37 hi08 A1 l1.length c1 a0_2 (of_decide_eq_true z5_) q8 hroom8; have hr8 := Kd.C_take (m := (a0_2 : Int).toNat) hC8 (by omega); have hy8 : y102.length = (a0_2 : Int).toNat := (by rw [Ny102.out, List.length_take]; omega); rw [← Ny102.out] at hr8; rw [← hy8] at hcut8; have HR105 := ak_ hr8; have HC105 := ak_ (show y102.length ≤ c1 from by omega); clear hr8 hC8 hroom8 hi08 hsz8; have KY8 := ak_ hy8; clear hy8; replace q8 := eq_true q8) | ((with_reducible refine gate_callee (f := 47) rfl ?_); refine goesL_ (some 9) rfl rfl Tryz.func47 (by kernel_rfl) rfl #[.slice A1 y102.length c1] rfl z3_ ?_; (with_reducible refine (impl_keyBytes.calls k _ _ y102 t106 _ ?side1 ?side2 A5.out).mono ?_); (case side1 => exact cz_ ((Kd.C_below HR105.out HB.out))); (case side2 => exact HC105.out); rintro e w9 ⟨v107, rfl, ho0, hb⟩; refine ⟨_, rfl, ?_⟩; have n_ := a3_ (Kd.R_lower ho0 (below_size z1_)) (blk_below (g := gb101) (o := .cells #[.string a0_0, .slice A0_1 l0_1.length c0_1, .int .i64 a0_2, .slice A0_3 l0_3.length c0_3] 35 (0, 0)) z2_ hb) (below_step z1_ hb); clear BK101 HB; obtain ⟨HO108, BK101, HB⟩ := n_; (try clear hb); (try clear hb2); (try clear hk); (try clear hi); (try clear ho0)))
 go_ret
 exact ⟨_, z6_, z29_, z1_⟩
end

section
def impl_Table_indexKey.l0 : Nat → List (S61) → List (S61) → List Int → Int → Int → ByteArray → List (S78) → Int → List (S58) → Option (List Int)
 | 0, _, _, _, _, _, _, _, _, _ => none
 | k + 1, x2, x7, x12, x13, x14, x102000, x102001, x102002, x102003 => if x14 < x13 then (if 0 ≤ x14 then (if x14 < (x12.length : Int) then (if 0 ≤ (rd x12 x14) then (if (rd x12 x14) < (x2.length : Int) then (if x7.length < 4398046511104 then (impl_Table_indexKey.l0 k x2 (x7 ++ [(⟨(rd_T61 x2 (rd x12 x14)).f0, (rd_T61 x2 (rd x12 x14)).f1, (rd_T61 x2 (rd x12 x14)).f2⟩ : S61)]) x12 x13 (wrap64 (x14 + 1)) x102000 x102001 x102002 x102003) else (none)) else (none)) else (none)) else (none)) else (none)) else ((impl_keyBytes.f k x7).bind fun t111 => ((impl_Table_rowKey.f k x102000 x102001 x102002 x102003 x2).bind fun t114 => (if t111.length + t114.length < 140737488355328 then (some (t111 ++ t114)) else (none))))
def impl_Table_indexKey.f (k : Nat) (a0_0 : ByteArray) (l0_1 : List (S78)) (a0_2 : Int) (l0_3 : List (S58)) (a1_0 : ByteArray) (l1_1 : List Int) (l2 : List (S61)) : Option (List Int) := impl_Table_indexKey.l0 k l2 (([] : List (S61))) l1_1 (l1_1.length : Int) 0 a0_0 l0_1 a0_2 l0_3
theorem impl_Table_indexKey.mono_l : ∀ k, (∀ y0 y1 y2 y3 y4 y5 y6 y7 y8, LeO (impl_Table_indexKey.l0 k y0 y1 y2 y3 y4 y5 y6 y7 y8) (impl_Table_indexKey.l0 (k + 1) y0 y1 y2 y3 y4 y5 y6 y7 y8))
 | 0 => fun _ _ _ _ _ _ _ _ _ r h => by simp [impl_Table_indexKey.l0] at h
 | k + 1 => by
  have ih0 := impl_Table_indexKey.mono_l k
  intro y0 y1 y2 y3 y4 y5 y6 y7 y8
  unfold impl_Table_indexKey.l0
  repeat' first | with_reducible (first | exact ih0 _ _ _ _ _ _ _ _ _ | exact impl_Table_rowKey.mono _ _ _ _ _ _ | exact impl_keyBytes.mono _ _ | exact LeO.refl _ | exact LeO.none _ | refine LeO.ite ?_ ?_ | refine LeO.bind ?_ (fun _ => ?_)) | exact ih0 _ _ _ _ _ _ _ _ _ | exact impl_Table_rowKey.mono _ _ _ _ _ _ | exact impl_keyBytes.mono _ _ | exact LeO.none _ | refine LeO.ite ?_ ?_ | refine LeO.bind ?_ (fun _ => ?_)
theorem impl_Table_indexKey.mono : ∀ a0 a1 a2 a3 a4 a5 a6 k, LeO (impl_Table_indexKey.f k a0 a1 a2 a3 a4 a5 a6) (impl_Table_indexKey.f (k + 1) a0 a1 a2 a3 a4 a5 a6) := by
 intro a0 a1 a2 a3 a4 a5 a6 k
 have ih0 := impl_Table_indexKey.mono_l k
 unfold impl_Table_indexKey.f
 repeat' first
   | (with_reducible exact ih0 _ _ _ _ _ _ _ _ _)
   | (with_reducible exact impl_Table_rowKey.mono _ _ _ _ _ _)
   | (with_reducible exact impl_keyBytes.mono _ _)
   | (with_reducible exact LeO.refl _)
   | (with_reducible exact LeO.none _)
   | (with_reducible refine LeO.ite ?_ ?_)
   | (with_reducible refine LeO.bind ?_ (fun _ => ?_))
   | exact ih0 _ _ _ _ _ _ _ _ _
   | exact impl_Table_rowKey.mono _ _ _ _ _ _
   | exact impl_keyBytes.mono _ _
   | exact LeO.none _
   | refine LeO.ite ?_ ?_
   | refine LeO.bind ?_ (fun _ => ?_)
theorem impl_Table_indexKey.calls (k : Nat) (a0_0 : ByteArray) (A0_1 : Option Addr) (c0_1 : Nat) (l0_1 : List (S78)) (a0_2 : Int) (A0_3 : Option Addr) (c0_3 : Nat) (l0_3 : List (S58)) (a1_0 : ByteArray) (A1_1 : Option Addr) (c1_1 : Nat) (l1_1 : List Int) (A2 : Option Addr) (c2 : Nat) (l2 : List (S61)) (r : List Int) (w : World) (hr0_1 : Kd.C k78 w A0_1 l0_1.length l0_1) (hc0_1 : l0_1.length ≤ c0_1) (hr0_3 : Kd.C k58 w A0_3 l0_3.length l0_3) (hc0_3 : l0_3.length ≤ c0_3) (hr1_1 : Kd.C (Kd.int .i64) w A1_1 l1_1.length l1_1) (hc1_1 : l1_1.length ≤ c1_1) (hr2 : Kd.C k61 w A2 l2.length l2) (hc2 : l2.length ≤ c2) (h : impl_Table_indexKey.f k a0_0 l0_1 a0_2 l0_3 a1_0 l1_1 l2 = some r) :
  Calls Tryz.prog 29 #[.agg #[.string a0_0, .slice A0_1 l0_1.length c0_1, .int .i64 a0_2, .slice A0_3 l0_3.length c0_3], .agg #[.string a1_0, .slice A1_1 l1_1.length c1_1], .slice A2 l2.length c2] w fun e w' => ∃ v0_ : Value, e = .returned (v0_) ∧ Kd.R (Kd.int .u8) 5 w' w.heap.size (fun _ => True) v0_ r ∧ Below w.heap.size w w' := by
 have hu35 := Tryz.underlying35
 have hu58 := Tryz.underlying58
 have hu61 := Tryz.underlying61
 have HR0_1 := ak_ hr0_1
 have HC0_1 := ak_ hc0_1
 clear hr0_1 hc0_1
 have HR0_3 := ak_ hr0_3
 have HC0_3 := ak_ hc0_3
 clear hr0_3 hc0_3
 have HR1_1 := ak_ hr1_1
 have HC1_1 := ak_ hc1_1
 clear hr1_1 hc1_1
 have HR2 := ak_ hr2
 have HC2 := ak_ hc2
 clear hr2 hc2
 have HB := ak_ (Below.refl w.heap.size w)
 have H : (impl_Table_indexKey.l0 k l2 (([] : List (S61))) l1_1 (l1_1.length : Int) 0 a0_0 l0_1 a0_2 l0_3) = some r := h
 clear h
 obtain ⟨y103, hy103⟩ : ∃ y_ : List (S61), y_ = (([] : List (S61))) := ⟨_, rfl⟩
 replace H : (impl_Table_indexKey.l0 k l2 y103 l1_1 (l1_1.length : Int) 0 a0_0 l0_1 a0_2 l0_3) = some r := by first | (rw [hy103]; with_reducible exact H) | (have H2_ := (Option.bind_some _ _).symm.trans H; rw [hy103]; with_reducible exact H2_) | (have H2_ := (Option.bind_some _ _).symm.trans H; with_reducible exact H2_) | with_reducible exact H | (rw [hy103]; exact H) | exact H
 have Ny103 := ak_ hy103
 clear hy103
 have H' := ak_ H
 clear H
 go_enter Tryz.func29, Tryz.ntmps29
 go_wp2_with (first | ((with_reducible refine gate_dst (N := 3) rfl ?_); refine bx_ 3 (cs := #[.string a0_0, .slice A0_1 l0_1.length c0_1, .int .i64 a0_2, .slice A0_3 l0_3.length c0_3]) (t := 35) (h_ := ?_); intro gb101 hg w4 hbox hb; have n_ := a4_ (below_step z0_ hb) (hbox) ((gs_ w hg (below_size z0_))) ((gs_ w hg (below_size z0_))); clear HB; obtain ⟨HB, BK101, GW101, GE101⟩ := n_; clear hb hbox hg) | ((with_reducible refine gate_dst (N := 4) rfl ?_); refine bx_ 4 (cs := #[.string a1_0, .slice A1_1 l1_1.length c1_1]) (t := 58) (h_ := ?_); intro gb102 hg w5 hbox hb; have n_ := a7_ (blk_below (g := gb101) (o := .cells #[.string a0_0, .slice A0_1 l0_1.length c0_1, .int .i64 a0_2, .slice A0_3 l0_3.length c0_3] 35 (0, 0)) z2_ hb) (below_step z1_ hb) (hbox) ((gs_ w hg (below_size z1_))) ((gs_ w hg (below_size z1_))) ((z26_ : gb101 ≠ gb102)) ((z27_ : gb102 ≠ gb101)); clear BK101 HB; obtain ⟨BK101, HB, BK102, GW102, GE102, NB101_102, NB102_101⟩ := n_; clear hb hbox hg) | ((with_reducible refine gate_dst (N := 10) rfl ?_); refine Kd.R_lit k61 _ 61 ?hg (N := 10) ?hd (xs := ([] : List (S61))) (inner := []) (ok := fun _ => True) (okp := fun _ => True) ?hr ?hp (fun _ hk => hk) trivial (Below.refl _ _) (Nat.le_refl _) (by simp) ?_; (case hd => rfl); (case hg => rfl); (case hr => first | (go_simp; done) | (go_simp; rfl)); (case hp => exact (Reps.none _ _)); intro v104 w6 ho7 hb hg_ hnew_; clear hg_ hnew_; (first | rw [← Ny103.out] at ho7 | (simp only [Int.reduceToNat] at ho7; rw [← Ny103.out] at ho7)); have n_ := a4_ (Kd.R_lower ho7 (below_size z4_)) (blk_below (g := gb101) (o := .cells #[.string a0_0, .slice A0_1 l0_1.length c0_1, .int .i64 a0_2, .slice A0_3 l0_3.length c0_3] 35 (0, 0)) z2_ hb) (blk_below (g := gb102) (o := .cells #[.string a1_0, .slice A1_1 l1_1.length c1_1] 58 (0, 0)) z11_ hb) (below_step z4_ hb); clear BK101 BK102 HB; obtain ⟨HO105, BK101, BK102, HB⟩ := n_; clear hb ho7; have hnb8 := NB102_101.out; have hnc8 := NB101_102.out; obtain ⟨hcz9_0, hcz9_1, hfz9_0, hfz9_1⟩ := bcf2 BK102.out))
 go_loopg [7, 14] k (fun kq v7 v14 w' => ∃ (x7_1 : List (S61)) (x14_1 : Int), v14 = .int .i64 x14_1 ∧ Aside0 (impl_Table_indexKey.l0 kq l2 x7_1 l1_1 (l1_1.length : Int) x14_1 a0_0 l0_1 a0_2 l0_3 = some r) ∧ Aside0 (kq ≤ k) ∧ Aside0 (Kd.R k61 61 w' w.heap.size (fun _ => True) v7 x7_1) ∧ Aside0 (w'.heap[gb101]? = some (.cells #[.string a0_0, (.slice A0_1 l0_1.length c0_1), .int .i64 a0_2, (.slice A0_3 l0_3.length c0_3)] 35 (0, 0))) ∧ Aside0 (w'.heap[gb102]? = some (.cells #[.string a1_0, (.slice A1_1 l1_1.length c1_1)] 58 (0, 0))) ∧ Aside0 (Below w.heap.size w w'))
 case atStart => exact ⟨(y103), (0), z8_, H', ⟨Nat.le_refl _⟩, ⟨by (with_reducible repeat (first | apply Kd.R_alloc | apply Kd.R_drewN | apply Kd.R_drew)); exact HO105.out⟩, ⟨z2_⟩, ⟨z11_⟩, ⟨z4_⟩⟩
 case round =>
  clear H'
  try clear c1
  try clear c2
  try clear p2
  try clear c8
  try clear hcz9_0
  try clear hcz9_1
  try clear hfz9_0
  try clear hfz9_1
  obtain ⟨x7_1, x14_1, rfl, HA, HK1, HO_7, BK101, BK102, HB⟩ := hrel
  cases gk with
  | zero => exact absurd HA.out (by simp [impl_Table_indexKey.l0])
  | succ k1 =>
   have H := HA.out
   clear HA
   simp only [impl_Table_indexKey.l0] at H
   by_cases c10 : x14_1 < (l1_1.length : Int)
   ·rw [if_pos c10] at H
    have c10b0 := decide_eq_true c10
    clear c10
    by_cases c11 : 0 ≤ x14_1
    ·rw [if_pos c11] at H
     have c11b0 := decide_eq_true c11
     clear c11
     by_cases c12 : x14_1 < (l1_1.length : Int)
     ·rw [if_pos c12] at H
      have c12b0 := decide_eq_true c12
      clear c12
      by_cases c13 : 0 ≤ (rd l1_1 x14_1)
      ·rw [if_pos c13] at H
       have c13b0 := decide_eq_true c13
       clear c13
       by_cases c14 : (rd l1_1 x14_1) < (l2.length : Int)
       ·rw [if_pos c14] at H
        have c14b0 := decide_eq_true c14
        clear c14
        by_cases c15 : x7_1.length < 4398046511104
        ·rw [if_pos c15] at H
         have LMc15 := ak_ c15
         clear c15
         obtain ⟨y108, hy108⟩ : ∃ y_ : List (S61), y_ = (x7_1 ++ [(⟨(rd_T61 l2 (rd l1_1 x14_1)).f0, (rd_T61 l2 (rd l1_1 x14_1)).f1, (rd_T61 l2 (rd l1_1 x14_1)).f2⟩ : S61)]) := ⟨_, rfl⟩
         replace H : (impl_Table_indexKey.l0 k1 l2 y108 l1_1 (l1_1.length : Int) (wrap64 (x14_1 + 1)) a0_0 l0_1 a0_2 l0_3) = some r := by first | (rw [hy108]; with_reducible exact H) | (have H2_ := (Option.bind_some _ _).symm.trans H; rw [hy108]; with_reducible exact H2_) | (have H2_ := (Option.bind_some _ _).symm.trans H; with_reducible exact H2_) | with_reducible exact H | (rw [hy108]; exact H) | exact H
         have Ny108 := ak_ hy108
         clear hy108
         have H' := ak_ H
         clear H
         have p106 : 0 ≤ (x14_1 : Int) := of_decide_eq_true z5_
         have q106 : x14_1 < (l1_1.length : Int) := of_decide_eq_true z5_
         obtain ⟨ad106, e106, hx106_0⟩ := Kd.at_int HR1_1.out x14_1 p106 q106
         cases e106
         replace hx106_0 := oc_ HB.out hx106_0
         replace p106 := eq_true p106
         replace q106 := eq_true q106
         have p107 : 0 ≤ ((rd l1_1 x14_1) : Int) := of_decide_eq_true z5_
         have q107 : (rd l1_1 x14_1) < (l2.length : Int) := of_decide_eq_true z5_
         obtain ⟨ad107, e107, hx107_0, hx107_1, hx107_2⟩ := at_T61 HR2.out (rd l1_1 x14_1) p107 q107
         cases e107
         replace hx107_0 := oc_ HB.out hx107_0
         replace hx107_1 := oc_ HB.out hx107_1
         replace hx107_2 := oc_ HB.out hx107_2
         replace p107 := eq_true p107
         replace q107 := eq_true q107
         go_wp2_with (first | ((with_reducible refine gate_builtin (b := .append) (xs := #[.tmp 18, .tmp 23]) rfl ?_); at_builtin; refine Kd.R_append k61 (w0 := w) w.heap.size rfl (.tmp 18) (.tmp 23) 37 61 (.agg #[(.int .i64 0), (.int .i64 0), (.string ⟨#[]⟩)]) 32 rfl Tryz.underlying37 info61 rfl (by decide) (by omega) u7 x7_1 (⟨(rd_T61 l2 (rd l1_1 x14_1)).f0, (rd_T61 l2 (rd l1_1 x14_1)).f1, (rd_T61 l2 (rd l1_1 x14_1)).f2⟩ : S61) [.int .i64 ((rd_T61 l2 (rd l1_1 x14_1)).f0), .int .i64 ((rd_T61 l2 (rd l1_1 x14_1)).f1), .string ((rd_T61 l2 (rd l1_1 x14_1)).f2)] (fun _ => True) (fun _ => False) rfl rfl ?aP (fun _ hk => hk.elim) ?aF ?aO ?aB ?aS ?aL ?_; (case aP => exact k61_mkM _ _ _ (⟨(rd_T61 l2 (rd l1_1 x14_1)).f0, (rd_T61 l2 (rd l1_1 x14_1)).f1, (rd_T61 l2 (rd l1_1 x14_1)).f2⟩ : S61)); (case aB => exact z4_); (case aF => exact (fun _ _ => trivial)); (case aO => exact z47_); (case aS => exact (below_size z4_)); (case aL => have := LMc15.out; omega); intro v109 w16 ho hb hg hat; rw [← Ny108.out] at ho; have n_ := a4_ (blk_grown (g := gb101) (o := .cells #[.string a0_0, .slice A0_1 l0_1.length c0_1, .int .i64 a0_2, .slice A0_3 l0_3.length c0_3] 35 (0, 0)) z2_ hg (Kd.R_ne HO_7.out BK101.out (by decide))) (blk_grown (g := gb102) (o := .cells #[.string a1_0, .slice (some ad106) l1_1.length c1_1] 58 (0, 0)) z11_ hg (Kd.R_ne HO_7.out BK102.out (by decide))) (hb) (ho); clear BK101 BK102 HB HO_7; obtain ⟨BK101, BK102, HB, HO110⟩ := n_; clear ho hb hg hat))
         go_roundg k1
         case measure => have := HK1.out; omega
         case rel => exact ⟨(y108), (wrap64 (x14_1 + 1)), z8_, H', ⟨by have := HK1.out; omega⟩, ⟨by (with_reducible repeat (first | apply Kd.R_alloc | apply Kd.R_drewN | apply Kd.R_drew)); exact HO110.out⟩, ⟨z2_⟩, ⟨z11_⟩, ⟨z4_⟩⟩
        ·rw [if_neg c15] at H
         exact absurd H (by simp)
       ·rw [if_neg c14] at H
        exact absurd H (by simp)
      ·rw [if_neg c13] at H
       exact absurd H (by simp)
     ·rw [if_neg c12] at H
      exact absurd H (by simp)
    ·rw [if_neg c11] at H
     exact absurd H (by simp)
   rw [if_neg c10] at H
   have c10b0 := decide_eq_false c10
   clear c10
   replace H := Option.bind_eq_some_iff.mp H
   obtain ⟨t111, A170, H⟩ := H
   have A17 := ak_ A170
   clear A170
   replace H := Option.bind_eq_some_iff.mp H
   obtain ⟨t114, A180, H⟩ := H
   have A18 := ak_ A180
   clear A180
   by_cases c19 : t111.length + t114.length < 140737488355328
   rotate_left
   ·rw [if_neg c19] at H
    exact absurd H (by simp)

   rw [if_pos c19] at H
   have LMc19 := ak_ c19
   clear c19
   obtain ⟨y117, hy117⟩ : ∃ y_ : List Int, y_ = (t111 ++ t114) := ⟨_, rfl⟩
   replace H : (some y117) = some r := by first | (rw [hy117]; with_reducible exact H) | (have H2_ := (Option.bind_some _ _).symm.trans H; rw [hy117]; with_reducible exact H2_) | (have H2_ := (Option.bind_some _ _).symm.trans H; with_reducible exact H2_) | with_reducible exact H | (rw [hy117]; exact H) | exact H
   have Ny117 := ak_ hy117
   clear hy117
   obtain rfl := Option.some.inj H
   try go_wp2
   have n_ := a4_ (Kd.R_drew HO_7.out) (blk_drew BK101.out) (blk_drew BK102.out) (below_drew1 HB.out)
   clear HO_7 BK101 BK102 HB
   obtain ⟨HO_7, BK101, BK102, HB⟩ := n_
   obtain ⟨Ao21, co21, eo21⟩ := Kd.R_slice HO_7.out
   (first | subst eo21 | (injection eo21 with f1_ f2_ f3_; have f4_ := f1_.symm; have f5_ := f3_.symm; clear f1_ f2_ f3_; subst f4_; subst f5_))
   refine start_ (n := 7) (S := fun w' => w'.cell? ⟨gb101, 0, none⟩ = some (.string a0_0) ∧ w'.cell? ⟨gb101, 1, none⟩ = some (.slice A0_1 l0_1.length c0_1) ∧ w'.cell? ⟨gb101, 2, none⟩ = some (.int .i64 a0_2) ∧ w'.cell? ⟨gb101, 3, none⟩ = some (.slice A0_3 l0_3.length c0_3)) (ds := []) #[false, false, false, false, false, false, false] (by kernel_rfl) rfl rfl ⟨(blk_cell BK101.out 0).trans rfl, (blk_cell BK101.out 1).trans rfl, (blk_cell BK101.out 2).trans rfl, (blk_cell BK101.out 3).trans rfl⟩ (fun hHeld => ?_)
   generalize wr.drew = w20 at HO_7 BK101 BK102 HB hHeld ⊢
   refine pure_ (i := 0) (N := some 26) (v := ?_) (a' := ?_) #[true, false, false, false, false, false, false] rfl rfl (by kernel_rfl) (fun _ _ _ h => h) (Or.inl ⟨by rfl, ?_⟩) ?_ ?_
   rotate_left
   ·intro w'
    go_simp
    with_reducible rfl
   rotate_left
   ·simp only [Act.put, sz1_, sz2_, sz3_, i64_w, i32_w]
    rfl
   refine pure_ (i := 3) (N := some 29) (v := ?_) (a' := ?_) #[true, false, false, true, false, false, false] rfl rfl (by kernel_rfl) (fun _ _ _ h => h) (Or.inl ⟨by rfl, ?_⟩) ?_ ?_
   rotate_left
   ·intro w'
    go_simp
    with_reducible rfl
   rotate_left
   ·simp only [Act.put, sz1_, sz2_, sz3_, i64_w, i32_w]
    rfl
   refine take_ (i := 2) (N := some 28) (v := ?_) (a' := ?_) #[true, false, true, true, false, false, false] rfl rfl (by kernel_rfl) (fun _ _ _ h => h) (Or.inl ⟨by rfl, ?_⟩) hHeld ?_ ?_
   rotate_left
   ·rintro w' ⟨s0, s1, s2, s3⟩
    go_simp
    with_reducible rfl
   rotate_left
   ·simp only [Act.put, sz1_, sz2_, sz3_, i64_w, i32_w]
    rfl
   refine one_ (i := 1) (N := some 27) #[true, true, true, true, false, false, false] rfl rfl (by kernel_rfl) (by decide) (fun K hK => ?_)
   refine goes_ Tryz.func47 (by kernel_rfl) rfl #[.slice Ao21 x7_1.length co21] (by rfl) rfl rfl z3_ ?_
   with_reducible refine (impl_keyBytes.calls k1 _ _ x7_1 t111 _ ?side1 ?side2 A17.out).mono ?_
   (case side1 => exact cz_ ((Kd.R_reads' HO_7.out).2.2))
   (case side2 => exact (Kd.R_reads' HO_7.out).2.1)
   rintro e w22 ⟨v112, rfl, ho0, hb⟩
   refine ⟨_, rfl, ?_⟩
   have n_ := a5_ (Kd.R_below z47_ hb) (Kd.R_lower ho0 (below_size z4_)) (blk_below (g := gb101) (o := .cells #[.string a0_0, .slice A0_1 l0_1.length c0_1, .int .i64 a0_2, .slice A0_3 l0_3.length c0_3] 35 (0, 0)) z2_ hb) (blk_below (g := gb102) (o := .cells #[.string a1_0, .slice A1_1 l1_1.length c1_1] 58 (0, 0)) z11_ hb) (below_step z4_ hb)
   clear HO_7 BK101 BK102 HB
   obtain ⟨HO_7, HO113, BK101, BK102, HB⟩ := n_
   (try clear hb)
   (try clear hb2)
   (try clear hk)
   (try clear hi)
   (try clear ho0)
   refine hK.out _ _ ⟨(blk_cell BK101.out 0).trans rfl, (blk_cell BK101.out 1).trans rfl, (blk_cell BK101.out 2).trans rfl, (blk_cell BK101.out 3).trans rfl⟩ (fun hHeld => ?_)
   clear hK K
   refine norm_ (a' := ?_) ?_ ?_
   rotate_left
   ·show Act.put _ (some 27) _ = _
    simp only [Act.put, sz1_, sz2_, sz3_, i64_w, i32_w]
    rfl
   refine one_ (i := 4) (N := some 30) #[true, true, true, true, true, false, false] rfl rfl (by kernel_rfl) (by decide) (fun K hK => ?_)
   refine goes_ Tryz.func48 (by kernel_rfl) rfl #[.agg #[.string a0_0, .slice A0_1 l0_1.length c0_1, .int .i64 a0_2, .slice A0_3 l0_3.length c0_3], .slice A2 l2.length c2] (by rfl) rfl rfl z3_ ?_
   with_reducible refine (impl_Table_rowKey.calls k1 a0_0 _ _ l0_1 a0_2 _ _ l0_3 _ _ l2 t114 _ ?side1 ?side2 ?side3 ?side4 ?side5 ?side6 A18.out).mono ?_
   (case side1 => exact cz_ ((Kd.C_below HR0_1.out HB.out)))
   (case side2 => exact HC0_1.out)
   (case side3 => exact cz_ ((Kd.C_below HR0_3.out HB.out)))
   (case side4 => exact HC0_3.out)
   (case side5 => exact cz_ ((Kd.C_below HR2.out HB.out)))
   (case side6 => exact HC2.out)
   rintro e w23 ⟨v115, rfl, ho0, hb⟩
   refine ⟨_, rfl, ?_⟩
   have n_ := a6_ (Kd.R_below z47_ hb) (Kd.R_elder' z76_ (Kd.R_base ho0) hb) (Kd.R_lower (Kd.R_new' ho0 (Kd.R_lt z76_)) (below_size z4_)) (blk_below (g := gb101) (o := .cells #[.string a0_0, .slice A0_1 l0_1.length c0_1, .int .i64 a0_2, .slice A0_3 l0_3.length c0_3] 35 (0, 0)) z2_ hb) (blk_below (g := gb102) (o := .cells #[.string a1_0, .slice A1_1 l1_1.length c1_1] 58 (0, 0)) z11_ hb) (below_step z4_ hb)
   clear HO_7 HO113 BK101 BK102 HB
   obtain ⟨HO_7, HO113, HO116, BK101, BK102, HB⟩ := n_
   (try clear hb)
   (try clear hb2)
   (try clear hk)
   (try clear hi)
   (try clear ho0)
   obtain ⟨Ao25, co25, eo25⟩ := Kd.R_slice HO116.out
   (first | subst eo25 | (injection eo25 with f1_ f2_ f3_; have f4_ := f1_.symm; have f5_ := f3_.symm; clear f1_ f2_ f3_; subst f4_; subst f5_))
   refine hK.out _ _ ⟨(blk_cell BK101.out 0).trans rfl, (blk_cell BK101.out 1).trans rfl, (blk_cell BK101.out 2).trans rfl, (blk_cell BK101.out 3).trans rfl⟩ (fun hHeld => ?_)
   clear hK K
   refine norm_ (a' := ?_) ?_ ?_
   rotate_left
   ·show Act.put _ (some 30) _ = _
    simp only [Act.put, sz1_, sz2_, sz3_, i64_w, i32_w]
    rfl
   refine one_ (i := 5) (N := some 31) #[true, true, true, true, true, true, false] rfl rfl (by kernel_rfl) (by decide) (fun K hK => ?_)
   refine Kd.R_append_rows_step (Kd.int .u8) (w0 := w) w.heap.size (by rfl) (.tmp 27) (.tmp 30) 29 5 (.int .u8 0) 1 rfl Tryz.underlying29 info5 rfl (by decide) (by omega) v112 t111 t114 _ _ _ (fun k_ => some k_ ≠ (.slice Ao25 t114.length co25 : Value).ownBlock) (fun _ => False) rfl rfl ?aO ?aR (fun _ _ h => h) (fun _ h => h.elim) ?aF ?aB ?aS ?aL ?_
   (case aR => exact cz_ ((Kd.R_reads' HO116.out).2.2))
   (case aB => exact z4_)
   (case aF => exact (fun k_ hk => Kd.fresh' (Kd.R_lt (by (with_reducible repeat (first | apply Kd.R_alloc | apply Kd.R_drewN | apply Kd.R_drew)); exact HO116.out)) k_ hk))
   (case aO => exact (by (with_reducible repeat (first | apply Kd.R_alloc | apply Kd.R_drewN | apply Kd.R_drew)); exact Kd.R_mono HO113.out (fun _ hk => hk.2)))
   (case aS => exact (below_size z4_))
   (case aL => have := LMc19.out; omega)
   intro v118 w24 ho hb hg hat
   rw [← Ny117.out] at ho
   have n_ := a6_ (Kd.R_over' z47_ (Kd.R_typed z76_) (by decide) hg) (blk_grown (g := gb101) (o := .cells #[.string a0_0, .slice A0_1 l0_1.length c0_1, .int .i64 a0_2, .slice A0_3 l0_3.length c0_3] 35 (0, 0)) z2_ hg (Kd.R_ne HO113.out BK101.out (by decide))) (blk_grown (g := gb102) (o := .cells #[.string a1_0, .slice A1_1 l1_1.length c1_1] 58 (0, 0)) z11_ hg (Kd.R_ne HO113.out BK102.out (by decide))) (Kd.R_after (ok := (fun _ => True)) (by (with_reducible repeat (first | apply Kd.R_alloc | apply Kd.R_drewN | apply Kd.R_drew)); exact HO116.out) hg hat) (hb) (ho)
   clear HO_7 BK101 BK102 HO116 HB HO113
   obtain ⟨HO_7, BK101, BK102, HO116, HB, HO119⟩ := n_
   clear ho hb hg hat
   refine hK.out _ _ ⟨(blk_cell BK101.out 0).trans rfl, (blk_cell BK101.out 1).trans rfl, (blk_cell BK101.out 2).trans rfl, (blk_cell BK101.out 3).trans rfl⟩ (fun hHeld => ?_)
   clear hK K
   refine norm_ (a' := ?_) ?_ ?_
   rotate_left
   ·show Act.put _ (some 31) _ = _
    simp only [Act.put, sz1_, sz2_, sz3_, i64_w, i32_w]
    rfl
   refine pure_ (i := 6) (N := some 6) (v := ?_) (a' := ?_) #[true, true, true, true, true, true, true] rfl rfl (by kernel_rfl) (fun _ _ _ h => h) (Or.inl ⟨by rfl, ?_⟩) ?_ ?_
   rotate_left
   ·intro w'
    go_simp
    with_reducible rfl
   rotate_left
   ·simp only [Act.put, sz1_, sz2_, sz3_, i64_w, i32_w]
    rfl
   refine done_ (by kernel_rfl) ?_
   try go_wp2
   go_ret
   exact ⟨_, z6_, by (with_reducible repeat (first | apply Kd.R_alloc | apply Kd.R_drewN | apply Kd.R_drew)); exact Kd.R_mono HO119.out (fun _ hk => trivial), z4_⟩
end

end Go.Proofs.YtlikagbdhjdggaaGreatDoor.X
end
