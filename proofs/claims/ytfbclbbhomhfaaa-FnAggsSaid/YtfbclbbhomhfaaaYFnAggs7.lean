/- Contracts of functions, and what is told of them. -/
import Derived.Test.YtfbclbbhomhfaaaYFnAggs6
set_option linter.unusedSimpArgs false
set_option linter.unusedVariables false
set_option maxHeartbeats 8000000
set_option maxRecDepth 100000
section
namespace Go.Proofs.Ytfbclbbhomhfaaa.X
open Go.RowKit Go.Proofs.YtfbclbbhomhfaaaW.PrintWords Go.Proofs.YtfbclbbhomhfaaaW.PrintLast Go.Proofs.YtfbclbbhomhfaaaW.PrintMore
attribute [local go_sem] max2_int min2_int max_two min_two max_three min_three max_four min_four

section
/-! ### spec_AggValue: function 12 -/
mutual
def spec_AggValue.j0 : Nat → ByteArray → List (S24) → Bool → Option (Int × Int × ByteArray × Int)
 | 0, _, _, _ => none
 | k + 1, x0, x1, x29 => if x29 = true then (some (0, 0, (⟨#[]⟩ : ByteArray), 1)) else (spec_AggValue.l0 k x0 x1 0)
def spec_AggValue.l0 : Nat → ByteArray → List (S24) → Int → Option (Int × Int × ByteArray × Int)
 | 0, _, _, _ => none
 | k + 1, x0, x1, x6 => if x6 < (x1.length : Int) then (if 0 ≤ x6 then ((spec_ValueOK.f ((rd_T24 x1 x6).f0) ((rd_T24 x1 x6).f1) ((rd_T24 x1 x6).f2)).bind fun t103 => (if t103 = true then (spec_AggValue.l0 k x0 x1 (wrap64 (x6 + 1))) else (some (0, 0, (⟨#[]⟩ : ByteArray), 1)))) else (none)) else (spec_AggValue.l1 k x0 x1 0)
def spec_AggValue.l1 : Nat → ByteArray → List (S24) → Int → Option (Int × Int × ByteArray × Int)
 | 0, _, _, _ => none
 | k + 1, x0, x1, x7 => if x7 < (x1.length : Int) then (if x0.toList = ([115, 117, 109] : List UInt8) then (if 0 ≤ x7 then (if ((rd_T24 x1 x7).f0) = 0 then (spec_AggValue.l1 k x0 x1 (wrap64 (x7 + 1))) else (if ((rd_T24 x1 x7).f0) = 2 then (spec_AggValue.l1 k x0 x1 (wrap64 (x7 + 1))) else (some (0, 0, (⟨#[]⟩ : ByteArray), 10)))) else (none)) else (spec_AggValue.l1 k x0 x1 (wrap64 (x7 + 1)))) else ((spec_l12Agg.f k x0 x1).bind fun bt106 => (some (bt106.1, bt106.2.1, bt106.2.2.1, bt106.2.2.2)))
end
def spec_AggValue.f (k : Nat) (a0 : ByteArray) (l1 : List (S24)) : Option (Int × Int × ByteArray × Int) := if (a0.size : Int) > 65536 then (some (0, 0, (⟨#[]⟩ : ByteArray), 2)) else (if (l1.length : Int) > 4096 then (some (0, 0, (⟨#[]⟩ : ByteArray), 2)) else (if a0.toList = ([99, 111, 117, 110, 116] : List UInt8) then (spec_AggValue.j0 k a0 l1 false) else (if a0.toList = ([115, 117, 109] : List UInt8) then (spec_AggValue.j0 k a0 l1 false) else (if a0.toList = ([109, 105, 110] : List UInt8) then (spec_AggValue.j0 k a0 l1 false) else (spec_AggValue.j0 k a0 l1 (a0.toList != ([109, 97, 120] : List UInt8)))))))
theorem spec_AggValue.mono_l : ∀ k, (∀ y0 y1 y2, LeO (spec_AggValue.j0 k y0 y1 y2) (spec_AggValue.j0 (k + 1) y0 y1 y2)) ∧ (∀ y0 y1 y2, LeO (spec_AggValue.l0 k y0 y1 y2) (spec_AggValue.l0 (k + 1) y0 y1 y2)) ∧ (∀ y0 y1 y2, LeO (spec_AggValue.l1 k y0 y1 y2) (spec_AggValue.l1 (k + 1) y0 y1 y2))
 | 0 => ⟨fun _ _ _ r h => by simp [spec_AggValue.j0] at h, fun _ _ _ r h => by simp [spec_AggValue.l0] at h, fun _ _ _ r h => by simp [spec_AggValue.l1] at h⟩
 | k + 1 => by
  obtain ⟨ih0, ih1, ih2⟩ := spec_AggValue.mono_l k
  refine ⟨?_, ?_, ?_⟩
  rotate_left
  ·intro y0 y1 y2
   unfold spec_AggValue.l0
   repeat' first | with_reducible (first | exact ih0 _ _ _ | exact ih1 _ _ _ | exact ih2 _ _ _ | exact spec_l12Agg.mono _ _ _ | exact LeO.refl _ | exact LeO.none _ | refine LeO.ite ?_ ?_ | refine LeO.bind ?_ (fun _ => ?_)) | exact ih0 _ _ _ | exact ih1 _ _ _ | exact ih2 _ _ _ | exact spec_l12Agg.mono _ _ _ | exact LeO.none _ | refine LeO.ite ?_ ?_ | refine LeO.bind ?_ (fun _ => ?_)
  ·intro y0 y1 y2
   unfold spec_AggValue.l1
   repeat' first | with_reducible (first | exact ih0 _ _ _ | exact ih1 _ _ _ | exact ih2 _ _ _ | exact spec_l12Agg.mono _ _ _ | exact LeO.refl _ | exact LeO.none _ | refine LeO.ite ?_ ?_ | refine LeO.bind ?_ (fun _ => ?_)) | exact ih0 _ _ _ | exact ih1 _ _ _ | exact ih2 _ _ _ | exact spec_l12Agg.mono _ _ _ | exact LeO.none _ | refine LeO.ite ?_ ?_ | refine LeO.bind ?_ (fun _ => ?_)
  intro y0 y1 y2
  unfold spec_AggValue.j0
  repeat' first | with_reducible (first | exact ih0 _ _ _ | exact ih1 _ _ _ | exact ih2 _ _ _ | exact spec_l12Agg.mono _ _ _ | exact LeO.refl _ | exact LeO.none _ | refine LeO.ite ?_ ?_ | refine LeO.bind ?_ (fun _ => ?_)) | exact ih0 _ _ _ | exact ih1 _ _ _ | exact ih2 _ _ _ | exact spec_l12Agg.mono _ _ _ | exact LeO.none _ | refine LeO.ite ?_ ?_ | refine LeO.bind ?_ (fun _ => ?_)
theorem spec_AggValue.mono : ∀ a0 a1 k, LeO (spec_AggValue.f k a0 a1) (spec_AggValue.f (k + 1) a0 a1) := by
 intro a0 a1 k
 obtain ⟨ih0, ih1, ih2⟩ := spec_AggValue.mono_l k
 unfold spec_AggValue.f
 repeat' first
   | (with_reducible exact ih0 _ _ _)
   | (with_reducible exact ih1 _ _ _)
   | (with_reducible exact ih2 _ _ _)
   | (with_reducible exact spec_l12Agg.mono _ _ _)
   | (with_reducible exact LeO.refl _)
   | (with_reducible exact LeO.none _)
   | (with_reducible refine LeO.ite ?_ ?_)
   | (with_reducible refine LeO.bind ?_ (fun _ => ?_))
   | exact ih0 _ _ _
   | exact ih1 _ _ _
   | exact ih2 _ _ _
   | exact spec_l12Agg.mono _ _ _
   | exact LeO.none _
   | refine LeO.ite ?_ ?_
   | refine LeO.bind ?_ (fun _ => ?_)
theorem spec_AggValue.calls (k : Nat) (a0 : ByteArray) (A1 : Option Addr) (c1 : Nat) (l1 : List (S24)) (r1 : Int) (r2 : Int) (r3 : ByteArray) (r4 : Int) (w : World) (hr1 : Kd.C k24 w A1 l1.length l1) (hc1 : l1.length ≤ c1) (h : spec_AggValue.f k a0 l1 = some (r1, r2, r3, r4)) :
  Calls Try.prog 12 #[.string a0, .slice A1 l1.length c1] w fun e w' => e = .returned (.tuple #[.agg #[.int .i64 r1, .int .i64 r2, .string r3], .int .i64 r4]) ∧ Below w.heap.size w w' := by
 have hu24 := Try.underlying24
 have HR1 := ak_ hr1
 have HC1 := ak_ hc1
 clear hr1 hc1
 have HB := ak_ (Below.refl w.heap.size w)
 have H := h
 unfold spec_AggValue.f at H
 clear h
 by_cases c3 : (a0.size : Int) > 65536
 ·rw [if_pos c3] at H
  have c3b0 : decide (65536 < (a0.size : Int)) = true := decide_eq_true c3
  have c3b1 : decide (65536 < a0.size) = true := decide_eq_true (by omega)
  clear c3
  simp only [Option.some.injEq, Prod.mk.injEq] at H
  obtain ⟨rfl, rfl, rfl, rfl⟩ := H
  go_enter Try.func12, Try.ntmps12
  go_wp2_with (first | ((with_reducible refine gate_dst (N := 4) rfl ?_); refine bx_ 4 (cs := #[.int .i64 0, .int .i64 0, .string (⟨#[]⟩ : ByteArray)]) (t := 24) (h_ := ?_); intro gb101 hg w4 hbox hb; have n_ := a4_ (below_step z0_ hb) (hbox) ((gs_ w hg (below_size z0_))) ((gs_ w hg (below_size z0_))); clear HB; obtain ⟨HB, BK101, GW101, GE101⟩ := n_; clear hb hbox hg; obtain ⟨hcz5_0, hcz5_1, hcz5_2, hfz5_0, hfz5_1, hfz5_2⟩ := bcf3 BK101.out))
  refine bodyPost_ret (results_ct rfl _ _ gb101 24 #[.int .i64 0, .int .i64 0, .string (⟨#[]⟩ : ByteArray)] (0, 0) _ rfl z9_ Try.underlying24 rfl (by kernel_rfl)) rfl ?_
  exact ⟨z10_, z1_⟩
 rw [if_neg c3] at H
 have c3b0 : decide (65536 < (a0.size : Int)) = false := decide_eq_false c3
 have c3b1 : decide (65536 < a0.size) = false := decide_eq_false (by omega)
 clear c3
 by_cases c6 : (l1.length : Int) > 4096
 ·rw [if_pos c6] at H
  have c6b0 : decide (4096 < (l1.length : Int)) = true := decide_eq_true c6
  have c6b1 : decide (4096 < l1.length) = true := decide_eq_true (by omega)
  clear c6
  simp only [Option.some.injEq, Prod.mk.injEq] at H
  obtain ⟨rfl, rfl, rfl, rfl⟩ := H
  go_enter Try.func12, Try.ntmps12
  go_wp2_with (first | ((with_reducible refine gate_dst (N := 4) rfl ?_); refine bx_ 4 (cs := #[.int .i64 0, .int .i64 0, .string (⟨#[]⟩ : ByteArray)]) (t := 24) (h_ := ?_); intro gb101 hg w7 hbox hb; have n_ := a4_ (below_step z0_ hb) (hbox) ((gs_ w hg (below_size z0_))) ((gs_ w hg (below_size z0_))); clear HB; obtain ⟨HB, BK101, GW101, GE101⟩ := n_; clear hb hbox hg; obtain ⟨hcz8_0, hcz8_1, hcz8_2, hfz8_0, hfz8_1, hfz8_2⟩ := bcf3 BK101.out))
  refine bodyPost_ret (results_ct rfl _ _ gb101 24 #[.int .i64 0, .int .i64 0, .string (⟨#[]⟩ : ByteArray)] (0, 0) _ rfl z9_ Try.underlying24 rfl (by kernel_rfl)) rfl ?_
  exact ⟨z10_, z1_⟩
 rw [if_neg c6] at H
 have c6b0 : decide (4096 < (l1.length : Int)) = false := decide_eq_false c6
 have c6b1 : decide (4096 < l1.length) = false := decide_eq_false (by omega)
 clear c6
 have HC9 := ak_ H
 clear H
 go_enter Try.func12, Try.ntmps12
 go_upto_region 5 with (first | ((with_reducible refine gate_dst (N := 4) rfl ?_); refine bx_ 4 (cs := #[.int .i64 0, .int .i64 0, .string (⟨#[]⟩ : ByteArray)]) (t := 24) (h_ := ?_); intro gb101 hg w10 hbox hb; have n_ := a4_ (below_step z0_ hb) (hbox) ((gs_ w hg (below_size z0_))) ((gs_ w hg (below_size z0_))); clear HB; obtain ⟨HB, BK101, GW101, GE101⟩ := n_; clear hb hbox hg))
 (try simp only [Act.put, sz1_, sz2_, sz3_])
 go_cut [29] (fun v29 wc => ∃ (kq : Nat) (x29_8 : Bool), v29 = .bool x29_8 ∧ Aside0 (spec_AggValue.j0 kq a0 l1 x29_8 = some (r1, r2, r3, r4)) ∧ Aside0 (kq ≤ k) ∧ Aside0 (wc.heap[gb101]? = some (.cells #[.int .i64 0, .int .i64 0, .string (⟨#[]⟩ : ByteArray)] 24 (0, 0))) ∧ Aside0 (Below w.heap.size w wc))
 case first =>
  have H := HC9.out
  clear HC9
  by_cases c11 : a0.toList = ([99, 111, 117, 110, 116] : List UInt8)
  ·rw [if_pos c11] at H
   have c11b0 : (a0.toList == ([99, 111, 117, 110, 116] : List UInt8)) = true := beq_iff_eq.mpr c11
   have c11b1 : (a0.toList != ([99, 111, 117, 110, 116] : List UInt8)) = false := bne_eq_false_iff_eq.mpr c11
   clear c11
   (first | rw [c11b0] | (simp only [i64_w, i32_w]; rw [c11b0]) | skip)
   have H' := ak_ H
   clear H
   go_wp2
   go_meet
   case rel => exact ⟨_, (false), z12_, H', ⟨by first | omega | exact Nat.le_refl _⟩, ⟨z2_⟩, ⟨z1_⟩⟩
  rw [if_neg c11] at H
  have c11b0 : (a0.toList == ([99, 111, 117, 110, 116] : List UInt8)) = false := beq_eq_false_iff_ne.mpr c11
  have c11b1 : (a0.toList != ([99, 111, 117, 110, 116] : List UInt8)) = true := bne_iff_ne.mpr c11
  (first | rw [c11b0] | (simp only [i64_w, i32_w]; rw [c11b0]) | skip)
  by_cases c12 : a0.toList = ([115, 117, 109] : List UInt8)
  ·rw [if_pos c12] at H
   have c12b0 : (a0.toList == ([115, 117, 109] : List UInt8)) = true := beq_iff_eq.mpr c12
   have c12b1 : (a0.toList != ([115, 117, 109] : List UInt8)) = false := bne_eq_false_iff_eq.mpr c12
   clear c12
   have H' := ak_ H
   clear H
   go_wp2
   go_meet
   case rel => exact ⟨_, (false), z12_, H', ⟨by first | omega | exact Nat.le_refl _⟩, ⟨z2_⟩, ⟨z1_⟩⟩
  rw [if_neg c12] at H
  have c12b0 : (a0.toList == ([115, 117, 109] : List UInt8)) = false := beq_eq_false_iff_ne.mpr c12
  have c12b1 : (a0.toList != ([115, 117, 109] : List UInt8)) = true := bne_iff_ne.mpr c12
  by_cases c13 : a0.toList = ([109, 105, 110] : List UInt8)
  rotate_left
  ·rw [if_neg c13] at H
   have c13b0 : (a0.toList == ([109, 105, 110] : List UInt8)) = false := beq_eq_false_iff_ne.mpr c13
   have c13b1 : (a0.toList != ([109, 105, 110] : List UInt8)) = true := bne_iff_ne.mpr c13
   have H' := ak_ H
   clear H
   go_wp2
   go_meet
   case rel => exact ⟨_, ((a0.toList != ([109, 97, 120] : List UInt8))), z12_, H', ⟨by first | omega | exact Nat.le_refl _⟩, ⟨z2_⟩, ⟨z1_⟩⟩
  rw [if_pos c13] at H
  have c13b0 : (a0.toList == ([109, 105, 110] : List UInt8)) = true := beq_iff_eq.mpr c13
  have c13b1 : (a0.toList != ([109, 105, 110] : List UInt8)) = false := bne_eq_false_iff_eq.mpr c13
  clear c13
  have H' := ak_ H
  clear H
  go_wp2
  go_meet
  case rel => exact ⟨_, (false), z12_, H', ⟨by first | omega | exact Nat.le_refl _⟩, ⟨z2_⟩, ⟨z1_⟩⟩
 case rest =>
  clear HC9
  try clear c1
  try clear p2
  try clear c3
  try clear c3b0
  try clear c3b1
  try clear c6
  try clear c6b0
  try clear c6b1
  try clear c11
  try clear c11b0
  try clear c11b1
  try clear c12
  try clear c12b0
  try clear c12b1
  try clear c13
  try clear c13b0
  try clear c13b1
  try clear hcz5_0
  try clear hcz5_1
  try clear hcz5_2
  try clear hcz8_0
  try clear hcz8_1
  try clear hcz8_2
  try clear hfz5_0
  try clear hfz5_1
  try clear hfz5_2
  try clear hfz8_0
  try clear hfz8_1
  try clear hfz8_2
  obtain ⟨kq, x29_8, rfl, HA, HJ8, BK101, HB⟩ := hcut
  cases kq with
  | zero => exact absurd HA.out (by simp [spec_AggValue.j0])
  | succ kj8 =>
   have H := HA.out
   clear HA
   simp only [spec_AggValue.j0] at H
   by_cases c14 : x29_8 = true
   ·subst c14
    have H1 : (some (0, 0, (⟨#[]⟩ : ByteArray), 1)) = some (r1, r2, r3, r4) := by rw [if_pos rfl] at H; exact H
    clear H
    have H := H1
    clear H1
    simp only [Option.some.injEq, Prod.mk.injEq] at H
    obtain ⟨rfl, rfl, rfl, rfl⟩ := H
    obtain ⟨hcz15_0, hcz15_1, hcz15_2, hfz15_0, hfz15_1, hfz15_2⟩ := bcf3 BK101.out
    go_wp2
    refine bodyPost_ret (results_ct rfl _ _ gb101 24 #[.int .i64 0, .int .i64 0, .string (⟨#[]⟩ : ByteArray)] (0, 0) _ rfl z9_ Try.underlying24 rfl (by kernel_rfl)) rfl ?_
    exact ⟨z10_, z1_⟩
   replace c14 := Bool.eq_false_iff.mpr c14
   subst c14
   have H1 : (spec_AggValue.l0 kj8 a0 l1 0) = some (r1, r2, r3, r4) := by rw [if_neg (show ¬ (false = true) by decide)] at H; exact H
   clear H
   have H := H1
   clear H1
   have H' := ak_ H
   clear H
   go_wp2
   go_loopg [6] kj8 (fun kq v6 w' => ∃ (x6_2 : Int) (x102000_2 : Int) (x102001_2 : Int) (x102002_2 : ByteArray), v6 = .int .i64 x6_2 ∧ Aside0 (spec_AggValue.l0 kq a0 l1 x6_2 = some (r1, r2, r3, r4)) ∧ Aside0 (kq ≤ kj8) ∧ Aside0 (w'.heap[gb101]? = some (.cells #[.int .i64 x102000_2, .int .i64 x102001_2, .string x102002_2] 24 (0, 0))) ∧ Aside0 (Below w.heap.size w w'))
   case atStart => exact ⟨(0), (0), (0), ((⟨#[]⟩ : ByteArray)), z12_, H', ⟨Nat.le_refl _⟩, ⟨z2_⟩, ⟨z1_⟩⟩
   case round =>
    clear H'
    try clear c1
    try clear p2
    try clear c3
    try clear c3b0
    try clear c3b1
    try clear c6
    try clear c6b0
    try clear c6b1
    try clear c11
    try clear c11b0
    try clear c11b1
    try clear c12
    try clear c12b0
    try clear c12b1
    try clear c13
    try clear c13b0
    try clear c13b1
    try clear c14
    try clear hcz15_0
    try clear hcz15_1
    try clear hcz15_2
    try clear hcz5_0
    try clear hcz5_1
    try clear hcz5_2
    try clear hcz8_0
    try clear hcz8_1
    try clear hcz8_2
    try clear hfz15_0
    try clear hfz15_1
    try clear hfz15_2
    try clear hfz5_0
    try clear hfz5_1
    try clear hfz5_2
    try clear hfz8_0
    try clear hfz8_1
    try clear hfz8_2
    try clear p2
    obtain ⟨x6_2, x102000_2, x102001_2, x102002_2, rfl, HA, HK2, BK101, HB⟩ := hrel
    cases gk with
    | zero => exact absurd HA.out (by simp [spec_AggValue.l0])
    | succ k2 =>
     have H := HA.out
     clear HA
     simp only [spec_AggValue.l0] at H
     by_cases c16 : x6_2 < (l1.length : Int)
     ·rw [if_pos c16] at H
      have c16b0 := decide_eq_true c16
      clear c16
      by_cases c17 : 0 ≤ x6_2
      ·rw [if_pos c17] at H
       have c17b0 := decide_eq_true c17
       clear c17
       replace H := Option.bind_eq_some_iff.mp H
       obtain ⟨t103, A180, H⟩ := H
       have A18 := ak_ A180
       clear A180
       by_cases c19 : t103 = true
       ·subst c19
        have H1 : (spec_AggValue.l0 k2 a0 l1 (wrap64 (x6_2 + 1))) = some (r1, r2, r3, r4) := by rw [if_pos rfl] at H; exact H
        clear H
        have H := H1
        clear H1
        have H' := ak_ H
        clear H
        have p102 : 0 ≤ (x6_2 : Int) := of_decide_eq_true z11_
        have q102 : x6_2 < (l1.length : Int) := of_decide_eq_true z11_
        obtain ⟨ad102, e102, hx102_0, hx102_1, hx102_2⟩ := at_T24 HR1.out x6_2 p102 q102
        cases e102
        replace hx102_0 := oc_ HB.out hx102_0
        replace hx102_1 := oc_ HB.out hx102_1
        replace hx102_2 := oc_ HB.out hx102_2
        replace p102 := eq_true p102
        replace q102 := eq_true q102
        go_wp2_with (first | ((with_reducible refine gate_callee (f := 17) rfl ?_); refine goesL_ (some 41) rfl rfl Try.func17 (by kernel_rfl) rfl #[.agg #[.int .i64 ((rd_T24 l1 x6_2).f0), .int .i64 ((rd_T24 l1 x6_2).f1), .string ((rd_T24 l1 x6_2).f2)]] rfl z3_ ?_; (with_reducible refine (spec_ValueOK.calls ((rd_T24 l1 x6_2).f0) ((rd_T24 l1 x6_2).f1) ((rd_T24 l1 x6_2).f2) true _ A18.out).mono ?_); rintro e w20 ⟨rfl, hb⟩; refine ⟨_, rfl, ?_⟩; have n_ := a2_ (blk_below (g := gb101) (o := .cells #[.int .i64 x102000_2, .int .i64 x102001_2, .string x102002_2] 24 (0, 0)) z2_ hb) (below_step z1_ hb); clear BK101 HB; obtain ⟨BK101, HB⟩ := n_; (try clear hb); (try clear hb2); (try clear hk); (try clear hi)))
        go_roundg k2
        case measure => have := HJ8.out; have := HK2.out; omega
        case rel => exact ⟨(wrap64 (x6_2 + 1)), (x102000_2), (x102001_2), (x102002_2), z12_, H', ⟨by have := HJ8.out; have := HK2.out; omega⟩, ⟨z2_⟩, ⟨z1_⟩⟩
       ·replace c19 := Bool.eq_false_iff.mpr c19
        subst c19
        have H1 : (some (0, 0, (⟨#[]⟩ : ByteArray), 1)) = some (r1, r2, r3, r4) := by rw [if_neg (show ¬ (false = true) by decide)] at H; exact H
        clear H
        have H := H1
        clear H1
        simp only [Option.some.injEq, Prod.mk.injEq] at H
        obtain ⟨rfl, rfl, rfl, rfl⟩ := H
        have p102 : 0 ≤ (x6_2 : Int) := of_decide_eq_true z11_
        have q102 : x6_2 < (l1.length : Int) := of_decide_eq_true z11_
        obtain ⟨ad102, e102, hx102_0, hx102_1, hx102_2⟩ := at_T24 HR1.out x6_2 p102 q102
        cases e102
        replace hx102_0 := oc_ HB.out hx102_0
        replace hx102_1 := oc_ HB.out hx102_1
        replace hx102_2 := oc_ HB.out hx102_2
        replace p102 := eq_true p102
        replace q102 := eq_true q102
        go_wp2_with (first | ((with_reducible refine gate_callee (f := 17) rfl ?_); refine goesL_ (some 41) rfl rfl Try.func17 (by kernel_rfl) rfl #[.agg #[.int .i64 ((rd_T24 l1 x6_2).f0), .int .i64 ((rd_T24 l1 x6_2).f1), .string ((rd_T24 l1 x6_2).f2)]] rfl z3_ ?_; (with_reducible refine (spec_ValueOK.calls ((rd_T24 l1 x6_2).f0) ((rd_T24 l1 x6_2).f1) ((rd_T24 l1 x6_2).f2) false _ A18.out).mono ?_); rintro e w21 ⟨rfl, hb⟩; refine ⟨_, rfl, ?_⟩; have n_ := a2_ (blk_below (g := gb101) (o := .cells #[.int .i64 x102000_2, .int .i64 x102001_2, .string x102002_2] 24 (0, 0)) z2_ hb) (below_step z1_ hb); clear BK101 HB; obtain ⟨BK101, HB⟩ := n_; (try clear hb); (try clear hb2); (try clear hk); (try clear hi); obtain ⟨hcz22_0, hcz22_1, hcz22_2, hfz22_0, hfz22_1, hfz22_2⟩ := bcf3 BK101.out))
        refine bodyPost_ret (results_ct rfl _ _ gb101 24 #[.int .i64 0, .int .i64 0, .string (⟨#[]⟩ : ByteArray)] (0, 0) _ rfl (by (with_reducible repeat (first | refine blk_drewN ?_ _ | refine blk_drew ?_ | refine blk_alloc ?_ _)); refine blk_put (cs := #[.int .i64 0, .int .i64 0, .string x102002_2]) ?_ 2 _ rfl; (with_reducible repeat (first | refine blk_drewN ?_ _ | refine blk_drew ?_ | refine blk_alloc ?_ _)); refine blk_put (cs := #[.int .i64 0, .int .i64 x102001_2, .string x102002_2]) ?_ 1 _ rfl; (with_reducible repeat (first | refine blk_drewN ?_ _ | refine blk_drew ?_ | refine blk_alloc ?_ _)); refine blk_put (cs := #[.int .i64 x102000_2, .int .i64 x102001_2, .string x102002_2]) ?_ 0 _ rfl; (with_reducible repeat (first | refine blk_drewN ?_ _ | refine blk_drew ?_ | refine blk_alloc ?_ _)); exact BK101.out) Try.underlying24 rfl (by kernel_rfl)) rfl ?_
        exact ⟨z10_, z1_⟩
      ·rw [if_neg c17] at H
       exact absurd H (by simp)
     rw [if_neg c16] at H
     have c16b0 := decide_eq_false c16
     clear c16
     have H' := ak_ H
     clear H
     go_wp2
     go_loopg [7] k2 (fun kq v7 w' => ∃ (x7_3 : Int) (x102000_3 : Int) (x102001_3 : Int) (x102002_3 : ByteArray), v7 = .int .i64 x7_3 ∧ Aside0 (spec_AggValue.l1 kq a0 l1 x7_3 = some (r1, r2, r3, r4)) ∧ Aside0 (kq ≤ k2) ∧ Aside0 (w'.heap[gb101]? = some (.cells #[.int .i64 x102000_3, .int .i64 x102001_3, .string x102002_3] 24 (0, 0))) ∧ Aside0 (Below w.heap.size w w'))
     case atStart => exact ⟨(0), (x102000_2), (x102001_2), (x102002_2), z12_, H', ⟨Nat.le_refl _⟩, ⟨z2_⟩, ⟨z1_⟩⟩
     case round =>
      clear H'
      try clear c1
      try clear p1
      try clear q1
      try clear hx1
      try clear p2
      try clear c3
      try clear c3b0
      try clear c3b1
      try clear c6
      try clear c6b0
      try clear c6b1
      try clear p6
      try clear p10
      try clear q10
      try clear hx10
      try clear c11
      try clear c11b0
      try clear c11b1
      try clear c12
      try clear c12b0
      try clear c12b1
      try clear c13
      try clear c13b0
      try clear c13b1
      try clear c14
      try clear c16
      try clear c16b0
      try clear c17
      try clear c17b0
      try clear c19
      try clear hcz15_0
      try clear hcz15_1
      try clear hcz15_2
      try clear hcz22_0
      try clear hcz22_1
      try clear hcz22_2
      try clear hcz5_0
      try clear hcz5_1
      try clear hcz5_2
      try clear hcz8_0
      try clear hcz8_1
      try clear hcz8_2
      try clear hfz15_0
      try clear hfz15_1
      try clear hfz15_2
      try clear hfz22_0
      try clear hfz22_1
      try clear hfz22_2
      try clear hfz5_0
      try clear hfz5_1
      try clear hfz5_2
      try clear hfz8_0
      try clear hfz8_1
      try clear hfz8_2
      try clear hx102_0
      try clear hx102_1
      try clear hx102_2
      try clear p102
      try clear p2
      try clear q102
      obtain ⟨x7_3, x102000_3, x102001_3, x102002_3, rfl, HA, HK3, BK101, HB⟩ := hrel
      cases gk with
      | zero => exact absurd HA.out (by simp [spec_AggValue.l1])
      | succ k3 =>
       have H := HA.out
       clear HA
       simp only [spec_AggValue.l1] at H
       by_cases c23 : x7_3 < (l1.length : Int)
       rotate_left
       ·rw [if_neg c23] at H
        have c23b0 := decide_eq_false c23
        clear c23
        replace H := Option.bind_eq_some_iff.mp H
        obtain ⟨⟨t106, t107, t108, t109⟩, A290, H⟩ := H
        replace H : (some (t106, t107, t108, t109)) = some (r1, r2, r3, r4) := H
        have A29 := ak_ A290
        clear A290
        simp only [Option.some.injEq, Prod.mk.injEq] at H
        obtain ⟨rfl, rfl, rfl, rfl⟩ := H
        go_wp2_with (first | ((with_reducible refine gate_callee (f := 30) rfl ?_); refine goesL_ (some 71) rfl rfl Try.func30 (by kernel_rfl) rfl #[.string a0, .slice A1 l1.length c1] rfl z3_ ?_; (with_reducible refine (spec_l12Agg.calls k3 a0 _ _ l1 t106 t107 t108 t109 _ ?side1 ?side2 A29.out).mono ?_); (case side1 => exact cz_ ((Kd.C_below HR1.out HB.out))); (case side2 => exact HC1.out); rintro e w30 ⟨rfl, hb⟩; refine ⟨_, rfl, ?_⟩; have n_ := a2_ (blk_below (g := gb101) (o := .cells #[.int .i64 x102000_3, .int .i64 x102001_3, .string x102002_3] 24 (0, 0)) z2_ hb) (below_step z1_ hb); clear BK101 HB; obtain ⟨BK101, HB⟩ := n_; (try clear hb); (try clear hb2); (try clear hk); (try clear hi); obtain ⟨hcz31_0, hcz31_1, hcz31_2, hfz31_0, hfz31_1, hfz31_2⟩ := bcf3 BK101.out))
        refine bodyPost_ret (results_ct rfl _ _ gb101 24 #[.int .i64 t106, .int .i64 t107, .string t108] (0, 0) _ rfl (by (with_reducible repeat (first | refine blk_drewN ?_ _ | refine blk_drew ?_ | refine blk_alloc ?_ _)); refine blk_put (cs := #[.int .i64 t106, .int .i64 t107, .string x102002_3]) ?_ 2 _ rfl; (with_reducible repeat (first | refine blk_drewN ?_ _ | refine blk_drew ?_ | refine blk_alloc ?_ _)); refine blk_put (cs := #[.int .i64 t106, .int .i64 x102001_3, .string x102002_3]) ?_ 1 _ rfl; (with_reducible repeat (first | refine blk_drewN ?_ _ | refine blk_drew ?_ | refine blk_alloc ?_ _)); refine blk_put (cs := #[.int .i64 x102000_3, .int .i64 x102001_3, .string x102002_3]) ?_ 0 _ rfl; (with_reducible repeat (first | refine blk_drewN ?_ _ | refine blk_drew ?_ | refine blk_alloc ?_ _)); exact BK101.out) Try.underlying24 rfl (by kernel_rfl)) rfl ?_
        exact ⟨z10_, z1_⟩

       rw [if_pos c23] at H
       have c23b0 := decide_eq_true c23
       clear c23
       by_cases c24 : a0.toList = ([115, 117, 109] : List UInt8)
       rotate_left
       ·rw [if_neg c24] at H
        have c24b0 : (a0.toList == ([115, 117, 109] : List UInt8)) = false := beq_eq_false_iff_ne.mpr c24
        have c24b1 : (a0.toList != ([115, 117, 109] : List UInt8)) = true := bne_iff_ne.mpr c24
        have H' := ak_ H
        clear H
        go_wp2
        go_roundg k3
        case measure => have := HJ8.out; have := HK2.out; have := HK3.out; omega
        case rel => exact ⟨(wrap64 (x7_3 + 1)), (x102000_3), (x102001_3), (x102002_3), z12_, H', ⟨by have := HJ8.out; have := HK2.out; have := HK3.out; omega⟩, ⟨z2_⟩, ⟨z1_⟩⟩
       rw [if_pos c24] at H
       have c24b0 : (a0.toList == ([115, 117, 109] : List UInt8)) = true := beq_iff_eq.mpr c24
       have c24b1 : (a0.toList != ([115, 117, 109] : List UInt8)) = false := bne_eq_false_iff_eq.mpr c24
       clear c24
       by_cases c25 : 0 ≤ x7_3
       rotate_left
       ·rw [if_neg c25] at H
        exact absurd H (by simp)
       rw [if_pos c25] at H
       have c25b0 := decide_eq_true c25
       clear c25
       by_cases c26 : ((rd_T24 l1 x7_3).f0) = 0
       ·rw [if_pos c26] at H
        have c26b0 : (((rd_T24 l1 x7_3).f0) == 0) = true := beq_iff_eq.mpr c26
        have c26b1 : (((rd_T24 l1 x7_3).f0) != 0) = false := bne_eq_false_iff_eq.mpr c26
        clear c26
        have H' := ak_ H
        clear H
        have p104 : 0 ≤ (x7_3 : Int) := of_decide_eq_true z11_
        have q104 : x7_3 < (l1.length : Int) := of_decide_eq_true z11_
        obtain ⟨ad104, e104, hx104_0, hx104_1, hx104_2⟩ := at_T24 HR1.out x7_3 p104 q104
        cases e104
        replace hx104_0 := oc_ HB.out hx104_0
        replace hx104_1 := oc_ HB.out hx104_1
        replace hx104_2 := oc_ HB.out hx104_2
        replace p104 := eq_true p104
        replace q104 := eq_true q104
        go_wp2
        go_roundg k3
        case measure => have := HJ8.out; have := HK2.out; have := HK3.out; omega
        case rel => exact ⟨(wrap64 (x7_3 + 1)), (x102000_3), (x102001_3), (x102002_3), z12_, H', ⟨by have := HJ8.out; have := HK2.out; have := HK3.out; omega⟩, ⟨z2_⟩, ⟨z1_⟩⟩
       rw [if_neg c26] at H
       have c26b0 : (((rd_T24 l1 x7_3).f0) == 0) = false := beq_eq_false_iff_ne.mpr c26
       have c26b1 : (((rd_T24 l1 x7_3).f0) != 0) = true := bne_iff_ne.mpr c26
       by_cases c27 : ((rd_T24 l1 x7_3).f0) = 2
       rotate_left
       ·rw [if_neg c27] at H
        have c27b0 : (((rd_T24 l1 x7_3).f0) == 2) = false := beq_eq_false_iff_ne.mpr c27
        have c27b1 : (((rd_T24 l1 x7_3).f0) != 2) = true := bne_iff_ne.mpr c27
        simp only [Option.some.injEq, Prod.mk.injEq] at H
        obtain ⟨rfl, rfl, rfl, rfl⟩ := H
        have p104 : 0 ≤ (x7_3 : Int) := of_decide_eq_true z11_
        have q104 : x7_3 < (l1.length : Int) := of_decide_eq_true z11_
        obtain ⟨ad104, e104, hx104_0, hx104_1, hx104_2⟩ := at_T24 HR1.out x7_3 p104 q104
        cases e104
        replace hx104_0 := oc_ HB.out hx104_0
        replace hx104_1 := oc_ HB.out hx104_1
        replace hx104_2 := oc_ HB.out hx104_2
        replace p104 := eq_true p104
        replace q104 := eq_true q104
        have p105 : 0 ≤ (x7_3 : Int) := of_decide_eq_true z11_
        have q105 : x7_3 < (l1.length : Int) := of_decide_eq_true z11_
        obtain ⟨ad105, e105, hx105_0, hx105_1, hx105_2⟩ := at_T24 HR1.out x7_3 p105 q105
        obtain rfl : ad104 = ad105 := (by injection e105)
        replace hx105_0 := oc_ HB.out hx105_0
        replace hx105_1 := oc_ HB.out hx105_1
        replace hx105_2 := oc_ HB.out hx105_2
        replace p105 := eq_true p105
        replace q105 := eq_true q105
        obtain ⟨hcz28_0, hcz28_1, hcz28_2, hfz28_0, hfz28_1, hfz28_2⟩ := bcf3 BK101.out
        go_wp2
        refine bodyPost_ret (results_ct rfl _ _ gb101 24 #[.int .i64 0, .int .i64 0, .string (⟨#[]⟩ : ByteArray)] (0, 0) _ rfl (by (with_reducible repeat (first | refine blk_drewN ?_ _ | refine blk_drew ?_ | refine blk_alloc ?_ _)); refine blk_put (cs := #[.int .i64 0, .int .i64 0, .string x102002_3]) ?_ 2 _ rfl; (with_reducible repeat (first | refine blk_drewN ?_ _ | refine blk_drew ?_ | refine blk_alloc ?_ _)); refine blk_put (cs := #[.int .i64 0, .int .i64 x102001_3, .string x102002_3]) ?_ 1 _ rfl; (with_reducible repeat (first | refine blk_drewN ?_ _ | refine blk_drew ?_ | refine blk_alloc ?_ _)); refine blk_put (cs := #[.int .i64 x102000_3, .int .i64 x102001_3, .string x102002_3]) ?_ 0 _ rfl; (with_reducible repeat (first | refine blk_drewN ?_ _ | refine blk_drew ?_ | refine blk_alloc ?_ _)); exact BK101.out) Try.underlying24 rfl (by kernel_rfl)) rfl ?_
        exact ⟨z10_, z1_⟩
       rw [if_pos c27] at H
       have c27b0 : (((rd_T24 l1 x7_3).f0) == 2) = true := beq_iff_eq.mpr c27
       have c27b1 : (((rd_T24 l1 x7_3).f0) != 2) = false := bne_eq_false_iff_eq.mpr c27
       clear c27
       have H' := ak_ H
       clear H
       have p104 : 0 ≤ (x7_3 : Int) := of_decide_eq_true z11_
       have q104 : x7_3 < (l1.length : Int) := of_decide_eq_true z11_
       obtain ⟨ad104, e104, hx104_0, hx104_1, hx104_2⟩ := at_T24 HR1.out x7_3 p104 q104
       cases e104
       replace hx104_0 := oc_ HB.out hx104_0
       replace hx104_1 := oc_ HB.out hx104_1
       replace hx104_2 := oc_ HB.out hx104_2
       replace p104 := eq_true p104
       replace q104 := eq_true q104
       have p105 : 0 ≤ (x7_3 : Int) := of_decide_eq_true z11_
       have q105 : x7_3 < (l1.length : Int) := of_decide_eq_true z11_
       obtain ⟨ad105, e105, hx105_0, hx105_1, hx105_2⟩ := at_T24 HR1.out x7_3 p105 q105
       obtain rfl : ad104 = ad105 := (by injection e105)
       replace hx105_0 := oc_ HB.out hx105_0
       replace hx105_1 := oc_ HB.out hx105_1
       replace hx105_2 := oc_ HB.out hx105_2
       replace p105 := eq_true p105
       replace q105 := eq_true q105
       go_wp2
       go_roundg k3
       case measure => have := HJ8.out; have := HK2.out; have := HK3.out; omega
       case rel => exact ⟨(wrap64 (x7_3 + 1)), (x102000_3), (x102001_3), (x102002_3), z12_, H', ⟨by have := HJ8.out; have := HK2.out; have := HK3.out; omega⟩, ⟨z2_⟩, ⟨z1_⟩⟩
end

section
/-! ### laws_at: function 5 -/
def laws_at.f (l0 : List Int) (a1 : Int) (a2 : Int) : Option (Int) := if a2 ≤ 1 then (some 0) else (if (l0.length : Int) = 0 then (if a2 = 0 then (none) else (some (Int.tmod (wrap64 (a1 * 7)) a2))) else (if 0 ≤ (Int.tmod a1 (l0.length : Int)) then (if (Int.tmod a1 (l0.length : Int)) < (l0.length : Int) then (if 0 ≤ (Int.tmod (wrap64 (a1 + 1)) (l0.length : Int)) then (if (Int.tmod (wrap64 (a1 + 1)) (l0.length : Int)) < (l0.length : Int) then (if a2 = 0 then (none) else (some (Int.tmod (wrap64 ((wrap64 ((wrap64 ((wrap64 (rd l0 (Int.tmod a1 (l0.length : Int)))) * 31)) + (wrap64 (rd l0 (Int.tmod (wrap64 (a1 + 1)) (l0.length : Int)))))) + (wrap64 (Int.tdiv a1 (l0.length : Int))))) a2))) else (none)) else (none)) else (none)) else (none)))
theorem laws_at.calls (A0 : Option Addr) (c0 : Nat) (l0 : List Int) (a1 : Int) (a2 : Int) (r : Int) (w : World) (hr0 : Kd.C (Kd.int .u8) w A0 l0.length l0) (hc0 : l0.length ≤ c0) (h : laws_at.f l0 a1 a2 = some r) :
  Calls Try.prog 5 #[.slice A0 l0.length c0, .int .i64 a1, .int .i64 a2] w fun e w' => e = .returned (.int .i64 r) ∧ Drawn0 w w' := by
 have HR0 := ak_ hr0
 have HC0 := ak_ hc0
 clear hr0 hc0
 have H := h
 unfold laws_at.f at H
 clear h
 by_cases c4 : a2 ≤ 1
 ·rw [if_pos c4] at H
  have c4b0 := decide_eq_true c4
  clear c4
  obtain rfl := Option.some.inj H
  go_enter Try.func5, Try.ntmps5
  go_wp2
  repeat (go_quiet (fail); try go_wp2)
  go_ret
  exact ⟨z12_, z26_⟩
 rw [if_neg c4] at H
 have c4b0 := decide_eq_false c4
 clear c4
 by_cases c5 : (l0.length : Int) = 0
 ·rw [if_pos c5] at H
  have c5b0 : ((l0.length : Int) == 0) = true := beq_iff_eq.mpr c5
  have c5b1 : ((l0.length : Int) != 0) = false := bne_eq_false_iff_eq.mpr c5
  clear c5
  by_cases c6 : a2 = 0
  ·rw [if_pos c6] at H
   exact absurd H (by simp)
  ·rw [if_neg c6] at H
   have c6b0 : (a2 == 0) = false := beq_eq_false_iff_ne.mpr c6
   have c6b1 : (a2 != 0) = true := bne_iff_ne.mpr c6
   obtain rfl := Option.some.inj H
   go_enter Try.func5, Try.ntmps5
   go_wp2
   repeat (go_quiet (fail); try go_wp2)
   go_ret
   exact ⟨z12_, z26_⟩
 rw [if_neg c5] at H
 have c5b0 : ((l0.length : Int) == 0) = false := beq_eq_false_iff_ne.mpr c5
 have c5b1 : ((l0.length : Int) != 0) = true := bne_iff_ne.mpr c5
 have c5b2 : ¬ (l0 = []) := fun h_ => c5 (by rw [h_]; rfl)
 obtain ⟨ji7, hji7⟩ : ∃ j_ : Int, (Int.tmod a1 (l0.length : Int)) = j_ := ⟨_, rfl⟩
 replace H : (if 0 ≤ (ji7) then (if (ji7) < (l0.length : Int) then (if 0 ≤ (Int.tmod (wrap64 (a1 + 1)) (l0.length : Int)) then (if (Int.tmod (wrap64 (a1 + 1)) (l0.length : Int)) < (l0.length : Int) then (if a2 = 0 then (none) else (some (Int.tmod (wrap64 ((wrap64 ((wrap64 ((wrap64 (rd l0 (ji7))) * 31)) + (wrap64 (rd l0 (Int.tmod (wrap64 (a1 + 1)) (l0.length : Int)))))) + (wrap64 (Int.tdiv a1 (l0.length : Int))))) a2))) else (none)) else (none)) else (none)) else (none)) = some r := by first | (rw [hji7] at H; exact H) | (simp only [hji7] at H ⊢; exact H)
 by_cases c8 : 0 ≤ (ji7)
 rotate_left
 ·rw [if_neg c8] at H
  exact absurd H (by simp)

 rw [if_pos c8] at H
 have c8b0 := decide_eq_true c8
 clear c8
 by_cases c9 : (ji7) < (l0.length : Int)
 rotate_left
 ·rw [if_neg c9] at H
  exact absurd H (by simp)
 rw [if_pos c9] at H
 have c9b0 := decide_eq_true c9
 clear c9
 obtain ⟨ji10, hji10⟩ : ∃ j_ : Int, (Int.tmod (wrap64 (a1 + 1)) (l0.length : Int)) = j_ := ⟨_, rfl⟩
 replace H : (if 0 ≤ (ji10) then (if (ji10) < (l0.length : Int) then (if a2 = 0 then (none) else (some (Int.tmod (wrap64 ((wrap64 ((wrap64 ((wrap64 (rd l0 (ji7))) * 31)) + (wrap64 (rd l0 (ji10))))) + (wrap64 (Int.tdiv a1 (l0.length : Int))))) a2))) else (none)) else (none)) = some r := by first | (rw [hji10] at H; exact H) | (simp only [hji10] at H ⊢; exact H)
 by_cases c11 : 0 ≤ (ji10)
 rotate_left
 ·rw [if_neg c11] at H
  exact absurd H (by simp)
 rw [if_pos c11] at H
 have c11b0 := decide_eq_true c11
 clear c11
 by_cases c12 : (ji10) < (l0.length : Int)
 rotate_left
 ·rw [if_neg c12] at H
  exact absurd H (by simp)
 rw [if_pos c12] at H
 have c12b0 := decide_eq_true c12
 clear c12
 by_cases c13 : a2 = 0
 ·rw [if_pos c13] at H
  exact absurd H (by simp)
 rw [if_neg c13] at H
 have c13b0 : (a2 == 0) = false := beq_eq_false_iff_ne.mpr c13
 have c13b1 : (a2 != 0) = true := bne_iff_ne.mpr c13
 obtain rfl := Option.some.inj H
 have p101 : 0 ≤ ((ji7) : Int) := of_decide_eq_true z11_
 have q101 : (ji7) < (l0.length : Int) := of_decide_eq_true z11_
 obtain ⟨ad101, e101, hx101_0⟩ := Kd.at_int HR0.out (ji7) p101 q101
 cases e101
 replace p101 := eq_true p101
 replace q101 := eq_true q101
 have p102 : 0 ≤ ((ji10) : Int) := of_decide_eq_true z11_
 have q102 : (ji10) < (l0.length : Int) := of_decide_eq_true z11_
 obtain ⟨ad102, e102, hx102_0⟩ := Kd.at_int HR0.out (ji10) p102 q102
 obtain rfl : ad101 = ad102 := (by injection e102)
 replace p102 := eq_true p102
 replace q102 := eq_true q102
 go_enter Try.func5, Try.ntmps5
 go_wp2
 repeat (go_quiet (fail); try go_wp2)
 go_ret
 exact ⟨by first | rfl | (simp; done) | (simp only [← hji7, ← hji10] <;> (first | rfl | simp)) | (simp [*]; done), z26_⟩
end

end Go.Proofs.Ytfbclbbhomhfaaa.X
end
