/- Contracts of functions, and what is told of them. -/
import Derived.Test.YtfbclbbhomhfaaaYFnAggs5
set_option maxHeartbeats 8000000
set_option maxRecDepth 100000
-- WRITTEN BY xprint.py, a program of this session, over the translation of the seat. Lean checks it.
namespace Go.Proofs.Ytfbclbbhomhfaaa.X
open Go.RowKit Go.Proofs.YtfbclbbhomhfaaaW.PrintWords Go.Proofs.YtfbclbbhomhfaaaW.PrintLast Go.Proofs.YtfbclbbhomhfaaaW.PrintMore
attribute [local go_sem] max2_int min2_int max_two min_two max_three min_three max_four min_four
set_option linter.unusedVariables false
set_option linter.unusedSimpArgs false

/-! ### spec_l12Agg: function 30 -/
def spec_l12Agg.l0 : Nat → ByteArray → List (S24) → Int → Int → Int → Int → ByteArray → Option (Int × Int × ByteArray × Int)
 | 0, _, _, _, _, _, _, _ => none
 | k + 1, x0, x1, x6, x8, x103000, x103001, x103002 => if x8 < (x1.length : Int) then (if 0 ≤ x8 then (if ((rd_T24 x1 x8).f0) = 0 then (spec_l12Agg.l0 k x0 x1 x6 (wrap64 (x8 + 1)) x103000 x103001 x103002) else (if x0.toList = ([115, 117, 109] : List UInt8) then (if x103000 = 0 then (spec_l12Agg.l0 k x0 x1 (wrap64 (x6 + 1)) (wrap64 (x8 + 1)) ((rd_T24 x1 x8).f0) ((rd_T24 x1 x8).f1) ((rd_T24 x1 x8).f2)) else ((spec_l12Add.f x103001 ((rd_T24 x1 x8).f1)).bind fun bt108 => (if bt108.2 = true then (spec_l12Agg.l0 k x0 x1 (wrap64 (x6 + 1)) (wrap64 (x8 + 1)) x103000 bt108.1 x103002) else (some (0, 0, (⟨#[]⟩ : ByteArray), 4))))) else (if x0.toList = ([109, 105, 110] : List UInt8) then (if x103000 = 0 then (spec_l12Agg.l0 k x0 x1 (wrap64 (x6 + 1)) (wrap64 (x8 + 1)) ((rd_T24 x1 x8).f0) ((rd_T24 x1 x8).f1) ((rd_T24 x1 x8).f2)) else ((spec_l01Compare.f ((rd_T24 x1 x8).f0) ((rd_T24 x1 x8).f1) ((rd_T24 x1 x8).f2) x103000 x103001 x103002).bind fun t110 => (if t110 < 0 then (spec_l12Agg.l0 k x0 x1 (wrap64 (x6 + 1)) (wrap64 (x8 + 1)) ((rd_T24 x1 x8).f0) ((rd_T24 x1 x8).f1) ((rd_T24 x1 x8).f2)) else (spec_l12Agg.l0 k x0 x1 (wrap64 (x6 + 1)) (wrap64 (x8 + 1)) x103000 x103001 x103002)))) else (if x0.toList = ([109, 97, 120] : List UInt8) then (if x103000 = 0 then (spec_l12Agg.l0 k x0 x1 (wrap64 (x6 + 1)) (wrap64 (x8 + 1)) ((rd_T24 x1 x8).f0) ((rd_T24 x1 x8).f1) ((rd_T24 x1 x8).f2)) else ((spec_l01Compare.f ((rd_T24 x1 x8).f0) ((rd_T24 x1 x8).f1) ((rd_T24 x1 x8).f2) x103000 x103001 x103002).bind fun t111 => (if t111 > 0 then (spec_l12Agg.l0 k x0 x1 (wrap64 (x6 + 1)) (wrap64 (x8 + 1)) ((rd_T24 x1 x8).f0) ((rd_T24 x1 x8).f1) ((rd_T24 x1 x8).f2)) else (spec_l12Agg.l0 k x0 x1 (wrap64 (x6 + 1)) (wrap64 (x8 + 1)) x103000 x103001 x103002)))) else (spec_l12Agg.l0 k x0 x1 (wrap64 (x6 + 1)) (wrap64 (x8 + 1)) x103000 x103001 x103002))))) else (none)) else (if x0.toList = ([99, 111, 117, 110, 116] : List UInt8) then ((spec_l12Int.f x6).bind fun bt103 => (some (bt103.1, bt103.2.1, bt103.2.2, 0))) else (some (x103000, x103001, x103002, 0)))
def spec_l12Agg.f (k : Nat) (a0 : ByteArray) (l1 : List (S24)) : Option (Int × Int × ByteArray × Int) := spec_l12Agg.l0 k a0 l1 0 0 0 0 (⟨#[]⟩ : ByteArray)
theorem spec_l12Agg.mono_l : ∀ k, (∀ y0 y1 y2 y3 y4 y5 y6, LeO (spec_l12Agg.l0 k y0 y1 y2 y3 y4 y5 y6) (spec_l12Agg.l0 (k + 1) y0 y1 y2 y3 y4 y5 y6))
 | 0 => fun _ _ _ _ _ _ _ r h => by simp [spec_l12Agg.l0] at h
 | k + 1 => by
  have ih0 := spec_l12Agg.mono_l k
  intro y0 y1 y2 y3 y4 y5 y6
  unfold spec_l12Agg.l0
  repeat' first | with_reducible (first | exact ih0 _ _ _ _ _ _ _ | exact LeO.refl _ | exact LeO.none _ | refine LeO.ite ?_ ?_ | refine LeO.bind ?_ (fun _ => ?_)) | exact ih0 _ _ _ _ _ _ _ | exact LeO.none _ | refine LeO.ite ?_ ?_ | refine LeO.bind ?_ (fun _ => ?_)
theorem spec_l12Agg.mono : ∀ a0 a1 k, LeO (spec_l12Agg.f k a0 a1) (spec_l12Agg.f (k + 1) a0 a1) := by
 intro a0 a1 k
 have ih0 := spec_l12Agg.mono_l k
 unfold spec_l12Agg.f
 repeat' first
   | (with_reducible exact ih0 _ _ _ _ _ _ _)
   | (with_reducible exact LeO.refl _)
   | (with_reducible exact LeO.none _)
   | (with_reducible refine LeO.ite ?_ ?_)
   | (with_reducible refine LeO.bind ?_ (fun _ => ?_))
   | exact ih0 _ _ _ _ _ _ _
   | exact LeO.none _
   | refine LeO.ite ?_ ?_
   | refine LeO.bind ?_ (fun _ => ?_)
theorem spec_l12Agg.calls (k : Nat) (a0 : ByteArray) (A1 : Option Addr) (c1 : Nat) (l1 : List (S24)) (r1 : Int) (r2 : Int) (r3 : ByteArray) (r4 : Int) (w : World) (hr1 : Kd.C k24 w A1 l1.length l1) (hc1 : l1.length ≤ c1) (h : spec_l12Agg.f k a0 l1 = some (r1, r2, r3, r4)) :
  Calls Try.prog 30 #[.string a0, .slice A1 l1.length c1] w fun e w' => e = .returned (.tuple #[.agg #[.int .i64 r1, .int .i64 r2, .string r3], .int .i64 r4]) ∧ Below w.heap.size w w' := by
 have hu24 := Try.underlying24
 have HR1 := ak_ hr1
 have HC1 := ak_ hc1
 clear hr1 hc1
 have HB := ak_ (Below.refl w.heap.size w)
 have H : (spec_l12Agg.l0 k a0 l1 0 0 0 0 (⟨#[]⟩ : ByteArray)) = some (r1, r2, r3, r4) := h
 clear h
 have H' := ak_ H
 clear H
 go_enter Try.func30, Try.ntmps30
 go_wp2_with (first | ((with_reducible refine gate_dst (N := 4) rfl ?_); refine bx_ 4 (cs := #[.int .i64 0, .int .i64 0, .string (⟨#[]⟩ : ByteArray)]) (t := 24) (h_ := ?_); intro gb101 hg w3 hbox hb; have n_ := a4_ (below_step z0_ hb) (hbox) ((gs_ w hg (below_size z0_))) ((gs_ w hg (below_size z0_))); clear HB; obtain ⟨HB, BK101, GW101, GE101⟩ := n_; clear hb hbox hg) | ((with_reducible refine gate_dst (N := 7) rfl ?_); refine bx_ 7 (cs := #[.int .i64 0, .int .i64 0, .string (⟨#[]⟩ : ByteArray)]) (t := 24) (h_ := ?_); intro gb102 hg w4 hbox hb; have n_ := a7_ (blk_below (g := gb101) (o := .cells #[.int .i64 0, .int .i64 0, .string (⟨#[]⟩ : ByteArray)] 24 (0, 0)) z2_ hb) (below_step z1_ hb) (hbox) ((gs_ w hg (below_size z1_))) ((gs_ w hg (below_size z1_))) ((z82_ : gb101 ≠ gb102)) ((z83_ : gb102 ≠ gb101)); clear BK101 HB; obtain ⟨BK101, HB, BK102, GW102, GE102, NB101_102, NB102_101⟩ := n_; clear hb hbox hg; have hnb5 := NB102_101.out; have hnc5 := NB101_102.out; obtain ⟨hcz6_0, hcz6_1, hcz6_2, hfz6_0, hfz6_1, hfz6_2⟩ := bcf3 BK102.out))
 go_loopg [6, 8] k (fun kq v6 v8 w' => ∃ (x6_1 : Int) (x8_1 : Int) (x102000_1 : Int) (x102001_1 : Int) (x102002_1 : ByteArray) (x103000_1 : Int) (x103001_1 : Int) (x103002_1 : ByteArray), v6 = .int .i64 x6_1 ∧ v8 = .int .i64 x8_1 ∧ Aside0 (spec_l12Agg.l0 kq a0 l1 x6_1 x8_1 x103000_1 x103001_1 x103002_1 = some (r1, r2, r3, r4)) ∧ Aside0 (kq ≤ k) ∧ Aside0 (w'.heap[gb101]? = some (.cells #[.int .i64 x102000_1, .int .i64 x102001_1, .string x102002_1] 24 (0, 0))) ∧ Aside0 (w'.heap[gb102]? = some (.cells #[.int .i64 x103000_1, .int .i64 x103001_1, .string x103002_1] 24 (0, 0))) ∧ Aside0 (Below w.heap.size w w'))
 case atStart => exact ⟨(0), (0), (0), (0), ((⟨#[]⟩ : ByteArray)), (0), (0), ((⟨#[]⟩ : ByteArray)), z12_, z12_, H', ⟨Nat.le_refl _⟩, ⟨z47_⟩, ⟨by (with_reducible repeat (first | refine blk_drewN ?_ _ | refine blk_drew ?_ | refine blk_alloc ?_ _)); refine blk_put (cs := #[.int .i64 0, .int .i64 0, .string (⟨#[]⟩ : ByteArray)]) ?_ 2 _ rfl; (with_reducible repeat (first | refine blk_drewN ?_ _ | refine blk_drew ?_ | refine blk_alloc ?_ _)); refine blk_put (cs := #[.int .i64 0, .int .i64 0, .string (⟨#[]⟩ : ByteArray)]) ?_ 1 _ rfl; (with_reducible repeat (first | refine blk_drewN ?_ _ | refine blk_drew ?_ | refine blk_alloc ?_ _)); refine blk_put (cs := #[.int .i64 0, .int .i64 0, .string (⟨#[]⟩ : ByteArray)]) ?_ 0 _ rfl; (with_reducible repeat (first | refine blk_drewN ?_ _ | refine blk_drew ?_ | refine blk_alloc ?_ _)); exact BK102.out⟩, ⟨z5_⟩⟩
 case round =>
  clear H'
  try clear c1
  try clear p2
  try clear c3
  try clear c5
  try clear hcz6_0
  try clear hcz6_1
  try clear hcz6_2
  try clear hfz6_0
  try clear hfz6_1
  try clear hfz6_2
  obtain ⟨x6_1, x8_1, x102000_1, x102001_1, x102002_1, x103000_1, x103001_1, x103002_1, rfl, rfl, HA, HK1, BK101, BK102, HB⟩ := hrel
  cases gk with
  | zero => exact absurd HA.out (by simp [spec_l12Agg.l0])
  | succ k1 =>
   have H := HA.out
   clear HA
   simp only [spec_l12Agg.l0] at H
   by_cases c7 : x8_1 < (l1.length : Int)
   rotate_left
   ·rw [if_neg c7] at H
    have c7b0 := decide_eq_false c7
    clear c7
    by_cases c93 : a0.toList = ([99, 111, 117, 110, 116] : List UInt8)
    ·rw [if_pos c93] at H
     have c93b0 : (a0.toList == ([99, 111, 117, 110, 116] : List UInt8)) = true := beq_iff_eq.mpr c93
     have c93b1 : (a0.toList != ([99, 111, 117, 110, 116] : List UInt8)) = false := bne_eq_false_iff_eq.mpr c93
     clear c93
     replace H := Option.bind_eq_some_iff.mp H
     obtain ⟨⟨t103, t104, t105⟩, A940, H⟩ := H
     replace H : (some (t103, t104, t105, 0)) = some (r1, r2, r3, r4) := H
     have A94 := ak_ A940
     clear A940
     simp only [Option.some.injEq, Prod.mk.injEq] at H
     obtain ⟨rfl, rfl, rfl, rfl⟩ := H
     go_wp2_with (first | ((with_reducible refine gate_callee (f := 51) rfl ?_); refine goesL_ (some 75) rfl rfl Try.func51 (by kernel_rfl) rfl #[.int .i64 x6_1] rfl z3_ ?_; (with_reducible refine (spec_l12Int.calls x6_1 t103 t104 t105 _ A94.out).mono ?_); rintro e w95 ⟨rfl, hb⟩; refine ⟨_, rfl, ?_⟩; have n_ := a3_ (blk_below (g := gb101) (o := .cells #[.int .i64 x102000_1, .int .i64 x102001_1, .string x102002_1] 24 (0, 0)) z2_ hb) (blk_below (g := gb102) (o := .cells #[.int .i64 x103000_1, .int .i64 x103001_1, .string x103002_1] 24 (0, 0)) z13_ hb) (below_step z5_ hb); clear BK101 BK102 HB; obtain ⟨BK101, BK102, HB⟩ := n_; (try clear hb); (try clear hb2); (try clear hk); (try clear hi); have hnb96 := NB101_102.out; have hnc96 := NB102_101.out; obtain ⟨hcz97_0, hcz97_1, hcz97_2, hfz97_0, hfz97_1, hfz97_2⟩ := bcf3 BK101.out))
     refine bodyPost_ret (results_ct rfl _ _ gb101 24 #[.int .i64 t103, .int .i64 t104, .string t105] (0, 0) _ rfl (by (with_reducible repeat (first | refine blk_drewN ?_ _ | refine blk_drew ?_ | refine blk_alloc ?_ _)); refine blk_put (cs := #[.int .i64 t103, .int .i64 t104, .string x102002_1]) ?_ 2 _ rfl; (with_reducible repeat (first | refine blk_drewN ?_ _ | refine blk_drew ?_ | refine blk_alloc ?_ _)); refine blk_put (cs := #[.int .i64 t103, .int .i64 x102001_1, .string x102002_1]) ?_ 1 _ rfl; (with_reducible repeat (first | refine blk_drewN ?_ _ | refine blk_drew ?_ | refine blk_alloc ?_ _)); refine blk_put (cs := #[.int .i64 x102000_1, .int .i64 x102001_1, .string x102002_1]) ?_ 0 _ rfl; (with_reducible repeat (first | refine blk_drewN ?_ _ | refine blk_drew ?_ | refine blk_alloc ?_ _)); exact BK101.out) Try.underlying24 rfl (by kernel_rfl)) rfl ?_
     exact ⟨z10_, z5_⟩
    ·rw [if_neg c93] at H
     have c93b0 : (a0.toList == ([99, 111, 117, 110, 116] : List UInt8)) = false := beq_eq_false_iff_ne.mpr c93
     have c93b1 : (a0.toList != ([99, 111, 117, 110, 116] : List UInt8)) = true := bne_iff_ne.mpr c93
     simp only [Option.some.injEq, Prod.mk.injEq] at H
     obtain ⟨rfl, rfl, rfl, rfl⟩ := H
     have hnb98 := NB102_101.out
     have hnc98 := NB101_102.out
     obtain ⟨hcz99_0, hcz99_1, hcz99_2, hfz99_0, hfz99_1, hfz99_2⟩ := bcf3 BK102.out
     obtain ⟨hcz100_0, hcz100_1, hcz100_2, hfz100_0, hfz100_1, hfz100_2⟩ := bcf3 BK101.out
     go_wp2
     refine bodyPost_ret (results_ct rfl _ _ gb101 24 #[.int .i64 x103000_1, .int .i64 x103001_1, .string x103002_1] (0, 0) _ rfl (by (with_reducible repeat (first | refine blk_drewN ?_ _ | refine blk_drew ?_ | refine blk_alloc ?_ _)); refine blk_put (cs := #[.int .i64 x103000_1, .int .i64 x103001_1, .string x102002_1]) ?_ 2 _ rfl; (with_reducible repeat (first | refine blk_drewN ?_ _ | refine blk_drew ?_ | refine blk_alloc ?_ _)); refine blk_put (cs := #[.int .i64 x103000_1, .int .i64 x102001_1, .string x102002_1]) ?_ 1 _ rfl; (with_reducible repeat (first | refine blk_drewN ?_ _ | refine blk_drew ?_ | refine blk_alloc ?_ _)); refine blk_put (cs := #[.int .i64 x102000_1, .int .i64 x102001_1, .string x102002_1]) ?_ 0 _ rfl; (with_reducible repeat (first | refine blk_drewN ?_ _ | refine blk_drew ?_ | refine blk_alloc ?_ _)); exact BK101.out) Try.underlying24 rfl (by kernel_rfl)) rfl ?_
     exact ⟨z10_, z5_⟩

   rw [if_pos c7] at H
   have c7b0 := decide_eq_true c7
   clear c7
   by_cases c8 : 0 ≤ x8_1
   rotate_left
   ·rw [if_neg c8] at H
    exact absurd H (by simp)
   rw [if_pos c8] at H
   have c8b0 := decide_eq_true c8
   clear c8
   by_cases c9 : ((rd_T24 l1 x8_1).f0) = 0
   ·rw [if_pos c9] at H
    have c9b0 : (((rd_T24 l1 x8_1).f0) == 0) = true := beq_iff_eq.mpr c9
    have c9b1 : (((rd_T24 l1 x8_1).f0) != 0) = false := bne_eq_false_iff_eq.mpr c9
    clear c9
    have H' := ak_ H
    clear H
    have p106 : 0 ≤ (x8_1 : Int) := of_decide_eq_true z11_
    have q106 : x8_1 < (l1.length : Int) := of_decide_eq_true z11_
    obtain ⟨ad106, e106, hx106_0, hx106_1, hx106_2⟩ := at_T24 HR1.out x8_1 p106 q106
    cases e106
    replace hx106_0 := oc_ HB.out hx106_0
    replace hx106_1 := oc_ HB.out hx106_1
    replace hx106_2 := oc_ HB.out hx106_2
    replace p106 := eq_true p106
    replace q106 := eq_true q106
    go_wp2_with (first | ((with_reducible refine gate_dst (N := 9) rfl ?_); refine bx_ 9 (cs := #[.int .i64 0, .int .i64 0, .string (⟨#[]⟩ : ByteArray)]) (t := 24) (h_ := ?_); intro gb107 hg w10 hbox hb; have n_ := a10_ (blk_below (g := gb101) (o := .cells #[.int .i64 x102000_1, .int .i64 x102001_1, .string x102002_1] 24 (0, 0)) z2_ hb) (blk_below (g := gb102) (o := .cells #[.int .i64 x103000_1, .int .i64 x103001_1, .string x103002_1] 24 (0, 0)) z13_ hb) (below_step z5_ hb) (hbox) ((gs_ w hg (below_size z5_))) ((gs_ w hg (below_size z5_))) ((z43_ : gb101 ≠ gb107)) ((z44_ : gb107 ≠ gb101)) ((z41_ : gb102 ≠ gb107)) ((z42_ : gb107 ≠ gb102)); clear BK101 BK102 HB; obtain ⟨BK101, BK102, HB, BK107, GW107, GE107, NB101_107, NB107_101, NB102_107, NB107_102⟩ := n_; clear hb hbox hg; have hnb11 := NB107_101.out; have hnc11 := NB101_107.out; have hnb12 := NB107_102.out; have hnc12 := NB102_107.out; obtain ⟨hcz13_0, hcz13_1, hcz13_2, hfz13_0, hfz13_1, hfz13_2⟩ := bcf3 BK107.out))
    go_roundg k1
    case measure => have := HK1.out; omega
    case rel => exact ⟨(x6_1), (wrap64 (x8_1 + 1)), (x102000_1), (x102001_1), (x102002_1), (x103000_1), (x103001_1), (x103002_1), z12_, z12_, H', ⟨by have := HK1.out; omega⟩, ⟨z23_⟩, ⟨z24_⟩, ⟨z18_⟩⟩
   rw [if_neg c9] at H
   have c9b0 : (((rd_T24 l1 x8_1).f0) == 0) = false := beq_eq_false_iff_ne.mpr c9
   have c9b1 : (((rd_T24 l1 x8_1).f0) != 0) = true := bne_iff_ne.mpr c9
   by_cases c14 : a0.toList = ([115, 117, 109] : List UInt8)
   ·rw [if_pos c14] at H
    have c14b0 : (a0.toList == ([115, 117, 109] : List UInt8)) = true := beq_iff_eq.mpr c14
    have c14b1 : (a0.toList != ([115, 117, 109] : List UInt8)) = false := bne_eq_false_iff_eq.mpr c14
    clear c14
    by_cases c15 : x103000_1 = 0
    ·rw [if_pos c15] at H
     have c15b0 : (x103000_1 == 0) = true := beq_iff_eq.mpr c15
     have c15b1 : (x103000_1 != 0) = false := bne_eq_false_iff_eq.mpr c15
     clear c15
     have H' := ak_ H
     clear H
     have p106 : 0 ≤ (x8_1 : Int) := of_decide_eq_true z11_
     have q106 : x8_1 < (l1.length : Int) := of_decide_eq_true z11_
     obtain ⟨ad106, e106, hx106_0, hx106_1, hx106_2⟩ := at_T24 HR1.out x8_1 p106 q106
     cases e106
     replace hx106_0 := oc_ HB.out hx106_0
     replace hx106_1 := oc_ HB.out hx106_1
     replace hx106_2 := oc_ HB.out hx106_2
     replace p106 := eq_true p106
     replace q106 := eq_true q106
     go_wp2_with (first | ((with_reducible refine gate_dst (N := 9) rfl ?_); refine bx_ 9 (cs := #[.int .i64 0, .int .i64 0, .string (⟨#[]⟩ : ByteArray)]) (t := 24) (h_ := ?_); intro gb107 hg w16 hbox hb; have n_ := a10_ (blk_below (g := gb101) (o := .cells #[.int .i64 x102000_1, .int .i64 x102001_1, .string x102002_1] 24 (0, 0)) z2_ hb) (blk_below (g := gb102) (o := .cells #[.int .i64 x103000_1, .int .i64 x103001_1, .string x103002_1] 24 (0, 0)) z13_ hb) (below_step z5_ hb) (hbox) ((gs_ w hg (below_size z5_))) ((gs_ w hg (below_size z5_))) ((z43_ : gb101 ≠ gb107)) ((z44_ : gb107 ≠ gb101)) ((z41_ : gb102 ≠ gb107)) ((z42_ : gb107 ≠ gb102)); clear BK101 BK102 HB; obtain ⟨BK101, BK102, HB, BK107, GW107, GE107, NB101_107, NB107_101, NB102_107, NB107_102⟩ := n_; clear hb hbox hg; have hnb17 := NB107_101.out; have hnc17 := NB101_107.out; have hnb18 := NB107_102.out; have hnc18 := NB102_107.out; obtain ⟨hcz19_0, hcz19_1, hcz19_2, hfz19_0, hfz19_1, hfz19_2⟩ := bcf3 BK107.out; have hnb20 := NB102_101.out; have hnc20 := NB101_102.out; obtain ⟨hcz21_0, hcz21_1, hcz21_2, hfz21_0, hfz21_1, hfz21_2⟩ := bcf3 BK102.out))
     go_roundg k1
     case measure => have := HK1.out; omega
     case rel => exact ⟨(wrap64 (x6_1 + 1)), (wrap64 (x8_1 + 1)), (x102000_1), (x102001_1), (x102002_1), ((rd_T24 l1 x8_1).f0), ((rd_T24 l1 x8_1).f1), ((rd_T24 l1 x8_1).f2), z12_, z12_, H', ⟨by have := HK1.out; omega⟩, ⟨z32_⟩, ⟨z27_⟩, ⟨z18_⟩⟩
    ·rw [if_neg c15] at H
     have c15b0 : (x103000_1 == 0) = false := beq_eq_false_iff_ne.mpr c15
     have c15b1 : (x103000_1 != 0) = true := bne_iff_ne.mpr c15
     replace H := Option.bind_eq_some_iff.mp H
     obtain ⟨⟨t108, t109⟩, A220, H⟩ := H
     replace H : (if t109 = true then (spec_l12Agg.l0 k1 a0 l1 (wrap64 (x6_1 + 1)) (wrap64 (x8_1 + 1)) x103000_1 t108 x103002_1) else (some (0, 0, (⟨#[]⟩ : ByteArray), 4))) = some (r1, r2, r3, r4) := H
     have A22 := ak_ A220
     clear A220
     by_cases c23 : t109 = true
     ·subst c23
      have H1 : (spec_l12Agg.l0 k1 a0 l1 (wrap64 (x6_1 + 1)) (wrap64 (x8_1 + 1)) x103000_1 t108 x103002_1) = some (r1, r2, r3, r4) := by rw [if_pos rfl] at H; exact H
      clear H
      have H := H1
      clear H1
      have H' := ak_ H
      clear H
      have p106 : 0 ≤ (x8_1 : Int) := of_decide_eq_true z11_
      have q106 : x8_1 < (l1.length : Int) := of_decide_eq_true z11_
      obtain ⟨ad106, e106, hx106_0, hx106_1, hx106_2⟩ := at_T24 HR1.out x8_1 p106 q106
      cases e106
      replace hx106_0 := oc_ HB.out hx106_0
      replace hx106_1 := oc_ HB.out hx106_1
      replace hx106_2 := oc_ HB.out hx106_2
      replace p106 := eq_true p106
      replace q106 := eq_true q106
      go_wp2_with (first | ((with_reducible refine gate_dst (N := 9) rfl ?_); refine bx_ 9 (cs := #[.int .i64 0, .int .i64 0, .string (⟨#[]⟩ : ByteArray)]) (t := 24) (h_ := ?_); intro gb107 hg w24 hbox hb; have n_ := a10_ (blk_below (g := gb101) (o := .cells #[.int .i64 x102000_1, .int .i64 x102001_1, .string x102002_1] 24 (0, 0)) z2_ hb) (blk_below (g := gb102) (o := .cells #[.int .i64 x103000_1, .int .i64 x103001_1, .string x103002_1] 24 (0, 0)) z13_ hb) (below_step z5_ hb) (hbox) ((gs_ w hg (below_size z5_))) ((gs_ w hg (below_size z5_))) ((z43_ : gb101 ≠ gb107)) ((z44_ : gb107 ≠ gb101)) ((z41_ : gb102 ≠ gb107)) ((z42_ : gb107 ≠ gb102)); clear BK101 BK102 HB; obtain ⟨BK101, BK102, HB, BK107, GW107, GE107, NB101_107, NB107_101, NB102_107, NB107_102⟩ := n_; clear hb hbox hg; have hnb25 := NB107_101.out; have hnc25 := NB101_107.out; have hnb26 := NB107_102.out; have hnc26 := NB102_107.out; obtain ⟨hcz27_0, hcz27_1, hcz27_2, hfz27_0, hfz27_1, hfz27_2⟩ := bcf3 BK107.out; have hnb28 := NB102_101.out; have hnc28 := NB101_102.out; obtain ⟨hcz29_0, hcz29_1, hcz29_2, hfz29_0, hfz29_1, hfz29_2⟩ := bcf3 BK102.out) | ((with_reducible refine gate_callee (f := 61) rfl ?_); refine goesL_ (some 40) rfl rfl Try.func61 (by kernel_rfl) rfl #[.int .i64 x103001_1, .int .i64 ((rd_T24 l1 x8_1).f1)] rfl z3_ ?_; (with_reducible refine (spec_l12Add.calls x103001_1 ((rd_T24 l1 x8_1).f1) t108 true _ A22.out).mono ?_); rintro e w' ⟨rfl, ⟨nd, rfl⟩⟩; refine ⟨_, rfl, ?_⟩))
      go_roundg k1
      case measure => have := HK1.out; omega
      case rel => exact ⟨(wrap64 (x6_1 + 1)), (wrap64 (x8_1 + 1)), (x102000_1), (x102001_1), (x102002_1), (x103000_1), (t108), (x103002_1), z12_, z12_, H', ⟨by have := HK1.out; omega⟩, ⟨by (with_reducible repeat (first | refine blk_drewN ?_ _ | refine blk_drew ?_ | refine blk_alloc ?_ _)); refine blk_far ?_ NB101_102.out _; (with_reducible repeat (first | refine blk_drewN ?_ _ | refine blk_drew ?_ | refine blk_alloc ?_ _)); refine blk_far ?_ NB101_107.out _; (with_reducible repeat (first | refine blk_drewN ?_ _ | refine blk_drew ?_ | refine blk_alloc ?_ _)); refine blk_far ?_ NB101_107.out _; (with_reducible repeat (first | refine blk_drewN ?_ _ | refine blk_drew ?_ | refine blk_alloc ?_ _)); refine blk_far ?_ NB101_107.out _; (with_reducible repeat (first | refine blk_drewN ?_ _ | refine blk_drew ?_ | refine blk_alloc ?_ _)); exact BK101.out⟩, ⟨by (with_reducible repeat (first | refine blk_drewN ?_ _ | refine blk_drew ?_ | refine blk_alloc ?_ _)); refine blk_put (cs := #[.int .i64 x103000_1, .int .i64 x103001_1, .string x103002_1]) ?_ 1 _ rfl; (with_reducible repeat (first | refine blk_drewN ?_ _ | refine blk_drew ?_ | refine blk_alloc ?_ _)); refine blk_far ?_ NB102_107.out _; (with_reducible repeat (first | refine blk_drewN ?_ _ | refine blk_drew ?_ | refine blk_alloc ?_ _)); refine blk_far ?_ NB102_107.out _; (with_reducible repeat (first | refine blk_drewN ?_ _ | refine blk_drew ?_ | refine blk_alloc ?_ _)); refine blk_far ?_ NB102_107.out _; (with_reducible repeat (first | refine blk_drewN ?_ _ | refine blk_drew ?_ | refine blk_alloc ?_ _)); exact BK102.out⟩, ⟨z18_⟩⟩
     ·replace c23 := Bool.eq_false_iff.mpr c23
      subst c23
      have H1 : (some (0, 0, (⟨#[]⟩ : ByteArray), 4)) = some (r1, r2, r3, r4) := by rw [if_neg (show ¬ (false = true) by decide)] at H; exact H
      clear H
      have H := H1
      clear H1
      simp only [Option.some.injEq, Prod.mk.injEq] at H
      obtain ⟨rfl, rfl, rfl, rfl⟩ := H
      have p106 : 0 ≤ (x8_1 : Int) := of_decide_eq_true z11_
      have q106 : x8_1 < (l1.length : Int) := of_decide_eq_true z11_
      obtain ⟨ad106, e106, hx106_0, hx106_1, hx106_2⟩ := at_T24 HR1.out x8_1 p106 q106
      cases e106
      replace hx106_0 := oc_ HB.out hx106_0
      replace hx106_1 := oc_ HB.out hx106_1
      replace hx106_2 := oc_ HB.out hx106_2
      replace p106 := eq_true p106
      replace q106 := eq_true q106
      go_wp2_with (first | ((with_reducible refine gate_dst (N := 9) rfl ?_); refine bx_ 9 (cs := #[.int .i64 0, .int .i64 0, .string (⟨#[]⟩ : ByteArray)]) (t := 24) (h_ := ?_); intro gb107 hg w30 hbox hb; have n_ := a10_ (blk_below (g := gb101) (o := .cells #[.int .i64 x102000_1, .int .i64 x102001_1, .string x102002_1] 24 (0, 0)) z2_ hb) (blk_below (g := gb102) (o := .cells #[.int .i64 x103000_1, .int .i64 x103001_1, .string x103002_1] 24 (0, 0)) z13_ hb) (below_step z5_ hb) (hbox) ((gs_ w hg (below_size z5_))) ((gs_ w hg (below_size z5_))) ((z43_ : gb101 ≠ gb107)) ((z44_ : gb107 ≠ gb101)) ((z41_ : gb102 ≠ gb107)) ((z42_ : gb107 ≠ gb102)); clear BK101 BK102 HB; obtain ⟨BK101, BK102, HB, BK107, GW107, GE107, NB101_107, NB107_101, NB102_107, NB107_102⟩ := n_; clear hb hbox hg; have hnb31 := NB107_101.out; have hnc31 := NB101_107.out; have hnb32 := NB107_102.out; have hnc32 := NB102_107.out; obtain ⟨hcz33_0, hcz33_1, hcz33_2, hfz33_0, hfz33_1, hfz33_2⟩ := bcf3 BK107.out; have hnb34 := NB102_101.out; have hnc34 := NB101_102.out; obtain ⟨hcz35_0, hcz35_1, hcz35_2, hfz35_0, hfz35_1, hfz35_2⟩ := bcf3 BK102.out) | ((with_reducible refine gate_callee (f := 61) rfl ?_); refine goesL_ (some 40) rfl rfl Try.func61 (by kernel_rfl) rfl #[.int .i64 x103001_1, .int .i64 ((rd_T24 l1 x8_1).f1)] rfl z3_ ?_; (with_reducible refine (spec_l12Add.calls x103001_1 ((rd_T24 l1 x8_1).f1) t108 false _ A22.out).mono ?_); rintro e w' ⟨rfl, ⟨nd, rfl⟩⟩; refine ⟨_, rfl, ?_⟩; obtain ⟨hcz36_0, hcz36_1, hcz36_2, hfz36_0, hfz36_1, hfz36_2⟩ := bcf3 BK101.out))
      refine bodyPost_ret (results_ct rfl _ _ gb101 24 #[.int .i64 0, .int .i64 0, .string (⟨#[]⟩ : ByteArray)] (0, 0) _ rfl (by (with_reducible repeat (first | refine blk_drewN ?_ _ | refine blk_drew ?_ | refine blk_alloc ?_ _)); refine blk_put (cs := #[.int .i64 0, .int .i64 0, .string x102002_1]) ?_ 2 _ rfl; (with_reducible repeat (first | refine blk_drewN ?_ _ | refine blk_drew ?_ | refine blk_alloc ?_ _)); refine blk_put (cs := #[.int .i64 0, .int .i64 x102001_1, .string x102002_1]) ?_ 1 _ rfl; (with_reducible repeat (first | refine blk_drewN ?_ _ | refine blk_drew ?_ | refine blk_alloc ?_ _)); refine blk_put (cs := #[.int .i64 x102000_1, .int .i64 x102001_1, .string x102002_1]) ?_ 0 _ rfl; (with_reducible repeat (first | refine blk_drewN ?_ _ | refine blk_drew ?_ | refine blk_alloc ?_ _)); refine blk_far ?_ NB101_107.out _; (with_reducible repeat (first | refine blk_drewN ?_ _ | refine blk_drew ?_ | refine blk_alloc ?_ _)); refine blk_far ?_ NB101_107.out _; (with_reducible repeat (first | refine blk_drewN ?_ _ | refine blk_drew ?_ | refine blk_alloc ?_ _)); refine blk_far ?_ NB101_107.out _; (with_reducible repeat (first | refine blk_drewN ?_ _ | refine blk_drew ?_ | refine blk_alloc ?_ _)); exact BK101.out) Try.underlying24 rfl (by kernel_rfl)) rfl ?_
      exact ⟨z10_, z18_⟩
   rw [if_neg c14] at H
   have c14b0 : (a0.toList == ([115, 117, 109] : List UInt8)) = false := beq_eq_false_iff_ne.mpr c14
   have c14b1 : (a0.toList != ([115, 117, 109] : List UInt8)) = true := bne_iff_ne.mpr c14
   by_cases c37 : a0.toList = ([109, 105, 110] : List UInt8)
   ·rw [if_pos c37] at H
    have c37b0 : (a0.toList == ([109, 105, 110] : List UInt8)) = true := beq_iff_eq.mpr c37
    have c37b1 : (a0.toList != ([109, 105, 110] : List UInt8)) = false := bne_eq_false_iff_eq.mpr c37
    clear c37
    by_cases c38 : x103000_1 = 0
    ·rw [if_pos c38] at H
     have c38b0 : (x103000_1 == 0) = true := beq_iff_eq.mpr c38
     have c38b1 : (x103000_1 != 0) = false := bne_eq_false_iff_eq.mpr c38
     clear c38
     have H' := ak_ H
     clear H
     have p106 : 0 ≤ (x8_1 : Int) := of_decide_eq_true z11_
     have q106 : x8_1 < (l1.length : Int) := of_decide_eq_true z11_
     obtain ⟨ad106, e106, hx106_0, hx106_1, hx106_2⟩ := at_T24 HR1.out x8_1 p106 q106
     cases e106
     replace hx106_0 := oc_ HB.out hx106_0
     replace hx106_1 := oc_ HB.out hx106_1
     replace hx106_2 := oc_ HB.out hx106_2
     replace p106 := eq_true p106
     replace q106 := eq_true q106
     go_wp2_with (first | ((with_reducible refine gate_dst (N := 9) rfl ?_); refine bx_ 9 (cs := #[.int .i64 0, .int .i64 0, .string (⟨#[]⟩ : ByteArray)]) (t := 24) (h_ := ?_); intro gb107 hg w39 hbox hb; have n_ := a10_ (blk_below (g := gb101) (o := .cells #[.int .i64 x102000_1, .int .i64 x102001_1, .string x102002_1] 24 (0, 0)) z2_ hb) (blk_below (g := gb102) (o := .cells #[.int .i64 x103000_1, .int .i64 x103001_1, .string x103002_1] 24 (0, 0)) z13_ hb) (below_step z5_ hb) (hbox) ((gs_ w hg (below_size z5_))) ((gs_ w hg (below_size z5_))) ((z43_ : gb101 ≠ gb107)) ((z44_ : gb107 ≠ gb101)) ((z41_ : gb102 ≠ gb107)) ((z42_ : gb107 ≠ gb102)); clear BK101 BK102 HB; obtain ⟨BK101, BK102, HB, BK107, GW107, GE107, NB101_107, NB107_101, NB102_107, NB107_102⟩ := n_; clear hb hbox hg; have hnb40 := NB107_101.out; have hnc40 := NB101_107.out; have hnb41 := NB107_102.out; have hnc41 := NB102_107.out; obtain ⟨hcz42_0, hcz42_1, hcz42_2, hfz42_0, hfz42_1, hfz42_2⟩ := bcf3 BK107.out; have hnb43 := NB102_101.out; have hnc43 := NB101_102.out; obtain ⟨hcz44_0, hcz44_1, hcz44_2, hfz44_0, hfz44_1, hfz44_2⟩ := bcf3 BK102.out))
     go_roundg k1
     case measure => have := HK1.out; omega
     case rel => exact ⟨(wrap64 (x6_1 + 1)), (wrap64 (x8_1 + 1)), (x102000_1), (x102001_1), (x102002_1), ((rd_T24 l1 x8_1).f0), ((rd_T24 l1 x8_1).f1), ((rd_T24 l1 x8_1).f2), z12_, z12_, H', ⟨by have := HK1.out; omega⟩, ⟨z32_⟩, ⟨z27_⟩, ⟨z18_⟩⟩
    ·rw [if_neg c38] at H
     have c38b0 : (x103000_1 == 0) = false := beq_eq_false_iff_ne.mpr c38
     have c38b1 : (x103000_1 != 0) = true := bne_iff_ne.mpr c38
     replace H := Option.bind_eq_some_iff.mp H
     obtain ⟨t110, A450, H⟩ := H
     have A45 := ak_ A450
     clear A450
     by_cases c46 : t110 < 0
     ·rw [if_pos c46] at H
      have c46b0 := decide_eq_true c46
      clear c46
      have H' := ak_ H
      clear H
      have p106 : 0 ≤ (x8_1 : Int) := of_decide_eq_true z11_
      have q106 : x8_1 < (l1.length : Int) := of_decide_eq_true z11_
      obtain ⟨ad106, e106, hx106_0, hx106_1, hx106_2⟩ := at_T24 HR1.out x8_1 p106 q106
      cases e106
      replace hx106_0 := oc_ HB.out hx106_0
      replace hx106_1 := oc_ HB.out hx106_1
      replace hx106_2 := oc_ HB.out hx106_2
      replace p106 := eq_true p106
      replace q106 := eq_true q106
      go_wp2_with (first | ((with_reducible refine gate_dst (N := 9) rfl ?_); refine bx_ 9 (cs := #[.int .i64 0, .int .i64 0, .string (⟨#[]⟩ : ByteArray)]) (t := 24) (h_ := ?_); intro gb107 hg w47 hbox hb; have n_ := a10_ (blk_below (g := gb101) (o := .cells #[.int .i64 x102000_1, .int .i64 x102001_1, .string x102002_1] 24 (0, 0)) z2_ hb) (blk_below (g := gb102) (o := .cells #[.int .i64 x103000_1, .int .i64 x103001_1, .string x103002_1] 24 (0, 0)) z13_ hb) (below_step z5_ hb) (hbox) ((gs_ w hg (below_size z5_))) ((gs_ w hg (below_size z5_))) ((z43_ : gb101 ≠ gb107)) ((z44_ : gb107 ≠ gb101)) ((z41_ : gb102 ≠ gb107)) ((z42_ : gb107 ≠ gb102)); clear BK101 BK102 HB; obtain ⟨BK101, BK102, HB, BK107, GW107, GE107, NB101_107, NB107_101, NB102_107, NB107_102⟩ := n_; clear hb hbox hg; have hnb48 := NB107_101.out; have hnc48 := NB101_107.out; have hnb49 := NB107_102.out; have hnc49 := NB102_107.out; obtain ⟨hcz50_0, hcz50_1, hcz50_2, hfz50_0, hfz50_1, hfz50_2⟩ := bcf3 BK107.out; have hnb51 := NB102_101.out; have hnc51 := NB101_102.out; obtain ⟨hcz52_0, hcz52_1, hcz52_2, hfz52_0, hfz52_1, hfz52_2⟩ := bcf3 BK102.out) | (go_at_call 46; (with_reducible refine (spec_l01Compare.calls ((rd_T24 l1 x8_1).f0) ((rd_T24 l1 x8_1).f1) ((rd_T24 l1 x8_1).f2) x103000_1 x103001_1 x103002_1 t110 _ A45.out).mono ?_); rintro e w53 ⟨rfl, hb⟩; have n_ := a4_ (blk_below (g := gb101) (o := .cells #[.int .i64 x102000_1, .int .i64 x102001_1, .string x102002_1] 24 (0, 0)) z23_ hb) (blk_below (g := gb102) (o := .cells #[.int .i64 x103000_1, .int .i64 x103001_1, .string x103002_1] 24 (0, 0)) z24_ hb) (blk_below (g := gb107) (o := .cells #[.int .i64 ((rd_T24 l1 x8_1).f0), .int .i64 ((rd_T24 l1 x8_1).f1), .string ((rd_T24 l1 x8_1).f2)] 24 (0, 0)) z28_ hb) (below_step z18_ hb); clear BK101 BK102 BK107 HB; obtain ⟨BK101, BK102, BK107, HB⟩ := n_; (try clear hb); (try clear hb2); (try clear hk); (try clear hi); obtain ⟨hcz54_0, hcz54_1, hcz54_2, hfz54_0, hfz54_1, hfz54_2⟩ := bcf3 BK107.out; obtain ⟨hcz55_0, hcz55_1, hcz55_2, hfz55_0, hfz55_1, hfz55_2⟩ := bcf3 BK102.out))
      go_roundg k1
      case measure => have := HK1.out; omega
      case rel => exact ⟨(wrap64 (x6_1 + 1)), (wrap64 (x8_1 + 1)), (x102000_1), (x102001_1), (x102002_1), ((rd_T24 l1 x8_1).f0), ((rd_T24 l1 x8_1).f1), ((rd_T24 l1 x8_1).f2), z12_, z12_, H', ⟨by have := HK1.out; omega⟩, ⟨z47_⟩, ⟨z52_⟩, ⟨z18_⟩⟩
     ·rw [if_neg c46] at H
      have c46b0 := decide_eq_false c46
      clear c46
      have H' := ak_ H
      clear H
      have p106 : 0 ≤ (x8_1 : Int) := of_decide_eq_true z11_
      have q106 : x8_1 < (l1.length : Int) := of_decide_eq_true z11_
      obtain ⟨ad106, e106, hx106_0, hx106_1, hx106_2⟩ := at_T24 HR1.out x8_1 p106 q106
      cases e106
      replace hx106_0 := oc_ HB.out hx106_0
      replace hx106_1 := oc_ HB.out hx106_1
      replace hx106_2 := oc_ HB.out hx106_2
      replace p106 := eq_true p106
      replace q106 := eq_true q106
      go_wp2_with (first | ((with_reducible refine gate_dst (N := 9) rfl ?_); refine bx_ 9 (cs := #[.int .i64 0, .int .i64 0, .string (⟨#[]⟩ : ByteArray)]) (t := 24) (h_ := ?_); intro gb107 hg w56 hbox hb; have n_ := a10_ (blk_below (g := gb101) (o := .cells #[.int .i64 x102000_1, .int .i64 x102001_1, .string x102002_1] 24 (0, 0)) z2_ hb) (blk_below (g := gb102) (o := .cells #[.int .i64 x103000_1, .int .i64 x103001_1, .string x103002_1] 24 (0, 0)) z13_ hb) (below_step z5_ hb) (hbox) ((gs_ w hg (below_size z5_))) ((gs_ w hg (below_size z5_))) ((z43_ : gb101 ≠ gb107)) ((z44_ : gb107 ≠ gb101)) ((z41_ : gb102 ≠ gb107)) ((z42_ : gb107 ≠ gb102)); clear BK101 BK102 HB; obtain ⟨BK101, BK102, HB, BK107, GW107, GE107, NB101_107, NB107_101, NB102_107, NB107_102⟩ := n_; clear hb hbox hg; have hnb57 := NB107_101.out; have hnc57 := NB101_107.out; have hnb58 := NB107_102.out; have hnc58 := NB102_107.out; obtain ⟨hcz59_0, hcz59_1, hcz59_2, hfz59_0, hfz59_1, hfz59_2⟩ := bcf3 BK107.out; have hnb60 := NB102_101.out; have hnc60 := NB101_102.out; obtain ⟨hcz61_0, hcz61_1, hcz61_2, hfz61_0, hfz61_1, hfz61_2⟩ := bcf3 BK102.out) | (go_at_call 46; (with_reducible refine (spec_l01Compare.calls ((rd_T24 l1 x8_1).f0) ((rd_T24 l1 x8_1).f1) ((rd_T24 l1 x8_1).f2) x103000_1 x103001_1 x103002_1 t110 _ A45.out).mono ?_); rintro e w62 ⟨rfl, hb⟩; have n_ := a4_ (blk_below (g := gb101) (o := .cells #[.int .i64 x102000_1, .int .i64 x102001_1, .string x102002_1] 24 (0, 0)) z23_ hb) (blk_below (g := gb102) (o := .cells #[.int .i64 x103000_1, .int .i64 x103001_1, .string x103002_1] 24 (0, 0)) z24_ hb) (blk_below (g := gb107) (o := .cells #[.int .i64 ((rd_T24 l1 x8_1).f0), .int .i64 ((rd_T24 l1 x8_1).f1), .string ((rd_T24 l1 x8_1).f2)] 24 (0, 0)) z28_ hb) (below_step z18_ hb); clear BK101 BK102 BK107 HB; obtain ⟨BK101, BK102, BK107, HB⟩ := n_; (try clear hb); (try clear hb2); (try clear hk); (try clear hi)))
      go_roundg k1
      case measure => have := HK1.out; omega
      case rel => exact ⟨(wrap64 (x6_1 + 1)), (wrap64 (x8_1 + 1)), (x102000_1), (x102001_1), (x102002_1), (x103000_1), (x103001_1), (x103002_1), z12_, z12_, H', ⟨by have := HK1.out; omega⟩, ⟨z2_⟩, ⟨z13_⟩, ⟨z18_⟩⟩
   rw [if_neg c37] at H
   have c37b0 : (a0.toList == ([109, 105, 110] : List UInt8)) = false := beq_eq_false_iff_ne.mpr c37
   have c37b1 : (a0.toList != ([109, 105, 110] : List UInt8)) = true := bne_iff_ne.mpr c37
   by_cases c63 : a0.toList = ([109, 97, 120] : List UInt8)
   rotate_left
   ·rw [if_neg c63] at H
    have c63b0 : (a0.toList == ([109, 97, 120] : List UInt8)) = false := beq_eq_false_iff_ne.mpr c63
    have c63b1 : (a0.toList != ([109, 97, 120] : List UInt8)) = true := bne_iff_ne.mpr c63
    have H' := ak_ H
    clear H
    have p106 : 0 ≤ (x8_1 : Int) := of_decide_eq_true z11_
    have q106 : x8_1 < (l1.length : Int) := of_decide_eq_true z11_
    obtain ⟨ad106, e106, hx106_0, hx106_1, hx106_2⟩ := at_T24 HR1.out x8_1 p106 q106
    cases e106
    replace hx106_0 := oc_ HB.out hx106_0
    replace hx106_1 := oc_ HB.out hx106_1
    replace hx106_2 := oc_ HB.out hx106_2
    replace p106 := eq_true p106
    replace q106 := eq_true q106
    go_wp2_with (first | ((with_reducible refine gate_dst (N := 9) rfl ?_); refine bx_ 9 (cs := #[.int .i64 0, .int .i64 0, .string (⟨#[]⟩ : ByteArray)]) (t := 24) (h_ := ?_); intro gb107 hg w89 hbox hb; have n_ := a10_ (blk_below (g := gb101) (o := .cells #[.int .i64 x102000_1, .int .i64 x102001_1, .string x102002_1] 24 (0, 0)) z2_ hb) (blk_below (g := gb102) (o := .cells #[.int .i64 x103000_1, .int .i64 x103001_1, .string x103002_1] 24 (0, 0)) z13_ hb) (below_step z5_ hb) (hbox) ((gs_ w hg (below_size z5_))) ((gs_ w hg (below_size z5_))) ((z43_ : gb101 ≠ gb107)) ((z44_ : gb107 ≠ gb101)) ((z41_ : gb102 ≠ gb107)) ((z42_ : gb107 ≠ gb102)); clear BK101 BK102 HB; obtain ⟨BK101, BK102, HB, BK107, GW107, GE107, NB101_107, NB107_101, NB102_107, NB107_102⟩ := n_; clear hb hbox hg; have hnb90 := NB107_101.out; have hnc90 := NB101_107.out; have hnb91 := NB107_102.out; have hnc91 := NB102_107.out; obtain ⟨hcz92_0, hcz92_1, hcz92_2, hfz92_0, hfz92_1, hfz92_2⟩ := bcf3 BK107.out))
    go_roundg k1
    case measure => have := HK1.out; omega
    case rel => exact ⟨(wrap64 (x6_1 + 1)), (wrap64 (x8_1 + 1)), (x102000_1), (x102001_1), (x102002_1), (x103000_1), (x103001_1), (x103002_1), z12_, z12_, H', ⟨by have := HK1.out; omega⟩, ⟨z23_⟩, ⟨z24_⟩, ⟨z18_⟩⟩
   rw [if_pos c63] at H
   have c63b0 : (a0.toList == ([109, 97, 120] : List UInt8)) = true := beq_iff_eq.mpr c63
   have c63b1 : (a0.toList != ([109, 97, 120] : List UInt8)) = false := bne_eq_false_iff_eq.mpr c63
   clear c63
   by_cases c64 : x103000_1 = 0
   ·rw [if_pos c64] at H
    have c64b0 : (x103000_1 == 0) = true := beq_iff_eq.mpr c64
    have c64b1 : (x103000_1 != 0) = false := bne_eq_false_iff_eq.mpr c64
    clear c64
    have H' := ak_ H
    clear H
    have p106 : 0 ≤ (x8_1 : Int) := of_decide_eq_true z11_
    have q106 : x8_1 < (l1.length : Int) := of_decide_eq_true z11_
    obtain ⟨ad106, e106, hx106_0, hx106_1, hx106_2⟩ := at_T24 HR1.out x8_1 p106 q106
    cases e106
    replace hx106_0 := oc_ HB.out hx106_0
    replace hx106_1 := oc_ HB.out hx106_1
    replace hx106_2 := oc_ HB.out hx106_2
    replace p106 := eq_true p106
    replace q106 := eq_true q106
    go_wp2_with (first | ((with_reducible refine gate_dst (N := 9) rfl ?_); refine bx_ 9 (cs := #[.int .i64 0, .int .i64 0, .string (⟨#[]⟩ : ByteArray)]) (t := 24) (h_ := ?_); intro gb107 hg w65 hbox hb; have n_ := a10_ (blk_below (g := gb101) (o := .cells #[.int .i64 x102000_1, .int .i64 x102001_1, .string x102002_1] 24 (0, 0)) z2_ hb) (blk_below (g := gb102) (o := .cells #[.int .i64 x103000_1, .int .i64 x103001_1, .string x103002_1] 24 (0, 0)) z13_ hb) (below_step z5_ hb) (hbox) ((gs_ w hg (below_size z5_))) ((gs_ w hg (below_size z5_))) ((z43_ : gb101 ≠ gb107)) ((z44_ : gb107 ≠ gb101)) ((z41_ : gb102 ≠ gb107)) ((z42_ : gb107 ≠ gb102)); clear BK101 BK102 HB; obtain ⟨BK101, BK102, HB, BK107, GW107, GE107, NB101_107, NB107_101, NB102_107, NB107_102⟩ := n_; clear hb hbox hg; have hnb66 := NB107_101.out; have hnc66 := NB101_107.out; have hnb67 := NB107_102.out; have hnc67 := NB102_107.out; obtain ⟨hcz68_0, hcz68_1, hcz68_2, hfz68_0, hfz68_1, hfz68_2⟩ := bcf3 BK107.out; have hnb69 := NB102_101.out; have hnc69 := NB101_102.out; obtain ⟨hcz70_0, hcz70_1, hcz70_2, hfz70_0, hfz70_1, hfz70_2⟩ := bcf3 BK102.out))
    go_roundg k1
    case measure => have := HK1.out; omega
    case rel => exact ⟨(wrap64 (x6_1 + 1)), (wrap64 (x8_1 + 1)), (x102000_1), (x102001_1), (x102002_1), ((rd_T24 l1 x8_1).f0), ((rd_T24 l1 x8_1).f1), ((rd_T24 l1 x8_1).f2), z12_, z12_, H', ⟨by have := HK1.out; omega⟩, ⟨z32_⟩, ⟨z27_⟩, ⟨z18_⟩⟩
   rw [if_neg c64] at H
   have c64b0 : (x103000_1 == 0) = false := beq_eq_false_iff_ne.mpr c64
   have c64b1 : (x103000_1 != 0) = true := bne_iff_ne.mpr c64
   replace H := Option.bind_eq_some_iff.mp H
   obtain ⟨t111, A710, H⟩ := H
   have A71 := ak_ A710
   clear A710
   by_cases c72 : t111 > 0
   rotate_left
   ·rw [if_neg c72] at H
    have c72b0 : decide (0 < t111) = false := decide_eq_false c72
    clear c72
    have H' := ak_ H
    clear H
    have p106 : 0 ≤ (x8_1 : Int) := of_decide_eq_true z11_
    have q106 : x8_1 < (l1.length : Int) := of_decide_eq_true z11_
    obtain ⟨ad106, e106, hx106_0, hx106_1, hx106_2⟩ := at_T24 HR1.out x8_1 p106 q106
    cases e106
    replace hx106_0 := oc_ HB.out hx106_0
    replace hx106_1 := oc_ HB.out hx106_1
    replace hx106_2 := oc_ HB.out hx106_2
    replace p106 := eq_true p106
    replace q106 := eq_true q106
    go_wp2_with (first | ((with_reducible refine gate_dst (N := 9) rfl ?_); refine bx_ 9 (cs := #[.int .i64 0, .int .i64 0, .string (⟨#[]⟩ : ByteArray)]) (t := 24) (h_ := ?_); intro gb107 hg w82 hbox hb; have n_ := a10_ (blk_below (g := gb101) (o := .cells #[.int .i64 x102000_1, .int .i64 x102001_1, .string x102002_1] 24 (0, 0)) z2_ hb) (blk_below (g := gb102) (o := .cells #[.int .i64 x103000_1, .int .i64 x103001_1, .string x103002_1] 24 (0, 0)) z13_ hb) (below_step z5_ hb) (hbox) ((gs_ w hg (below_size z5_))) ((gs_ w hg (below_size z5_))) ((z43_ : gb101 ≠ gb107)) ((z44_ : gb107 ≠ gb101)) ((z41_ : gb102 ≠ gb107)) ((z42_ : gb107 ≠ gb102)); clear BK101 BK102 HB; obtain ⟨BK101, BK102, HB, BK107, GW107, GE107, NB101_107, NB107_101, NB102_107, NB107_102⟩ := n_; clear hb hbox hg; have hnb83 := NB107_101.out; have hnc83 := NB101_107.out; have hnb84 := NB107_102.out; have hnc84 := NB102_107.out; obtain ⟨hcz85_0, hcz85_1, hcz85_2, hfz85_0, hfz85_1, hfz85_2⟩ := bcf3 BK107.out; have hnb86 := NB102_101.out; have hnc86 := NB101_102.out; obtain ⟨hcz87_0, hcz87_1, hcz87_2, hfz87_0, hfz87_1, hfz87_2⟩ := bcf3 BK102.out) | (go_at_call 46; (with_reducible refine (spec_l01Compare.calls ((rd_T24 l1 x8_1).f0) ((rd_T24 l1 x8_1).f1) ((rd_T24 l1 x8_1).f2) x103000_1 x103001_1 x103002_1 t111 _ A71.out).mono ?_); rintro e w88 ⟨rfl, hb⟩; have n_ := a4_ (blk_below (g := gb101) (o := .cells #[.int .i64 x102000_1, .int .i64 x102001_1, .string x102002_1] 24 (0, 0)) z23_ hb) (blk_below (g := gb102) (o := .cells #[.int .i64 x103000_1, .int .i64 x103001_1, .string x103002_1] 24 (0, 0)) z24_ hb) (blk_below (g := gb107) (o := .cells #[.int .i64 ((rd_T24 l1 x8_1).f0), .int .i64 ((rd_T24 l1 x8_1).f1), .string ((rd_T24 l1 x8_1).f2)] 24 (0, 0)) z28_ hb) (below_step z18_ hb); clear BK101 BK102 BK107 HB; obtain ⟨BK101, BK102, BK107, HB⟩ := n_; (try clear hb); (try clear hb2); (try clear hk); (try clear hi)))
    go_roundg k1
    case measure => have := HK1.out; omega
    case rel => exact ⟨(wrap64 (x6_1 + 1)), (wrap64 (x8_1 + 1)), (x102000_1), (x102001_1), (x102002_1), (x103000_1), (x103001_1), (x103002_1), z12_, z12_, H', ⟨by have := HK1.out; omega⟩, ⟨z2_⟩, ⟨z13_⟩, ⟨z18_⟩⟩
   rw [if_pos c72] at H
   have c72b0 : decide (0 < t111) = true := decide_eq_true c72
   clear c72
   have H' := ak_ H
   clear H
   have p106 : 0 ≤ (x8_1 : Int) := of_decide_eq_true z11_
   have q106 : x8_1 < (l1.length : Int) := of_decide_eq_true z11_
   obtain ⟨ad106, e106, hx106_0, hx106_1, hx106_2⟩ := at_T24 HR1.out x8_1 p106 q106
   cases e106
   replace hx106_0 := oc_ HB.out hx106_0
   replace hx106_1 := oc_ HB.out hx106_1
   replace hx106_2 := oc_ HB.out hx106_2
   replace p106 := eq_true p106
   replace q106 := eq_true q106
   go_wp2_with (first | ((with_reducible refine gate_dst (N := 9) rfl ?_); refine bx_ 9 (cs := #[.int .i64 0, .int .i64 0, .string (⟨#[]⟩ : ByteArray)]) (t := 24) (h_ := ?_); intro gb107 hg w73 hbox hb; have n_ := a10_ (blk_below (g := gb101) (o := .cells #[.int .i64 x102000_1, .int .i64 x102001_1, .string x102002_1] 24 (0, 0)) z2_ hb) (blk_below (g := gb102) (o := .cells #[.int .i64 x103000_1, .int .i64 x103001_1, .string x103002_1] 24 (0, 0)) z13_ hb) (below_step z5_ hb) (hbox) ((gs_ w hg (below_size z5_))) ((gs_ w hg (below_size z5_))) ((z43_ : gb101 ≠ gb107)) ((z44_ : gb107 ≠ gb101)) ((z41_ : gb102 ≠ gb107)) ((z42_ : gb107 ≠ gb102)); clear BK101 BK102 HB; obtain ⟨BK101, BK102, HB, BK107, GW107, GE107, NB101_107, NB107_101, NB102_107, NB107_102⟩ := n_; clear hb hbox hg; have hnb74 := NB107_101.out; have hnc74 := NB101_107.out; have hnb75 := NB107_102.out; have hnc75 := NB102_107.out; obtain ⟨hcz76_0, hcz76_1, hcz76_2, hfz76_0, hfz76_1, hfz76_2⟩ := bcf3 BK107.out; have hnb77 := NB102_101.out; have hnc77 := NB101_102.out; obtain ⟨hcz78_0, hcz78_1, hcz78_2, hfz78_0, hfz78_1, hfz78_2⟩ := bcf3 BK102.out) | (go_at_call 46; (with_reducible refine (spec_l01Compare.calls ((rd_T24 l1 x8_1).f0) ((rd_T24 l1 x8_1).f1) ((rd_T24 l1 x8_1).f2) x103000_1 x103001_1 x103002_1 t111 _ A71.out).mono ?_); rintro e w79 ⟨rfl, hb⟩; have n_ := a4_ (blk_below (g := gb101) (o := .cells #[.int .i64 x102000_1, .int .i64 x102001_1, .string x102002_1] 24 (0, 0)) z23_ hb) (blk_below (g := gb102) (o := .cells #[.int .i64 x103000_1, .int .i64 x103001_1, .string x103002_1] 24 (0, 0)) z24_ hb) (blk_below (g := gb107) (o := .cells #[.int .i64 ((rd_T24 l1 x8_1).f0), .int .i64 ((rd_T24 l1 x8_1).f1), .string ((rd_T24 l1 x8_1).f2)] 24 (0, 0)) z28_ hb) (below_step z18_ hb); clear BK101 BK102 BK107 HB; obtain ⟨BK101, BK102, BK107, HB⟩ := n_; (try clear hb); (try clear hb2); (try clear hk); (try clear hi); obtain ⟨hcz80_0, hcz80_1, hcz80_2, hfz80_0, hfz80_1, hfz80_2⟩ := bcf3 BK107.out; obtain ⟨hcz81_0, hcz81_1, hcz81_2, hfz81_0, hfz81_1, hfz81_2⟩ := bcf3 BK102.out))
   go_roundg k1
   case measure => have := HK1.out; omega
   case rel => exact ⟨(wrap64 (x6_1 + 1)), (wrap64 (x8_1 + 1)), (x102000_1), (x102001_1), (x102002_1), ((rd_T24 l1 x8_1).f0), ((rd_T24 l1 x8_1).f1), ((rd_T24 l1 x8_1).f2), z12_, z12_, H', ⟨by have := HK1.out; omega⟩, ⟨z47_⟩, ⟨z52_⟩, ⟨z18_⟩⟩
end Go.Proofs.Ytfbclbbhomhfaaa.X
