/- Contracts of functions, and what is told of them. -/
import Derived.Test.YtfbclbbhomhfaaaYFnThree3
import Derived.Test.YtfbclbbhomhfaaaYFnThree8
import Derived.Test.YtfbclbbhomhfaaaYFnThree9
import Derived.Test.YtfbclbbhomhfaaaYFnThree11
import Derived.Test.YtfbclbbhomhfaaaYFnThree4
set_option linter.unusedSimpArgs false
set_option linter.unusedVariables false
section
namespace Go.Proofs.Ytfbclbbhomhfaaa.X
open Go.RowKit Go.Proofs.YtfbclbbhomhfaaaW.PrintWords Go.Proofs.YtfbclbbhomhfaaaW.PrintLast Go.Proofs.YtfbclbbhomhfaaaW.PrintMore
attribute [local go_sem] max2_int min2_int max_two min_two max_three min_three max_four min_four   -- for this text's walks alone

section
/-! ### spec_BinaryValue: function 7 -/
def spec_BinaryValue.j0 : Nat → ByteArray → Bool → Int → Int → ByteArray → Int → Int → ByteArray → Option (Int × Int × ByteArray × Int)
  | 0, _, _, _, _, _, _, _, _ => none
  | k + 1, x0, x24, x102000, x102001, x102002, x103000, x103001, x103002 => if x24 = true then (some (0, 0, (⟨#[]⟩ : ByteArray), 1)) else ((spec_l12Types.f k x0 x102000 x102001 x102002 x103000 x103001 x103002).bind fun t107 => (if t107 = true then ((spec_l12Binary.f k x0 x102000 x102001 x102002 x103000 x103001 x103002).bind fun bt108 => (some (bt108.1, bt108.2.1, bt108.2.2.1, bt108.2.2.2))) else (some (0, 0, (⟨#[]⟩ : ByteArray), 10))))
def spec_BinaryValue.f (k : Nat) (a0 : ByteArray) (a1_0 : Int) (a1_1 : Int) (a1_2 : ByteArray) (a2_0 : Int) (a2_1 : Int) (a2_2 : ByteArray) : Option (Int × Int × ByteArray × Int) := if (a0.size : Int) > 65536 then (some (0, 0, (⟨#[]⟩ : ByteArray), 2)) else ((spec_ValueOK.f a1_0 a1_1 a1_2).bind fun t104 => (if t104 = true then ((spec_ValueOK.f a2_0 a2_1 a2_2).bind fun t105 => (if t105 = true then ((spec_l10Level.f k a0).bind fun t106 => (spec_BinaryValue.j0 k a0 (t106 == 0) a1_0 a1_1 a1_2 a2_0 a2_1 a2_2)) else (spec_BinaryValue.j0 k a0 true a1_0 a1_1 a1_2 a2_0 a2_1 a2_2))) else (spec_BinaryValue.j0 k a0 true a1_0 a1_1 a1_2 a2_0 a2_1 a2_2)))
theorem spec_BinaryValue.mono_l : ∀ k, (∀ y0 y1 y2 y3 y4 y5 y6 y7, LeO (spec_BinaryValue.j0 k y0 y1 y2 y3 y4 y5 y6 y7) (spec_BinaryValue.j0 (k + 1) y0 y1 y2 y3 y4 y5 y6 y7))
  | 0 => fun _ _ _ _ _ _ _ _ r h => by simp [spec_BinaryValue.j0] at h
  | k + 1 => by
    have ih0 := spec_BinaryValue.mono_l k
    intro y0 y1 y2 y3 y4 y5 y6 y7
    unfold spec_BinaryValue.j0
    repeat' first
    | (with_reducible exact ih0 _ _ _ _ _ _ _ _)
    | (with_reducible exact spec_l10Level.mono _ _)
    | (with_reducible exact spec_l12Binary.mono _ _ _ _ _ _ _ _)
    | (with_reducible exact spec_l12Types.mono _ _ _ _ _ _ _ _)
    | (with_reducible exact LeO.refl _)
    | (with_reducible exact LeO.none _)
    | (with_reducible refine LeO.ite ?_ ?_)
    | (with_reducible refine LeO.bind ?_ (fun _ => ?_))
    | exact ih0 _ _ _ _ _ _ _ _
    | exact spec_l10Level.mono _ _
    | exact spec_l12Binary.mono _ _ _ _ _ _ _ _
    | exact spec_l12Types.mono _ _ _ _ _ _ _ _
    | exact LeO.none _
    | refine LeO.ite ?_ ?_
    | refine LeO.bind ?_ (fun _ => ?_)
theorem spec_BinaryValue.mono : ∀ a0 a1 a2 a3 a4 a5 a6 k, LeO (spec_BinaryValue.f k a0 a1 a2 a3 a4 a5 a6) (spec_BinaryValue.f (k + 1) a0 a1 a2 a3 a4 a5 a6) := by
  intro a0 a1 a2 a3 a4 a5 a6 k
  have ih0 := spec_BinaryValue.mono_l k
  unfold spec_BinaryValue.f
  repeat' first
      | (with_reducible exact ih0 _ _ _ _ _ _ _ _)
      | (with_reducible exact spec_l10Level.mono _ _)
      | (with_reducible exact spec_l12Binary.mono _ _ _ _ _ _ _ _)
      | (with_reducible exact spec_l12Types.mono _ _ _ _ _ _ _ _)
      | (with_reducible exact LeO.refl _)
      | (with_reducible exact LeO.none _)
      | (with_reducible refine LeO.ite ?_ ?_)
      | (with_reducible refine LeO.bind ?_ (fun _ => ?_))
      | exact ih0 _ _ _ _ _ _ _ _
      | exact spec_l10Level.mono _ _
      | exact spec_l12Binary.mono _ _ _ _ _ _ _ _
      | exact spec_l12Types.mono _ _ _ _ _ _ _ _
      | exact LeO.none _
      | refine LeO.ite ?_ ?_
      | refine LeO.bind ?_ (fun _ => ?_)
set_option maxHeartbeats 8000000 in
set_option maxRecDepth 100000 in
theorem spec_BinaryValue.calls (k : Nat) (a0 : ByteArray) (a1_0 : Int) (a1_1 : Int) (a1_2 : ByteArray) (a2_0 : Int) (a2_1 : Int) (a2_2 : ByteArray) (r1 : Int) (r2 : Int) (r3 : ByteArray) (r4 : Int) (w : World) (h : spec_BinaryValue.f k a0 a1_0 a1_1 a1_2 a2_0 a2_1 a2_2 = some (r1, r2, r3, r4)) :
    Calls Try.prog 7 #[.string a0, .agg #[.int .i64 a1_0, .int .i64 a1_1, .string a1_2], .agg #[.int .i64 a2_0, .int .i64 a2_1, .string a2_2]] w fun e w' => e = .returned (.tuple #[.agg #[.int .i64 r1, .int .i64 r2, .string r3], .int .i64 r4]) ∧ Below w.heap.size w w' := by
  have hu24 := Try.underlying24
  have HB := ak_ (Below.refl w.heap.size w)
  have H : (if (a0.size : Int) > 65536 then (some (0, 0, (⟨#[]⟩ : ByteArray), 2)) else ((spec_ValueOK.f a1_0 a1_1 a1_2).bind fun t104 => (if t104 = true then ((spec_ValueOK.f a2_0 a2_1 a2_2).bind fun t105 => (if t105 = true then ((spec_l10Level.f k a0).bind fun t106 => (spec_BinaryValue.j0 k a0 (t106 == 0) a1_0 a1_1 a1_2 a2_0 a2_1 a2_2)) else (spec_BinaryValue.j0 k a0 true a1_0 a1_1 a1_2 a2_0 a2_1 a2_2))) else (spec_BinaryValue.j0 k a0 true a1_0 a1_1 a1_2 a2_0 a2_1 a2_2)))) = some (r1, r2, r3, r4) := h
  clear h
  by_cases c4 : (a0.size : Int) > 65536
  · rw [if_pos c4] at H
    have c4b0 : decide (65536 < (a0.size : Int)) = true := decide_eq_true c4
    have c4b1 : decide (65536 < a0.size) = true := decide_eq_true (by omega)
    clear c4
    simp only [Option.some.injEq, Prod.mk.injEq] at H
    obtain ⟨rfl, rfl, rfl, rfl⟩ := H
    go_enter Try.func7, Try.ntmps7
    go_wp2_with (first | ((with_reducible refine gate_dst (N := 4) rfl ?_); refine bx_ 4 (cs := #[.int .i64 a1_0, .int .i64 a1_1, .string a1_2]) (t := 24) (h_ := ?_); intro gb101 hg w5 hbox hb; have n_ := a4_ (below_step z1_ hb) (hbox) ((gs_ w hg (below_size z1_))) ((gs_ w hg (below_size z1_))); clear HB; obtain ⟨HB, BK101, GW101, GE101⟩ := n_; clear hb hbox hg) | ((with_reducible refine gate_dst (N := 5) rfl ?_); refine bx_ 5 (cs := #[.int .i64 a2_0, .int .i64 a2_1, .string a2_2]) (t := 24) (h_ := ?_); intro gb102 hg w6 hbox hb; have n_ := a7_ (blk_below (g := gb101) (o := .cells #[.int .i64 a1_0, .int .i64 a1_1, .string a1_2] 24 (0, 0)) z0_ hb) (below_step z3_ hb) (hbox) ((gs_ w hg (below_size z3_))) ((gs_ w hg (below_size z3_))) ((z10_ : gb101 ≠ gb102)) ((z11_ : gb102 ≠ gb101)); clear BK101 HB; obtain ⟨BK101, HB, BK102, GW102, GE102, NB101_102, NB102_101⟩ := n_; clear hb hbox hg) | ((with_reducible refine gate_dst (N := 6) rfl ?_); refine bx_ 6 (cs := #[.int .i64 0, .int .i64 0, .string (⟨#[]⟩ : ByteArray)]) (t := 24) (h_ := ?_); intro gb103 hg w7 hbox hb; have n_ := a10_ (blk_below (g := gb101) (o := .cells #[.int .i64 a1_0, .int .i64 a1_1, .string a1_2] 24 (0, 0)) z0_ hb) (blk_below (g := gb102) (o := .cells #[.int .i64 a2_0, .int .i64 a2_1, .string a2_2] 24 (0, 0)) z6_ hb) (below_step z4_ hb) (hbox) ((gs_ w hg (below_size z4_))) ((gs_ w hg (below_size z4_))) ((z10_ : gb101 ≠ gb103)) ((z11_ : gb103 ≠ gb101)) ((z44_ : gb102 ≠ gb103)) ((z45_ : gb103 ≠ gb102)); clear BK101 BK102 HB; obtain ⟨BK101, BK102, HB, BK103, GW103, GE103, NB101_103, NB103_101, NB102_103, NB103_102⟩ := n_; clear hb hbox hg; have hnb8 := NB103_101.out; have hnc8 := NB101_103.out; have hnb9 := NB103_102.out; have hnc9 := NB102_103.out; obtain ⟨hcz10_0, hcz10_1, hcz10_2, hfz10_0, hfz10_1, hfz10_2⟩ := bcf3 BK103.out))
    refine bodyPost_ret (results_ct rfl _ _ gb103 24 #[.int .i64 0, .int .i64 0, .string (⟨#[]⟩ : ByteArray)] (0, 0) _ rfl z7_ Try.underlying24 rfl (by kernel_rfl)) rfl ?_
    exact ⟨z8_, z2_⟩
  rw [if_neg c4] at H
  have c4b0 : decide (65536 < (a0.size : Int)) = false := decide_eq_false c4
  have c4b1 : decide (65536 < a0.size) = false := decide_eq_false (by omega)
  clear c4
  have HC11 := ak_ H
  clear H
  go_enter Try.func7, Try.ntmps7
  go_upto_region 3 with (first | ((with_reducible refine gate_dst (N := 4) rfl ?_); refine bx_ 4 (cs := #[.int .i64 a1_0, .int .i64 a1_1, .string a1_2]) (t := 24) (h_ := ?_); intro gb101 hg w12 hbox hb; have n_ := a4_ (below_step z1_ hb) (hbox) ((gs_ w hg (below_size z1_))) ((gs_ w hg (below_size z1_))); clear HB; obtain ⟨HB, BK101, GW101, GE101⟩ := n_; clear hb hbox hg) | ((with_reducible refine gate_dst (N := 5) rfl ?_); refine bx_ 5 (cs := #[.int .i64 a2_0, .int .i64 a2_1, .string a2_2]) (t := 24) (h_ := ?_); intro gb102 hg w13 hbox hb; have n_ := a7_ (blk_below (g := gb101) (o := .cells #[.int .i64 a1_0, .int .i64 a1_1, .string a1_2] 24 (0, 0)) z0_ hb) (below_step z3_ hb) (hbox) ((gs_ w hg (below_size z3_))) ((gs_ w hg (below_size z3_))) ((z10_ : gb101 ≠ gb102)) ((z11_ : gb102 ≠ gb101)); clear BK101 HB; obtain ⟨BK101, HB, BK102, GW102, GE102, NB101_102, NB102_101⟩ := n_; clear hb hbox hg) | ((with_reducible refine gate_dst (N := 6) rfl ?_); refine bx_ 6 (cs := #[.int .i64 0, .int .i64 0, .string (⟨#[]⟩ : ByteArray)]) (t := 24) (h_ := ?_); intro gb103 hg w14 hbox hb; have n_ := a10_ (blk_below (g := gb101) (o := .cells #[.int .i64 a1_0, .int .i64 a1_1, .string a1_2] 24 (0, 0)) z0_ hb) (blk_below (g := gb102) (o := .cells #[.int .i64 a2_0, .int .i64 a2_1, .string a2_2] 24 (0, 0)) z6_ hb) (below_step z4_ hb) (hbox) ((gs_ w hg (below_size z4_))) ((gs_ w hg (below_size z4_))) ((z10_ : gb101 ≠ gb103)) ((z11_ : gb103 ≠ gb101)) ((z44_ : gb102 ≠ gb103)) ((z45_ : gb103 ≠ gb102)); clear BK101 BK102 HB; obtain ⟨BK101, BK102, HB, BK103, GW103, GE103, NB101_103, NB103_101, NB102_103, NB103_102⟩ := n_; clear hb hbox hg))
  (try simp only [Act.put, List.setIfInBounds_toArray, List.set_cons_zero, List.set_cons_succ])
  go_cut [24] (fun v24 wc => ∃ (kq : Nat) (x24_10 : Bool), v24 = .bool x24_10 ∧ Aside0 (spec_BinaryValue.j0 kq a0 x24_10 a1_0 a1_1 a1_2 a2_0 a2_1 a2_2 = some (r1, r2, r3, r4)) ∧ Aside0 (kq ≤ k) ∧ Aside0 (wc.heap[gb101]? = some (.cells #[.int .i64 a1_0, .int .i64 a1_1, .string a1_2] 24 (0, 0))) ∧ Aside0 (wc.heap[gb102]? = some (.cells #[.int .i64 a2_0, .int .i64 a2_1, .string a2_2] 24 (0, 0))) ∧ Aside0 (wc.heap[gb103]? = some (.cells #[.int .i64 0, .int .i64 0, .string (⟨#[]⟩ : ByteArray)] 24 (0, 0))) ∧ Aside0 (Below w.heap.size w wc))
  case first =>
    have H := HC11.out
    clear HC11
    replace H := Option.bind_eq_some_iff.mp H
    obtain ⟨t104, A150, H⟩ := H
    have A15 := ak_ A150
    clear A150
    by_cases c16 : t104 = true
    rotate_left
    · replace c16 := Bool.eq_false_iff.mpr c16
      subst c16
      have H1 : (spec_BinaryValue.j0 k a0 true a1_0 a1_1 a1_2 a2_0 a2_1 a2_2) = some (r1, r2, r3, r4) := by rw [if_neg (show ¬ (false = true) by decide)] at H; exact H
      clear H
      have H := H1
      clear H1
      have H' := ak_ H
      clear H
      have hnb34 := NB101_102.out
      have hnc34 := NB102_101.out
      have hnb35 := NB101_103.out
      have hnc35 := NB103_101.out
      obtain ⟨hcz36_0, hcz36_1, hcz36_2, hfz36_0, hfz36_1, hfz36_2⟩ := bcf3 BK101.out
      go_wp2_with (first | ((with_reducible refine gate_callee (f := 17) rfl ?_); refine goesL_ (some 13) rfl rfl Try.func17 (by kernel_rfl) rfl #[.agg #[.int .i64 a1_0, .int .i64 a1_1, .string a1_2]] rfl z5_ ?_; (with_reducible refine (spec_ValueOK.calls a1_0 a1_1 a1_2 false _ A15.out).mono ?_); rintro e w37 ⟨rfl, hb⟩; refine ⟨_, rfl, ?_⟩; have n_ := a4_ (blk_below (g := gb101) (o := .cells #[.int .i64 a1_0, .int .i64 a1_1, .string a1_2] 24 (0, 0)) z0_ hb) (blk_below (g := gb102) (o := .cells #[.int .i64 a2_0, .int .i64 a2_1, .string a2_2] 24 (0, 0)) z6_ hb) (blk_below (g := gb103) (o := .cells #[.int .i64 0, .int .i64 0, .string (⟨#[]⟩ : ByteArray)] 24 (0, 0)) z9_ hb) (below_step z2_ hb); clear BK101 BK102 BK103 HB; obtain ⟨BK101, BK102, BK103, HB⟩ := n_; (try clear hb); (try clear hb2); (try clear hk); (try clear hi)))
      go_meet
      case rel => exact ⟨_, (true), z18_, H', ⟨by first | omega | exact Nat.le_refl _⟩, ⟨z0_⟩, ⟨z6_⟩, ⟨z9_⟩, ⟨z2_⟩⟩
    subst c16
    have H1 : ((spec_ValueOK.f a2_0 a2_1 a2_2).bind fun t105 => (if t105 = true then ((spec_l10Level.f k a0).bind fun t106 => (spec_BinaryValue.j0 k a0 (t106 == 0) a1_0 a1_1 a1_2 a2_0 a2_1 a2_2)) else (spec_BinaryValue.j0 k a0 true a1_0 a1_1 a1_2 a2_0 a2_1 a2_2))) = some (r1, r2, r3, r4) := by rw [if_pos rfl] at H; exact H
    clear H
    have H := H1
    clear H1
    replace H := Option.bind_eq_some_iff.mp H
    obtain ⟨t105, A170, H⟩ := H
    have A17 := ak_ A170
    clear A170
    by_cases c18 : t105 = true
    rotate_left
    · replace c18 := Bool.eq_false_iff.mpr c18
      subst c18
      have H1 : (spec_BinaryValue.j0 k a0 true a1_0 a1_1 a1_2 a2_0 a2_1 a2_2) = some (r1, r2, r3, r4) := by rw [if_neg (show ¬ (false = true) by decide)] at H; exact H
      clear H
      have H := H1
      clear H1
      have H' := ak_ H
      clear H
      have hnb27 := NB101_102.out
      have hnc27 := NB102_101.out
      have hnb28 := NB101_103.out
      have hnc28 := NB103_101.out
      obtain ⟨hcz29_0, hcz29_1, hcz29_2, hfz29_0, hfz29_1, hfz29_2⟩ := bcf3 BK101.out
      go_wp2_with (first | ((with_reducible refine gate_callee (f := 17) rfl ?_); refine goesL_ (some 13) rfl rfl Try.func17 (by kernel_rfl) rfl #[.agg #[.int .i64 a1_0, .int .i64 a1_1, .string a1_2]] rfl z5_ ?_; (with_reducible refine (spec_ValueOK.calls a1_0 a1_1 a1_2 true _ A15.out).mono ?_); rintro e w30 ⟨rfl, hb⟩; refine ⟨_, rfl, ?_⟩; have n_ := a4_ (blk_below (g := gb101) (o := .cells #[.int .i64 a1_0, .int .i64 a1_1, .string a1_2] 24 (0, 0)) z0_ hb) (blk_below (g := gb102) (o := .cells #[.int .i64 a2_0, .int .i64 a2_1, .string a2_2] 24 (0, 0)) z6_ hb) (blk_below (g := gb103) (o := .cells #[.int .i64 0, .int .i64 0, .string (⟨#[]⟩ : ByteArray)] 24 (0, 0)) z9_ hb) (below_step z2_ hb); clear BK101 BK102 BK103 HB; obtain ⟨BK101, BK102, BK103, HB⟩ := n_; (try clear hb); (try clear hb2); (try clear hk); (try clear hi); have hnb31 := NB102_103.out; have hnc31 := NB103_102.out; obtain ⟨hcz32_0, hcz32_1, hcz32_2, hfz32_0, hfz32_1, hfz32_2⟩ := bcf3 BK102.out) | (go_at_call 17; (with_reducible refine (spec_ValueOK.calls a2_0 a2_1 a2_2 false _ A17.out).mono ?_); rintro e w33 ⟨rfl, hb⟩; have n_ := a4_ (blk_below (g := gb101) (o := .cells #[.int .i64 a1_0, .int .i64 a1_1, .string a1_2] 24 (0, 0)) z0_ hb) (blk_below (g := gb102) (o := .cells #[.int .i64 a2_0, .int .i64 a2_1, .string a2_2] 24 (0, 0)) z6_ hb) (blk_below (g := gb103) (o := .cells #[.int .i64 0, .int .i64 0, .string (⟨#[]⟩ : ByteArray)] 24 (0, 0)) z9_ hb) (below_step z2_ hb); clear BK101 BK102 BK103 HB; obtain ⟨BK101, BK102, BK103, HB⟩ := n_; (try clear hb); (try clear hb2); (try clear hk); (try clear hi)))
      go_meet
      case rel => exact ⟨_, (true), z18_, H', ⟨by first | omega | exact Nat.le_refl _⟩, ⟨z0_⟩, ⟨z6_⟩, ⟨z9_⟩, ⟨z2_⟩⟩
    subst c18
    have H1 : ((spec_l10Level.f k a0).bind fun t106 => (spec_BinaryValue.j0 k a0 (t106 == 0) a1_0 a1_1 a1_2 a2_0 a2_1 a2_2)) = some (r1, r2, r3, r4) := by rw [if_pos rfl] at H; exact H
    clear H
    have H := H1
    clear H1
    replace H := Option.bind_eq_some_iff.mp H
    obtain ⟨t106, A190, H⟩ := H
    have A19 := ak_ A190
    clear A190
    have H' := ak_ H
    clear H
    have hnb20 := NB101_102.out
    have hnc20 := NB102_101.out
    have hnb21 := NB101_103.out
    have hnc21 := NB103_101.out
    obtain ⟨hcz22_0, hcz22_1, hcz22_2, hfz22_0, hfz22_1, hfz22_2⟩ := bcf3 BK101.out
    go_wp2_with (first | ((with_reducible refine gate_callee (f := 17) rfl ?_); refine goesL_ (some 13) rfl rfl Try.func17 (by kernel_rfl) rfl #[.agg #[.int .i64 a1_0, .int .i64 a1_1, .string a1_2]] rfl z5_ ?_; (with_reducible refine (spec_ValueOK.calls a1_0 a1_1 a1_2 true _ A15.out).mono ?_); rintro e w23 ⟨rfl, hb⟩; refine ⟨_, rfl, ?_⟩; have n_ := a4_ (blk_below (g := gb101) (o := .cells #[.int .i64 a1_0, .int .i64 a1_1, .string a1_2] 24 (0, 0)) z0_ hb) (blk_below (g := gb102) (o := .cells #[.int .i64 a2_0, .int .i64 a2_1, .string a2_2] 24 (0, 0)) z6_ hb) (blk_below (g := gb103) (o := .cells #[.int .i64 0, .int .i64 0, .string (⟨#[]⟩ : ByteArray)] 24 (0, 0)) z9_ hb) (below_step z2_ hb); clear BK101 BK102 BK103 HB; obtain ⟨BK101, BK102, BK103, HB⟩ := n_; (try clear hb); (try clear hb2); (try clear hk); (try clear hi); have hnb24 := NB102_103.out; have hnc24 := NB103_102.out; obtain ⟨hcz25_0, hcz25_1, hcz25_2, hfz25_0, hfz25_1, hfz25_2⟩ := bcf3 BK102.out) | (go_at_call 17; (with_reducible refine (spec_ValueOK.calls a2_0 a2_1 a2_2 true _ A17.out).mono ?_); rintro e w26 ⟨rfl, hb⟩; have n_ := a4_ (blk_below (g := gb101) (o := .cells #[.int .i64 a1_0, .int .i64 a1_1, .string a1_2] 24 (0, 0)) z0_ hb) (blk_below (g := gb102) (o := .cells #[.int .i64 a2_0, .int .i64 a2_1, .string a2_2] 24 (0, 0)) z6_ hb) (blk_below (g := gb103) (o := .cells #[.int .i64 0, .int .i64 0, .string (⟨#[]⟩ : ByteArray)] 24 (0, 0)) z9_ hb) (below_step z2_ hb); clear BK101 BK102 BK103 HB; obtain ⟨BK101, BK102, BK103, HB⟩ := n_; (try clear hb); (try clear hb2); (try clear hk); (try clear hi)) | (go_at_call 18; (with_reducible refine (spec_l10Level.calls k a0 t106 _ A19.out).mono ?_); rintro e w' ⟨rfl, ⟨nd, rfl⟩⟩))
    go_meet
    case rel => exact ⟨_, ((t106 == 0)), z18_, H', ⟨by first | omega | exact Nat.le_refl _⟩, ⟨z0_⟩, ⟨z6_⟩, ⟨z9_⟩, ⟨z2_⟩⟩
  case rest =>
    clear HC11
    try clear c1
    try clear c2
    try clear p2
    try clear c3
    try clear c4
    try clear c4b0
    try clear c4b1
    try clear c7
    try clear c8
    try clear c9
    try clear c16
    try clear c17
    try clear c18
    try clear c20
    try clear c21
    try clear c24
    try clear c27
    try clear c28
    try clear c31
    try clear c34
    try clear c35
    try clear hcz10_0
    try clear hcz10_1
    try clear hcz10_2
    try clear hcz22_0
    try clear hcz22_1
    try clear hcz22_2
    try clear hcz25_0
    try clear hcz25_1
    try clear hcz25_2
    try clear hcz29_0
    try clear hcz29_1
    try clear hcz29_2
    try clear hcz32_0
    try clear hcz32_1
    try clear hcz32_2
    try clear hcz36_0
    try clear hcz36_1
    try clear hcz36_2
    try clear hfz10_0
    try clear hfz10_1
    try clear hfz10_2
    try clear hfz22_0
    try clear hfz22_1
    try clear hfz22_2
    try clear hfz25_0
    try clear hfz25_1
    try clear hfz25_2
    try clear hfz29_0
    try clear hfz29_1
    try clear hfz29_2
    try clear hfz32_0
    try clear hfz32_1
    try clear hfz32_2
    try clear hfz36_0
    try clear hfz36_1
    try clear hfz36_2
    obtain ⟨kq, x24_10, rfl, HA, HJ10, BK101, BK102, BK103, HB⟩ := hcut
    cases kq with
    | zero => exact absurd HA.out (by simp [spec_BinaryValue.j0])
    | succ kj10 =>
      have H := HA.out
      clear HA
      simp only [spec_BinaryValue.j0] at H
      by_cases c38 : x24_10 = true
      · subst c38
        have H1 : (some (0, 0, (⟨#[]⟩ : ByteArray), 1)) = some (r1, r2, r3, r4) := by rw [if_pos rfl] at H; exact H
        clear H
        have H := H1
        clear H1
        simp only [Option.some.injEq, Prod.mk.injEq] at H
        obtain ⟨rfl, rfl, rfl, rfl⟩ := H
        have hnb39 := NB103_101.out
        have hnc39 := NB101_103.out
        have hnb40 := NB103_102.out
        have hnc40 := NB102_103.out
        obtain ⟨hcz41_0, hcz41_1, hcz41_2, hfz41_0, hfz41_1, hfz41_2⟩ := bcf3 BK103.out
        go_wp2
        refine bodyPost_ret (results_ct rfl _ _ gb103 24 #[.int .i64 0, .int .i64 0, .string (⟨#[]⟩ : ByteArray)] (0, 0) _ rfl z7_ Try.underlying24 rfl (by kernel_rfl)) rfl ?_
        exact ⟨z8_, z2_⟩
      replace c38 := Bool.eq_false_iff.mpr c38
      subst c38
      have H1 : ((spec_l12Types.f kj10 a0 a1_0 a1_1 a1_2 a2_0 a2_1 a2_2).bind fun t107 => (if t107 = true then ((spec_l12Binary.f kj10 a0 a1_0 a1_1 a1_2 a2_0 a2_1 a2_2).bind fun bt108 => (some (bt108.1, bt108.2.1, bt108.2.2.1, bt108.2.2.2))) else (some (0, 0, (⟨#[]⟩ : ByteArray), 10)))) = some (r1, r2, r3, r4) := by rw [if_neg (show ¬ (false = true) by decide)] at H; exact H
      clear H
      have H := H1
      clear H1
      replace H := Option.bind_eq_some_iff.mp H
      obtain ⟨t107, A420, H⟩ := H
      have A42 := ak_ A420
      clear A420
      by_cases c43 : t107 = true
      rotate_left
      · replace c43 := Bool.eq_false_iff.mpr c43
        subst c43
        have H1 : (some (0, 0, (⟨#[]⟩ : ByteArray), 10)) = some (r1, r2, r3, r4) := by rw [if_neg (show ¬ (false = true) by decide)] at H; exact H
        clear H
        have H := H1
        clear H1
        simp only [Option.some.injEq, Prod.mk.injEq] at H
        obtain ⟨rfl, rfl, rfl, rfl⟩ := H
        have hnb55 := NB101_102.out
        have hnc55 := NB102_101.out
        have hnb56 := NB101_103.out
        have hnc56 := NB103_101.out
        obtain ⟨hcz57_0, hcz57_1, hcz57_2, hfz57_0, hfz57_1, hfz57_2⟩ := bcf3 BK101.out
        have hnb58 := NB102_103.out
        have hnc58 := NB103_102.out
        obtain ⟨hcz59_0, hcz59_1, hcz59_2, hfz59_0, hfz59_1, hfz59_2⟩ := bcf3 BK102.out
        go_wp2_with (first | ((with_reducible refine gate_callee (f := 19) rfl ?_); refine goesL_ (some 29) rfl rfl Try.func19 (by kernel_rfl) rfl #[.string a0, .agg #[.int .i64 a1_0, .int .i64 a1_1, .string a1_2], .agg #[.int .i64 a2_0, .int .i64 a2_1, .string a2_2]] rfl z5_ ?_; (with_reducible refine (spec_l12Types.calls kj10 a0 a1_0 a1_1 a1_2 a2_0 a2_1 a2_2 false _ A42.out).mono ?_); rintro e w60 ⟨rfl, hb⟩; refine ⟨_, rfl, ?_⟩; have n_ := a4_ (blk_below (g := gb101) (o := .cells #[.int .i64 a1_0, .int .i64 a1_1, .string a1_2] 24 (0, 0)) z0_ hb) (blk_below (g := gb102) (o := .cells #[.int .i64 a2_0, .int .i64 a2_1, .string a2_2] 24 (0, 0)) z6_ hb) (blk_below (g := gb103) (o := .cells #[.int .i64 0, .int .i64 0, .string (⟨#[]⟩ : ByteArray)] 24 (0, 0)) z9_ hb) (below_step z2_ hb); clear BK101 BK102 BK103 HB; obtain ⟨BK101, BK102, BK103, HB⟩ := n_; (try clear hb); (try clear hb2); (try clear hk); (try clear hi); obtain ⟨hcz61_0, hcz61_1, hcz61_2, hfz61_0, hfz61_1, hfz61_2⟩ := bcf3 BK103.out))
        refine bodyPost_ret (results_ct rfl _ _ gb103 24 #[.int .i64 0, .int .i64 0, .string (⟨#[]⟩ : ByteArray)] (0, 0) _ rfl z7_ Try.underlying24 rfl (by kernel_rfl)) rfl ?_
        exact ⟨z8_, z2_⟩

      subst c43
      have H1 : ((spec_l12Binary.f kj10 a0 a1_0 a1_1 a1_2 a2_0 a2_1 a2_2).bind fun bt108 => (some (bt108.1, bt108.2.1, bt108.2.2.1, bt108.2.2.2))) = some (r1, r2, r3, r4) := by rw [if_pos rfl] at H; exact H
      clear H
      have H := H1
      clear H1
      replace H := Option.bind_eq_some_iff.mp H
      obtain ⟨⟨t108, t109, t110, t111⟩, A440, H⟩ := H
      replace H : (some (t108, t109, t110, t111)) = some (r1, r2, r3, r4) := H
      have A44 := ak_ A440
      clear A440
      simp only [Option.some.injEq, Prod.mk.injEq] at H
      obtain ⟨rfl, rfl, rfl, rfl⟩ := H
      have hnb45 := NB101_102.out
      have hnc45 := NB102_101.out
      have hnb46 := NB101_103.out
      have hnc46 := NB103_101.out
      obtain ⟨hcz47_0, hcz47_1, hcz47_2, hfz47_0, hfz47_1, hfz47_2⟩ := bcf3 BK101.out
      have hnb48 := NB102_103.out
      have hnc48 := NB103_102.out
      obtain ⟨hcz49_0, hcz49_1, hcz49_2, hfz49_0, hfz49_1, hfz49_2⟩ := bcf3 BK102.out
      go_wp2_with (first | ((with_reducible refine gate_callee (f := 19) rfl ?_); refine goesL_ (some 29) rfl rfl Try.func19 (by kernel_rfl) rfl #[.string a0, .agg #[.int .i64 a1_0, .int .i64 a1_1, .string a1_2], .agg #[.int .i64 a2_0, .int .i64 a2_1, .string a2_2]] rfl z5_ ?_; (with_reducible refine (spec_l12Types.calls kj10 a0 a1_0 a1_1 a1_2 a2_0 a2_1 a2_2 true _ A42.out).mono ?_); rintro e w50 ⟨rfl, hb⟩; refine ⟨_, rfl, ?_⟩; have n_ := a4_ (blk_below (g := gb101) (o := .cells #[.int .i64 a1_0, .int .i64 a1_1, .string a1_2] 24 (0, 0)) z0_ hb) (blk_below (g := gb102) (o := .cells #[.int .i64 a2_0, .int .i64 a2_1, .string a2_2] 24 (0, 0)) z6_ hb) (blk_below (g := gb103) (o := .cells #[.int .i64 0, .int .i64 0, .string (⟨#[]⟩ : ByteArray)] 24 (0, 0)) z9_ hb) (below_step z2_ hb); clear BK101 BK102 BK103 HB; obtain ⟨BK101, BK102, BK103, HB⟩ := n_; (try clear hb); (try clear hb2); (try clear hk); (try clear hi); obtain ⟨hcz51_0, hcz51_1, hcz51_2, hfz51_0, hfz51_1, hfz51_2⟩ := bcf3 BK101.out; obtain ⟨hcz52_0, hcz52_1, hcz52_2, hfz52_0, hfz52_1, hfz52_2⟩ := bcf3 BK102.out) | ((with_reducible refine gate_callee (f := 20) rfl ?_); refine goesL_ (some 35) rfl rfl Try.func20 (by kernel_rfl) rfl #[.string a0, .agg #[.int .i64 a1_0, .int .i64 a1_1, .string a1_2], .agg #[.int .i64 a2_0, .int .i64 a2_1, .string a2_2]] rfl z5_ ?_; (with_reducible refine (spec_l12Binary.calls kj10 a0 a1_0 a1_1 a1_2 a2_0 a2_1 a2_2 t108 t109 t110 t111 _ A44.out).mono ?_); rintro e w53 ⟨rfl, hb⟩; refine ⟨_, rfl, ?_⟩; have n_ := a4_ (blk_below (g := gb101) (o := .cells #[.int .i64 a1_0, .int .i64 a1_1, .string a1_2] 24 (0, 0)) z0_ hb) (blk_below (g := gb102) (o := .cells #[.int .i64 a2_0, .int .i64 a2_1, .string a2_2] 24 (0, 0)) z6_ hb) (blk_below (g := gb103) (o := .cells #[.int .i64 0, .int .i64 0, .string (⟨#[]⟩ : ByteArray)] 24 (0, 0)) z9_ hb) (below_step z2_ hb); clear BK101 BK102 BK103 HB; obtain ⟨BK101, BK102, BK103, HB⟩ := n_; (try clear hb); (try clear hb2); (try clear hk); (try clear hi); obtain ⟨hcz54_0, hcz54_1, hcz54_2, hfz54_0, hfz54_1, hfz54_2⟩ := bcf3 BK103.out))
      refine bodyPost_ret (results_ct rfl _ _ gb103 24 #[.int .i64 t108, .int .i64 t109, .string t110] (0, 0) _ rfl z83_ Try.underlying24 rfl (by kernel_rfl)) rfl ?_
      exact ⟨z8_, z2_⟩
end

section
/-! ### impl_unaryValue: function 22 -/
def impl_unaryValue.f (a0 : ByteArray) (a1_0 : Int) (a1_1 : Int) (a1_2 : ByteArray) : Option (Int × Int × ByteArray × Int) := if a0.toList = ([105, 115, 110, 117, 108, 108] : List UInt8) then ((impl_boolValue.f (a1_0 == 0)).bind fun bt103 => (some (bt103.1, bt103.2.1, bt103.2.2, 0))) else (if a0.toList = ([105, 115, 110, 111, 116, 110, 117, 108, 108] : List UInt8) then ((impl_boolValue.f (!(a1_0 == 0))).bind fun bt106 => (some (bt106.1, bt106.2.1, bt106.2.2, 0))) else (if a0.toList = ([110, 111, 116] : List UInt8) then (if a1_0 = 0 then (some (0, 0, (⟨#[]⟩ : ByteArray), 0)) else (if a1_0 = 1 then ((impl_boolValue.f (a1_1 == 0)).bind fun bt109 => (some (bt109.1, bt109.2.1, bt109.2.2, 0))) else (some (0, 0, (⟨#[]⟩ : ByteArray), 10)))) else (if a1_0 = 0 then (some (0, 0, (⟨#[]⟩ : ByteArray), 0)) else (if a1_0 = 2 then (if a1_1 = (-9223372036854775808) then (some (0, 0, (⟨#[]⟩ : ByteArray), 4)) else (some (2, wrap64 (-a1_1), (⟨#[]⟩ : ByteArray), 0))) else (some (0, 0, (⟨#[]⟩ : ByteArray), 10))))))
set_option maxHeartbeats 8000000 in
set_option maxRecDepth 100000 in
theorem impl_unaryValue.calls (a0 : ByteArray) (a1_0 : Int) (a1_1 : Int) (a1_2 : ByteArray) (r1 : Int) (r2 : Int) (r3 : ByteArray) (r4 : Int) (w : World) (h : impl_unaryValue.f a0 a1_0 a1_1 a1_2 = some (r1, r2, r3, r4)) :
    Calls Try.prog 22 #[.string a0, .agg #[.int .i64 a1_0, .int .i64 a1_1, .string a1_2]] w fun e w' => e = .returned (.tuple #[.agg #[.int .i64 r1, .int .i64 r2, .string r3], .int .i64 r4]) ∧ Below w.heap.size w w' := by
  have hu24 := Try.underlying24
  have HB := ak_ (Below.refl w.heap.size w)
  have H : (if a0.toList = ([105, 115, 110, 117, 108, 108] : List UInt8) then ((impl_boolValue.f (a1_0 == 0)).bind fun bt103 => (some (bt103.1, bt103.2.1, bt103.2.2, 0))) else (if a0.toList = ([105, 115, 110, 111, 116, 110, 117, 108, 108] : List UInt8) then ((impl_boolValue.f (!(a1_0 == 0))).bind fun bt106 => (some (bt106.1, bt106.2.1, bt106.2.2, 0))) else (if a0.toList = ([110, 111, 116] : List UInt8) then (if a1_0 = 0 then (some (0, 0, (⟨#[]⟩ : ByteArray), 0)) else (if a1_0 = 1 then ((impl_boolValue.f (a1_1 == 0)).bind fun bt109 => (some (bt109.1, bt109.2.1, bt109.2.2, 0))) else (some (0, 0, (⟨#[]⟩ : ByteArray), 10)))) else (if a1_0 = 0 then (some (0, 0, (⟨#[]⟩ : ByteArray), 0)) else (if a1_0 = 2 then (if a1_1 = (-9223372036854775808) then (some (0, 0, (⟨#[]⟩ : ByteArray), 4)) else (some (2, wrap64 (-a1_1), (⟨#[]⟩ : ByteArray), 0))) else (some (0, 0, (⟨#[]⟩ : ByteArray), 10))))))) = some (r1, r2, r3, r4) := h
  clear h
  by_cases c3 : a0.toList = ([105, 115, 110, 117, 108, 108] : List UInt8)
  · rw [if_pos c3] at H
    have c3b0 : (a0.toList == ([105, 115, 110, 117, 108, 108] : List UInt8)) = true := beq_iff_eq.mpr c3
    have c3b1 : (a0.toList != ([105, 115, 110, 117, 108, 108] : List UInt8)) = false := bne_eq_false_iff_eq.mpr c3
    clear c3
    replace H := Option.bind_eq_some_iff.mp H
    obtain ⟨⟨t103, t104, t105⟩, A40, H⟩ := H
    replace H : (some (t103, t104, t105, 0)) = some (r1, r2, r3, r4) := H
    have A4 := ak_ A40
    clear A40
    simp only [Option.some.injEq, Prod.mk.injEq] at H
    obtain ⟨rfl, rfl, rfl, rfl⟩ := H
    go_enter Try.func22, Try.ntmps22
    go_wp2_with (first | ((with_reducible refine gate_dst (N := 3) rfl ?_); refine bx_ 3 (cs := #[.int .i64 a1_0, .int .i64 a1_1, .string a1_2]) (t := 24) (h_ := ?_); intro gb101 hg w5 hbox hb; have n_ := a4_ (below_step z1_ hb) (hbox) ((gs_ w hg (below_size z1_))) ((gs_ w hg (below_size z1_))); clear HB; obtain ⟨HB, BK101, GW101, GE101⟩ := n_; clear hb hbox hg) | ((with_reducible refine gate_dst (N := 4) rfl ?_); refine bx_ 4 (cs := #[.int .i64 0, .int .i64 0, .string (⟨#[]⟩ : ByteArray)]) (t := 24) (h_ := ?_); intro gb102 hg w6 hbox hb; have n_ := a7_ (blk_below (g := gb101) (o := .cells #[.int .i64 a1_0, .int .i64 a1_1, .string a1_2] 24 (0, 0)) z0_ hb) (below_step z3_ hb) (hbox) ((gs_ w hg (below_size z3_))) ((gs_ w hg (below_size z3_))) ((z10_ : gb101 ≠ gb102)) ((z11_ : gb102 ≠ gb101)); clear BK101 HB; obtain ⟨BK101, HB, BK102, GW102, GE102, NB101_102, NB102_101⟩ := n_; clear hb hbox hg; have hnb7 := NB101_102.out; have hnc7 := NB102_101.out; obtain ⟨hcz8_0, hcz8_1, hcz8_2, hfz8_0, hfz8_1, hfz8_2⟩ := bcf3 BK101.out) | ((with_reducible refine gate_callee (f := 38) rfl ?_); refine goesL_ (some 14) rfl rfl Try.func38 (by kernel_rfl) rfl #[.bool (a1_0 == 0)] rfl z5_ ?_; (with_reducible refine (impl_boolValue.calls (a1_0 == 0) t103 t104 t105 _ A4.out).mono ?_); rintro e w9 ⟨rfl, hb⟩; refine ⟨_, rfl, ?_⟩; have n_ := a3_ (blk_below (g := gb101) (o := .cells #[.int .i64 a1_0, .int .i64 a1_1, .string a1_2] 24 (0, 0)) z0_ hb) (blk_below (g := gb102) (o := .cells #[.int .i64 0, .int .i64 0, .string (⟨#[]⟩ : ByteArray)] 24 (0, 0)) z6_ hb) (below_step z4_ hb); clear BK101 BK102 HB; obtain ⟨BK101, BK102, HB⟩ := n_; (try clear hb); (try clear hb2); (try clear hk); (try clear hi); obtain ⟨hcz10_0, hcz10_1, hcz10_2, hfz10_0, hfz10_1, hfz10_2⟩ := bcf3 BK102.out))
    refine bodyPost_ret (results_ct rfl _ _ gb102 24 #[.int .i64 t103, .int .i64 t104, .string t105] (0, 0) _ rfl (by (with_reducible repeat (first | refine blk_drewN ?_ _ | refine blk_drew ?_ | refine blk_alloc ?_ _)); refine blk_put (cs := #[.int .i64 t103, .int .i64 t104, .string (⟨#[]⟩ : ByteArray)]) ?_ 2 _ rfl; (with_reducible repeat (first | refine blk_drewN ?_ _ | refine blk_drew ?_ | refine blk_alloc ?_ _)); refine blk_put (cs := #[.int .i64 t103, .int .i64 0, .string (⟨#[]⟩ : ByteArray)]) ?_ 1 _ rfl; (with_reducible repeat (first | refine blk_drewN ?_ _ | refine blk_drew ?_ | refine blk_alloc ?_ _)); refine blk_put (cs := #[.int .i64 0, .int .i64 0, .string (⟨#[]⟩ : ByteArray)]) ?_ 0 _ rfl; (with_reducible repeat (first | refine blk_drewN ?_ _ | refine blk_drew ?_ | refine blk_alloc ?_ _)); exact BK102.out) Try.underlying24 rfl (by kernel_rfl)) rfl ?_
    exact ⟨z8_, z4_⟩
  rw [if_neg c3] at H
  have c3b0 : (a0.toList == ([105, 115, 110, 117, 108, 108] : List UInt8)) = false := beq_eq_false_iff_ne.mpr c3
  have c3b1 : (a0.toList != ([105, 115, 110, 117, 108, 108] : List UInt8)) = true := bne_iff_ne.mpr c3
  by_cases c11 : a0.toList = ([105, 115, 110, 111, 116, 110, 117, 108, 108] : List UInt8)
  · rw [if_pos c11] at H
    have c11b0 : (a0.toList == ([105, 115, 110, 111, 116, 110, 117, 108, 108] : List UInt8)) = true := beq_iff_eq.mpr c11
    have c11b1 : (a0.toList != ([105, 115, 110, 111, 116, 110, 117, 108, 108] : List UInt8)) = false := bne_eq_false_iff_eq.mpr c11
    clear c11
    replace H := Option.bind_eq_some_iff.mp H
    obtain ⟨⟨t106, t107, t108⟩, A120, H⟩ := H
    replace H : (some (t106, t107, t108, 0)) = some (r1, r2, r3, r4) := H
    have A12 := ak_ A120
    clear A120
    simp only [Option.some.injEq, Prod.mk.injEq] at H
    obtain ⟨rfl, rfl, rfl, rfl⟩ := H
    go_enter Try.func22, Try.ntmps22
    go_wp2_with (first | ((with_reducible refine gate_dst (N := 3) rfl ?_); refine bx_ 3 (cs := #[.int .i64 a1_0, .int .i64 a1_1, .string a1_2]) (t := 24) (h_ := ?_); intro gb101 hg w13 hbox hb; have n_ := a4_ (below_step z1_ hb) (hbox) ((gs_ w hg (below_size z1_))) ((gs_ w hg (below_size z1_))); clear HB; obtain ⟨HB, BK101, GW101, GE101⟩ := n_; clear hb hbox hg) | ((with_reducible refine gate_dst (N := 4) rfl ?_); refine bx_ 4 (cs := #[.int .i64 0, .int .i64 0, .string (⟨#[]⟩ : ByteArray)]) (t := 24) (h_ := ?_); intro gb102 hg w14 hbox hb; have n_ := a7_ (blk_below (g := gb101) (o := .cells #[.int .i64 a1_0, .int .i64 a1_1, .string a1_2] 24 (0, 0)) z0_ hb) (below_step z3_ hb) (hbox) ((gs_ w hg (below_size z3_))) ((gs_ w hg (below_size z3_))) ((z10_ : gb101 ≠ gb102)) ((z11_ : gb102 ≠ gb101)); clear BK101 HB; obtain ⟨BK101, HB, BK102, GW102, GE102, NB101_102, NB102_101⟩ := n_; clear hb hbox hg; have hnb15 := NB101_102.out; have hnc15 := NB102_101.out; obtain ⟨hcz16_0, hcz16_1, hcz16_2, hfz16_0, hfz16_1, hfz16_2⟩ := bcf3 BK101.out) | ((with_reducible refine gate_callee (f := 38) rfl ?_); refine goesL_ (some 19) rfl rfl Try.func38 (by kernel_rfl) rfl #[.bool (!(a1_0 == 0))] rfl z5_ ?_; (with_reducible refine (impl_boolValue.calls (!(a1_0 == 0)) t106 t107 t108 _ A12.out).mono ?_); rintro e w17 ⟨rfl, hb⟩; refine ⟨_, rfl, ?_⟩; have n_ := a3_ (blk_below (g := gb101) (o := .cells #[.int .i64 a1_0, .int .i64 a1_1, .string a1_2] 24 (0, 0)) z0_ hb) (blk_below (g := gb102) (o := .cells #[.int .i64 0, .int .i64 0, .string (⟨#[]⟩ : ByteArray)] 24 (0, 0)) z6_ hb) (below_step z4_ hb); clear BK101 BK102 HB; obtain ⟨BK101, BK102, HB⟩ := n_; (try clear hb); (try clear hb2); (try clear hk); (try clear hi); obtain ⟨hcz18_0, hcz18_1, hcz18_2, hfz18_0, hfz18_1, hfz18_2⟩ := bcf3 BK102.out))
    refine bodyPost_ret (results_ct rfl _ _ gb102 24 #[.int .i64 t106, .int .i64 t107, .string t108] (0, 0) _ rfl (by (with_reducible repeat (first | refine blk_drewN ?_ _ | refine blk_drew ?_ | refine blk_alloc ?_ _)); refine blk_put (cs := #[.int .i64 t106, .int .i64 t107, .string (⟨#[]⟩ : ByteArray)]) ?_ 2 _ rfl; (with_reducible repeat (first | refine blk_drewN ?_ _ | refine blk_drew ?_ | refine blk_alloc ?_ _)); refine blk_put (cs := #[.int .i64 t106, .int .i64 0, .string (⟨#[]⟩ : ByteArray)]) ?_ 1 _ rfl; (with_reducible repeat (first | refine blk_drewN ?_ _ | refine blk_drew ?_ | refine blk_alloc ?_ _)); refine blk_put (cs := #[.int .i64 0, .int .i64 0, .string (⟨#[]⟩ : ByteArray)]) ?_ 0 _ rfl; (with_reducible repeat (first | refine blk_drewN ?_ _ | refine blk_drew ?_ | refine blk_alloc ?_ _)); exact BK102.out) Try.underlying24 rfl (by kernel_rfl)) rfl ?_
    exact ⟨z8_, z4_⟩
  rw [if_neg c11] at H
  have c11b0 : (a0.toList == ([105, 115, 110, 111, 116, 110, 117, 108, 108] : List UInt8)) = false := beq_eq_false_iff_ne.mpr c11
  have c11b1 : (a0.toList != ([105, 115, 110, 111, 116, 110, 117, 108, 108] : List UInt8)) = true := bne_iff_ne.mpr c11
  by_cases c19 : a0.toList = ([110, 111, 116] : List UInt8)
  · rw [if_pos c19] at H
    have c19b0 : (a0.toList == ([110, 111, 116] : List UInt8)) = true := beq_iff_eq.mpr c19
    have c19b1 : (a0.toList != ([110, 111, 116] : List UInt8)) = false := bne_eq_false_iff_eq.mpr c19
    clear c19
    by_cases c20 : a1_0 = 0
    · rw [if_pos c20] at H
      have c20b0 : (a1_0 == 0) = true := beq_iff_eq.mpr c20
      have c20b1 : (a1_0 != 0) = false := bne_eq_false_iff_eq.mpr c20
      clear c20
      simp only [Option.some.injEq, Prod.mk.injEq] at H
      obtain ⟨rfl, rfl, rfl, rfl⟩ := H
      go_enter Try.func22, Try.ntmps22
      go_wp2_with (first | ((with_reducible refine gate_dst (N := 3) rfl ?_); refine bx_ 3 (cs := #[.int .i64 a1_0, .int .i64 a1_1, .string a1_2]) (t := 24) (h_ := ?_); intro gb101 hg w21 hbox hb; have n_ := a4_ (below_step z1_ hb) (hbox) ((gs_ w hg (below_size z1_))) ((gs_ w hg (below_size z1_))); clear HB; obtain ⟨HB, BK101, GW101, GE101⟩ := n_; clear hb hbox hg) | ((with_reducible refine gate_dst (N := 4) rfl ?_); refine bx_ 4 (cs := #[.int .i64 0, .int .i64 0, .string (⟨#[]⟩ : ByteArray)]) (t := 24) (h_ := ?_); intro gb102 hg w22 hbox hb; have n_ := a7_ (blk_below (g := gb101) (o := .cells #[.int .i64 a1_0, .int .i64 a1_1, .string a1_2] 24 (0, 0)) z0_ hb) (below_step z3_ hb) (hbox) ((gs_ w hg (below_size z3_))) ((gs_ w hg (below_size z3_))) ((z10_ : gb101 ≠ gb102)) ((z11_ : gb102 ≠ gb101)); clear BK101 HB; obtain ⟨BK101, HB, BK102, GW102, GE102, NB101_102, NB102_101⟩ := n_; clear hb hbox hg; have hnb23 := NB101_102.out; have hnc23 := NB102_101.out; obtain ⟨hcz24_0, hcz24_1, hcz24_2, hfz24_0, hfz24_1, hfz24_2⟩ := bcf3 BK101.out; obtain ⟨hcz25_0, hcz25_1, hcz25_2, hfz25_0, hfz25_1, hfz25_2⟩ := bcf3 BK102.out))
      refine bodyPost_ret (results_ct rfl _ _ gb102 24 #[.int .i64 0, .int .i64 0, .string (⟨#[]⟩ : ByteArray)] (0, 0) _ rfl z23_ Try.underlying24 rfl (by kernel_rfl)) rfl ?_
      exact ⟨z8_, z4_⟩
    · rw [if_neg c20] at H
      have c20b0 : (a1_0 == 0) = false := beq_eq_false_iff_ne.mpr c20
      have c20b1 : (a1_0 != 0) = true := bne_iff_ne.mpr c20
      by_cases c26 : a1_0 = 1
      · rw [if_pos c26] at H
        have c26b0 : (a1_0 == 1) = true := beq_iff_eq.mpr c26
        have c26b1 : (a1_0 != 1) = false := bne_eq_false_iff_eq.mpr c26
        clear c26
        replace H := Option.bind_eq_some_iff.mp H
        obtain ⟨⟨t109, t110, t111⟩, A270, H⟩ := H
        replace H : (some (t109, t110, t111, 0)) = some (r1, r2, r3, r4) := H
        have A27 := ak_ A270
        clear A270
        simp only [Option.some.injEq, Prod.mk.injEq] at H
        obtain ⟨rfl, rfl, rfl, rfl⟩ := H
        go_enter Try.func22, Try.ntmps22
        go_wp2_with (first | ((with_reducible refine gate_dst (N := 3) rfl ?_); refine bx_ 3 (cs := #[.int .i64 a1_0, .int .i64 a1_1, .string a1_2]) (t := 24) (h_ := ?_); intro gb101 hg w28 hbox hb; have n_ := a4_ (below_step z1_ hb) (hbox) ((gs_ w hg (below_size z1_))) ((gs_ w hg (below_size z1_))); clear HB; obtain ⟨HB, BK101, GW101, GE101⟩ := n_; clear hb hbox hg) | ((with_reducible refine gate_dst (N := 4) rfl ?_); refine bx_ 4 (cs := #[.int .i64 0, .int .i64 0, .string (⟨#[]⟩ : ByteArray)]) (t := 24) (h_ := ?_); intro gb102 hg w29 hbox hb; have n_ := a7_ (blk_below (g := gb101) (o := .cells #[.int .i64 a1_0, .int .i64 a1_1, .string a1_2] 24 (0, 0)) z0_ hb) (below_step z3_ hb) (hbox) ((gs_ w hg (below_size z3_))) ((gs_ w hg (below_size z3_))) ((z10_ : gb101 ≠ gb102)) ((z11_ : gb102 ≠ gb101)); clear BK101 HB; obtain ⟨BK101, HB, BK102, GW102, GE102, NB101_102, NB102_101⟩ := n_; clear hb hbox hg; have hnb30 := NB101_102.out; have hnc30 := NB102_101.out; obtain ⟨hcz31_0, hcz31_1, hcz31_2, hfz31_0, hfz31_1, hfz31_2⟩ := bcf3 BK101.out) | ((with_reducible refine gate_callee (f := 38) rfl ?_); refine goesL_ (some 33) rfl rfl Try.func38 (by kernel_rfl) rfl #[.bool (a1_1 == 0)] rfl z5_ ?_; (with_reducible refine (impl_boolValue.calls (a1_1 == 0) t109 t110 t111 _ A27.out).mono ?_); rintro e w32 ⟨rfl, hb⟩; refine ⟨_, rfl, ?_⟩; have n_ := a3_ (blk_below (g := gb101) (o := .cells #[.int .i64 a1_0, .int .i64 a1_1, .string a1_2] 24 (0, 0)) z0_ hb) (blk_below (g := gb102) (o := .cells #[.int .i64 0, .int .i64 0, .string (⟨#[]⟩ : ByteArray)] 24 (0, 0)) z6_ hb) (below_step z4_ hb); clear BK101 BK102 HB; obtain ⟨BK101, BK102, HB⟩ := n_; (try clear hb); (try clear hb2); (try clear hk); (try clear hi); obtain ⟨hcz33_0, hcz33_1, hcz33_2, hfz33_0, hfz33_1, hfz33_2⟩ := bcf3 BK102.out))
        refine bodyPost_ret (results_ct rfl _ _ gb102 24 #[.int .i64 t109, .int .i64 t110, .string t111] (0, 0) _ rfl (by (with_reducible repeat (first | refine blk_drewN ?_ _ | refine blk_drew ?_ | refine blk_alloc ?_ _)); refine blk_put (cs := #[.int .i64 t109, .int .i64 t110, .string (⟨#[]⟩ : ByteArray)]) ?_ 2 _ rfl; (with_reducible repeat (first | refine blk_drewN ?_ _ | refine blk_drew ?_ | refine blk_alloc ?_ _)); refine blk_put (cs := #[.int .i64 t109, .int .i64 0, .string (⟨#[]⟩ : ByteArray)]) ?_ 1 _ rfl; (with_reducible repeat (first | refine blk_drewN ?_ _ | refine blk_drew ?_ | refine blk_alloc ?_ _)); refine blk_put (cs := #[.int .i64 0, .int .i64 0, .string (⟨#[]⟩ : ByteArray)]) ?_ 0 _ rfl; (with_reducible repeat (first | refine blk_drewN ?_ _ | refine blk_drew ?_ | refine blk_alloc ?_ _)); exact BK102.out) Try.underlying24 rfl (by kernel_rfl)) rfl ?_
        exact ⟨z8_, z4_⟩
      · rw [if_neg c26] at H
        have c26b0 : (a1_0 == 1) = false := beq_eq_false_iff_ne.mpr c26
        have c26b1 : (a1_0 != 1) = true := bne_iff_ne.mpr c26
        simp only [Option.some.injEq, Prod.mk.injEq] at H
        obtain ⟨rfl, rfl, rfl, rfl⟩ := H
        go_enter Try.func22, Try.ntmps22
        go_wp2_with (first | ((with_reducible refine gate_dst (N := 3) rfl ?_); refine bx_ 3 (cs := #[.int .i64 a1_0, .int .i64 a1_1, .string a1_2]) (t := 24) (h_ := ?_); intro gb101 hg w34 hbox hb; have n_ := a4_ (below_step z1_ hb) (hbox) ((gs_ w hg (below_size z1_))) ((gs_ w hg (below_size z1_))); clear HB; obtain ⟨HB, BK101, GW101, GE101⟩ := n_; clear hb hbox hg) | ((with_reducible refine gate_dst (N := 4) rfl ?_); refine bx_ 4 (cs := #[.int .i64 0, .int .i64 0, .string (⟨#[]⟩ : ByteArray)]) (t := 24) (h_ := ?_); intro gb102 hg w35 hbox hb; have n_ := a7_ (blk_below (g := gb101) (o := .cells #[.int .i64 a1_0, .int .i64 a1_1, .string a1_2] 24 (0, 0)) z0_ hb) (below_step z3_ hb) (hbox) ((gs_ w hg (below_size z3_))) ((gs_ w hg (below_size z3_))) ((z10_ : gb101 ≠ gb102)) ((z11_ : gb102 ≠ gb101)); clear BK101 HB; obtain ⟨BK101, HB, BK102, GW102, GE102, NB101_102, NB102_101⟩ := n_; clear hb hbox hg; have hnb36 := NB101_102.out; have hnc36 := NB102_101.out; obtain ⟨hcz37_0, hcz37_1, hcz37_2, hfz37_0, hfz37_1, hfz37_2⟩ := bcf3 BK101.out; obtain ⟨hcz38_0, hcz38_1, hcz38_2, hfz38_0, hfz38_1, hfz38_2⟩ := bcf3 BK102.out))
        refine bodyPost_ret (results_ct rfl _ _ gb102 24 #[.int .i64 0, .int .i64 0, .string (⟨#[]⟩ : ByteArray)] (0, 0) _ rfl z23_ Try.underlying24 rfl (by kernel_rfl)) rfl ?_
        exact ⟨z8_, z4_⟩
  rw [if_neg c19] at H
  have c19b0 : (a0.toList == ([110, 111, 116] : List UInt8)) = false := beq_eq_false_iff_ne.mpr c19
  have c19b1 : (a0.toList != ([110, 111, 116] : List UInt8)) = true := bne_iff_ne.mpr c19
  by_cases c39 : a1_0 = 0
  · rw [if_pos c39] at H
    have c39b0 : (a1_0 == 0) = true := beq_iff_eq.mpr c39
    have c39b1 : (a1_0 != 0) = false := bne_eq_false_iff_eq.mpr c39
    clear c39
    simp only [Option.some.injEq, Prod.mk.injEq] at H
    obtain ⟨rfl, rfl, rfl, rfl⟩ := H
    go_enter Try.func22, Try.ntmps22
    go_wp2_with (first | ((with_reducible refine gate_dst (N := 3) rfl ?_); refine bx_ 3 (cs := #[.int .i64 a1_0, .int .i64 a1_1, .string a1_2]) (t := 24) (h_ := ?_); intro gb101 hg w40 hbox hb; have n_ := a4_ (below_step z1_ hb) (hbox) ((gs_ w hg (below_size z1_))) ((gs_ w hg (below_size z1_))); clear HB; obtain ⟨HB, BK101, GW101, GE101⟩ := n_; clear hb hbox hg) | ((with_reducible refine gate_dst (N := 4) rfl ?_); refine bx_ 4 (cs := #[.int .i64 0, .int .i64 0, .string (⟨#[]⟩ : ByteArray)]) (t := 24) (h_ := ?_); intro gb102 hg w41 hbox hb; have n_ := a7_ (blk_below (g := gb101) (o := .cells #[.int .i64 a1_0, .int .i64 a1_1, .string a1_2] 24 (0, 0)) z0_ hb) (below_step z3_ hb) (hbox) ((gs_ w hg (below_size z3_))) ((gs_ w hg (below_size z3_))) ((z10_ : gb101 ≠ gb102)) ((z11_ : gb102 ≠ gb101)); clear BK101 HB; obtain ⟨BK101, HB, BK102, GW102, GE102, NB101_102, NB102_101⟩ := n_; clear hb hbox hg; have hnb42 := NB101_102.out; have hnc42 := NB102_101.out; obtain ⟨hcz43_0, hcz43_1, hcz43_2, hfz43_0, hfz43_1, hfz43_2⟩ := bcf3 BK101.out; obtain ⟨hcz44_0, hcz44_1, hcz44_2, hfz44_0, hfz44_1, hfz44_2⟩ := bcf3 BK102.out))
    refine bodyPost_ret (results_ct rfl _ _ gb102 24 #[.int .i64 0, .int .i64 0, .string (⟨#[]⟩ : ByteArray)] (0, 0) _ rfl z23_ Try.underlying24 rfl (by kernel_rfl)) rfl ?_
    exact ⟨z8_, z4_⟩
  rw [if_neg c39] at H
  have c39b0 : (a1_0 == 0) = false := beq_eq_false_iff_ne.mpr c39
  have c39b1 : (a1_0 != 0) = true := bne_iff_ne.mpr c39
  by_cases c45 : a1_0 = 2
  rotate_left
  · rw [if_neg c45] at H
    have c45b0 : (a1_0 == 2) = false := beq_eq_false_iff_ne.mpr c45
    have c45b1 : (a1_0 != 2) = true := bne_iff_ne.mpr c45
    simp only [Option.some.injEq, Prod.mk.injEq] at H
    obtain ⟨rfl, rfl, rfl, rfl⟩ := H
    go_enter Try.func22, Try.ntmps22
    go_wp2_with (first | ((with_reducible refine gate_dst (N := 3) rfl ?_); refine bx_ 3 (cs := #[.int .i64 a1_0, .int .i64 a1_1, .string a1_2]) (t := 24) (h_ := ?_); intro gb101 hg w57 hbox hb; have n_ := a4_ (below_step z1_ hb) (hbox) ((gs_ w hg (below_size z1_))) ((gs_ w hg (below_size z1_))); clear HB; obtain ⟨HB, BK101, GW101, GE101⟩ := n_; clear hb hbox hg) | ((with_reducible refine gate_dst (N := 4) rfl ?_); refine bx_ 4 (cs := #[.int .i64 0, .int .i64 0, .string (⟨#[]⟩ : ByteArray)]) (t := 24) (h_ := ?_); intro gb102 hg w58 hbox hb; have n_ := a7_ (blk_below (g := gb101) (o := .cells #[.int .i64 a1_0, .int .i64 a1_1, .string a1_2] 24 (0, 0)) z0_ hb) (below_step z3_ hb) (hbox) ((gs_ w hg (below_size z3_))) ((gs_ w hg (below_size z3_))) ((z10_ : gb101 ≠ gb102)) ((z11_ : gb102 ≠ gb101)); clear BK101 HB; obtain ⟨BK101, HB, BK102, GW102, GE102, NB101_102, NB102_101⟩ := n_; clear hb hbox hg; have hnb59 := NB101_102.out; have hnc59 := NB102_101.out; obtain ⟨hcz60_0, hcz60_1, hcz60_2, hfz60_0, hfz60_1, hfz60_2⟩ := bcf3 BK101.out; obtain ⟨hcz61_0, hcz61_1, hcz61_2, hfz61_0, hfz61_1, hfz61_2⟩ := bcf3 BK102.out))
    refine bodyPost_ret (results_ct rfl _ _ gb102 24 #[.int .i64 0, .int .i64 0, .string (⟨#[]⟩ : ByteArray)] (0, 0) _ rfl z23_ Try.underlying24 rfl (by kernel_rfl)) rfl ?_
    exact ⟨z8_, z4_⟩

  rw [if_pos c45] at H
  have c45b0 : (a1_0 == 2) = true := beq_iff_eq.mpr c45
  have c45b1 : (a1_0 != 2) = false := bne_eq_false_iff_eq.mpr c45
  clear c45
  by_cases c46 : a1_1 = (-9223372036854775808)
  rotate_left
  · rw [if_neg c46] at H
    have c46b0 : (a1_1 == (-9223372036854775808)) = false := beq_eq_false_iff_ne.mpr c46
    have c46b1 : (a1_1 != (-9223372036854775808)) = true := bne_iff_ne.mpr c46
    simp only [Option.some.injEq, Prod.mk.injEq] at H
    obtain ⟨rfl, rfl, rfl, rfl⟩ := H
    go_enter Try.func22, Try.ntmps22
    go_wp2_with (first | ((with_reducible refine gate_dst (N := 3) rfl ?_); refine bx_ 3 (cs := #[.int .i64 a1_0, .int .i64 a1_1, .string a1_2]) (t := 24) (h_ := ?_); intro gb101 hg w52 hbox hb; have n_ := a4_ (below_step z1_ hb) (hbox) ((gs_ w hg (below_size z1_))) ((gs_ w hg (below_size z1_))); clear HB; obtain ⟨HB, BK101, GW101, GE101⟩ := n_; clear hb hbox hg) | ((with_reducible refine gate_dst (N := 4) rfl ?_); refine bx_ 4 (cs := #[.int .i64 0, .int .i64 0, .string (⟨#[]⟩ : ByteArray)]) (t := 24) (h_ := ?_); intro gb102 hg w53 hbox hb; have n_ := a7_ (blk_below (g := gb101) (o := .cells #[.int .i64 a1_0, .int .i64 a1_1, .string a1_2] 24 (0, 0)) z0_ hb) (below_step z3_ hb) (hbox) ((gs_ w hg (below_size z3_))) ((gs_ w hg (below_size z3_))) ((z10_ : gb101 ≠ gb102)) ((z11_ : gb102 ≠ gb101)); clear BK101 HB; obtain ⟨BK101, HB, BK102, GW102, GE102, NB101_102, NB102_101⟩ := n_; clear hb hbox hg; have hnb54 := NB101_102.out; have hnc54 := NB102_101.out; obtain ⟨hcz55_0, hcz55_1, hcz55_2, hfz55_0, hfz55_1, hfz55_2⟩ := bcf3 BK101.out; obtain ⟨hcz56_0, hcz56_1, hcz56_2, hfz56_0, hfz56_1, hfz56_2⟩ := bcf3 BK102.out))
    refine bodyPost_ret (results_ct rfl _ _ gb102 24 #[.int .i64 2, .int .i64 (wrap64 (-a1_1)), .string (⟨#[]⟩ : ByteArray)] (0, 0) _ rfl (by (with_reducible repeat (first | refine blk_drewN ?_ _ | refine blk_drew ?_ | refine blk_alloc ?_ _)); refine blk_put (cs := #[.int .i64 2, .int .i64 (wrap64 (-a1_1)), .string (⟨#[]⟩ : ByteArray)]) ?_ 2 _ rfl; (with_reducible repeat (first | refine blk_drewN ?_ _ | refine blk_drew ?_ | refine blk_alloc ?_ _)); refine blk_put (cs := #[.int .i64 2, .int .i64 0, .string (⟨#[]⟩ : ByteArray)]) ?_ 1 _ rfl; (with_reducible repeat (first | refine blk_drewN ?_ _ | refine blk_drew ?_ | refine blk_alloc ?_ _)); refine blk_put (cs := #[.int .i64 0, .int .i64 0, .string (⟨#[]⟩ : ByteArray)]) ?_ 0 _ rfl; (with_reducible repeat (first | refine blk_drewN ?_ _ | refine blk_drew ?_ | refine blk_alloc ?_ _)); exact BK102.out) Try.underlying24 rfl (by kernel_rfl)) rfl ?_
    exact ⟨z8_, z4_⟩
  rw [if_pos c46] at H
  have c46b0 : (a1_1 == (-9223372036854775808)) = true := beq_iff_eq.mpr c46
  have c46b1 : (a1_1 != (-9223372036854775808)) = false := bne_eq_false_iff_eq.mpr c46
  clear c46
  simp only [Option.some.injEq, Prod.mk.injEq] at H
  obtain ⟨rfl, rfl, rfl, rfl⟩ := H
  go_enter Try.func22, Try.ntmps22
  go_wp2_with (first | ((with_reducible refine gate_dst (N := 3) rfl ?_); refine bx_ 3 (cs := #[.int .i64 a1_0, .int .i64 a1_1, .string a1_2]) (t := 24) (h_ := ?_); intro gb101 hg w47 hbox hb; have n_ := a4_ (below_step z1_ hb) (hbox) ((gs_ w hg (below_size z1_))) ((gs_ w hg (below_size z1_))); clear HB; obtain ⟨HB, BK101, GW101, GE101⟩ := n_; clear hb hbox hg) | ((with_reducible refine gate_dst (N := 4) rfl ?_); refine bx_ 4 (cs := #[.int .i64 0, .int .i64 0, .string (⟨#[]⟩ : ByteArray)]) (t := 24) (h_ := ?_); intro gb102 hg w48 hbox hb; have n_ := a7_ (blk_below (g := gb101) (o := .cells #[.int .i64 a1_0, .int .i64 a1_1, .string a1_2] 24 (0, 0)) z0_ hb) (below_step z3_ hb) (hbox) ((gs_ w hg (below_size z3_))) ((gs_ w hg (below_size z3_))) ((z10_ : gb101 ≠ gb102)) ((z11_ : gb102 ≠ gb101)); clear BK101 HB; obtain ⟨BK101, HB, BK102, GW102, GE102, NB101_102, NB102_101⟩ := n_; clear hb hbox hg; have hnb49 := NB101_102.out; have hnc49 := NB102_101.out; obtain ⟨hcz50_0, hcz50_1, hcz50_2, hfz50_0, hfz50_1, hfz50_2⟩ := bcf3 BK101.out; obtain ⟨hcz51_0, hcz51_1, hcz51_2, hfz51_0, hfz51_1, hfz51_2⟩ := bcf3 BK102.out))
  refine bodyPost_ret (results_ct rfl _ _ gb102 24 #[.int .i64 0, .int .i64 0, .string (⟨#[]⟩ : ByteArray)] (0, 0) _ rfl z23_ Try.underlying24 rfl (by kernel_rfl)) rfl ?_
  exact ⟨z8_, z4_⟩
end

end Go.Proofs.Ytfbclbbhomhfaaa.X
end
