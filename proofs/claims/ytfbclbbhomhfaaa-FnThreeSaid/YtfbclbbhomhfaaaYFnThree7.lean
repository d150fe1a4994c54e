/- Contracts of functions, and what is told of them. -/
import Derived.Test.YtfbclbbhomhfaaaYFnThree3
import Derived.Test.YtfbclbbhomhfaaaYFnThree4
import Derived.Test.YtfbclbbhomhfaaaYFnThree5
import Derived.Test.YtfbclbbhomhfaaaYFnThree6
-- WRITTEN BY xprint.py, a program of this session, over the translation of the seat. Lean checks it.
namespace Go.Proofs.Ytfbclbbhomhfaaa.X
open Go.RowKit Go.Proofs.YtfbclbbhomhfaaaW.PrintWords Go.Proofs.YtfbclbbhomhfaaaW.PrintLast Go.Proofs.YtfbclbbhomhfaaaW.PrintMore
attribute [local go_sem] max2_int min2_int max_two min_two max_three min_three max_four min_four   -- for this text's walks alone
set_option linter.unusedVariables false
set_option linter.unusedSimpArgs false

/-! ### impl_binaryValue: function 16 -/
def impl_binaryValue.j0 : Nat → ByteArray → Int → Bool → Int → Int → ByteArray → Int → Int → ByteArray → Option (Int × Int × ByteArray × Int)
  | 0, _, _, _, _, _, _, _, _, _ => none
  | k + 1, x0, x8, x27, x102000, x102001, x102002, x103000, x103001, x103002 => if x27 = true then (some (0, 0, (⟨#[]⟩ : ByteArray), 0)) else (if x8 = 4 then ((impl_compareValues.f k x102000 x102001 x102002 x103000 x103001 x103002).bind fun t109 => ((impl_compared.f x0 t109).bind fun t110 => ((impl_boolValue.f t110).bind fun bt111 => (some (bt111.1, bt111.2.1, bt111.2.2, 0))))) else ((impl_arithmetic.f x0 x102001 x103001).bind fun bt114 => (if bt114.2 = 0 then (some (2, bt114.1, (⟨#[]⟩ : ByteArray), 0)) else (some (0, 0, (⟨#[]⟩ : ByteArray), bt114.2)))))
def impl_binaryValue.f (k : Nat) (a0 : ByteArray) (a1_0 : Int) (a1_1 : Int) (a1_2 : ByteArray) (a2_0 : Int) (a2_1 : Int) (a2_2 : ByteArray) : Option (Int × Int × ByteArray × Int) := (impl_levelOf.f k a0).bind fun t104 => ((impl_areKinds.f t104 a1_0 a1_1 a1_2 a2_0 a2_1 a2_2).bind fun t105 => (if t105 = true then (if t104 < 4 then ((impl_logic.f k a0 a1_0 a1_1 a1_2 a2_0 a2_1 a2_2).bind fun bt106 => (some (bt106.1, bt106.2.1, bt106.2.2, 0))) else (if a1_0 = 0 then (impl_binaryValue.j0 k a0 t104 true a1_0 a1_1 a1_2 a2_0 a2_1 a2_2) else (impl_binaryValue.j0 k a0 t104 (a2_0 == 0) a1_0 a1_1 a1_2 a2_0 a2_1 a2_2))) else (some (0, 0, (⟨#[]⟩ : ByteArray), 10))))
theorem impl_binaryValue.mono_l : ∀ k, (∀ y0 y1 y2 y3 y4 y5 y6 y7 y8, LeO (impl_binaryValue.j0 k y0 y1 y2 y3 y4 y5 y6 y7 y8) (impl_binaryValue.j0 (k + 1) y0 y1 y2 y3 y4 y5 y6 y7 y8))
  | 0 => fun _ _ _ _ _ _ _ _ _ r h => by simp [impl_binaryValue.j0] at h
  | k + 1 => by
    have ih0 := impl_binaryValue.mono_l k
    intro y0 y1 y2 y3 y4 y5 y6 y7 y8
    unfold impl_binaryValue.j0
    repeat' first
    | (with_reducible exact ih0 _ _ _ _ _ _ _ _ _)
    | (with_reducible exact impl_compareValues.mono _ _ _ _ _ _ _)
    | (with_reducible exact impl_levelOf.mono _ _)
    | (with_reducible exact impl_logic.mono _ _ _ _ _ _ _ _)
    | (with_reducible exact LeO.refl _)
    | (with_reducible exact LeO.none _)
    | (with_reducible refine LeO.ite ?_ ?_)
    | (with_reducible refine LeO.bind ?_ (fun _ => ?_))
    | exact ih0 _ _ _ _ _ _ _ _ _
    | exact impl_compareValues.mono _ _ _ _ _ _ _
    | exact impl_levelOf.mono _ _
    | exact impl_logic.mono _ _ _ _ _ _ _ _
    | exact LeO.none _
    | refine LeO.ite ?_ ?_
    | refine LeO.bind ?_ (fun _ => ?_)
theorem impl_binaryValue.mono : ∀ a0 a1 a2 a3 a4 a5 a6 k, LeO (impl_binaryValue.f k a0 a1 a2 a3 a4 a5 a6) (impl_binaryValue.f (k + 1) a0 a1 a2 a3 a4 a5 a6) := by
  intro a0 a1 a2 a3 a4 a5 a6 k
  have ih0 := impl_binaryValue.mono_l k
  unfold impl_binaryValue.f
  repeat' first
      | (with_reducible exact ih0 _ _ _ _ _ _ _ _ _)
      | (with_reducible exact impl_compareValues.mono _ _ _ _ _ _ _)
      | (with_reducible exact impl_levelOf.mono _ _)
      | (with_reducible exact impl_logic.mono _ _ _ _ _ _ _ _)
      | (with_reducible exact LeO.refl _)
      | (with_reducible exact LeO.none _)
      | (with_reducible refine LeO.ite ?_ ?_)
      | (with_reducible refine LeO.bind ?_ (fun _ => ?_))
      | exact ih0 _ _ _ _ _ _ _ _ _
      | exact impl_compareValues.mono _ _ _ _ _ _ _
      | exact impl_levelOf.mono _ _
      | exact impl_logic.mono _ _ _ _ _ _ _ _
      | exact LeO.none _
      | refine LeO.ite ?_ ?_
      | refine LeO.bind ?_ (fun _ => ?_)
set_option maxHeartbeats 8000000 in
set_option maxRecDepth 100000 in
theorem impl_binaryValue.calls (k : Nat) (a0 : ByteArray) (a1_0 : Int) (a1_1 : Int) (a1_2 : ByteArray) (a2_0 : Int) (a2_1 : Int) (a2_2 : ByteArray) (r1 : Int) (r2 : Int) (r3 : ByteArray) (r4 : Int) (w : World) (h : impl_binaryValue.f k a0 a1_0 a1_1 a1_2 a2_0 a2_1 a2_2 = some (r1, r2, r3, r4)) :
    Calls Try.prog 16 #[.string a0, .agg #[.int .i64 a1_0, .int .i64 a1_1, .string a1_2], .agg #[.int .i64 a2_0, .int .i64 a2_1, .string a2_2]] w fun e w' => e = .returned (.tuple #[.agg #[.int .i64 r1, .int .i64 r2, .string r3], .int .i64 r4]) ∧ Below w.heap.size w w' := by
  have hu24 := Try.underlying24
  have HB := ak_ (Below.refl w.heap.size w)
  have H : ((impl_levelOf.f k a0).bind fun t104 => ((impl_areKinds.f t104 a1_0 a1_1 a1_2 a2_0 a2_1 a2_2).bind fun t105 => (if t105 = true then (if t104 < 4 then ((impl_logic.f k a0 a1_0 a1_1 a1_2 a2_0 a2_1 a2_2).bind fun bt106 => (some (bt106.1, bt106.2.1, bt106.2.2, 0))) else (if a1_0 = 0 then (impl_binaryValue.j0 k a0 t104 true a1_0 a1_1 a1_2 a2_0 a2_1 a2_2) else (impl_binaryValue.j0 k a0 t104 (a2_0 == 0) a1_0 a1_1 a1_2 a2_0 a2_1 a2_2))) else (some (0, 0, (⟨#[]⟩ : ByteArray), 10))))) = some (r1, r2, r3, r4) := h
  clear h
  replace H := Option.bind_eq_some_iff.mp H
  obtain ⟨t104, A40, H⟩ := H
  have A4 := ak_ A40
  clear A40
  replace H := Option.bind_eq_some_iff.mp H
  obtain ⟨t105, A50, H⟩ := H
  have A5 := ak_ A50
  clear A50
  by_cases c6 : t105 = true
  rotate_left
  · replace c6 := Bool.eq_false_iff.mpr c6
    subst c6
    have H1 : (some (0, 0, (⟨#[]⟩ : ByteArray), 10)) = some (r1, r2, r3, r4) := by rw [if_neg (show ¬ (false = true) by decide)] at H; exact H
    clear H
    have H := H1
    clear H1
    simp only [Option.some.injEq, Prod.mk.injEq] at H
    obtain ⟨rfl, rfl, rfl, rfl⟩ := H
    go_enter Try.func16, Try.ntmps16
    go_wp2_with (first | ((with_reducible refine gate_dst (N := 4) rfl ?_); refine bx_ 4 (cs := #[.int .i64 a1_0, .int .i64 a1_1, .string a1_2]) (t := 24) (h_ := ?_); intro gb101 hg w73 hbox hb; have n_ := a4_ (below_step z1_ hb) (hbox) ((gs_ w hg (below_size z1_))) ((gs_ w hg (below_size z1_))); clear HB; obtain ⟨HB, BK101, GW101, GE101⟩ := n_; clear hb hbox hg) | ((with_reducible refine gate_dst (N := 5) rfl ?_); refine bx_ 5 (cs := #[.int .i64 a2_0, .int .i64 a2_1, .string a2_2]) (t := 24) (h_ := ?_); intro gb102 hg w74 hbox hb; have n_ := a7_ (blk_below (g := gb101) (o := .cells #[.int .i64 a1_0, .int .i64 a1_1, .string a1_2] 24 (0, 0)) z0_ hb) (below_step z3_ hb) (hbox) ((gs_ w hg (below_size z3_))) ((gs_ w hg (below_size z3_))) ((z10_ : gb101 ≠ gb102)) ((z11_ : gb102 ≠ gb101)); clear BK101 HB; obtain ⟨BK101, HB, BK102, GW102, GE102, NB101_102, NB102_101⟩ := n_; clear hb hbox hg) | ((with_reducible refine gate_dst (N := 6) rfl ?_); refine bx_ 6 (cs := #[.int .i64 0, .int .i64 0, .string (⟨#[]⟩ : ByteArray)]) (t := 24) (h_ := ?_); intro gb103 hg w75 hbox hb; have n_ := a10_ (blk_below (g := gb101) (o := .cells #[.int .i64 a1_0, .int .i64 a1_1, .string a1_2] 24 (0, 0)) z0_ hb) (blk_below (g := gb102) (o := .cells #[.int .i64 a2_0, .int .i64 a2_1, .string a2_2] 24 (0, 0)) z6_ hb) (below_step z4_ hb) (hbox) ((gs_ w hg (below_size z4_))) ((gs_ w hg (below_size z4_))) ((z10_ : gb101 ≠ gb103)) ((z11_ : gb103 ≠ gb101)) ((z44_ : gb102 ≠ gb103)) ((z45_ : gb103 ≠ gb102)); clear BK101 BK102 HB; obtain ⟨BK101, BK102, HB, BK103, GW103, GE103, NB101_103, NB103_101, NB102_103, NB103_102⟩ := n_; clear hb hbox hg) | ((with_reducible refine gate_callee (f := 15) rfl ?_); refine goesL_ (some 12) rfl rfl Try.func15 (by kernel_rfl) rfl #[.string a0] rfl z5_ ?_; (with_reducible refine (impl_levelOf.calls k a0 t104 _ A4.out).mono ?_); rintro e w76 ⟨rfl, hb⟩; refine ⟨_, rfl, ?_⟩; have n_ := a4_ (blk_below (g := gb101) (o := .cells #[.int .i64 a1_0, .int .i64 a1_1, .string a1_2] 24 (0, 0)) z0_ hb) (blk_below (g := gb102) (o := .cells #[.int .i64 a2_0, .int .i64 a2_1, .string a2_2] 24 (0, 0)) z6_ hb) (blk_below (g := gb103) (o := .cells #[.int .i64 0, .int .i64 0, .string (⟨#[]⟩ : ByteArray)] 24 (0, 0)) z9_ hb) (below_step z2_ hb); clear BK101 BK102 BK103 HB; obtain ⟨BK101, BK102, BK103, HB⟩ := n_; (try clear hb); (try clear hb2); (try clear hk); (try clear hi); have hnb77 := NB101_102.out; have hnc77 := NB102_101.out; have hnb78 := NB101_103.out; have hnc78 := NB103_101.out; obtain ⟨hcz79_0, hcz79_1, hcz79_2, hfz79_0, hfz79_1, hfz79_2⟩ := bcf3 BK101.out; have hnb80 := NB102_103.out; have hnc80 := NB103_102.out; obtain ⟨hcz81_0, hcz81_1, hcz81_2, hfz81_0, hfz81_1, hfz81_2⟩ := bcf3 BK102.out) | ((with_reducible refine gate_callee (f := 36) rfl ?_); refine goesL_ (some 17) rfl rfl Try.func36 (by kernel_rfl) rfl #[.int .i64 t104, .agg #[.int .i64 a1_0, .int .i64 a1_1, .string a1_2], .agg #[.int .i64 a2_0, .int .i64 a2_1, .string a2_2]] rfl z5_ ?_; (with_reducible refine (impl_areKinds.calls t104 a1_0 a1_1 a1_2 a2_0 a2_1 a2_2 false _ A5.out).mono ?_); rintro e w82 ⟨rfl, hb⟩; refine ⟨_, rfl, ?_⟩; have n_ := a4_ (blk_below (g := gb101) (o := .cells #[.int .i64 a1_0, .int .i64 a1_1, .string a1_2] 24 (0, 0)) z0_ hb) (blk_below (g := gb102) (o := .cells #[.int .i64 a2_0, .int .i64 a2_1, .string a2_2] 24 (0, 0)) z6_ hb) (blk_below (g := gb103) (o := .cells #[.int .i64 0, .int .i64 0, .string (⟨#[]⟩ : ByteArray)] 24 (0, 0)) z9_ hb) (below_step z2_ hb); clear BK101 BK102 BK103 HB; obtain ⟨BK101, BK102, BK103, HB⟩ := n_; (try clear hb); (try clear hb2); (try clear hk); (try clear hi); obtain ⟨hcz83_0, hcz83_1, hcz83_2, hfz83_0, hfz83_1, hfz83_2⟩ := bcf3 BK103.out))
    refine bodyPost_ret (results_ct rfl _ _ gb103 24 #[.int .i64 0, .int .i64 0, .string (⟨#[]⟩ : ByteArray)] (0, 0) _ rfl z7_ Try.underlying24 rfl (by kernel_rfl)) rfl ?_
    exact ⟨z8_, z2_⟩

  subst c6
  have H1 : (if t104 < 4 then ((impl_logic.f k a0 a1_0 a1_1 a1_2 a2_0 a2_1 a2_2).bind fun bt106 => (some (bt106.1, bt106.2.1, bt106.2.2, 0))) else (if a1_0 = 0 then (impl_binaryValue.j0 k a0 t104 true a1_0 a1_1 a1_2 a2_0 a2_1 a2_2) else (impl_binaryValue.j0 k a0 t104 (a2_0 == 0) a1_0 a1_1 a1_2 a2_0 a2_1 a2_2))) = some (r1, r2, r3, r4) := by rw [if_pos rfl] at H; exact H
  clear H
  have H := H1
  clear H1
  by_cases c7 : t104 < 4
  · rw [if_pos c7] at H
    have c7b0 := decide_eq_true c7
    clear c7
    replace H := Option.bind_eq_some_iff.mp H
    obtain ⟨⟨t106, t107, t108⟩, A80, H⟩ := H
    replace H : (some (t106, t107, t108, 0)) = some (r1, r2, r3, r4) := H
    have A8 := ak_ A80
    clear A80
    simp only [Option.some.injEq, Prod.mk.injEq] at H
    obtain ⟨rfl, rfl, rfl, rfl⟩ := H
    go_enter Try.func16, Try.ntmps16
    go_wp2_with (first | ((with_reducible refine gate_dst (N := 4) rfl ?_); refine bx_ 4 (cs := #[.int .i64 a1_0, .int .i64 a1_1, .string a1_2]) (t := 24) (h_ := ?_); intro gb101 hg w9 hbox hb; have n_ := a4_ (below_step z1_ hb) (hbox) ((gs_ w hg (below_size z1_))) ((gs_ w hg (below_size z1_))); clear HB; obtain ⟨HB, BK101, GW101, GE101⟩ := n_; clear hb hbox hg) | ((with_reducible refine gate_dst (N := 5) rfl ?_); refine bx_ 5 (cs := #[.int .i64 a2_0, .int .i64 a2_1, .string a2_2]) (t := 24) (h_ := ?_); intro gb102 hg w10 hbox hb; have n_ := a7_ (blk_below (g := gb101) (o := .cells #[.int .i64 a1_0, .int .i64 a1_1, .string a1_2] 24 (0, 0)) z0_ hb) (below_step z3_ hb) (hbox) ((gs_ w hg (below_size z3_))) ((gs_ w hg (below_size z3_))) ((z10_ : gb101 ≠ gb102)) ((z11_ : gb102 ≠ gb101)); clear BK101 HB; obtain ⟨BK101, HB, BK102, GW102, GE102, NB101_102, NB102_101⟩ := n_; clear hb hbox hg) | ((with_reducible refine gate_dst (N := 6) rfl ?_); refine bx_ 6 (cs := #[.int .i64 0, .int .i64 0, .string (⟨#[]⟩ : ByteArray)]) (t := 24) (h_ := ?_); intro gb103 hg w11 hbox hb; have n_ := a10_ (blk_below (g := gb101) (o := .cells #[.int .i64 a1_0, .int .i64 a1_1, .string a1_2] 24 (0, 0)) z0_ hb) (blk_below (g := gb102) (o := .cells #[.int .i64 a2_0, .int .i64 a2_1, .string a2_2] 24 (0, 0)) z6_ hb) (below_step z4_ hb) (hbox) ((gs_ w hg (below_size z4_))) ((gs_ w hg (below_size z4_))) ((z10_ : gb101 ≠ gb103)) ((z11_ : gb103 ≠ gb101)) ((z44_ : gb102 ≠ gb103)) ((z45_ : gb103 ≠ gb102)); clear BK101 BK102 HB; obtain ⟨BK101, BK102, HB, BK103, GW103, GE103, NB101_103, NB103_101, NB102_103, NB103_102⟩ := n_; clear hb hbox hg) | ((with_reducible refine gate_callee (f := 15) rfl ?_); refine goesL_ (some 12) rfl rfl Try.func15 (by kernel_rfl) rfl #[.string a0] rfl z5_ ?_; (with_reducible refine (impl_levelOf.calls k a0 t104 _ A4.out).mono ?_); rintro e w12 ⟨rfl, hb⟩; refine ⟨_, rfl, ?_⟩; have n_ := a4_ (blk_below (g := gb101) (o := .cells #[.int .i64 a1_0, .int .i64 a1_1, .string a1_2] 24 (0, 0)) z0_ hb) (blk_below (g := gb102) (o := .cells #[.int .i64 a2_0, .int .i64 a2_1, .string a2_2] 24 (0, 0)) z6_ hb) (blk_below (g := gb103) (o := .cells #[.int .i64 0, .int .i64 0, .string (⟨#[]⟩ : ByteArray)] 24 (0, 0)) z9_ hb) (below_step z2_ hb); clear BK101 BK102 BK103 HB; obtain ⟨BK101, BK102, BK103, HB⟩ := n_; (try clear hb); (try clear hb2); (try clear hk); (try clear hi); have hnb13 := NB101_102.out; have hnc13 := NB102_101.out; have hnb14 := NB101_103.out; have hnc14 := NB103_101.out; obtain ⟨hcz15_0, hcz15_1, hcz15_2, hfz15_0, hfz15_1, hfz15_2⟩ := bcf3 BK101.out; have hnb16 := NB102_103.out; have hnc16 := NB103_102.out; obtain ⟨hcz17_0, hcz17_1, hcz17_2, hfz17_0, hfz17_1, hfz17_2⟩ := bcf3 BK102.out) | ((with_reducible refine gate_callee (f := 36) rfl ?_); refine goesL_ (some 17) rfl rfl Try.func36 (by kernel_rfl) rfl #[.int .i64 t104, .agg #[.int .i64 a1_0, .int .i64 a1_1, .string a1_2], .agg #[.int .i64 a2_0, .int .i64 a2_1, .string a2_2]] rfl z5_ ?_; (with_reducible refine (impl_areKinds.calls t104 a1_0 a1_1 a1_2 a2_0 a2_1 a2_2 true _ A5.out).mono ?_); rintro e w18 ⟨rfl, hb⟩; refine ⟨_, rfl, ?_⟩; have n_ := a4_ (blk_below (g := gb101) (o := .cells #[.int .i64 a1_0, .int .i64 a1_1, .string a1_2] 24 (0, 0)) z0_ hb) (blk_below (g := gb102) (o := .cells #[.int .i64 a2_0, .int .i64 a2_1, .string a2_2] 24 (0, 0)) z6_ hb) (blk_below (g := gb103) (o := .cells #[.int .i64 0, .int .i64 0, .string (⟨#[]⟩ : ByteArray)] 24 (0, 0)) z9_ hb) (below_step z2_ hb); clear BK101 BK102 BK103 HB; obtain ⟨BK101, BK102, BK103, HB⟩ := n_; (try clear hb); (try clear hb2); (try clear hk); (try clear hi); obtain ⟨hcz19_0, hcz19_1, hcz19_2, hfz19_0, hfz19_1, hfz19_2⟩ := bcf3 BK101.out; obtain ⟨hcz20_0, hcz20_1, hcz20_2, hfz20_0, hfz20_1, hfz20_2⟩ := bcf3 BK102.out) | ((with_reducible refine gate_callee (f := 37) rfl ?_); refine goesL_ (some 26) rfl rfl Try.func37 (by kernel_rfl) rfl #[.string a0, .agg #[.int .i64 a1_0, .int .i64 a1_1, .string a1_2], .agg #[.int .i64 a2_0, .int .i64 a2_1, .string a2_2]] rfl z5_ ?_; (with_reducible refine (impl_logic.calls k a0 a1_0 a1_1 a1_2 a2_0 a2_1 a2_2 t106 t107 t108 _ A8.out).mono ?_); rintro e w21 ⟨rfl, hb⟩; refine ⟨_, rfl, ?_⟩; have n_ := a4_ (blk_below (g := gb101) (o := .cells #[.int .i64 a1_0, .int .i64 a1_1, .string a1_2] 24 (0, 0)) z0_ hb) (blk_below (g := gb102) (o := .cells #[.int .i64 a2_0, .int .i64 a2_1, .string a2_2] 24 (0, 0)) z6_ hb) (blk_below (g := gb103) (o := .cells #[.int .i64 0, .int .i64 0, .string (⟨#[]⟩ : ByteArray)] 24 (0, 0)) z9_ hb) (below_step z2_ hb); clear BK101 BK102 BK103 HB; obtain ⟨BK101, BK102, BK103, HB⟩ := n_; (try clear hb); (try clear hb2); (try clear hk); (try clear hi); obtain ⟨hcz22_0, hcz22_1, hcz22_2, hfz22_0, hfz22_1, hfz22_2⟩ := bcf3 BK103.out))
    refine bodyPost_ret (results_ct rfl _ _ gb103 24 #[.int .i64 t106, .int .i64 t107, .string t108] (0, 0) _ rfl z82_ Try.underlying24 rfl (by kernel_rfl)) rfl ?_
    exact ⟨z8_, z2_⟩
  rw [if_neg c7] at H
  have c7b0 := decide_eq_false c7
  clear c7
  have HC23 := ak_ H
  clear H
  go_enter Try.func16, Try.ntmps16
  go_upto_region 6 with (first | ((with_reducible refine gate_dst (N := 4) rfl ?_); refine bx_ 4 (cs := #[.int .i64 a1_0, .int .i64 a1_1, .string a1_2]) (t := 24) (h_ := ?_); intro gb101 hg w24 hbox hb; have n_ := a4_ (below_step z1_ hb) (hbox) ((gs_ w hg (below_size z1_))) ((gs_ w hg (below_size z1_))); clear HB; obtain ⟨HB, BK101, GW101, GE101⟩ := n_; clear hb hbox hg) | ((with_reducible refine gate_dst (N := 5) rfl ?_); refine bx_ 5 (cs := #[.int .i64 a2_0, .int .i64 a2_1, .string a2_2]) (t := 24) (h_ := ?_); intro gb102 hg w25 hbox hb; have n_ := a7_ (blk_below (g := gb101) (o := .cells #[.int .i64 a1_0, .int .i64 a1_1, .string a1_2] 24 (0, 0)) z0_ hb) (below_step z3_ hb) (hbox) ((gs_ w hg (below_size z3_))) ((gs_ w hg (below_size z3_))) ((z10_ : gb101 ≠ gb102)) ((z11_ : gb102 ≠ gb101)); clear BK101 HB; obtain ⟨BK101, HB, BK102, GW102, GE102, NB101_102, NB102_101⟩ := n_; clear hb hbox hg) | ((with_reducible refine gate_dst (N := 6) rfl ?_); refine bx_ 6 (cs := #[.int .i64 0, .int .i64 0, .string (⟨#[]⟩ : ByteArray)]) (t := 24) (h_ := ?_); intro gb103 hg w26 hbox hb; have n_ := a10_ (blk_below (g := gb101) (o := .cells #[.int .i64 a1_0, .int .i64 a1_1, .string a1_2] 24 (0, 0)) z0_ hb) (blk_below (g := gb102) (o := .cells #[.int .i64 a2_0, .int .i64 a2_1, .string a2_2] 24 (0, 0)) z6_ hb) (below_step z4_ hb) (hbox) ((gs_ w hg (below_size z4_))) ((gs_ w hg (below_size z4_))) ((z10_ : gb101 ≠ gb103)) ((z11_ : gb103 ≠ gb101)) ((z44_ : gb102 ≠ gb103)) ((z45_ : gb103 ≠ gb102)); clear BK101 BK102 HB; obtain ⟨BK101, BK102, HB, BK103, GW103, GE103, NB101_103, NB103_101, NB102_103, NB103_102⟩ := n_; clear hb hbox hg) | ((with_reducible refine gate_callee (f := 15) rfl ?_); refine goesL_ (some 12) rfl rfl Try.func15 (by kernel_rfl) rfl #[.string a0] rfl z5_ ?_; (with_reducible refine (impl_levelOf.calls k a0 t104 _ A4.out).mono ?_); rintro e w27 ⟨rfl, hb⟩; refine ⟨_, rfl, ?_⟩; have n_ := a4_ (blk_below (g := gb101) (o := .cells #[.int .i64 a1_0, .int .i64 a1_1, .string a1_2] 24 (0, 0)) z0_ hb) (blk_below (g := gb102) (o := .cells #[.int .i64 a2_0, .int .i64 a2_1, .string a2_2] 24 (0, 0)) z6_ hb) (blk_below (g := gb103) (o := .cells #[.int .i64 0, .int .i64 0, .string (⟨#[]⟩ : ByteArray)] 24 (0, 0)) z9_ hb) (below_step z2_ hb); clear BK101 BK102 BK103 HB; obtain ⟨BK101, BK102, BK103, HB⟩ := n_; (try clear hb); (try clear hb2); (try clear hk); (try clear hi); have hnb28 := NB101_102.out; have hnc28 := NB102_101.out; have hnb29 := NB101_103.out; have hnc29 := NB103_101.out; obtain ⟨hcz30_0, hcz30_1, hcz30_2, hfz30_0, hfz30_1, hfz30_2⟩ := bcf3 BK101.out; have hnb31 := NB102_103.out; have hnc31 := NB103_102.out; obtain ⟨hcz32_0, hcz32_1, hcz32_2, hfz32_0, hfz32_1, hfz32_2⟩ := bcf3 BK102.out) | ((with_reducible refine gate_callee (f := 36) rfl ?_); refine goesL_ (some 17) rfl rfl Try.func36 (by kernel_rfl) rfl #[.int .i64 t104, .agg #[.int .i64 a1_0, .int .i64 a1_1, .string a1_2], .agg #[.int .i64 a2_0, .int .i64 a2_1, .string a2_2]] rfl z5_ ?_; (with_reducible refine (impl_areKinds.calls t104 a1_0 a1_1 a1_2 a2_0 a2_1 a2_2 true _ A5.out).mono ?_); rintro e w33 ⟨rfl, hb⟩; refine ⟨_, rfl, ?_⟩; have n_ := a4_ (blk_below (g := gb101) (o := .cells #[.int .i64 a1_0, .int .i64 a1_1, .string a1_2] 24 (0, 0)) z0_ hb) (blk_below (g := gb102) (o := .cells #[.int .i64 a2_0, .int .i64 a2_1, .string a2_2] 24 (0, 0)) z6_ hb) (blk_below (g := gb103) (o := .cells #[.int .i64 0, .int .i64 0, .string (⟨#[]⟩ : ByteArray)] 24 (0, 0)) z9_ hb) (below_step z2_ hb); clear BK101 BK102 BK103 HB; obtain ⟨BK101, BK102, BK103, HB⟩ := n_; (try clear hb); (try clear hb2); (try clear hk); (try clear hi)))
  (try simp only [Act.put, List.setIfInBounds_toArray, List.set_cons_zero, List.set_cons_succ])
  go_cut [27] (fun v27 wc => ∃ (kq : Nat) (x27_22 : Bool), v27 = .bool x27_22 ∧ Aside0 (impl_binaryValue.j0 kq a0 t104 x27_22 a1_0 a1_1 a1_2 a2_0 a2_1 a2_2 = some (r1, r2, r3, r4)) ∧ Aside0 (kq ≤ k) ∧ Aside0 (wc.heap[gb101]? = some (.cells #[.int .i64 a1_0, .int .i64 a1_1, .string a1_2] 24 (0, 0))) ∧ Aside0 (wc.heap[gb102]? = some (.cells #[.int .i64 a2_0, .int .i64 a2_1, .string a2_2] 24 (0, 0))) ∧ Aside0 (wc.heap[gb103]? = some (.cells #[.int .i64 0, .int .i64 0, .string (⟨#[]⟩ : ByteArray)] 24 (0, 0))) ∧ Aside0 (Below w.heap.size w wc))
  case first =>
    have H := HC23.out
    clear HC23
    by_cases c34 : a1_0 = 0
    · rw [if_pos c34] at H
      have c34b0 : (a1_0 == 0) = true := beq_iff_eq.mpr c34
      have c34b1 : (a1_0 != 0) = false := bne_eq_false_iff_eq.mpr c34
      clear c34
      (first | rw [c34b0] | (simp only [i64_w, i32_w]; rw [c34b0]) | skip)
      have H' := ak_ H
      clear H
      have hnb35 := NB101_102.out
      have hnc35 := NB102_101.out
      have hnb36 := NB101_103.out
      have hnc36 := NB103_101.out
      obtain ⟨hcz37_0, hcz37_1, hcz37_2, hfz37_0, hfz37_1, hfz37_2⟩ := bcf3 BK101.out
      go_wp2
      go_meet
      case rel => exact ⟨_, (true), z18_, H', ⟨by first | omega | exact Nat.le_refl _⟩, ⟨z0_⟩, ⟨z6_⟩, ⟨z9_⟩, ⟨z2_⟩⟩
    rw [if_neg c34] at H
    have c34b0 : (a1_0 == 0) = false := beq_eq_false_iff_ne.mpr c34
    have c34b1 : (a1_0 != 0) = true := bne_iff_ne.mpr c34
    (first | rw [c34b0] | (simp only [i64_w, i32_w]; rw [c34b0]) | skip)
    have H' := ak_ H
    clear H
    have hnb38 := NB101_102.out
    have hnc38 := NB102_101.out
    have hnb39 := NB101_103.out
    have hnc39 := NB103_101.out
    obtain ⟨hcz40_0, hcz40_1, hcz40_2, hfz40_0, hfz40_1, hfz40_2⟩ := bcf3 BK101.out
    have hnb41 := NB102_103.out
    have hnc41 := NB103_102.out
    obtain ⟨hcz42_0, hcz42_1, hcz42_2, hfz42_0, hfz42_1, hfz42_2⟩ := bcf3 BK102.out
    go_wp2
    go_meet
    case rel => exact ⟨_, ((a2_0 == 0)), z18_, H', ⟨by first | omega | exact Nat.le_refl _⟩, ⟨z0_⟩, ⟨z6_⟩, ⟨z9_⟩, ⟨z2_⟩⟩
  case rest =>
    clear HC23
    try clear c1
    try clear c2
    try clear p2
    try clear c3
    try clear c4
    try clear c6
    try clear c7
    try clear c7b0
    try clear c13
    try clear c14
    try clear c15
    try clear c16
    try clear c28
    try clear c29
    try clear c31
    try clear c34
    try clear c34b0
    try clear c34b1
    try clear c35
    try clear c36
    try clear c37
    try clear c38
    try clear c39
    try clear c41
    try clear hcz15_0
    try clear hcz15_1
    try clear hcz15_2
    try clear hcz17_0
    try clear hcz17_1
    try clear hcz17_2
    try clear hcz19_0
    try clear hcz19_1
    try clear hcz19_2
    try clear hcz20_0
    try clear hcz20_1
    try clear hcz20_2
    try clear hcz22_0
    try clear hcz22_1
    try clear hcz22_2
    try clear hcz30_0
    try clear hcz30_1
    try clear hcz30_2
    try clear hcz32_0
    try clear hcz32_1
    try clear hcz32_2
    try clear hcz37_0
    try clear hcz37_1
    try clear hcz37_2
    try clear hcz40_0
    try clear hcz40_1
    try clear hcz40_2
    try clear hcz42_0
    try clear hcz42_1
    try clear hcz42_2
    try clear hfz15_0
    try clear hfz15_1
    try clear hfz15_2
    try clear hfz17_0
    try clear hfz17_1
    try clear hfz17_2
    try clear hfz19_0
    try clear hfz19_1
    try clear hfz19_2
    try clear hfz20_0
    try clear hfz20_1
    try clear hfz20_2
    try clear hfz22_0
    try clear hfz22_1
    try clear hfz22_2
    try clear hfz30_0
    try clear hfz30_1
    try clear hfz30_2
    try clear hfz32_0
    try clear hfz32_1
    try clear hfz32_2
    try clear hfz37_0
    try clear hfz37_1
    try clear hfz37_2
    try clear hfz40_0
    try clear hfz40_1
    try clear hfz40_2
    try clear hfz42_0
    try clear hfz42_1
    try clear hfz42_2
    obtain ⟨kq, x27_22, rfl, HA, HJ22, BK101, BK102, BK103, HB⟩ := hcut
    cases kq with
    | zero => exact absurd HA.out (by simp [impl_binaryValue.j0])
    | succ kj22 =>
      have H := HA.out
      clear HA
      simp only [impl_binaryValue.j0] at H
      by_cases c43 : x27_22 = true
      · subst c43
        have H1 : (some (0, 0, (⟨#[]⟩ : ByteArray), 0)) = some (r1, r2, r3, r4) := by rw [if_pos rfl] at H; exact H
        clear H
        have H := H1
        clear H1
        simp only [Option.some.injEq, Prod.mk.injEq] at H
        obtain ⟨rfl, rfl, rfl, rfl⟩ := H
        have hnb44 := NB103_101.out
        have hnc44 := NB101_103.out
        have hnb45 := NB103_102.out
        have hnc45 := NB102_103.out
        obtain ⟨hcz46_0, hcz46_1, hcz46_2, hfz46_0, hfz46_1, hfz46_2⟩ := bcf3 BK103.out
        go_wp2
        refine bodyPost_ret (results_ct rfl _ _ gb103 24 #[.int .i64 0, .int .i64 0, .string (⟨#[]⟩ : ByteArray)] (0, 0) _ rfl z7_ Try.underlying24 rfl (by kernel_rfl)) rfl ?_
        exact ⟨z8_, z2_⟩
      replace c43 := Bool.eq_false_iff.mpr c43
      subst c43
      have H1 : (if t104 = 4 then ((impl_compareValues.f kj22 a1_0 a1_1 a1_2 a2_0 a2_1 a2_2).bind fun t109 => ((impl_compared.f a0 t109).bind fun t110 => ((impl_boolValue.f t110).bind fun bt111 => (some (bt111.1, bt111.2.1, bt111.2.2, 0))))) else ((impl_arithmetic.f a0 a1_1 a2_1).bind fun bt114 => (if bt114.2 = 0 then (some (2, bt114.1, (⟨#[]⟩ : ByteArray), 0)) else (some (0, 0, (⟨#[]⟩ : ByteArray), bt114.2))))) = some (r1, r2, r3, r4) := by rw [if_neg (show ¬ (false = true) by decide)] at H; exact H
      clear H
      have H := H1
      clear H1
      by_cases c47 : t104 = 4
      · rw [if_pos c47] at H
        have c47b0 : (t104 == 4) = true := beq_iff_eq.mpr c47
        have c47b1 : (t104 != 4) = false := bne_eq_false_iff_eq.mpr c47
        clear c47
        replace H := Option.bind_eq_some_iff.mp H
        obtain ⟨t109, A480, H⟩ := H
        have A48 := ak_ A480
        clear A480
        replace H := Option.bind_eq_some_iff.mp H
        obtain ⟨t110, A490, H⟩ := H
        have A49 := ak_ A490
        clear A490
        replace H := Option.bind_eq_some_iff.mp H
        obtain ⟨⟨t111, t112, t113⟩, A500, H⟩ := H
        replace H : (some (t111, t112, t113, 0)) = some (r1, r2, r3, r4) := H
        have A50 := ak_ A500
        clear A500
        simp only [Option.some.injEq, Prod.mk.injEq] at H
        obtain ⟨rfl, rfl, rfl, rfl⟩ := H
        have hnb51 := NB101_102.out
        have hnc51 := NB102_101.out
        have hnb52 := NB101_103.out
        have hnc52 := NB103_101.out
        obtain ⟨hcz53_0, hcz53_1, hcz53_2, hfz53_0, hfz53_1, hfz53_2⟩ := bcf3 BK101.out
        have hnb54 := NB102_103.out
        have hnc54 := NB103_102.out
        obtain ⟨hcz55_0, hcz55_1, hcz55_2, hfz55_0, hfz55_1, hfz55_2⟩ := bcf3 BK102.out
        go_wp2_with (first | ((with_reducible refine gate_callee (f := 40) rfl ?_); refine goesL_ (some 43) rfl rfl Try.func40 (by kernel_rfl) rfl #[.agg #[.int .i64 a1_0, .int .i64 a1_1, .string a1_2], .agg #[.int .i64 a2_0, .int .i64 a2_1, .string a2_2]] rfl z5_ ?_; (with_reducible refine (impl_compareValues.calls kj22 a1_0 a1_1 a1_2 a2_0 a2_1 a2_2 t109 _ A48.out).mono ?_); rintro e w56 ⟨rfl, hb⟩; refine ⟨_, rfl, ?_⟩; have n_ := a4_ (blk_below (g := gb101) (o := .cells #[.int .i64 a1_0, .int .i64 a1_1, .string a1_2] 24 (0, 0)) z0_ hb) (blk_below (g := gb102) (o := .cells #[.int .i64 a2_0, .int .i64 a2_1, .string a2_2] 24 (0, 0)) z6_ hb) (blk_below (g := gb103) (o := .cells #[.int .i64 0, .int .i64 0, .string (⟨#[]⟩ : ByteArray)] 24 (0, 0)) z9_ hb) (below_step z2_ hb); clear BK101 BK102 BK103 HB; obtain ⟨BK101, BK102, BK103, HB⟩ := n_; (try clear hb); (try clear hb2); (try clear hk); (try clear hi)) | ((with_reducible refine gate_callee (f := 39) rfl ?_); refine goesL_ (some 44) rfl rfl Try.func39 (by kernel_rfl) rfl #[.string a0, .int .i64 t109] rfl z5_ ?_; (with_reducible refine (impl_compared.calls a0 t109 t110 _ A49.out).mono ?_); rintro e w' ⟨rfl, ⟨nd, rfl⟩⟩; refine ⟨_, rfl, ?_⟩; (try (rw [drewN_self w56]; generalize hq_ : World.drewN w56 _ = w56; have n0_ : Aside0 (w56.heap[gb101]? = some (.cells #[.int .i64 a1_0, .int .i64 a1_1, .string a1_2] 24 (0, 0))) := ⟨by rw [← hq_]; exact z0_⟩; have n1_ : Aside0 (w56.heap[gb102]? = some (.cells #[.int .i64 a2_0, .int .i64 a2_1, .string a2_2] 24 (0, 0))) := ⟨by rw [← hq_]; exact z6_⟩; have n2_ : Aside0 (w56.heap[gb103]? = some (.cells #[.int .i64 0, .int .i64 0, .string (⟨#[]⟩ : ByteArray)] 24 (0, 0))) := ⟨by rw [← hq_]; exact z9_⟩; have n3_ : Aside0 (Below w.heap.size w w56) := ⟨by rw [← hq_]; exact z2_⟩; clear BK101 BK102 BK103 HB hq_; have BK101 := n0_; have BK102 := n1_; have BK103 := n2_; have HB := n3_; clear n0_ n1_ n2_ n3_))) | ((with_reducible refine gate_callee (f := 38) rfl ?_); refine goesL_ (some 45) rfl rfl Try.func38 (by kernel_rfl) rfl #[.bool t110] rfl z5_ ?_; (with_reducible refine (impl_boolValue.calls t110 t111 t112 t113 _ A50.out).mono ?_); rintro e w57 ⟨rfl, hb⟩; refine ⟨_, rfl, ?_⟩; have n_ := a4_ (blk_below (g := gb101) (o := .cells #[.int .i64 a1_0, .int .i64 a1_1, .string a1_2] 24 (0, 0)) z0_ hb) (blk_below (g := gb102) (o := .cells #[.int .i64 a2_0, .int .i64 a2_1, .string a2_2] 24 (0, 0)) z6_ hb) (blk_below (g := gb103) (o := .cells #[.int .i64 0, .int .i64 0, .string (⟨#[]⟩ : ByteArray)] 24 (0, 0)) z9_ hb) (below_step z2_ hb); clear BK101 BK102 BK103 HB; obtain ⟨BK101, BK102, BK103, HB⟩ := n_; (try clear hb); (try clear hb2); (try clear hk); (try clear hi); obtain ⟨hcz58_0, hcz58_1, hcz58_2, hfz58_0, hfz58_1, hfz58_2⟩ := bcf3 BK103.out))
        refine bodyPost_ret (results_ct rfl _ _ gb103 24 #[.int .i64 t111, .int .i64 t112, .string t113] (0, 0) _ rfl z61_ Try.underlying24 rfl (by kernel_rfl)) rfl ?_
        exact ⟨z8_, z2_⟩
      rw [if_neg c47] at H
      have c47b0 : (t104 == 4) = false := beq_eq_false_iff_ne.mpr c47
      have c47b1 : (t104 != 4) = true := bne_iff_ne.mpr c47
      replace H := Option.bind_eq_some_iff.mp H
      obtain ⟨⟨t114, t115⟩, A590, H⟩ := H
      replace H : (if t115 = 0 then (some (2, t114, (⟨#[]⟩ : ByteArray), 0)) else (some (0, 0, (⟨#[]⟩ : ByteArray), t115))) = some (r1, r2, r3, r4) := H
      have A59 := ak_ A590
      clear A590
      by_cases c60 : t115 = 0
      rotate_left
      · rw [if_neg c60] at H
        have c60b0 : (t115 == 0) = false := beq_eq_false_iff_ne.mpr c60
        have c60b1 : (t115 != 0) = true := bne_iff_ne.mpr c60
        simp only [Option.some.injEq, Prod.mk.injEq] at H
        obtain ⟨rfl, rfl, rfl, rfl⟩ := H
        have hnb67 := NB101_102.out
        have hnc67 := NB102_101.out
        have hnb68 := NB101_103.out
        have hnc68 := NB103_101.out
        obtain ⟨hcz69_0, hcz69_1, hcz69_2, hfz69_0, hfz69_1, hfz69_2⟩ := bcf3 BK101.out
        have hnb70 := NB102_103.out
        have hnc70 := NB103_102.out
        obtain ⟨hcz71_0, hcz71_1, hcz71_2, hfz71_0, hfz71_1, hfz71_2⟩ := bcf3 BK102.out
        go_wp2_with (first | ((with_reducible refine gate_callee (f := 41) rfl ?_); refine goesL_ (some 52) rfl rfl Try.func41 (by kernel_rfl) rfl #[.string a0, .int .i64 a1_1, .int .i64 a2_1] rfl z5_ ?_; (with_reducible refine (impl_arithmetic.calls a0 a1_1 a2_1 t114 t115 _ A59.out).mono ?_); rintro e w' ⟨rfl, ⟨nd, rfl⟩⟩; refine ⟨_, rfl, ?_⟩; (try (rw [drewN_self wc]; generalize hq_ : World.drewN wc _ = wc; have n0_ : Aside0 (wc.heap[gb101]? = some (.cells #[.int .i64 a1_0, .int .i64 a1_1, .string a1_2] 24 (0, 0))) := ⟨by rw [← hq_]; exact z0_⟩; have n1_ : Aside0 (wc.heap[gb102]? = some (.cells #[.int .i64 a2_0, .int .i64 a2_1, .string a2_2] 24 (0, 0))) := ⟨by rw [← hq_]; exact z6_⟩; have n2_ : Aside0 (wc.heap[gb103]? = some (.cells #[.int .i64 0, .int .i64 0, .string (⟨#[]⟩ : ByteArray)] 24 (0, 0))) := ⟨by rw [← hq_]; exact z9_⟩; have n3_ : Aside0 (Below w.heap.size w wc) := ⟨by rw [← hq_]; exact z2_⟩; clear BK101 BK102 BK103 HB hq_; have BK101 := n0_; have BK102 := n1_; have BK103 := n2_; have HB := n3_; clear n0_ n1_ n2_ n3_)); obtain ⟨hcz72_0, hcz72_1, hcz72_2, hfz72_0, hfz72_1, hfz72_2⟩ := bcf3 BK103.out))
        refine bodyPost_ret (results_ct rfl _ _ gb103 24 #[.int .i64 0, .int .i64 0, .string (⟨#[]⟩ : ByteArray)] (0, 0) _ rfl z7_ Try.underlying24 rfl (by kernel_rfl)) rfl ?_
        exact ⟨z8_, z2_⟩
      rw [if_pos c60] at H
      have c60b0 : (t115 == 0) = true := beq_iff_eq.mpr c60
      have c60b1 : (t115 != 0) = false := bne_eq_false_iff_eq.mpr c60
      clear c60
      simp only [Option.some.injEq, Prod.mk.injEq] at H
      obtain ⟨rfl, rfl, rfl, rfl⟩ := H
      have hnb61 := NB101_102.out
      have hnc61 := NB102_101.out
      have hnb62 := NB101_103.out
      have hnc62 := NB103_101.out
      obtain ⟨hcz63_0, hcz63_1, hcz63_2, hfz63_0, hfz63_1, hfz63_2⟩ := bcf3 BK101.out
      have hnb64 := NB102_103.out
      have hnc64 := NB103_102.out
      obtain ⟨hcz65_0, hcz65_1, hcz65_2, hfz65_0, hfz65_1, hfz65_2⟩ := bcf3 BK102.out
      go_wp2_with (first | ((with_reducible refine gate_callee (f := 41) rfl ?_); refine goesL_ (some 52) rfl rfl Try.func41 (by kernel_rfl) rfl #[.string a0, .int .i64 a1_1, .int .i64 a2_1] rfl z5_ ?_; (with_reducible refine (impl_arithmetic.calls a0 a1_1 a2_1 t114 t115 _ A59.out).mono ?_); rintro e w' ⟨rfl, ⟨nd, rfl⟩⟩; refine ⟨_, rfl, ?_⟩; (try (rw [drewN_self wc]; generalize hq_ : World.drewN wc _ = wc; have n0_ : Aside0 (wc.heap[gb101]? = some (.cells #[.int .i64 a1_0, .int .i64 a1_1, .string a1_2] 24 (0, 0))) := ⟨by rw [← hq_]; exact z0_⟩; have n1_ : Aside0 (wc.heap[gb102]? = some (.cells #[.int .i64 a2_0, .int .i64 a2_1, .string a2_2] 24 (0, 0))) := ⟨by rw [← hq_]; exact z6_⟩; have n2_ : Aside0 (wc.heap[gb103]? = some (.cells #[.int .i64 0, .int .i64 0, .string (⟨#[]⟩ : ByteArray)] 24 (0, 0))) := ⟨by rw [← hq_]; exact z9_⟩; have n3_ : Aside0 (Below w.heap.size w wc) := ⟨by rw [← hq_]; exact z2_⟩; clear BK101 BK102 BK103 HB hq_; have BK101 := n0_; have BK102 := n1_; have BK103 := n2_; have HB := n3_; clear n0_ n1_ n2_ n3_)); obtain ⟨hcz66_0, hcz66_1, hcz66_2, hfz66_0, hfz66_1, hfz66_2⟩ := bcf3 BK103.out))
      refine bodyPost_ret (results_ct rfl _ _ gb103 24 #[.int .i64 2, .int .i64 t114, .string (⟨#[]⟩ : ByteArray)] (0, 0) _ rfl (by (with_reducible repeat (first | refine blk_drewN ?_ _ | refine blk_drew ?_ | refine blk_alloc ?_ _)); refine blk_put (cs := #[.int .i64 2, .int .i64 t114, .string (⟨#[]⟩ : ByteArray)]) ?_ 2 _ rfl; (with_reducible repeat (first | refine blk_drewN ?_ _ | refine blk_drew ?_ | refine blk_alloc ?_ _)); refine blk_put (cs := #[.int .i64 2, .int .i64 0, .string (⟨#[]⟩ : ByteArray)]) ?_ 1 _ rfl; (with_reducible repeat (first | refine blk_drewN ?_ _ | refine blk_drew ?_ | refine blk_alloc ?_ _)); refine blk_put (cs := #[.int .i64 0, .int .i64 0, .string (⟨#[]⟩ : ByteArray)]) ?_ 0 _ rfl; (with_reducible repeat (first | refine blk_drewN ?_ _ | refine blk_drew ?_ | refine blk_alloc ?_ _)); exact BK103.out) Try.underlying24 rfl (by kernel_rfl)) rfl ?_
      exact ⟨z8_, z2_⟩
end Go.Proofs.Ytfbclbbhomhfaaa.X
