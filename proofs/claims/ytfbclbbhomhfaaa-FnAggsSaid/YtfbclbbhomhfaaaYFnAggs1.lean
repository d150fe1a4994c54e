/- Contracts of functions, and what is told of them. -/
import Derived.Test.YtfbclbbhomhfaaaYFnAggs0
set_option linter.unusedSimpArgs false
set_option linter.unusedVariables false
set_option maxHeartbeats 8000000
set_option maxRecDepth 100000
section
namespace Go.Proofs.Ytfbclbbhomhfaaa.X
open Go.RowKit Go.Proofs.YtfbclbbhomhfaaaW.PrintWords Go.Proofs.YtfbclbbhomhfaaaW.PrintLast Go.Proofs.YtfbclbbhomhfaaaW.PrintMore
attribute [local go_sem] max2_int min2_int max_two min_two max_three min_three max_four min_four

section
/-! ### spec_l00Src_word: function 55 -/
def spec_l00Src_word.f (s0_0 : List Int) (s0_1 : Int) (s0_2 : Int) : Option (ByteArray × Int × Int) := (spec_l00Src_pick.f s0_0 s0_1 s0_2 (([(⟨#[]⟩ : ByteArray), (⟨#[97]⟩ : ByteArray), (⟨#[98]⟩ : ByteArray), (⟨#[111, 112, 101, 110]⟩ : ByteArray), (⟨#[97, 110, 110]⟩ : ByteArray), (⟨#[105, 116, 39, 115]⟩ : ByteArray), (⟨#[0]⟩ : ByteArray), (⟨#[97, 0, 98]⟩ : ByteArray), (⟨#[255]⟩ : ByteArray), (⟨#[100, 111, 110, 101]⟩ : ByteArray)] : List ByteArray))).bind fun bt104 => (some (bt104.1, bt104.2.1, bt104.2.2))
theorem spec_l00Src_word.calls (g : Nat) (s0_0 : List Int) (s0_1 : Int) (s0_2 : Int) (r1 : ByteArray) (r2 : Int) (r3 : Int) (w0 w : World) (hI : IsS66 w0 w g s0_0 s0_1 s0_2) (hB : Below w0.heap.size w0 w) (h : spec_l00Src_word.f s0_0 s0_1 s0_2 = some (r1, r2, r3)) :
  Calls Try.prog 55 #[.pointer (some ⟨g, 0, none⟩)] w fun e w' => e = .returned (.string r1) ∧ IsS66 w0 w' g s0_0 r2 r3 ∧ Below w0.heap.size w0 w' ∧ KeepBut w w' g none := by
 have HI0 := ak_ hI
 have HK := ak_ (KeepBut.refl w g none)
 have HL := ak_ hB.size
 clear hI
 have HW0 := ak_ hB.size
 have HB := ak_ hB
 clear hB
 have H := h
 unfold spec_l00Src_word.f at H
 clear h
 obtain ⟨y101, hy101⟩ : ∃ y_ : List ByteArray, y_ = (([(⟨#[]⟩ : ByteArray), (⟨#[97]⟩ : ByteArray), (⟨#[98]⟩ : ByteArray), (⟨#[111, 112, 101, 110]⟩ : ByteArray), (⟨#[97, 110, 110]⟩ : ByteArray), (⟨#[105, 116, 39, 115]⟩ : ByteArray), (⟨#[0]⟩ : ByteArray), (⟨#[97, 0, 98]⟩ : ByteArray), (⟨#[255]⟩ : ByteArray), (⟨#[100, 111, 110, 101]⟩ : ByteArray)] : List ByteArray)) := ⟨_, rfl⟩
 replace H : ((spec_l00Src_pick.f s0_0 s0_1 s0_2 y101).bind fun bt104 => (some (bt104.1, bt104.2.1, bt104.2.2))) = some (r1, r2, r3) := by first | (rw [hy101]; with_reducible exact H) | (have H2_ := (Option.bind_some _ _).symm.trans H; rw [hy101]; with_reducible exact H2_) | (have H2_ := (Option.bind_some _ _).symm.trans H; with_reducible exact H2_) | with_reducible exact H | (rw [hy101]; exact H) | exact H
 have Ny101 := ak_ hy101
 clear hy101
 replace H := Option.bind_eq_some_iff.mp H
 obtain ⟨⟨t104, t105, t106⟩, A20, H⟩ := H
 replace H : (some (t104, t105, t106)) = some (r1, r2, r3) := H
 have A2 := ak_ A20
 clear A20
 simp only [Option.some.injEq, Prod.mk.injEq] at H
 obtain ⟨rfl, rfl, rfl⟩ := H
 go_enter Try.func55, Try.ntmps55
 go_wp2_with (first | ((with_reducible refine gate_dst (N := 4) rfl ?_); refine Kd.R_lit Kd.string _ 9 ?hg (N := 4) ?hd (xs := ([(⟨#[]⟩ : ByteArray), (⟨#[97]⟩ : ByteArray), (⟨#[98]⟩ : ByteArray), (⟨#[111, 112, 101, 110]⟩ : ByteArray), (⟨#[97, 110, 110]⟩ : ByteArray), (⟨#[105, 116, 39, 115]⟩ : ByteArray), (⟨#[0]⟩ : ByteArray), (⟨#[97, 0, 98]⟩ : ByteArray), (⟨#[255]⟩ : ByteArray), (⟨#[100, 111, 110, 101]⟩ : ByteArray)] : List ByteArray)) (inner := [.string (⟨#[]⟩ : ByteArray), .string (⟨#[97]⟩ : ByteArray), .string (⟨#[98]⟩ : ByteArray), .string (⟨#[111, 112, 101, 110]⟩ : ByteArray), .string (⟨#[97, 110, 110]⟩ : ByteArray), .string (⟨#[105, 116, 39, 115]⟩ : ByteArray), .string (⟨#[0]⟩ : ByteArray), .string (⟨#[97, 0, 98]⟩ : ByteArray), .string (⟨#[255]⟩ : ByteArray), .string (⟨#[100, 111, 110, 101]⟩ : ByteArray)]) (ok := fun _ => True) (okp := fun _ => True) ?hr ?hp (fun _ hk => hk) trivial (Below.refl _ _) (Nat.le_refl _) (by simp) ?_; (case hd => rfl); (case hg => rfl); (case hr => first | (go_simp; done) | (go_simp; rfl)); (case hp => exact (Reps.one (show Kd.M Kd.string _ _ _ (⟨#[]⟩ : ByteArray) [.string (⟨#[]⟩ : ByteArray)] from rfl) (Reps.one (show Kd.M Kd.string _ _ _ (⟨#[97]⟩ : ByteArray) [.string (⟨#[97]⟩ : ByteArray)] from rfl) (Reps.one (show Kd.M Kd.string _ _ _ (⟨#[98]⟩ : ByteArray) [.string (⟨#[98]⟩ : ByteArray)] from rfl) (Reps.one (show Kd.M Kd.string _ _ _ (⟨#[111, 112, 101, 110]⟩ : ByteArray) [.string (⟨#[111, 112, 101, 110]⟩ : ByteArray)] from rfl) (Reps.one (show Kd.M Kd.string _ _ _ (⟨#[97, 110, 110]⟩ : ByteArray) [.string (⟨#[97, 110, 110]⟩ : ByteArray)] from rfl) (Reps.one (show Kd.M Kd.string _ _ _ (⟨#[105, 116, 39, 115]⟩ : ByteArray) [.string (⟨#[105, 116, 39, 115]⟩ : ByteArray)] from rfl) (Reps.one (show Kd.M Kd.string _ _ _ (⟨#[0]⟩ : ByteArray) [.string (⟨#[0]⟩ : ByteArray)] from rfl) (Reps.one (show Kd.M Kd.string _ _ _ (⟨#[97, 0, 98]⟩ : ByteArray) [.string (⟨#[97, 0, 98]⟩ : ByteArray)] from rfl) (Reps.one (show Kd.M Kd.string _ _ _ (⟨#[255]⟩ : ByteArray) [.string (⟨#[255]⟩ : ByteArray)] from rfl) (Reps.one (show Kd.M Kd.string _ _ _ (⟨#[100, 111, 110, 101]⟩ : ByteArray) [.string (⟨#[100, 111, 110, 101]⟩ : ByteArray)] from rfl) (Reps.none _ _)))))))))))); intro v102 w3 ho4 hb hg_ hnew_; clear hg_ hnew_; (first | rw [← Ny101.out] at ho4 | (simp only [Int.reduceToNat] at ho4; rw [← Ny101.out] at ho4)); have n_ := a4_ (Kd.R_lower ho4 (keep_size (w := w) (g := g) (row := none) z8_)) (IsS66.below z16_ hb) (KeepBut.trans z8_ (KeepBut.of_below hb g none) (.inl rfl)) (below_step z15_ hb); clear HI0 HK HB; obtain ⟨HO103, HI0, HK, HB⟩ := n_; clear hb ho4; obtain ⟨Ao5, co5, eo5⟩ := Kd.R_slice HO103.out; subst eo5) | ((with_reducible refine gate_callee (f := 74) rfl ?_); refine goesL_ (some 5) rfl rfl Try.func74 (by kernel_rfl) rfl #[.pointer (some ⟨g, 0, none⟩), .slice Ao5 y101.length co5] rfl z3_ ?_; (with_reducible refine (spec_l00Src_pick.calls g s0_0 s0_1 s0_2 _ _ y101 t104 t105 t106 w0 _ ?side1 ?side2 ?side3 ?side4 ?side5 A2.out).mono ?_); (case side1 => repeat (first | (with_reducible first | exact HI0.out | apply IsS66.alloc | apply IsS66.drewN | apply IsS66.drew | apply IsS66.set_1 | apply IsS66.set_2) | exact HI0.out)); (case side2 => repeat (first | (with_reducible first | exact HB.out | apply below_alloc | apply pw_below_drewN | apply below_drew1 | refine below_set ?_ (IsS66.ge HI0.out)) | exact HB.out)); (case side3 => exact cz_ ((Kd.R_reads' HO103.out).2.2)); (case side4 => exact (Kd.R_reads' HO103.out).2.1); (case side5 => exact far_slice (IsS66.own_ne HI0.out HO103.out (by decide))); rintro e w6 ⟨rfl, hi, hb, hk⟩; refine ⟨_, rfl, ?_⟩; have n_ := a4_ (Kd.R_mono (Kd.R_keep (IsS66.apart (show IsS66 w0 _ g s0_0 s0_1 s0_2 from by repeat (first | (with_reducible first | exact HI0.out | apply IsS66.alloc | apply IsS66.drewN | apply IsS66.drew | apply IsS66.set_1 | apply IsS66.set_2) | exact HI0.out)) z89_ (by decide)) hk (fun _ h => h.2)) (fun _ h => h.1)) (KeepBut.trans z8_ hk (.inl rfl)) (hb) (hi); clear HO103 HK HB HI0; obtain ⟨HO103, HK, HB, HI0⟩ := n_; (try clear hb); (try clear hb2); (try clear hk); (try clear hi)))
 go_ret
 exact ⟨z10_, z16_, z15_, z8_⟩
end

section
/-! ### spec_l00Src_value: function 24 -/
def spec_l00Src_value.j0 : Nat → Int → Bool → List Int → Int → Int → Option (Int × Int × ByteArray × Int × Int)
 | 0, _, _, _, _, _ => none
 | k + 1, x4, x13, x1000, x1001, x1002 => if x13 = true then ((spec_l00Src_next.f x1000 x1001 x1002 10).bind fun bt108 => ((spec_l00Src_next.f x1000 bt108.2.1 bt108.2.2 10).bind fun bt111 => ((spec_l00Src_odd.f x1000 bt111.2.1 bt111.2.2).bind fun bt114 => ((some (([bt108.1, wrap64 (bt111.1 - 5), bt114.1] : List Int) : List Int)).bind fun y117 => ((spec_l00Src_next.f x1000 bt114.2.1 bt114.2.2 3).bind fun bt120 => (if 0 ≤ bt120.1 then (if bt120.1 < (y117.length : Int) then (some (2, rd y117 bt120.1, (⟨#[]⟩ : ByteArray), bt120.2.1, bt120.2.2)) else (none)) else (none))))))) else (if x4 = 4 then ((spec_l00Src_word.f x1000 x1001 x1002).bind fun bt124 => (some (3, 0, bt124.1, bt124.2.1, bt124.2.2))) else ((spec_l00Src_word.f x1000 x1001 x1002).bind fun bt127 => (some (4, 0, bt127.1, bt127.2.1, bt127.2.2))))
def spec_l00Src_value.f (k : Nat) (s0_0 : List Int) (s0_1 : Int) (s0_2 : Int) : Option (Int × Int × ByteArray × Int × Int) := (spec_l00Src_next.f s0_0 s0_1 s0_2 6).bind fun bt102 => (if bt102.1 = 0 then (some (0, 0, (⟨#[]⟩ : ByteArray), bt102.2.1, bt102.2.2)) else (if bt102.1 = 1 then ((spec_l00Src_next.f s0_0 bt102.2.1 bt102.2.2 2).bind fun bt105 => (some (1, bt105.1, (⟨#[]⟩ : ByteArray), bt105.2.1, bt105.2.2))) else (if bt102.1 = 2 then (spec_l00Src_value.j0 k bt102.1 (bt102.1 == 2) s0_0 bt102.2.1 bt102.2.2) else (spec_l00Src_value.j0 k bt102.1 (bt102.1 == 3) s0_0 bt102.2.1 bt102.2.2))))
theorem spec_l00Src_value.mono_l : ∀ k, (∀ y0 y1 y2 y3 y4, LeO (spec_l00Src_value.j0 k y0 y1 y2 y3 y4) (spec_l00Src_value.j0 (k + 1) y0 y1 y2 y3 y4))
 | 0 => fun _ _ _ _ _ r h => by simp [spec_l00Src_value.j0] at h
 | k + 1 => by
  have ih0 := spec_l00Src_value.mono_l k
  intro y0 y1 y2 y3 y4
  unfold spec_l00Src_value.j0
  repeat' first | with_reducible (first | exact ih0 _ _ _ _ _ | exact LeO.refl _ | exact LeO.none _ | refine LeO.ite ?_ ?_ | refine LeO.bind ?_ (fun _ => ?_)) | exact ih0 _ _ _ _ _ | exact LeO.none _ | refine LeO.ite ?_ ?_ | refine LeO.bind ?_ (fun _ => ?_)
theorem spec_l00Src_value.mono : ∀ a0 a1 a2 k, LeO (spec_l00Src_value.f k a0 a1 a2) (spec_l00Src_value.f (k + 1) a0 a1 a2) := by
 intro a0 a1 a2 k
 have ih0 := spec_l00Src_value.mono_l k
 unfold spec_l00Src_value.f
 repeat' first
   | (with_reducible exact ih0 _ _ _ _ _)
   | (with_reducible exact LeO.refl _)
   | (with_reducible exact LeO.none _)
   | (with_reducible refine LeO.ite ?_ ?_)
   | (with_reducible refine LeO.bind ?_ (fun _ => ?_))
   | exact ih0 _ _ _ _ _
   | exact LeO.none _
   | refine LeO.ite ?_ ?_
   | refine LeO.bind ?_ (fun _ => ?_)
theorem spec_l00Src_value.calls (k : Nat) (g : Nat) (s0_0 : List Int) (s0_1 : Int) (s0_2 : Int) (r1 : Int) (r2 : Int) (r3 : ByteArray) (r4 : Int) (r5 : Int) (w0 w : World) (hI : IsS66 w0 w g s0_0 s0_1 s0_2) (hB : Below w0.heap.size w0 w) (h : spec_l00Src_value.f k s0_0 s0_1 s0_2 = some (r1, r2, r3, r4, r5)) :
  Calls Try.prog 24 #[.pointer (some ⟨g, 0, none⟩)] w fun e w' => e = .returned (.agg #[.int .i64 r1, .int .i64 r2, .string r3]) ∧ IsS66 w0 w' g s0_0 r4 r5 ∧ Below w0.heap.size w0 w' ∧ KeepBut w w' g none := by
 have hu24 := Try.underlying24
 have HI0 := ak_ hI
 have HK := ak_ (KeepBut.refl w g none)
 have HL := ak_ hB.size
 clear hI
 have HW0 := ak_ hB.size
 have HB := ak_ hB
 clear hB
 have H := h
 unfold spec_l00Src_value.f at H
 clear h
 replace H := Option.bind_eq_some_iff.mp H
 obtain ⟨⟨t102, t103, t104⟩, A20, H⟩ := H
 replace H : (if t102 = 0 then (some (0, 0, (⟨#[]⟩ : ByteArray), t103, t104)) else (if t102 = 1 then ((spec_l00Src_next.f s0_0 t103 t104 2).bind fun bt105 => (some (1, bt105.1, (⟨#[]⟩ : ByteArray), bt105.2.1, bt105.2.2))) else (if t102 = 2 then (spec_l00Src_value.j0 k t102 (t102 == 2) s0_0 t103 t104) else (spec_l00Src_value.j0 k t102 (t102 == 3) s0_0 t103 t104)))) = some (r1, r2, r3, r4, r5) := H
 have A2 := ak_ A20
 clear A20
 by_cases c3 : t102 = 0
 ·rw [if_pos c3] at H
  have c3b0 : (t102 == 0) = true := beq_iff_eq.mpr c3
  have c3b1 : (t102 != 0) = false := bne_eq_false_iff_eq.mpr c3
  clear c3
  simp only [Option.some.injEq, Prod.mk.injEq] at H
  obtain ⟨rfl, rfl, rfl, rfl, rfl⟩ := H
  go_enter Try.func24, Try.ntmps24
  go_wp2_with (first | ((with_reducible refine gate_dst (N := 2) rfl ?_); refine bx_ 2 (cs := #[.int .i64 0, .int .i64 0, .string (⟨#[]⟩ : ByteArray)]) (t := 24) (h_ := ?_); intro gb101 hg w4 hbox hb; have n_ := a8_ (IsS66.below z16_ hb) (KeepBut.trans z8_ (KeepBut.of_below hb g none) (.inl rfl)) (below_step z15_ hb) (hbox) ((z81_ : w.heap.size ≤ gb101)) ((Nat.le_trans HW0.out (z81_ : w.heap.size ≤ gb101) : w0.heap.size ≤ gb101)) ((by rw [hg]; exact Nat.ne_of_lt (IsS66.lt (show IsS66 w0 _ g s0_0 s0_1 s0_2 from by repeat (first | (with_reducible first | exact HI0.out | apply IsS66.alloc | apply IsS66.drewN | apply IsS66.drew | apply IsS66.set_1 | apply IsS66.set_2) | exact HI0.out))) : g ≠ gb101)) ((by rw [hg]; exact Nat.ne_of_gt (IsS66.lt (show IsS66 w0 _ g s0_0 s0_1 s0_2 from by repeat (first | (with_reducible first | exact HI0.out | apply IsS66.alloc | apply IsS66.drewN | apply IsS66.drew | apply IsS66.set_1 | apply IsS66.set_2) | exact HI0.out))) : gb101 ≠ g)); clear HI0 HK HB; obtain ⟨HI0, HK, HB, BK101, GW101, GE101, NB0_101, NB101_0⟩ := n_; clear hb hbox hg) | ((with_reducible refine gate_callee (f := 53) rfl ?_); refine goesL_ (some 4) rfl rfl Try.func53 (by kernel_rfl) rfl #[.pointer (some ⟨g, 0, none⟩), .int .i64 6] rfl z3_ ?_; (with_reducible refine (spec_l00Src_next.calls g s0_0 s0_1 s0_2 6 t102 t103 t104 w0 _ ?side1 ?side2 A2.out).mono ?_); (case side1 => repeat (first | (with_reducible first | exact HI0.out | apply IsS66.alloc | apply IsS66.drewN | apply IsS66.drew | apply IsS66.set_1 | apply IsS66.set_2 | refine IsS66.far ?_ NB0_101.out _) | exact HI0.out)); (case side2 => repeat (first | (with_reducible first | exact HB.out | apply below_alloc | apply pw_below_drewN | apply below_drew1 | refine below_set ?_ (IsS66.ge HI0.out) | refine below_set ?_ GE101.out) | exact HB.out)); rintro e w5 ⟨rfl, hi, hb, hk⟩; refine ⟨_, rfl, ?_⟩; have n_ := a4_ (KeepBut.blk hk (g' := gb101) (o := .cells #[.int .i64 0, .int .i64 0, .string (⟨#[]⟩ : ByteArray)] 24 (0, 0)) z2_ NB101_0.out (by simp)) (KeepBut.trans z17_ hk (.inl rfl)) (hb) (hi); clear BK101 HK HB HI0; obtain ⟨BK101, HK, HB, HI0⟩ := n_; (try clear hb); (try clear hb2); (try clear hk); (try clear hi); have hnb6 := NB101_0.out; have hnc6 := NB0_101.out; obtain ⟨hcz7_0, hcz7_1, hcz7_2, hfz7_0, hfz7_1, hfz7_2⟩ := bcf3 BK101.out))
  refine bodyPost_ret (results_cell_row rfl _ _ gb101 24 #[.int .i64 0, .int .i64 0, .string (⟨#[]⟩ : ByteArray)] (0, 0) _ rfl z9_ Try.underlying24 rfl (by kernel_rfl)) rfl ?_
  exact ⟨z10_, z38_, z39_, z17_⟩
 rw [if_neg c3] at H
 have c3b0 : (t102 == 0) = false := beq_eq_false_iff_ne.mpr c3
 have c3b1 : (t102 != 0) = true := bne_iff_ne.mpr c3
 by_cases c8 : t102 = 1
 ·rw [if_pos c8] at H
  have c8b0 : (t102 == 1) = true := beq_iff_eq.mpr c8
  have c8b1 : (t102 != 1) = false := bne_eq_false_iff_eq.mpr c8
  clear c8
  replace H := Option.bind_eq_some_iff.mp H
  obtain ⟨⟨t105, t106, t107⟩, A90, H⟩ := H
  replace H : (some (1, t105, (⟨#[]⟩ : ByteArray), t106, t107)) = some (r1, r2, r3, r4, r5) := H
  have A9 := ak_ A90
  clear A90
  simp only [Option.some.injEq, Prod.mk.injEq] at H
  obtain ⟨rfl, rfl, rfl, rfl, rfl⟩ := H
  go_enter Try.func24, Try.ntmps24
  go_wp2_with (first | ((with_reducible refine gate_dst (N := 2) rfl ?_); refine bx_ 2 (cs := #[.int .i64 0, .int .i64 0, .string (⟨#[]⟩ : ByteArray)]) (t := 24) (h_ := ?_); intro gb101 hg w10 hbox hb; have n_ := a8_ (IsS66.below z16_ hb) (KeepBut.trans z8_ (KeepBut.of_below hb g none) (.inl rfl)) (below_step z15_ hb) (hbox) ((z81_ : w.heap.size ≤ gb101)) ((Nat.le_trans HW0.out (z81_ : w.heap.size ≤ gb101) : w0.heap.size ≤ gb101)) ((by rw [hg]; exact Nat.ne_of_lt (IsS66.lt (show IsS66 w0 _ g s0_0 s0_1 s0_2 from by repeat (first | (with_reducible first | exact HI0.out | apply IsS66.alloc | apply IsS66.drewN | apply IsS66.drew | apply IsS66.set_1 | apply IsS66.set_2) | exact HI0.out))) : g ≠ gb101)) ((by rw [hg]; exact Nat.ne_of_gt (IsS66.lt (show IsS66 w0 _ g s0_0 s0_1 s0_2 from by repeat (first | (with_reducible first | exact HI0.out | apply IsS66.alloc | apply IsS66.drewN | apply IsS66.drew | apply IsS66.set_1 | apply IsS66.set_2) | exact HI0.out))) : gb101 ≠ g)); clear HI0 HK HB; obtain ⟨HI0, HK, HB, BK101, GW101, GE101, NB0_101, NB101_0⟩ := n_; clear hb hbox hg) | ((with_reducible refine gate_callee (f := 53) rfl ?_); refine goesL_ (some 4) rfl rfl Try.func53 (by kernel_rfl) rfl #[.pointer (some ⟨g, 0, none⟩), .int .i64 6] rfl z3_ ?_; (with_reducible refine (spec_l00Src_next.calls g s0_0 s0_1 s0_2 6 t102 t103 t104 w0 _ ?side1 ?side2 A2.out).mono ?_); (case side1 => repeat (first | (with_reducible first | exact HI0.out | apply IsS66.alloc | apply IsS66.drewN | apply IsS66.drew | apply IsS66.set_1 | apply IsS66.set_2 | refine IsS66.far ?_ NB0_101.out _) | exact HI0.out)); (case side2 => repeat (first | (with_reducible first | exact HB.out | apply below_alloc | apply pw_below_drewN | apply below_drew1 | refine below_set ?_ (IsS66.ge HI0.out) | refine below_set ?_ GE101.out) | exact HB.out)); rintro e w11 ⟨rfl, hi, hb, hk⟩; refine ⟨_, rfl, ?_⟩; have n_ := a4_ (KeepBut.blk hk (g' := gb101) (o := .cells #[.int .i64 0, .int .i64 0, .string (⟨#[]⟩ : ByteArray)] 24 (0, 0)) z2_ NB101_0.out (by simp)) (KeepBut.trans z17_ hk (.inl rfl)) (hb) (hi); clear BK101 HK HB HI0; obtain ⟨BK101, HK, HB, HI0⟩ := n_; (try clear hb); (try clear hb2); (try clear hk); (try clear hi)) | ((with_reducible refine gate_callee (f := 53) rfl ?_); refine goesL_ (some 11) rfl rfl Try.func53 (by kernel_rfl) rfl #[.pointer (some ⟨g, 0, none⟩), .int .i64 2] rfl z3_ ?_; (with_reducible refine (spec_l00Src_next.calls g s0_0 t103 t104 2 t105 t106 t107 w0 _ ?side1 ?side2 A9.out).mono ?_); (case side1 => repeat (first | (with_reducible first | exact HI0.out | apply IsS66.alloc | apply IsS66.drewN | apply IsS66.drew | apply IsS66.set_1 | apply IsS66.set_2 | refine IsS66.far ?_ NB0_101.out _) | exact HI0.out)); (case side2 => repeat (first | (with_reducible first | exact HB.out | apply below_alloc | apply pw_below_drewN | apply below_drew1 | refine below_set ?_ (IsS66.ge HI0.out) | refine below_set ?_ GE101.out) | exact HB.out)); rintro e w12 ⟨rfl, hi, hb, hk⟩; refine ⟨_, rfl, ?_⟩; have n_ := a4_ (KeepBut.blk hk (g' := gb101) (o := .cells #[.int .i64 0, .int .i64 0, .string (⟨#[]⟩ : ByteArray)] 24 (0, 0)) z2_ NB101_0.out (by simp)) (KeepBut.trans z17_ hk (.inl rfl)) (hb) (hi); clear BK101 HK HB HI0; obtain ⟨BK101, HK, HB, HI0⟩ := n_; (try clear hb); (try clear hb2); (try clear hk); (try clear hi); have hnb13 := NB101_0.out; have hnc13 := NB0_101.out; obtain ⟨hcz14_0, hcz14_1, hcz14_2, hfz14_0, hfz14_1, hfz14_2⟩ := bcf3 BK101.out))
  refine bodyPost_ret (results_cell_row rfl _ _ gb101 24 #[.int .i64 1, .int .i64 t105, .string (⟨#[]⟩ : ByteArray)] (0, 0) _ rfl (by (with_reducible repeat (first | refine blk_drewN ?_ _ | refine blk_drew ?_ | refine blk_alloc ?_ _)); refine blk_put (cs := #[.int .i64 1, .int .i64 t105, .string (⟨#[]⟩ : ByteArray)]) ?_ 2 _ rfl; (with_reducible repeat (first | refine blk_drewN ?_ _ | refine blk_drew ?_ | refine blk_alloc ?_ _)); refine blk_put (cs := #[.int .i64 1, .int .i64 0, .string (⟨#[]⟩ : ByteArray)]) ?_ 1 _ rfl; (with_reducible repeat (first | refine blk_drewN ?_ _ | refine blk_drew ?_ | refine blk_alloc ?_ _)); refine blk_put (cs := #[.int .i64 0, .int .i64 0, .string (⟨#[]⟩ : ByteArray)]) ?_ 0 _ rfl; (with_reducible repeat (first | refine blk_drewN ?_ _ | refine blk_drew ?_ | refine blk_alloc ?_ _)); exact BK101.out) Try.underlying24 rfl (by kernel_rfl)) rfl ?_
  exact ⟨z10_, z38_, z39_, z17_⟩
 rw [if_neg c8] at H
 have c8b0 : (t102 == 1) = false := beq_eq_false_iff_ne.mpr c8
 have c8b1 : (t102 != 1) = true := bne_iff_ne.mpr c8
 have HC15 := ak_ H
 clear H
 go_enter Try.func24, Try.ntmps24
 go_upto_if 13 with (first | ((with_reducible refine gate_dst (N := 2) rfl ?_); refine bx_ 2 (cs := #[.int .i64 0, .int .i64 0, .string (⟨#[]⟩ : ByteArray)]) (t := 24) (h_ := ?_); intro gb101 hg w16 hbox hb; have n_ := a8_ (IsS66.below z16_ hb) (KeepBut.trans z8_ (KeepBut.of_below hb g none) (.inl rfl)) (below_step z15_ hb) (hbox) ((z81_ : w.heap.size ≤ gb101)) ((Nat.le_trans HW0.out (z81_ : w.heap.size ≤ gb101) : w0.heap.size ≤ gb101)) ((by rw [hg]; exact Nat.ne_of_lt (IsS66.lt (show IsS66 w0 _ g s0_0 s0_1 s0_2 from by repeat (first | (with_reducible first | exact HI0.out | apply IsS66.alloc | apply IsS66.drewN | apply IsS66.drew | apply IsS66.set_1 | apply IsS66.set_2) | exact HI0.out))) : g ≠ gb101)) ((by rw [hg]; exact Nat.ne_of_gt (IsS66.lt (show IsS66 w0 _ g s0_0 s0_1 s0_2 from by repeat (first | (with_reducible first | exact HI0.out | apply IsS66.alloc | apply IsS66.drewN | apply IsS66.drew | apply IsS66.set_1 | apply IsS66.set_2) | exact HI0.out))) : gb101 ≠ g)); clear HI0 HK HB; obtain ⟨HI0, HK, HB, BK101, GW101, GE101, NB0_101, NB101_0⟩ := n_; clear hb hbox hg) | ((with_reducible refine gate_callee (f := 53) rfl ?_); refine goesL_ (some 4) rfl rfl Try.func53 (by kernel_rfl) rfl #[.pointer (some ⟨g, 0, none⟩), .int .i64 6] rfl z3_ ?_; (with_reducible refine (spec_l00Src_next.calls g s0_0 s0_1 s0_2 6 t102 t103 t104 w0 _ ?side1 ?side2 A2.out).mono ?_); (case side1 => repeat (first | (with_reducible first | exact HI0.out | apply IsS66.alloc | apply IsS66.drewN | apply IsS66.drew | apply IsS66.set_1 | apply IsS66.set_2 | refine IsS66.far ?_ NB0_101.out _) | exact HI0.out)); (case side2 => repeat (first | (with_reducible first | exact HB.out | apply below_alloc | apply pw_below_drewN | apply below_drew1 | refine below_set ?_ (IsS66.ge HI0.out) | refine below_set ?_ GE101.out) | exact HB.out)); rintro e w17 ⟨rfl, hi, hb, hk⟩; refine ⟨_, rfl, ?_⟩; have n_ := a4_ (KeepBut.blk hk (g' := gb101) (o := .cells #[.int .i64 0, .int .i64 0, .string (⟨#[]⟩ : ByteArray)] 24 (0, 0)) z2_ NB101_0.out (by simp)) (KeepBut.trans z17_ hk (.inl rfl)) (hb) (hi); clear BK101 HK HB HI0; obtain ⟨BK101, HK, HB, HI0⟩ := n_; (try clear hb); (try clear hb2); (try clear hk); (try clear hi)))
 (try simp only [Act.put, sz1_, sz2_, sz3_])
 go_cut [13] (fun v13 wc => ∃ (kq : Nat) (x13_14 : Bool), v13 = .bool x13_14 ∧ Aside0 (spec_l00Src_value.j0 kq t102 x13_14 s0_0 t103 t104 = some (r1, r2, r3, r4, r5)) ∧ Aside0 (kq ≤ k) ∧ Aside0 (wc.heap[gb101]? = some (.cells #[.int .i64 0, .int .i64 0, .string (⟨#[]⟩ : ByteArray)] 24 (0, 0))) ∧ Aside0 (IsS66 w0 wc g s0_0 t103 t104) ∧ Aside0 (KeepBut w wc g none) ∧ Aside0 (Below w0.heap.size w0 wc))
 case first =>
  have H := HC15.out
  clear HC15
  by_cases c18 : t102 = 2
  rotate_left
  ·rw [if_neg c18] at H
   have c18b0 : (t102 == 2) = false := beq_eq_false_iff_ne.mpr c18
   have c18b1 : (t102 != 2) = true := bne_iff_ne.mpr c18
   (first | rw [c18b0] | (simp only [i64_w, i32_w]; rw [c18b0]) | skip)
   have H' := ak_ H
   clear H
   go_wp2
   go_meet
   case rel => exact ⟨_, ((t102 == 3)), z12_, H', ⟨by first | omega | exact Nat.le_refl _⟩, ⟨z2_⟩, ⟨z38_⟩, ⟨z17_⟩, ⟨z39_⟩⟩
  rw [if_pos c18] at H
  have c18b0 : (t102 == 2) = true := beq_iff_eq.mpr c18
  have c18b1 : (t102 != 2) = false := bne_eq_false_iff_eq.mpr c18
  clear c18
  (first | rw [c18b0] | (simp only [i64_w, i32_w]; rw [c18b0]) | skip)
  have H' := ak_ H
  clear H
  go_wp2
  go_meet
  case rel => exact ⟨_, ((t102 == 2)), z12_, H', ⟨by first | omega | exact Nat.le_refl _⟩, ⟨z2_⟩, ⟨z38_⟩, ⟨z17_⟩, ⟨z39_⟩⟩
 case rest =>
  clear HC15
  try clear c1
  try clear c2
  try clear p2
  try clear c3
  try clear c3b0
  try clear c3b1
  try clear c5
  try clear c6
  try clear c8
  try clear c8b0
  try clear c8b1
  try clear c13
  try clear c18
  try clear c18b0
  try clear c18b1
  try clear hcz14_0
  try clear hcz14_1
  try clear hcz14_2
  try clear hcz7_0
  try clear hcz7_1
  try clear hcz7_2
  try clear hfz14_0
  try clear hfz14_1
  try clear hfz14_2
  try clear hfz7_0
  try clear hfz7_1
  try clear hfz7_2
  obtain ⟨kq, x13_14, rfl, HA, HJ14, BK101, HI0, HK, HB⟩ := hcut
  cases kq with
  | zero => exact absurd HA.out (by simp [spec_l00Src_value.j0])
  | succ kj14 =>
   have H := HA.out
   clear HA
   simp only [spec_l00Src_value.j0] at H
   by_cases c19 : x13_14 = true
   rotate_left
   ·replace c19 := Bool.eq_false_iff.mpr c19
    subst c19
    have H1 : (if t102 = 4 then ((spec_l00Src_word.f s0_0 t103 t104).bind fun bt124 => (some (3, 0, bt124.1, bt124.2.1, bt124.2.2))) else ((spec_l00Src_word.f s0_0 t103 t104).bind fun bt127 => (some (4, 0, bt127.1, bt127.2.1, bt127.2.2)))) = some (r1, r2, r3, r4, r5) := by rw [if_neg (show ¬ (false = true) by decide)] at H; exact H
    clear H
    have H := H1
    clear H1
    by_cases c35 : t102 = 4
    ·rw [if_pos c35] at H
     have c35b0 : (t102 == 4) = true := beq_iff_eq.mpr c35
     have c35b1 : (t102 != 4) = false := bne_eq_false_iff_eq.mpr c35
     clear c35
     replace H := Option.bind_eq_some_iff.mp H
     obtain ⟨⟨t124, t125, t126⟩, A360, H⟩ := H
     replace H : (some (3, 0, t124, t125, t126)) = some (r1, r2, r3, r4, r5) := H
     have A36 := ak_ A360
     clear A360
     simp only [Option.some.injEq, Prod.mk.injEq] at H
     obtain ⟨rfl, rfl, rfl, rfl, rfl⟩ := H
     go_wp2_with (first | ((with_reducible refine gate_callee (f := 55) rfl ?_); refine goesL_ (some 32) rfl rfl Try.func55 (by kernel_rfl) rfl #[.pointer (some ⟨g, 0, none⟩)] rfl z3_ ?_; (with_reducible refine (spec_l00Src_word.calls g s0_0 t103 t104 t124 t125 t126 w0 _ ?side1 ?side2 A36.out).mono ?_); (case side1 => repeat (first | (with_reducible first | exact HI0.out | apply IsS66.alloc | apply IsS66.drewN | apply IsS66.drew | apply IsS66.set_1 | apply IsS66.set_2 | refine IsS66.far ?_ NB0_101.out _) | exact HI0.out)); (case side2 => repeat (first | (with_reducible first | exact HB.out | apply below_alloc | apply pw_below_drewN | apply below_drew1 | refine below_set ?_ (IsS66.ge HI0.out) | refine below_set ?_ GE101.out) | exact HB.out)); rintro e w37 ⟨rfl, hi, hb, hk⟩; refine ⟨_, rfl, ?_⟩; have n_ := a4_ (KeepBut.blk hk (g' := gb101) (o := .cells #[.int .i64 0, .int .i64 0, .string (⟨#[]⟩ : ByteArray)] 24 (0, 0)) z2_ NB101_0.out (by simp)) (KeepBut.trans z17_ hk (.inl rfl)) (hb) (hi); clear BK101 HK HB HI0; obtain ⟨BK101, HK, HB, HI0⟩ := n_; (try clear hb); (try clear hb2); (try clear hk); (try clear hi); have hnb38 := NB101_0.out; have hnc38 := NB0_101.out; obtain ⟨hcz39_0, hcz39_1, hcz39_2, hfz39_0, hfz39_1, hfz39_2⟩ := bcf3 BK101.out))
     refine bodyPost_ret (results_cell_row rfl _ _ gb101 24 #[.int .i64 3, .int .i64 0, .string t124] (0, 0) _ rfl (by (with_reducible repeat (first | refine blk_drewN ?_ _ | refine blk_drew ?_ | refine blk_alloc ?_ _)); refine blk_put (cs := #[.int .i64 3, .int .i64 0, .string (⟨#[]⟩ : ByteArray)]) ?_ 2 _ rfl; (with_reducible repeat (first | refine blk_drewN ?_ _ | refine blk_drew ?_ | refine blk_alloc ?_ _)); refine blk_put (cs := #[.int .i64 3, .int .i64 0, .string (⟨#[]⟩ : ByteArray)]) ?_ 1 _ rfl; (with_reducible repeat (first | refine blk_drewN ?_ _ | refine blk_drew ?_ | refine blk_alloc ?_ _)); refine blk_put (cs := #[.int .i64 0, .int .i64 0, .string (⟨#[]⟩ : ByteArray)]) ?_ 0 _ rfl; (with_reducible repeat (first | refine blk_drewN ?_ _ | refine blk_drew ?_ | refine blk_alloc ?_ _)); exact BK101.out) Try.underlying24 rfl (by kernel_rfl)) rfl ?_
     exact ⟨z10_, z38_, z39_, z17_⟩
    ·rw [if_neg c35] at H
     have c35b0 : (t102 == 4) = false := beq_eq_false_iff_ne.mpr c35
     have c35b1 : (t102 != 4) = true := bne_iff_ne.mpr c35
     replace H := Option.bind_eq_some_iff.mp H
     obtain ⟨⟨t127, t128, t129⟩, A400, H⟩ := H
     replace H : (some (4, 0, t127, t128, t129)) = some (r1, r2, r3, r4, r5) := H
     have A40 := ak_ A400
     clear A400
     simp only [Option.some.injEq, Prod.mk.injEq] at H
     obtain ⟨rfl, rfl, rfl, rfl, rfl⟩ := H
     go_wp2_with (first | ((with_reducible refine gate_callee (f := 55) rfl ?_); refine goesL_ (some 35) rfl rfl Try.func55 (by kernel_rfl) rfl #[.pointer (some ⟨g, 0, none⟩)] rfl z3_ ?_; (with_reducible refine (spec_l00Src_word.calls g s0_0 t103 t104 t127 t128 t129 w0 _ ?side1 ?side2 A40.out).mono ?_); (case side1 => repeat (first | (with_reducible first | exact HI0.out | apply IsS66.alloc | apply IsS66.drewN | apply IsS66.drew | apply IsS66.set_1 | apply IsS66.set_2 | refine IsS66.far ?_ NB0_101.out _) | exact HI0.out)); (case side2 => repeat (first | (with_reducible first | exact HB.out | apply below_alloc | apply pw_below_drewN | apply below_drew1 | refine below_set ?_ (IsS66.ge HI0.out) | refine below_set ?_ GE101.out) | exact HB.out)); rintro e w41 ⟨rfl, hi, hb, hk⟩; refine ⟨_, rfl, ?_⟩; have n_ := a4_ (KeepBut.blk hk (g' := gb101) (o := .cells #[.int .i64 0, .int .i64 0, .string (⟨#[]⟩ : ByteArray)] 24 (0, 0)) z2_ NB101_0.out (by simp)) (KeepBut.trans z17_ hk (.inl rfl)) (hb) (hi); clear BK101 HK HB HI0; obtain ⟨BK101, HK, HB, HI0⟩ := n_; (try clear hb); (try clear hb2); (try clear hk); (try clear hi); have hnb42 := NB101_0.out; have hnc42 := NB0_101.out; obtain ⟨hcz43_0, hcz43_1, hcz43_2, hfz43_0, hfz43_1, hfz43_2⟩ := bcf3 BK101.out))
     refine bodyPost_ret (results_cell_row rfl _ _ gb101 24 #[.int .i64 4, .int .i64 0, .string t127] (0, 0) _ rfl (by (with_reducible repeat (first | refine blk_drewN ?_ _ | refine blk_drew ?_ | refine blk_alloc ?_ _)); refine blk_put (cs := #[.int .i64 4, .int .i64 0, .string (⟨#[]⟩ : ByteArray)]) ?_ 2 _ rfl; (with_reducible repeat (first | refine blk_drewN ?_ _ | refine blk_drew ?_ | refine blk_alloc ?_ _)); refine blk_put (cs := #[.int .i64 4, .int .i64 0, .string (⟨#[]⟩ : ByteArray)]) ?_ 1 _ rfl; (with_reducible repeat (first | refine blk_drewN ?_ _ | refine blk_drew ?_ | refine blk_alloc ?_ _)); refine blk_put (cs := #[.int .i64 0, .int .i64 0, .string (⟨#[]⟩ : ByteArray)]) ?_ 0 _ rfl; (with_reducible repeat (first | refine blk_drewN ?_ _ | refine blk_drew ?_ | refine blk_alloc ?_ _)); exact BK101.out) Try.underlying24 rfl (by kernel_rfl)) rfl ?_
     exact ⟨z10_, z38_, z39_, z17_⟩

   subst c19
   have H1 : ((spec_l00Src_next.f s0_0 t103 t104 10).bind fun bt108 => ((spec_l00Src_next.f s0_0 bt108.2.1 bt108.2.2 10).bind fun bt111 => ((spec_l00Src_odd.f s0_0 bt111.2.1 bt111.2.2).bind fun bt114 => ((some (([bt108.1, wrap64 (bt111.1 - 5), bt114.1] : List Int) : List Int)).bind fun y117 => ((spec_l00Src_next.f s0_0 bt114.2.1 bt114.2.2 3).bind fun bt120 => (if 0 ≤ bt120.1 then (if bt120.1 < (y117.length : Int) then (some (2, rd y117 bt120.1, (⟨#[]⟩ : ByteArray), bt120.2.1, bt120.2.2)) else (none)) else (none))))))) = some (r1, r2, r3, r4, r5) := by rw [if_pos rfl] at H; exact H
   clear H
   have H := H1
   clear H1
   replace H := Option.bind_eq_some_iff.mp H
   obtain ⟨⟨t108, t109, t110⟩, A200, H⟩ := H
   replace H : ((spec_l00Src_next.f s0_0 t109 t110 10).bind fun bt111 => ((spec_l00Src_odd.f s0_0 bt111.2.1 bt111.2.2).bind fun bt114 => ((some (([t108, wrap64 (bt111.1 - 5), bt114.1] : List Int) : List Int)).bind fun y117 => ((spec_l00Src_next.f s0_0 bt114.2.1 bt114.2.2 3).bind fun bt120 => (if 0 ≤ bt120.1 then (if bt120.1 < (y117.length : Int) then (some (2, rd y117 bt120.1, (⟨#[]⟩ : ByteArray), bt120.2.1, bt120.2.2)) else (none)) else (none)))))) = some (r1, r2, r3, r4, r5) := H
   have A20 := ak_ A200
   clear A200
   replace H := Option.bind_eq_some_iff.mp H
   obtain ⟨⟨t111, t112, t113⟩, A210, H⟩ := H
   replace H : ((spec_l00Src_odd.f s0_0 t112 t113).bind fun bt114 => ((some (([t108, wrap64 (t111 - 5), bt114.1] : List Int) : List Int)).bind fun y117 => ((spec_l00Src_next.f s0_0 bt114.2.1 bt114.2.2 3).bind fun bt120 => (if 0 ≤ bt120.1 then (if bt120.1 < (y117.length : Int) then (some (2, rd y117 bt120.1, (⟨#[]⟩ : ByteArray), bt120.2.1, bt120.2.2)) else (none)) else (none))))) = some (r1, r2, r3, r4, r5) := H
   have A21 := ak_ A210
   clear A210
   replace H := Option.bind_eq_some_iff.mp H
   obtain ⟨⟨t114, t115, t116⟩, A220, H⟩ := H
   replace H : ((some (([t108, wrap64 (t111 - 5), t114] : List Int) : List Int)).bind fun y117 => ((spec_l00Src_next.f s0_0 t115 t116 3).bind fun bt120 => (if 0 ≤ bt120.1 then (if bt120.1 < (y117.length : Int) then (some (2, rd y117 bt120.1, (⟨#[]⟩ : ByteArray), bt120.2.1, bt120.2.2)) else (none)) else (none)))) = some (r1, r2, r3, r4, r5) := H
   have A22 := ak_ A220
   clear A220
   obtain ⟨y117, hy117⟩ : ∃ y_ : List Int, y_ = (([t108, wrap64 (t111 - 5), t114] : List Int)) := ⟨_, rfl⟩
   replace H : ((spec_l00Src_next.f s0_0 t115 t116 3).bind fun bt120 => (if 0 ≤ bt120.1 then (if bt120.1 < (y117.length : Int) then (some (2, rd y117 bt120.1, (⟨#[]⟩ : ByteArray), bt120.2.1, bt120.2.2)) else (none)) else (none))) = some (r1, r2, r3, r4, r5) := by first | (rw [hy117]; with_reducible exact H) | (have H2_ := (Option.bind_some _ _).symm.trans H; rw [hy117]; with_reducible exact H2_) | (have H2_ := (Option.bind_some _ _).symm.trans H; with_reducible exact H2_) | with_reducible exact H | (rw [hy117]; exact H) | exact H
   have Ny117 := ak_ hy117
   clear hy117
   replace H := Option.bind_eq_some_iff.mp H
   obtain ⟨⟨t120, t121, t122⟩, A230, H⟩ := H
   replace H : (if 0 ≤ t120 then (if t120 < (y117.length : Int) then (some (2, rd y117 t120, (⟨#[]⟩ : ByteArray), t121, t122)) else (none)) else (none)) = some (r1, r2, r3, r4, r5) := H
   have A23 := ak_ A230
   clear A230
   by_cases c24 : 0 ≤ t120
   rotate_left
   ·rw [if_neg c24] at H
    exact absurd H (by simp)
   rw [if_pos c24] at H
   have c24b0 := decide_eq_true c24
   clear c24
   by_cases c25 : t120 < (y117.length : Int)
   rotate_left
   ·rw [if_neg c25] at H
    exact absurd H (by simp)
   rw [if_pos c25] at H
   have c25b0 := decide_eq_true c25
   clear c25
   simp only [Option.some.injEq, Prod.mk.injEq] at H
   obtain ⟨rfl, rfl, rfl, rfl, rfl⟩ := H
   go_wp2_with (first | ((with_reducible refine gate_callee (f := 53) rfl ?_); refine goesL_ (some 17) rfl rfl Try.func53 (by kernel_rfl) rfl #[.pointer (some ⟨g, 0, none⟩), .int .i64 10] rfl z3_ ?_; (with_reducible refine (spec_l00Src_next.calls g s0_0 t103 t104 10 t108 t109 t110 w0 _ ?side1 ?side2 A20.out).mono ?_); (case side1 => repeat (first | (with_reducible first | exact HI0.out | apply IsS66.alloc | apply IsS66.drewN | apply IsS66.drew | apply IsS66.set_1 | apply IsS66.set_2 | refine IsS66.far ?_ NB0_101.out _) | exact HI0.out)); (case side2 => repeat (first | (with_reducible first | exact HB.out | apply below_alloc | apply pw_below_drewN | apply below_drew1 | refine below_set ?_ (IsS66.ge HI0.out) | refine below_set ?_ GE101.out) | exact HB.out)); rintro e w26 ⟨rfl, hi, hb, hk⟩; refine ⟨_, rfl, ?_⟩; have n_ := a4_ (KeepBut.blk hk (g' := gb101) (o := .cells #[.int .i64 0, .int .i64 0, .string (⟨#[]⟩ : ByteArray)] 24 (0, 0)) z2_ NB101_0.out (by simp)) (KeepBut.trans z17_ hk (.inl rfl)) (hb) (hi); clear BK101 HK HB HI0; obtain ⟨BK101, HK, HB, HI0⟩ := n_; (try clear hb); (try clear hb2); (try clear hk); (try clear hi)) | ((with_reducible refine gate_callee (f := 53) rfl ?_); refine goesL_ (some 19) rfl rfl Try.func53 (by kernel_rfl) rfl #[.pointer (some ⟨g, 0, none⟩), .int .i64 10] rfl z3_ ?_; (with_reducible refine (spec_l00Src_next.calls g s0_0 t109 t110 10 t111 t112 t113 w0 _ ?side1 ?side2 A21.out).mono ?_); (case side1 => repeat (first | (with_reducible first | exact HI0.out | apply IsS66.alloc | apply IsS66.drewN | apply IsS66.drew | apply IsS66.set_1 | apply IsS66.set_2 | refine IsS66.far ?_ NB0_101.out _) | exact HI0.out)); (case side2 => repeat (first | (with_reducible first | exact HB.out | apply below_alloc | apply pw_below_drewN | apply below_drew1 | refine below_set ?_ (IsS66.ge HI0.out) | refine below_set ?_ GE101.out) | exact HB.out)); rintro e w27 ⟨rfl, hi, hb, hk⟩; refine ⟨_, rfl, ?_⟩; have n_ := a4_ (KeepBut.blk hk (g' := gb101) (o := .cells #[.int .i64 0, .int .i64 0, .string (⟨#[]⟩ : ByteArray)] 24 (0, 0)) z2_ NB101_0.out (by simp)) (KeepBut.trans z17_ hk (.inl rfl)) (hb) (hi); clear BK101 HK HB HI0; obtain ⟨BK101, HK, HB, HI0⟩ := n_; (try clear hb); (try clear hb2); (try clear hk); (try clear hi)) | ((with_reducible refine gate_callee (f := 54) rfl ?_); refine goesL_ (some 22) rfl rfl Try.func54 (by kernel_rfl) rfl #[.pointer (some ⟨g, 0, none⟩)] rfl z3_ ?_; (with_reducible refine (spec_l00Src_odd.calls g s0_0 t112 t113 t114 t115 t116 w0 _ ?side1 ?side2 A22.out).mono ?_); (case side1 => repeat (first | (with_reducible first | exact HI0.out | apply IsS66.alloc | apply IsS66.drewN | apply IsS66.drew | apply IsS66.set_1 | apply IsS66.set_2 | refine IsS66.far ?_ NB0_101.out _) | exact HI0.out)); (case side2 => repeat (first | (with_reducible first | exact HB.out | apply below_alloc | apply pw_below_drewN | apply below_drew1 | refine below_set ?_ (IsS66.ge HI0.out) | refine below_set ?_ GE101.out) | exact HB.out)); rintro e w28 ⟨rfl, hi, hb, hk⟩; refine ⟨_, rfl, ?_⟩; have n_ := a4_ (KeepBut.blk hk (g' := gb101) (o := .cells #[.int .i64 0, .int .i64 0, .string (⟨#[]⟩ : ByteArray)] 24 (0, 0)) z2_ NB101_0.out (by simp)) (KeepBut.trans z17_ hk (.inl rfl)) (hb) (hi); clear BK101 HK HB HI0; obtain ⟨BK101, HK, HB, HI0⟩ := n_; (try clear hb); (try clear hb2); (try clear hk); (try clear hi)) | ((with_reducible refine gate_dst (N := 23) rfl ?_); refine Kd.R_lit (Kd.int .i64) _ 3 ?hg (N := 23) ?hd (xs := ([t108, wrap64 (t111 - 5), t114] : List Int)) (inner := [.int .i64 t108, .int .i64 (wrap64 (t111 - 5)), .int .i64 t114]) (ok := fun _ => True) (okp := fun _ => True) ?hr ?hp (fun _ hk => hk) trivial (Below.refl _ _) (Nat.le_refl _) (by simp) ?_; (case hd => rfl); (case hg => rfl); (case hr => first | (go_simp; done) | (go_simp; rfl)); (case hp => exact (Reps.one (show Kd.M (Kd.int .i64) _ _ _ t108 [.int .i64 t108] from rfl) (Reps.one (show Kd.M (Kd.int .i64) _ _ _ (wrap64 (t111 - 5)) [.int .i64 (wrap64 (t111 - 5))] from rfl) (Reps.one (show Kd.M (Kd.int .i64) _ _ _ t114 [.int .i64 t114] from rfl) (Reps.none _ _))))); intro v118 w29 ho30 hb hg_ hnew_; clear hg_ hnew_; (first | rw [← Ny117.out] at ho30 | (simp only [Int.reduceToNat] at ho30; rw [← Ny117.out] at ho30)); have n_ := a5_ (Kd.R_lower ho30 (keep_size (w := w) (g := g) (row := none) z17_)) (blk_below (g := gb101) (o := .cells #[.int .i64 0, .int .i64 0, .string (⟨#[]⟩ : ByteArray)] 24 (0, 0)) z2_ hb) (IsS66.below z38_ hb) (KeepBut.trans z17_ (KeepBut.of_below hb g none) (.inl rfl)) (below_step z39_ hb); clear BK101 HI0 HK HB; obtain ⟨HO119, BK101, HI0, HK, HB⟩ := n_; clear hb ho30) | ((with_reducible refine gate_callee (f := 53) rfl ?_); refine goesL_ (some 25) rfl rfl Try.func53 (by kernel_rfl) rfl #[.pointer (some ⟨g, 0, none⟩), .int .i64 3] rfl z3_ ?_; (with_reducible refine (spec_l00Src_next.calls g s0_0 t115 t116 3 t120 t121 t122 w0 _ ?side1 ?side2 A23.out).mono ?_); (case side1 => repeat (first | (with_reducible first | exact HI0.out | apply IsS66.alloc | apply IsS66.drewN | apply IsS66.drew | apply IsS66.set_1 | apply IsS66.set_2 | refine IsS66.far ?_ NB0_101.out _) | exact HI0.out)); (case side2 => repeat (first | (with_reducible first | exact HB.out | apply below_alloc | apply pw_below_drewN | apply below_drew1 | refine below_set ?_ (IsS66.ge HI0.out) | refine below_set ?_ GE101.out) | exact HB.out)); rintro e w31 ⟨rfl, hi, hb, hk⟩; refine ⟨_, rfl, ?_⟩; have n_ := a5_ (KeepBut.blk hk (g' := gb101) (o := .cells #[.int .i64 0, .int .i64 0, .string (⟨#[]⟩ : ByteArray)] 24 (0, 0)) z2_ NB101_0.out (by simp)) (Kd.R_mono (Kd.R_keep (IsS66.apart (show IsS66 w0 _ g s0_0 t115 t116 from by repeat (first | (with_reducible first | exact HI0.out | apply IsS66.alloc | apply IsS66.drewN | apply IsS66.drew | apply IsS66.set_1 | apply IsS66.set_2 | refine IsS66.far ?_ NB0_101.out _) | exact HI0.out)) (by (with_reducible repeat (first | apply Kd.R_alloc | apply Kd.R_drewN | apply Kd.R_drew)); exact HO119.out) (by decide)) hk (fun _ h => h.2)) (fun _ h => h.1)) (KeepBut.trans z17_ hk (.inl rfl)) (hb) (hi); clear BK101 HO119 HK HB HI0; obtain ⟨BK101, HO119, HK, HB, HI0⟩ := n_; (try clear hb); (try clear hb2); (try clear hk); (try clear hi); obtain ⟨Ao32, co32, eo32⟩ := Kd.R_slice HO119.out; subst eo32; have p123 : 0 ≤ (t120 : Int) := of_decide_eq_true z11_; have q123 : t120 < (y117.length : Int) := of_decide_eq_true z11_; obtain ⟨ad123, e123, hx123_0⟩ := Kd.at_int (Kd.R_reads' HO119.out).2.2 t120 p123 q123; cases e123; replace p123 := eq_true p123; replace q123 := eq_true q123; have hnb33 := NB101_0.out; have hnc33 := NB0_101.out; obtain ⟨hcz34_0, hcz34_1, hcz34_2, hfz34_0, hfz34_1, hfz34_2⟩ := bcf3 BK101.out))
   refine bodyPost_ret (results_cell_row rfl _ _ gb101 24 #[.int .i64 2, .int .i64 (rd y117 t120), .string (⟨#[]⟩ : ByteArray)] (0, 0) _ rfl (by (with_reducible repeat (first | refine blk_drewN ?_ _ | refine blk_drew ?_ | refine blk_alloc ?_ _)); refine blk_put (cs := #[.int .i64 2, .int .i64 (rd y117 t120), .string (⟨#[]⟩ : ByteArray)]) ?_ 2 _ rfl; (with_reducible repeat (first | refine blk_drewN ?_ _ | refine blk_drew ?_ | refine blk_alloc ?_ _)); refine blk_put (cs := #[.int .i64 2, .int .i64 0, .string (⟨#[]⟩ : ByteArray)]) ?_ 1 _ rfl; (with_reducible repeat (first | refine blk_drewN ?_ _ | refine blk_drew ?_ | refine blk_alloc ?_ _)); refine blk_put (cs := #[.int .i64 0, .int .i64 0, .string (⟨#[]⟩ : ByteArray)]) ?_ 0 _ rfl; (with_reducible repeat (first | refine blk_drewN ?_ _ | refine blk_drew ?_ | refine blk_alloc ?_ _)); exact BK101.out) Try.underlying24 rfl (by kernel_rfl)) rfl ?_
   exact ⟨z10_, z38_, z39_, z17_⟩
end

end Go.Proofs.Ytfbclbbhomhfaaa.X
end
