/- Contracts of functions, and what is told of them. -/
import Derived.Test.YtlikagbdhjdggaaGreatDoorYFnExactIndexKey8
set_option maxHeartbeats 8000000
set_option maxRecDepth 100000
namespace Go.Proofs.YtlikagbdhjdggaaGreatDoor.X
open Go.RowKit Go.Proofs.YtlikagbdhjdggaaGreatDoorW.PrintWords Go.Proofs.YtlikagbdhjdggaaGreatDoorW.PrintLast Go.Proofs.YtlikagbdhjdggaaGreatDoorW.PrintMore
attribute [local go_sem] max2_int min2_int max_two min_two max_three min_three max_four min_four
set_option linter.unusedVariables false
set_option linter.unusedSimpArgs false

mutual
def spec_TableOK.j0 : Nat → Bool → ByteArray → List (S78) → Int → List (S58) → Option (Bool)
 | 0, _, _, _, _, _ => none
 | k + 1, x31, x102000, x102001, x102002, x102003 => if x31 = true then (some false) else (spec_TableOK.l0 k 0 x102000 x102001 x102002 x102003)
def spec_TableOK.l0 : Nat → Int → ByteArray → List (S78) → Int → List (S58) → Option (Bool)
 | 0, _, _, _, _, _ => none
 | k + 1, x3, x102000, x102001, x102002, x102003 => if x3 < (x102001.length : Int) then (if 0 ≤ x3 then ((spec_l09Name.f k ((rd_T78 x102001 x3).f0)).bind fun t107 => (if t107 = true then ((spec_l01In.f ((rd_T78 x102001 x3).f1) 1 4).bind fun t108 => (if t108 = true then (if x3 < x102002 then (if (rd_T78 x102001 x3).f2 = true then (some false) else (if x3 ≤ (x102001.length : Int) then ((spec_l09Column.f k (x102001.take (x3 : Int).toNat) ((rd_T78 x102001 x3).f0)).bind fun t113 => (if t113 ≥ 0 then (some false) else (spec_TableOK.l0 k (wrap64 (x3 + 1)) x102000 x102001 x102002 x102003))) else (none))) else (if x3 ≤ (x102001.length : Int) then ((spec_l09Column.f k (x102001.take (x3 : Int).toNat) ((rd_T78 x102001 x3).f0)).bind fun t118 => (if t118 ≥ 0 then (some false) else (spec_TableOK.l0 k (wrap64 (x3 + 1)) x102000 x102001 x102002 x102003))) else (none))) else (some false))) else (some false))) else (none)) else (spec_TableOK.l1 k 0 x102000 x102001 x102002 x102003)
def spec_TableOK.l1 : Nat → Int → ByteArray → List (S78) → Int → List (S58) → Option (Bool)
 | 0, _, _, _, _, _ => none
 | k + 1, x5, x102000, x102001, x102002, x102003 => if x5 < (x102003.length : Int) then (if 0 ≤ x5 then ((spec_l09IndexOK.f k x102000 x102001 x102002 x102003 ((rd_T58 x102003 x5).f0) ((rd_T58 x102003 x5).f1)).bind fun t120 => (if t120 = true then (if x5 ≤ (x102003.length : Int) then ((spec_l09Index.f k (x102003.take (x5 : Int).toNat) ((rd_T58 x102003 x5).f0)).bind fun t126 => (if t126 ≥ 0 then (some false) else (spec_TableOK.l1 k (wrap64 (x5 + 1)) x102000 x102001 x102002 x102003))) else (none)) else (some false))) else (none)) else (some true)
end
def spec_TableOK.f (k : Nat) (a0_0 : ByteArray) (l0_1 : List (S78)) (a0_2 : Int) (l0_3 : List (S58)) : Option (Bool) := (spec_l09Name.f k a0_0).bind fun t102 => (if t102 = true then ((spec_l01In.f (l0_1.length : Int) 1 8).bind fun t103 => (if t103 = true then ((spec_l01In.f a0_2 1 (l0_1.length : Int)).bind fun t104 => (if t104 = true then (spec_TableOK.j0 k (decide ((l0_3.length : Int) > 4)) a0_0 l0_1 a0_2 l0_3) else (spec_TableOK.j0 k true a0_0 l0_1 a0_2 l0_3))) else (spec_TableOK.j0 k true a0_0 l0_1 a0_2 l0_3))) else (spec_TableOK.j0 k true a0_0 l0_1 a0_2 l0_3))
theorem spec_TableOK.mono_l : ∀ k, (∀ y0 y1 y2 y3 y4, LeO (spec_TableOK.j0 k y0 y1 y2 y3 y4) (spec_TableOK.j0 (k + 1) y0 y1 y2 y3 y4)) ∧ (∀ y0 y1 y2 y3 y4, LeO (spec_TableOK.l0 k y0 y1 y2 y3 y4) (spec_TableOK.l0 (k + 1) y0 y1 y2 y3 y4)) ∧ (∀ y0 y1 y2 y3 y4, LeO (spec_TableOK.l1 k y0 y1 y2 y3 y4) (spec_TableOK.l1 (k + 1) y0 y1 y2 y3 y4))
 | 0 => ⟨fun _ _ _ _ _ r h => by simp [spec_TableOK.j0] at h, fun _ _ _ _ _ r h => by simp [spec_TableOK.l0] at h, fun _ _ _ _ _ r h => by simp [spec_TableOK.l1] at h⟩
 | k + 1 => by
  obtain ⟨ih0, ih1, ih2⟩ := spec_TableOK.mono_l k
  refine ⟨?_, ?_, ?_⟩
  rotate_left
  ·intro y0 y1 y2 y3 y4
   unfold spec_TableOK.l0
   repeat' first | with_reducible (first | exact ih0 _ _ _ _ _ | exact ih1 _ _ _ _ _ | exact ih2 _ _ _ _ _ | exact spec_l09Column.mono _ _ _ | exact spec_l09Index.mono _ _ _ | exact spec_l09IndexOK.mono _ _ _ _ _ _ _ | exact spec_l09Name.mono _ _ | exact LeO.refl _ | exact LeO.none _ | refine LeO.ite ?_ ?_ | refine LeO.bind ?_ (fun _ => ?_)) | exact ih0 _ _ _ _ _ | exact ih1 _ _ _ _ _ | exact ih2 _ _ _ _ _ | exact spec_l09Column.mono _ _ _ | exact spec_l09Index.mono _ _ _ | exact spec_l09IndexOK.mono _ _ _ _ _ _ _ | exact spec_l09Name.mono _ _ | exact LeO.none _ | refine LeO.ite ?_ ?_ | refine LeO.bind ?_ (fun _ => ?_)
  ·intro y0 y1 y2 y3 y4
   unfold spec_TableOK.l1
   repeat' first | with_reducible (first | exact ih0 _ _ _ _ _ | exact ih1 _ _ _ _ _ | exact ih2 _ _ _ _ _ | exact spec_l09Column.mono _ _ _ | exact spec_l09Index.mono _ _ _ | exact spec_l09IndexOK.mono _ _ _ _ _ _ _ | exact spec_l09Name.mono _ _ | exact LeO.refl _ | exact LeO.none _ | refine LeO.ite ?_ ?_ | refine LeO.bind ?_ (fun _ => ?_)) | exact ih0 _ _ _ _ _ | exact ih1 _ _ _ _ _ | exact ih2 _ _ _ _ _ | exact spec_l09Column.mono _ _ _ | exact spec_l09Index.mono _ _ _ | exact spec_l09IndexOK.mono _ _ _ _ _ _ _ | exact spec_l09Name.mono _ _ | exact LeO.none _ | refine LeO.ite ?_ ?_ | refine LeO.bind ?_ (fun _ => ?_)
  intro y0 y1 y2 y3 y4
  unfold spec_TableOK.j0
  repeat' first | with_reducible (first | exact ih0 _ _ _ _ _ | exact ih1 _ _ _ _ _ | exact ih2 _ _ _ _ _ | exact spec_l09Column.mono _ _ _ | exact spec_l09Index.mono _ _ _ | exact spec_l09IndexOK.mono _ _ _ _ _ _ _ | exact spec_l09Name.mono _ _ | exact LeO.refl _ | exact LeO.none _ | refine LeO.ite ?_ ?_ | refine LeO.bind ?_ (fun _ => ?_)) | exact ih0 _ _ _ _ _ | exact ih1 _ _ _ _ _ | exact ih2 _ _ _ _ _ | exact spec_l09Column.mono _ _ _ | exact spec_l09Index.mono _ _ _ | exact spec_l09IndexOK.mono _ _ _ _ _ _ _ | exact spec_l09Name.mono _ _ | exact LeO.none _ | refine LeO.ite ?_ ?_ | refine LeO.bind ?_ (fun _ => ?_)
theorem spec_TableOK.mono : ∀ a0 a1 a2 a3 k, LeO (spec_TableOK.f k a0 a1 a2 a3) (spec_TableOK.f (k + 1) a0 a1 a2 a3) := by
 intro a0 a1 a2 a3 k
 obtain ⟨ih0, ih1, ih2⟩ := spec_TableOK.mono_l k
 unfold spec_TableOK.f
 repeat' first
   | (with_reducible exact ih0 _ _ _ _ _)
   | (with_reducible exact ih1 _ _ _ _ _)
   | (with_reducible exact ih2 _ _ _ _ _)
   | (with_reducible exact spec_l09Column.mono _ _ _)
   | (with_reducible exact spec_l09Index.mono _ _ _)
   | (with_reducible exact spec_l09IndexOK.mono _ _ _ _ _ _ _)
   | (with_reducible exact spec_l09Name.mono _ _)
   | (with_reducible exact LeO.refl _)
   | (with_reducible exact LeO.none _)
   | (with_reducible refine LeO.ite ?_ ?_)
   | (with_reducible refine LeO.bind ?_ (fun _ => ?_))
   | exact ih0 _ _ _ _ _
   | exact ih1 _ _ _ _ _
   | exact ih2 _ _ _ _ _
   | exact spec_l09Column.mono _ _ _
   | exact spec_l09Index.mono _ _ _
   | exact spec_l09IndexOK.mono _ _ _ _ _ _ _
   | exact spec_l09Name.mono _ _
   | exact LeO.none _
   | refine LeO.ite ?_ ?_
   | refine LeO.bind ?_ (fun _ => ?_)
def spec_TableOK.T7 : Bool × List (List Nat × List Nat) := (true, [([], []), ([0], [0]), ([1], [1]), ([2], [2]), ([3, 2], [3]), ([4], [4]), ([5, 4], [4, 5]), ([6, 4, 4], [4, 6]), ([7, 4], [4, 7]), ([4, 8], [4, 8]), ([9, 7], [9]), ([10], [10]), ([10], [10]), ([12, 10], [10, 12]), ([11, 13, 10], [10, 11, 13]), ([14, 10, 10], [10, 14]), ([15], [15]), ([16, 15], [15, 16]), ([15, 17, 10], [10, 15, 17]), ([10, 18], [10, 18]), ([19, 15], [19]), ([20], [20]), ([21, 20], [20, 21]), ([20], [20]), ([22, 23, 20], [20, 22, 23]), ([20], [20]), ([25, 20], [20, 25]), ([24, 26, 20, 20], [20, 24, 26]), ([27, 20], [20, 27]), ([20, 28], [20, 28])])
def spec_TableOK.B7 : List Nat := [0, 1, 3, 7, 15, 31, 63, 127, 255, 511, 1023, 2047, 2047, 6143, 16383, 32767, 65535, 131071, 262143, 524287, 1048575, 2097151, 4194303, 2097151, 16777215, 2097151, 35651583, 134217727, 268435455, 536870911]
theorem spec_TableOK.tab7 : rtab .any (opsOf Tryz.f38 7) = spec_TableOK.T7 := by kernel_rfl
theorem spec_TableOK.bits7 : waitsOk spec_TableOK.T7.2 spec_TableOK.B7 = true := by kernel_rfl
def spec_TableOK.T12 : Bool × List (List Nat × List Nat) := (true, [([], []), ([], []), ([1], [1]), ([], []), ([2, 3], [2, 3]), ([4], [4]), ([0, 5], [0, 5]), ([6], [6]), ([7, 6], [7]), ([8], [8]), ([9, 8], [8, 9]), ([8], [8]), ([10, 11, 8], [8, 10, 11]), ([8], [8]), ([13, 8], [8, 13]), ([8], [8]), ([14, 15, 8], [8, 14, 15]), ([16, 8], [8, 16]), ([17, 8], [8, 17]), ([12, 18, 8, 8], [8, 12, 18]), ([19, 8], [8, 19]), ([8, 20], [8, 20])])
def spec_TableOK.B12 : List Nat := [0, 0, 2, 0, 14, 30, 63, 127, 255, 511, 1023, 511, 4095, 511, 8703, 511, 57855, 123391, 254463, 524287, 1048575, 2097151]
theorem spec_TableOK.tab12 : rtab .any (opsOf Tryz.f38 12) = spec_TableOK.T12 := by kernel_rfl
theorem spec_TableOK.bits12 : waitsOk spec_TableOK.T12.2 spec_TableOK.B12 = true := by kernel_rfl
theorem spec_TableOK.calls (k : Nat) (a0_0 : ByteArray) (A0_1 : Option Addr) (c0_1 : Nat) (l0_1 : List (S78)) (a0_2 : Int) (A0_3 : Option Addr) (c0_3 : Nat) (l0_3 : List (S58)) (r : Bool) (w : World) (hr0_1 : Kd.C k78 w A0_1 l0_1.length l0_1) (hc0_1 : l0_1.length ≤ c0_1) (hr0_3 : Kd.C k58 w A0_3 l0_3.length l0_3) (hc0_3 : l0_3.length ≤ c0_3) (h : spec_TableOK.f k a0_0 l0_1 a0_2 l0_3 = some r) :
  Calls Tryz.prog 38 #[.agg #[.string a0_0, .slice A0_1 l0_1.length c0_1, .int .i64 a0_2, .slice A0_3 l0_3.length c0_3]] w fun e w' => e = .returned (.bool r) ∧ Below w.heap.size w w' := by
 have hu35 := Tryz.underlying35
 have hu78 := Tryz.underlying78
 have hu58 := Tryz.underlying58
 have HR0_1 := ak_ hr0_1
 have HC0_1 := ak_ hc0_1
 clear hr0_1 hc0_1
 have HR0_3 := ak_ hr0_3
 have HC0_3 := ak_ hc0_3
 clear hr0_3 hc0_3
 have HB := ak_ (Below.refl w.heap.size w)
 have H := h
 unfold spec_TableOK.f at H
 clear h
 have HC2 := ak_ H
 clear H
 go_enter Tryz.func38, Tryz.ntmps38
 go_upto_region 1 with (first | ((with_reducible refine gate_dst (N := 1) rfl ?_); (try (refine gate_guard (by rfl) ?_; dsimp only)); refine bx_ 1 (cs := #[.string a0_0, .slice A0_1 l0_1.length c0_1, .int .i64 a0_2, .slice A0_3 l0_3.length c0_3]) (t := 35) (h_ := ?_); intro gb101 hg w3 hbox hb; have n_ := a4_ (below_step z0_ hb) (hbox) ((gs_ w hg (below_size z0_))) ((gs_ w hg (below_size z0_))); clear HB; obtain ⟨HB, BK101, GW101, GE101⟩ := n_; clear hb hbox hg))
 (try simp only [Act.put, sz1_, sz2_, sz3_])
 go_cut [31] (fun v31 wc => ∃ (kq : Nat) (x31_1 : Bool), v31 = .bool x31_1 ∧ Aside0 (spec_TableOK.j0 kq x31_1 a0_0 l0_1 a0_2 l0_3 = some r) ∧ Aside0 (kq ≤ k) ∧ Aside0 (wc.heap[gb101]? = some (.cells #[.string a0_0, (.slice A0_1 l0_1.length c0_1), .int .i64 a0_2, (.slice A0_3 l0_3.length c0_3)] 35 (0, 0))) ∧ Aside0 (Below w.heap.size w wc))
 case first =>
  have H := HC2.out
  clear HC2
  replace H := Option.bind_eq_some_iff.mp H
  obtain ⟨t102, A40, H⟩ := H
  have A4 := ak_ A40
  clear A40
  by_cases c5 : t102 = true
  rotate_left
  ·replace c5 := Bool.eq_false_iff.mpr c5
   subst c5
   have H1 : (spec_TableOK.j0 k true a0_0 l0_1 a0_2 l0_3) = some r := by rw [if_neg (show ¬ (false = true) by decide)] at H; exact H
   clear H
   have H := H1
   clear H1
   have H' := ak_ H
   clear H
   obtain ⟨hcz19_0, hcz19_1, hcz19_2, hcz19_3, hfz19_0, hfz19_1, hfz19_2, hfz19_3⟩ := bcf4 BK101.out
   go_wp2_with (first | ((with_reducible refine gate_callee (f := 53) rfl ?_); refine goesL_ (some 8) rfl rfl Tryz.func53 (by kernel_rfl) rfl #[.string a0_0] rfl z3_ ?_; (with_reducible refine (spec_l09Name.calls k a0_0 false _ z66_).mono ?_); rintro e w20 ⟨rfl, hb⟩; refine ⟨_, rfl, ?_⟩; have n_ := a2_ (blk_below (g := gb101) (o := .cells #[.string a0_0, .slice A0_1 l0_1.length c0_1, .int .i64 a0_2, .slice A0_3 l0_3.length c0_3] 35 (0, 0)) z2_ hb) (below_step z1_ hb); clear BK101 HB; obtain ⟨BK101, HB⟩ := n_; (try clear hb); (try clear hb2); (try clear hk); (try clear hi)))
   go_meet
   case rel => exact ⟨_, (true), z8_, H', ⟨by first | omega | exact Nat.le_refl _⟩, ⟨z2_⟩, ⟨z1_⟩⟩
  subst c5
  have H1 : ((spec_l01In.f (l0_1.length : Int) 1 8).bind fun t103 => (if t103 = true then ((spec_l01In.f a0_2 1 (l0_1.length : Int)).bind fun t104 => (if t104 = true then (spec_TableOK.j0 k (decide ((l0_3.length : Int) > 4)) a0_0 l0_1 a0_2 l0_3) else (spec_TableOK.j0 k true a0_0 l0_1 a0_2 l0_3))) else (spec_TableOK.j0 k true a0_0 l0_1 a0_2 l0_3))) = some r := by rw [if_pos rfl] at H; exact H
  clear H
  have H := H1
  clear H1
  replace H := Option.bind_eq_some_iff.mp H
  obtain ⟨t103, A60, H⟩ := H
  have A6 := ak_ A60
  clear A60
  by_cases c7 : t103 = true
  rotate_left
  ·replace c7 := Bool.eq_false_iff.mpr c7
   subst c7
   have H1 : (spec_TableOK.j0 k true a0_0 l0_1 a0_2 l0_3) = some r := by rw [if_neg (show ¬ (false = true) by decide)] at H; exact H
   clear H
   have H := H1
   clear H1
   have H' := ak_ H
   clear H
   obtain ⟨hcz16_0, hcz16_1, hcz16_2, hcz16_3, hfz16_0, hfz16_1, hfz16_2, hfz16_3⟩ := bcf4 BK101.out
   go_wp2_with (first | ((with_reducible refine gate_callee (f := 53) rfl ?_); refine goesL_ (some 8) rfl rfl Tryz.func53 (by kernel_rfl) rfl #[.string a0_0] rfl z3_ ?_; (with_reducible refine (spec_l09Name.calls k a0_0 true _ z66_).mono ?_); rintro e w17 ⟨rfl, hb⟩; refine ⟨_, rfl, ?_⟩; have n_ := a2_ (blk_below (g := gb101) (o := .cells #[.string a0_0, .slice A0_1 l0_1.length c0_1, .int .i64 a0_2, .slice A0_3 l0_3.length c0_3] 35 (0, 0)) z2_ hb) (below_step z1_ hb); clear BK101 HB; obtain ⟨BK101, HB⟩ := n_; (try clear hb); (try clear hb2); (try clear hk); (try clear hi); obtain ⟨hcz18_0, hcz18_1, hcz18_2, hcz18_3, hfz18_0, hfz18_1, hfz18_2, hfz18_3⟩ := bcf4 BK101.out) | (go_at_call 21; (with_reducible refine (spec_l01In.calls (l0_1.length : Int) 1 8 false _ z81_).mono ?_); rintro e w' ⟨rfl, ⟨nd, rfl⟩⟩))
   go_meet
   case rel => exact ⟨_, (true), z8_, H', ⟨by first | omega | exact Nat.le_refl _⟩, ⟨z2_⟩, ⟨z1_⟩⟩
  subst c7
  have H1 : ((spec_l01In.f a0_2 1 (l0_1.length : Int)).bind fun t104 => (if t104 = true then (spec_TableOK.j0 k (decide ((l0_3.length : Int) > 4)) a0_0 l0_1 a0_2 l0_3) else (spec_TableOK.j0 k true a0_0 l0_1 a0_2 l0_3))) = some r := by rw [if_pos rfl] at H; exact H
  clear H
  have H := H1
  clear H1
  replace H := Option.bind_eq_some_iff.mp H
  obtain ⟨t104, A80, H⟩ := H
  have A8 := ak_ A80
  clear A80
  by_cases c9 : t104 = true
  ·subst c9
   have H1 : (spec_TableOK.j0 k (decide ((l0_3.length : Int) > 4)) a0_0 l0_1 a0_2 l0_3) = some r := by rw [if_pos rfl] at H; exact H
   clear H
   have H := H1
   clear H1
   have H' := ak_ H
   clear H
   obtain ⟨hcz10_0, hcz10_1, hcz10_2, hcz10_3, hfz10_0, hfz10_1, hfz10_2, hfz10_3⟩ := bcf4 BK101.out
   go_wp2_with (first | ((with_reducible refine gate_callee (f := 53) rfl ?_); refine goesL_ (some 8) rfl rfl Tryz.func53 (by kernel_rfl) rfl #[.string a0_0] rfl z3_ ?_; (with_reducible refine (spec_l09Name.calls k a0_0 true _ z66_).mono ?_); rintro e w11 ⟨rfl, hb⟩; refine ⟨_, rfl, ?_⟩; have n_ := a2_ (blk_below (g := gb101) (o := .cells #[.string a0_0, .slice A0_1 l0_1.length c0_1, .int .i64 a0_2, .slice A0_3 l0_3.length c0_3] 35 (0, 0)) z2_ hb) (below_step z1_ hb); clear BK101 HB; obtain ⟨BK101, HB⟩ := n_; (try clear hb); (try clear hb2); (try clear hk); (try clear hi); obtain ⟨hcz12_0, hcz12_1, hcz12_2, hcz12_3, hfz12_0, hfz12_1, hfz12_2, hfz12_3⟩ := bcf4 BK101.out) | (go_at_call 21; (with_reducible refine (spec_l01In.calls (l0_1.length : Int) 1 8 true _ z81_).mono ?_); rintro e w' ⟨rfl, ⟨nd, rfl⟩⟩) | (go_at_call 21; (with_reducible refine (spec_l01In.calls a0_2 1 (l0_1.length : Int) true _ (by first | (with_reducible exact A8.out) | (have a_ := A8.out; rw [← Nbq29.out] at a_; exact a_))).mono ?_); rintro e w' ⟨rfl, ⟨nd, rfl⟩⟩))
   go_meet
   case rel => exact ⟨_, (decide ((l0_3.length : Int) > 4)), z8_, H', ⟨by first | omega | exact Nat.le_refl _⟩, ⟨z2_⟩, ⟨z1_⟩⟩
  replace c9 := Bool.eq_false_iff.mpr c9
  subst c9
  have H1 : (spec_TableOK.j0 k true a0_0 l0_1 a0_2 l0_3) = some r := by rw [if_neg (show ¬ (false = true) by decide)] at H; exact H
  clear H
  have H := H1
  clear H1
  have H' := ak_ H
  clear H
  obtain ⟨hcz13_0, hcz13_1, hcz13_2, hcz13_3, hfz13_0, hfz13_1, hfz13_2, hfz13_3⟩ := bcf4 BK101.out
  go_wp2_with (first | ((with_reducible refine gate_callee (f := 53) rfl ?_); refine goesL_ (some 8) rfl rfl Tryz.func53 (by kernel_rfl) rfl #[.string a0_0] rfl z3_ ?_; (with_reducible refine (spec_l09Name.calls k a0_0 true _ z66_).mono ?_); rintro e w14 ⟨rfl, hb⟩; refine ⟨_, rfl, ?_⟩; have n_ := a2_ (blk_below (g := gb101) (o := .cells #[.string a0_0, .slice A0_1 l0_1.length c0_1, .int .i64 a0_2, .slice A0_3 l0_3.length c0_3] 35 (0, 0)) z2_ hb) (below_step z1_ hb); clear BK101 HB; obtain ⟨BK101, HB⟩ := n_; (try clear hb); (try clear hb2); (try clear hk); (try clear hi); obtain ⟨hcz15_0, hcz15_1, hcz15_2, hcz15_3, hfz15_0, hfz15_1, hfz15_2, hfz15_3⟩ := bcf4 BK101.out) | (go_at_call 21; (with_reducible refine (spec_l01In.calls (l0_1.length : Int) 1 8 true _ z81_).mono ?_); rintro e w' ⟨rfl, ⟨nd, rfl⟩⟩) | (go_at_call 21; (with_reducible refine (spec_l01In.calls a0_2 1 (l0_1.length : Int) false _ (by first | (with_reducible exact A8.out) | (have a_ := A8.out; rw [← Nbq29.out] at a_; exact a_))).mono ?_); rintro e w' ⟨rfl, ⟨nd, rfl⟩⟩))
  go_meet
  case rel => exact ⟨_, (true), z8_, H', ⟨by first | omega | exact Nat.le_refl _⟩, ⟨z2_⟩, ⟨z1_⟩⟩
 case rest =>
  clear HC2
  try clear p2
  try clear c3
  try clear c5
  try clear c7
  try clear c9
  try clear hcz10_0
  try clear hcz10_1
  try clear hcz10_2
  try clear hcz10_3
  try clear hcz12_0
  try clear hcz12_1
  try clear hcz12_2
  try clear hcz12_3
  try clear hcz13_0
  try clear hcz13_1
  try clear hcz13_2
  try clear hcz13_3
  try clear hcz15_0
  try clear hcz15_1
  try clear hcz15_2
  try clear hcz15_3
  try clear hcz16_0
  try clear hcz16_1
  try clear hcz16_2
  try clear hcz16_3
  try clear hcz18_0
  try clear hcz18_1
  try clear hcz18_2
  try clear hcz18_3
  try clear hcz19_0
  try clear hcz19_1
  try clear hcz19_2
  try clear hcz19_3
  try clear hfz10_0
  try clear hfz10_1
  try clear hfz10_2
  try clear hfz10_3
  try clear hfz12_0
  try clear hfz12_1
  try clear hfz12_2
  try clear hfz12_3
  try clear hfz13_0
  try clear hfz13_1
  try clear hfz13_2
  try clear hfz13_3
  try clear hfz15_0
  try clear hfz15_1
  try clear hfz15_2
  try clear hfz15_3
  try clear hfz16_0
  try clear hfz16_1
  try clear hfz16_2
  try clear hfz16_3
  try clear hfz18_0
  try clear hfz18_1
  try clear hfz18_2
  try clear hfz18_3
  try clear hfz19_0
  try clear hfz19_1
  try clear hfz19_2
  try clear hfz19_3
  obtain ⟨kq, x31_1, rfl, HA, HJ1, BK101, HB⟩ := hcut
  cases kq with
  | zero => exact absurd HA.out (by simp [spec_TableOK.j0])
  | succ kj1 =>
   have H := HA.out
   clear HA
   simp only [spec_TableOK.j0] at H
   by_cases c21 : x31_1 = true
   ·subst c21
    have H1 : (some false) = some r := by rw [if_pos rfl] at H; exact H
    clear H
    have H := H1
    clear H1
    obtain rfl := Option.some.inj H
    go_wp2
    go_ret
    exact ⟨z6_, z1_⟩
   replace c21 := Bool.eq_false_iff.mpr c21
   subst c21
   have H1 : (spec_TableOK.l0 kj1 0 a0_0 l0_1 a0_2 l0_3) = some r := by rw [if_neg (show ¬ (false = true) by decide)] at H; exact H
   clear H
   have H := H1
   clear H1
   have H' := ak_ H
   clear H
   go_wp2
   go_loopg [3] kj1 (fun kq v3 w' => ∃ (x3_2 : Int), v3 = .int .i64 x3_2 ∧ Aside0 (spec_TableOK.l0 kq x3_2 a0_0 l0_1 a0_2 l0_3 = some r) ∧ Aside0 (kq ≤ kj1) ∧ Aside0 (w'.heap[gb101]? = some (.cells #[.string a0_0, (.slice A0_1 l0_1.length c0_1), .int .i64 a0_2, (.slice A0_3 l0_3.length c0_3)] 35 (0, 0))) ∧ Aside0 (Below w.heap.size w w'))
   case atStart => exact ⟨(0), z8_, H', ⟨Nat.le_refl _⟩, ⟨z2_⟩, ⟨z1_⟩⟩
   case round =>
    clear H'
    try clear c2
    try clear p2
    try clear c3
    try clear c5
    try clear c7
    try clear c9
    try clear c21
    try clear hcz10_0
    try clear hcz10_1
    try clear hcz10_2
    try clear hcz10_3
    try clear hcz12_0
    try clear hcz12_1
    try clear hcz12_2
    try clear hcz12_3
    try clear hcz13_0
    try clear hcz13_1
    try clear hcz13_2
    try clear hcz13_3
    try clear hcz15_0
    try clear hcz15_1
    try clear hcz15_2
    try clear hcz15_3
    try clear hcz16_0
    try clear hcz16_1
    try clear hcz16_2
    try clear hcz16_3
    try clear hcz18_0
    try clear hcz18_1
    try clear hcz18_2
    try clear hcz18_3
    try clear hcz19_0
    try clear hcz19_1
    try clear hcz19_2
    try clear hcz19_3
    try clear hfz10_0
    try clear hfz10_1
    try clear hfz10_2
    try clear hfz10_3
    try clear hfz12_0
    try clear hfz12_1
    try clear hfz12_2
    try clear hfz12_3
    try clear hfz13_0
    try clear hfz13_1
    try clear hfz13_2
    try clear hfz13_3
    try clear hfz15_0
    try clear hfz15_1
    try clear hfz15_2
    try clear hfz15_3
    try clear hfz16_0
    try clear hfz16_1
    try clear hfz16_2
    try clear hfz16_3
    try clear hfz18_0
    try clear hfz18_1
    try clear hfz18_2
    try clear hfz18_3
    try clear hfz19_0
    try clear hfz19_1
    try clear hfz19_2
    try clear hfz19_3
    try clear p2
    obtain ⟨x3_2, rfl, HA, HK2, BK101, HB⟩ := hrel
    cases gk with
    | zero => exact absurd HA.out (by simp [spec_TableOK.l0])
    | succ k2 =>
     have H := HA.out
     clear HA
     simp only [spec_TableOK.l0] at H
     by_cases c22 : x3_2 < (l0_1.length : Int)
     rotate_left
     ·rw [if_neg c22] at H
      have c22b0 := decide_eq_false c22
      clear c22
      have H' := ak_ H
      clear H
      obtain ⟨hcz92_0, hcz92_1, hcz92_2, hcz92_3, hfz92_0, hfz92_1, hfz92_2, hfz92_3⟩ := bcf4 BK101.out
      go_wp2
      go_loopg [5] k2 (fun kq v5 w' => ∃ (x5_3 : Int), v5 = .int .i64 x5_3 ∧ Aside0 (spec_TableOK.l1 kq x5_3 a0_0 l0_1 a0_2 l0_3 = some r) ∧ Aside0 (kq ≤ k2) ∧ Aside0 (w'.heap[gb101]? = some (.cells #[.string a0_0, (.slice A0_1 l0_1.length c0_1), .int .i64 a0_2, (.slice A0_3 l0_3.length c0_3)] 35 (0, 0))) ∧ Aside0 (Below w.heap.size w w'))
      case atStart => exact ⟨(0), z8_, H', ⟨Nat.le_refl _⟩, ⟨z2_⟩, ⟨z1_⟩⟩
      case round =>
       clear H'
       try clear p1
       try clear q1
       try clear hx1
       try clear c2
       try clear p2
       try clear c5
       try clear p6
       try clear c8
       try clear p10
       try clear q10
       try clear hx10
       try clear c21
       try clear c22
       try clear c22b0
       try clear c23
       try clear c25
       try clear c27
       try clear c53
       try clear c54
       try clear c59
       try clear p64
       try clear c80
       try clear c87
       try clear hcz78_0
       try clear hcz78_1
       try clear hcz78_2
       try clear hcz78_3
       try clear hcz81_0
       try clear hcz81_1
       try clear hcz81_2
       try clear hcz85_0
       try clear hcz85_1
       try clear hcz85_2
       try clear hcz85_3
       try clear hcz88_0
       try clear hcz88_1
       try clear hcz88_2
       try clear hcz92_0
       try clear hcz92_1
       try clear hcz92_2
       try clear hcz92_3
       try clear hfz78_0
       try clear hfz78_1
       try clear hfz78_2
       try clear hfz78_3
       try clear hfz81_0
       try clear hfz81_1
       try clear hfz81_2
       try clear hfz85_0
       try clear hfz85_1
       try clear hfz85_2
       try clear hfz85_3
       try clear hfz88_0
       try clear hfz88_1
       try clear hfz88_2
       try clear hfz92_0
       try clear hfz92_1
       try clear hfz92_2
       try clear hfz92_3
       try clear hx105_0
       try clear hx105_1
       try clear hx105_2
       try clear p105
       try clear q105
       obtain ⟨x5_3, rfl, HA, HK3, BK101, HB⟩ := hrel
       cases gk with
       | zero => exact absurd HA.out (by simp [spec_TableOK.l1])
       | succ k3 =>
        have H := HA.out
        clear HA
        simp only [spec_TableOK.l1] at H
        by_cases c93 : x5_3 < (l0_3.length : Int)
        ·rw [if_pos c93] at H
         have c93b0 := decide_eq_true c93
         clear c93
         by_cases c94 : 0 ≤ x5_3
         ·rw [if_pos c94] at H
          have c94b0 := decide_eq_true c94
          clear c94
          replace H := Option.bind_eq_some_iff.mp H
          obtain ⟨t120, A950, H⟩ := H
          have A95 := ak_ A950
          clear A950
          by_cases c96 : t120 = true
          ·subst c96
           have H1 : (if x5_3 ≤ (l0_3.length : Int) then ((spec_l09Index.f k3 (l0_3.take (x5_3 : Int).toNat) ((rd_T58 l0_3 x5_3).f0)).bind fun t126 => (if t126 ≥ 0 then (some false) else (spec_TableOK.l1 k3 (wrap64 (x5_3 + 1)) a0_0 l0_1 a0_2 l0_3))) else (none)) = some r := by rw [if_pos rfl] at H; exact H
           clear H
           have H := H1
           clear H1
           have c97b0 := eq_true (of_decide_eq_true z5_ : 0 ≤ x5_3)
           by_cases c98 : x5_3 ≤ (l0_3.length : Int)
           ·rw [if_pos c98] at H
            have c98b0 := eq_true c98
            have c98b1 := decide_eq_true c98
            clear c98
            obtain ⟨y121, hy121⟩ : ∃ y_ : List (S58), y_ = (l0_3.take (x5_3 : Int).toNat) := ⟨_, rfl⟩
            replace H : ((spec_l09Index.f k3 y121 ((rd_T58 l0_3 x5_3).f0)).bind fun t126 => (if t126 ≥ 0 then (some false) else (spec_TableOK.l1 k3 (wrap64 (x5_3 + 1)) a0_0 l0_1 a0_2 l0_3))) = some r := by first | (rw [hy121]; with_reducible exact H) | (have H2_ := (Option.bind_some _ _).symm.trans H; rw [hy121]; with_reducible exact H2_) | (have H2_ := (Option.bind_some _ _).symm.trans H; with_reducible exact H2_) | with_reducible exact H | (rw [hy121]; exact H) | exact H
            have Ny121 := ak_ hy121
            clear hy121
            replace H := Option.bind_eq_some_iff.mp H
            obtain ⟨t126, A990, H⟩ := H
            have A99 := ak_ A990
            clear A990
            by_cases c100 : t126 ≥ 0
            ·rw [if_pos c100] at H
             have c100b0 : decide (0 ≤ t126) = true := decide_eq_true c100
             clear c100
             obtain rfl := Option.some.inj H
             obtain ⟨hcz101_0, hcz101_1, hcz101_2, hcz101_3, hfz101_0, hfz101_1, hfz101_2, hfz101_3⟩ := bcf4 BK101.out
             try go_wp2
             have n_ := a2_ (blk_drew BK101.out) (below_drew1 HB.out)
             clear BK101 HB
             obtain ⟨BK101, HB⟩ := n_
             have p119 : 0 ≤ (x5_3 : Int) := of_decide_eq_true z5_
             have q119 : x5_3 < (l0_3.length : Int) := of_decide_eq_true z5_
             obtain ⟨ad119, A119_1, c119_1, e119, hx119_0, hx119_1, hl119_1, hi119_1⟩ := at_T58 HR0_3.out x5_3 p119 q119
             have hw119_1 := hx119_1
             have hw119_0 := hx119_0
             cases e119
             replace hx119_0 := oc_ HB.out hx119_0
             replace hx119_1 := oc_ HB.out hx119_1
             have HR119_1 := ak_ hi119_1
             have HC119_1 := ak_ hl119_1
             clear hi119_1 hl119_1
             replace p119 := eq_true p119
             replace q119 := eq_true q119
             have p125 : 0 ≤ (x5_3 : Int) := of_decide_eq_true z5_
             have q125 : x5_3 < (l0_3.length : Int) := of_decide_eq_true z5_
             obtain ⟨ad125, A125_1, c125_1, e125, hx125_0, hx125_1, hl125_1, hi125_1⟩ := at_T58 HR0_3.out x5_3 p125 q125
             have hw125_1 := hx125_1
             have hw125_0 := hx125_0
             obtain rfl : ad119 = ad125 := (by injection e125)
             replace hx125_0 := oc_ HB.out hx125_0
             replace hx125_1 := oc_ HB.out hx125_1
             have HR125_1 := ak_ hi125_1
             have HC125_1 := ak_ hl125_1
             clear hi125_1 hl125_1
             replace p125 := eq_true p125
             replace q125 := eq_true q125
             refine start_ (n := 22) (S := fun w' => w'.cell? ⟨gb101, 0, none⟩ = some (.string a0_0) ∧ w'.cell? ⟨gb101, 1, none⟩ = some (.slice A0_1 l0_1.length c0_1) ∧ w'.cell? ⟨gb101, 2, none⟩ = some (.int .i64 a0_2) ∧ w'.cell? ⟨gb101, 3, none⟩ = some (.slice (some ad119) l0_3.length c0_3) ∧ w'.cell? (ad119.add ((x5_3).toNat * 2)) = some (.string ((rd_T58 l0_3 x5_3).f0)) ∧ w'.cell? ⟨(ad119.add ((x5_3).toNat * 2)).block, (ad119.add ((x5_3).toNat * 2)).off + 1, none⟩ = some (.slice A119_1 ((rd_T58 l0_3 x5_3).f1).length c119_1) ∧ w'.cell? (ad119.add ((x5_3).toNat * 2)) = some (.string ((rd_T58 l0_3 x5_3).f0)) ∧ w'.cell? ⟨(ad119.add ((x5_3).toNat * 2)).block, (ad119.add ((x5_3).toNat * 2)).off + 1, none⟩ = some (.slice A125_1 ((rd_T58 l0_3 x5_3).f1).length c125_1)) (ds := []) #[false, false, false, false, false, false, false, false, false, false, false, false, false, false, false, false, false, false, false, false, false, false] (by kernel_rfl) rfl rfl ⟨(blk_cell BK101.out 0).trans rfl, (blk_cell BK101.out 1).trans rfl, (blk_cell BK101.out 2).trans rfl, (blk_cell BK101.out 3).trans rfl, (oc_ HB.out hw119_0 :), (oc_ HB.out hw119_1 :), (oc_ HB.out hw125_0 :), (oc_ HB.out hw125_1 :)⟩ (fun hHeld => ?_); refine with_tabW spec_TableOK.tab12 spec_TableOK.bits12 (fun HT_ HW_ => ?_)
             generalize wr.drew = w102 at BK101 HB HR119_1 HR125_1 hx119_0 hx119_1 hx125_0 hx125_1 hHeld ⊢
             refine pu_ 1 (N := some 82) #[false, true, false, false, false, false, false, false, false, false, false, false, false, false, false, false, false, false, false, false, false, false] HT_.out (h_ := ?_)
             refine pu_ 3 (N := some 84) #[false, true, false, true, false, false, false, false, false, false, false, false, false, false, false, false, false, false, false, false, false, false] HT_.out (h_ := ?_)
             refine tk_ 0 (N := some 81) #[true, true, false, true, false, false, false, false, false, false, false, false, false, false, false, false, false, false, false, false, false, false] HT_.out HW_.out hHeld (hy := by rintro w' ⟨s0, s1, s2, s3, s4, s5, s6, s7⟩; go_simp; with_reducible rfl) (h_ := ?_)
             refine tk_ 2 (N := some 83) #[true, true, true, true, false, false, false, false, false, false, false, false, false, false, false, false, false, false, false, false, false, false] HT_.out HW_.out hHeld (hy := by rintro w' ⟨s0, s1, s2, s3, s4, s5, s6, s7⟩; go_simp; with_reducible rfl) (h_ := ?_)
             refine pu_ 4 (N := some 85) #[true, true, true, true, true, false, false, false, false, false, false, false, false, false, false, false, false, false, false, false, false, false] HT_.out (h_ := ?_)
             refine tk_ 5 (N := some 86) #[true, true, true, true, true, true, false, false, false, false, false, false, false, false, false, false, false, false, false, false, false, false] HT_.out HW_.out hHeld (hy := by rintro w' ⟨s0, s1, s2, s3, s4, s5, s6, s7⟩; go_simp; with_reducible rfl) (h_ := ?_)
             refine one_ (i := 6) (N := some 87) #[true, true, true, true, true, true, true, false, false, false, false, false, false, false, false, false, false, false, false, false, false, false] rfl rfl (one_of HT_.out (by kernel_rfl)) (by decide) (fun K hK => ?_)
             refine goes_ Tryz.func55 (by kernel_rfl) rfl #[.agg #[.string a0_0, .slice A0_1 l0_1.length c0_1, .int .i64 a0_2, .slice (some ad119) l0_3.length c0_3], .agg #[.string ((rd_T58 l0_3 x5_3).f0), .slice A119_1 ((rd_T58 l0_3 x5_3).f1).length c119_1]] (by rfl) rfl rfl z3_ ?_
             with_reducible refine (spec_l09IndexOK.calls k3 a0_0 _ _ l0_1 a0_2 _ _ l0_3 ((rd_T58 l0_3 x5_3).f0) _ _ ((rd_T58 l0_3 x5_3).f1) true _ ?side1 ?side2 ?side3 ?side4 ?side5 ?side6 A95.out).mono ?_
             (case side1 => exact cz_ ((Kd.C_below HR0_1.out HB.out)))
             (case side2 => exact HC0_1.out)
             (case side3 => exact cz_ ((Kd.C_below HR0_3.out HB.out)))
             (case side4 => exact HC0_3.out)
             (case side5 => exact cz_ ((Kd.C_below HR119_1.out HB.out)))
             (case side6 => exact HC119_1.out)
             rintro e w103 ⟨rfl, hb⟩
             refine ⟨_, rfl, ?_⟩
             have n_ := a2_ (blk_below (g := gb101) (o := .cells #[.string a0_0, .slice A0_1 l0_1.length c0_1, .int .i64 a0_2, .slice (some ad119) l0_3.length c0_3] 35 (0, 0)) z2_ hb) (below_step z1_ hb)
             clear BK101 HB
             obtain ⟨BK101, HB⟩ := n_
             (try clear hb)
             (try clear hb2)
             (try clear hk)
             (try clear hi)
             have q104 : (x5_3 : Int) ≤ ((l0_3.length : Int) : Int) := of_decide_eq_true z5_
             obtain ⟨i0104, hi0104, _, hsz104, _⟩ := info_parts info58
             have hroom104 : l0_3.length ≤ c0_3 := HC0_3.out
             have hC104 : Kd.C k58 _ (some ad119) l0_3.length l0_3 := HR0_3.out
             have hcut104 := cut_to (P := Tryz.prog) 33 58 .i64 Tryz.underlying33 hi0104 (some ad119) l0_3.length c0_3 x5_3 (of_decide_eq_true z5_) q104 hroom104
             have hr104 := Kd.C_take (m := (x5_3 : Int).toNat) hC104 (by omega)
             have hy104 : y121.length = (x5_3 : Int).toNat := (by rw [Ny121.out, List.length_take]; omega)
             rw [← Ny121.out] at hr104
             rw [← hy104] at hcut104
             have HR124 := ak_ hr104
             have HC124 := ak_ (show y121.length ≤ c0_3 from by omega)
             clear hr104 hC104 hroom104 hi0104 hsz104
             have KY104 := ak_ hy104
             clear hy104
             replace q104 := eq_true q104
             refine hK.out _ _ ⟨(blk_cell BK101.out 0).trans rfl, (blk_cell BK101.out 1).trans rfl, (blk_cell BK101.out 2).trans rfl, (blk_cell BK101.out 3).trans rfl, (oc_ HB.out hw119_0 :), (oc_ HB.out hw119_1 :), (oc_ HB.out hw125_0 :), (oc_ HB.out hw125_1 :)⟩ (fun hHeld => ?_)
             clear hK K
             refine norm_ (a' := ?_) ?_ ?_
             rotate_left
             ·show Act.put _ (some 87) _ = _
              simp only [Act.put, sz1_, sz2_, sz3_, i64_w, i32_w]
              rfl
             refine pu_ 7 (N := some 88) #[true, true, true, true, true, true, true, true, false, false, false, false, false, false, false, false, false, false, false, false, false, false] HT_.out (h_ := ?_)
             refine pu_ 8 (N := some 89) #[true, true, true, true, true, true, true, true, true, false, false, false, false, false, false, false, false, false, false, false, false, false] HT_.out (h_ := ?_)
             refine pu_ 9 (N := some 90) #[true, true, true, true, true, true, true, true, true, true, false, false, false, false, false, false, false, false, false, false, false, false] HT_.out (h_ := ?_)
             refine pu_ 11 (N := some 92) #[true, true, true, true, true, true, true, true, true, true, false, true, false, false, false, false, false, false, false, false, false, false] HT_.out (h_ := ?_)
             refine pu_ 13 (N := some 94) #[true, true, true, true, true, true, true, true, true, true, false, true, false, true, false, false, false, false, false, false, false, false] HT_.out (h_ := ?_)
             refine pu_ 15 (N := some 96) #[true, true, true, true, true, true, true, true, true, true, false, true, false, true, false, true, false, false, false, false, false, false] HT_.out (h_ := ?_)
             refine tk_ 10 (N := some 91) #[true, true, true, true, true, true, true, true, true, true, true, true, false, true, false, true, false, false, false, false, false, false] HT_.out HW_.out hHeld (hy := by rintro w' ⟨s0, s1, s2, s3, s4, s5, s6, s7⟩; go_simp; with_reducible rfl) (h_ := ?_)
             refine pu_ 12 (N := some 93) #[true, true, true, true, true, true, true, true, true, true, true, true, true, true, false, true, false, false, false, false, false, false] HT_.out (h_ := ?_)
             refine tk_ 14 (N := some 95) #[true, true, true, true, true, true, true, true, true, true, true, true, true, true, true, true, false, false, false, false, false, false] HT_.out HW_.out hHeld (hy := by rintro w' ⟨s0, s1, s2, s3, s4, s5, s6, s7⟩; go_simp; with_reducible rfl) (h_ := ?_)
             refine pu_ 16 (N := some 97) #[true, true, true, true, true, true, true, true, true, true, true, true, true, true, true, true, true, false, false, false, false, false] HT_.out (h_ := ?_)
             refine pu_ 17 (N := some 98) #[true, true, true, true, true, true, true, true, true, true, true, true, true, true, true, true, true, true, false, false, false, false] HT_.out (h_ := ?_)
             refine tk_ 18 (N := some 99) #[true, true, true, true, true, true, true, true, true, true, true, true, true, true, true, true, true, true, true, false, false, false] HT_.out HW_.out hHeld (hy := by rintro w' ⟨s0, s1, s2, s3, s4, s5, s6, s7⟩; go_simp; with_reducible rfl) (h_ := ?_)
             refine one_ (i := 19) (N := some 100) #[true, true, true, true, true, true, true, true, true, true, true, true, true, true, true, true, true, true, true, true, false, false] rfl rfl (one_of HT_.out (by kernel_rfl)) (by decide) (fun K hK => ?_)
             refine goes_ Tryz.func56 (by kernel_rfl) rfl #[.slice (some ad119) y121.length c0_3, .string ((rd_T58 l0_3 x5_3).f0)] (by rfl) rfl rfl z3_ ?_
             with_reducible refine (spec_l09Index.calls k3 _ _ y121 ((rd_T58 l0_3 x5_3).f0) t126 _ ?side1 ?side2 A99.out).mono ?_
             (case side1 => exact cz_ ((Kd.C_below HR124.out HB.out)))
             (case side2 => exact HC124.out)
             rintro e w' ⟨rfl, ⟨nd, rfl⟩⟩
             refine ⟨_, rfl, ?_⟩
             refine hK.out _ _ ⟨(blk_cell BK101.out 0).trans rfl, (blk_cell BK101.out 1).trans rfl, (blk_cell BK101.out 2).trans rfl, (blk_cell BK101.out 3).trans rfl, (oc_ HB.out hw119_0 :), (oc_ HB.out hw119_1 :), (oc_ HB.out hw125_0 :), (oc_ HB.out hw125_1 :)⟩ (fun hHeld => ?_)
             clear hK K
             refine norm_ (a' := ?_) ?_ ?_
             rotate_left
             ·show Act.put _ (some 100) _ = _
              simp only [Act.put, sz1_, sz2_, sz3_, i64_w, i32_w]
              rfl
             refine pu_ 20 (N := some 101) #[true, true, true, true, true, true, true, true, true, true, true, true, true, true, true, true, true, true, true, true, true, false] HT_.out (h_ := ?_)
             refine pu_ 21 (N := some 102) #[true, true, true, true, true, true, true, true, true, true, true, true, true, true, true, true, true, true, true, true, true, true] HT_.out (h_ := ?_)
             refine done_ (done_of HT_.out (by kernel_rfl)) ?_
             try go_wp2
             go_ret
             exact ⟨z6_, z1_⟩
            ·rw [if_neg c100] at H
             have c100b0 : decide (0 ≤ t126) = false := decide_eq_false c100
             clear c100
             have H' := ak_ H
             clear H
             obtain ⟨hcz105_0, hcz105_1, hcz105_2, hcz105_3, hfz105_0, hfz105_1, hfz105_2, hfz105_3⟩ := bcf4 BK101.out
             try go_wp2
             have n_ := a2_ (blk_drew BK101.out) (below_drew1 HB.out)
             clear BK101 HB
             obtain ⟨BK101, HB⟩ := n_
             have p119 : 0 ≤ (x5_3 : Int) := of_decide_eq_true z5_
             have q119 : x5_3 < (l0_3.length : Int) := of_decide_eq_true z5_
             obtain ⟨ad119, A119_1, c119_1, e119, hx119_0, hx119_1, hl119_1, hi119_1⟩ := at_T58 HR0_3.out x5_3 p119 q119
             have hw119_1 := hx119_1
             have hw119_0 := hx119_0
             cases e119
             replace hx119_0 := oc_ HB.out hx119_0
             replace hx119_1 := oc_ HB.out hx119_1
             have HR119_1 := ak_ hi119_1
             have HC119_1 := ak_ hl119_1
             clear hi119_1 hl119_1
             replace p119 := eq_true p119
             replace q119 := eq_true q119
             have p125 : 0 ≤ (x5_3 : Int) := of_decide_eq_true z5_
             have q125 : x5_3 < (l0_3.length : Int) := of_decide_eq_true z5_
             obtain ⟨ad125, A125_1, c125_1, e125, hx125_0, hx125_1, hl125_1, hi125_1⟩ := at_T58 HR0_3.out x5_3 p125 q125
             have hw125_1 := hx125_1
             have hw125_0 := hx125_0
             obtain rfl : ad119 = ad125 := (by injection e125)
             replace hx125_0 := oc_ HB.out hx125_0
             replace hx125_1 := oc_ HB.out hx125_1
             have HR125_1 := ak_ hi125_1
             have HC125_1 := ak_ hl125_1
             clear hi125_1 hl125_1
             replace p125 := eq_true p125
             replace q125 := eq_true q125
             refine start_ (n := 22) (S := fun w' => w'.cell? ⟨gb101, 0, none⟩ = some (.string a0_0) ∧ w'.cell? ⟨gb101, 1, none⟩ = some (.slice A0_1 l0_1.length c0_1) ∧ w'.cell? ⟨gb101, 2, none⟩ = some (.int .i64 a0_2) ∧ w'.cell? ⟨gb101, 3, none⟩ = some (.slice (some ad119) l0_3.length c0_3) ∧ w'.cell? (ad119.add ((x5_3).toNat * 2)) = some (.string ((rd_T58 l0_3 x5_3).f0)) ∧ w'.cell? ⟨(ad119.add ((x5_3).toNat * 2)).block, (ad119.add ((x5_3).toNat * 2)).off + 1, none⟩ = some (.slice A119_1 ((rd_T58 l0_3 x5_3).f1).length c119_1) ∧ w'.cell? (ad119.add ((x5_3).toNat * 2)) = some (.string ((rd_T58 l0_3 x5_3).f0)) ∧ w'.cell? ⟨(ad119.add ((x5_3).toNat * 2)).block, (ad119.add ((x5_3).toNat * 2)).off + 1, none⟩ = some (.slice A125_1 ((rd_T58 l0_3 x5_3).f1).length c125_1)) (ds := []) #[false, false, false, false, false, false, false, false, false, false, false, false, false, false, false, false, false, false, false, false, false, false] (by kernel_rfl) rfl rfl ⟨(blk_cell BK101.out 0).trans rfl, (blk_cell BK101.out 1).trans rfl, (blk_cell BK101.out 2).trans rfl, (blk_cell BK101.out 3).trans rfl, (oc_ HB.out hw119_0 :), (oc_ HB.out hw119_1 :), (oc_ HB.out hw125_0 :), (oc_ HB.out hw125_1 :)⟩ (fun hHeld => ?_); refine with_tabW spec_TableOK.tab12 spec_TableOK.bits12 (fun HT_ HW_ => ?_)
             generalize wr.drew = w106 at BK101 HB HR119_1 HR125_1 hx119_0 hx119_1 hx125_0 hx125_1 hHeld ⊢
             refine pu_ 1 (N := some 82) #[false, true, false, false, false, false, false, false, false, false, false, false, false, false, false, false, false, false, false, false, false, false] HT_.out (h_ := ?_)
             refine pu_ 3 (N := some 84) #[false, true, false, true, false, false, false, false, false, false, false, false, false, false, false, false, false, false, false, false, false, false] HT_.out (h_ := ?_)
             refine tk_ 0 (N := some 81) #[true, true, false, true, false, false, false, false, false, false, false, false, false, false, false, false, false, false, false, false, false, false] HT_.out HW_.out hHeld (hy := by rintro w' ⟨s0, s1, s2, s3, s4, s5, s6, s7⟩; go_simp; with_reducible rfl) (h_ := ?_)
             refine tk_ 2 (N := some 83) #[true, true, true, true, false, false, false, false, false, false, false, false, false, false, false, false, false, false, false, false, false, false] HT_.out HW_.out hHeld (hy := by rintro w' ⟨s0, s1, s2, s3, s4, s5, s6, s7⟩; go_simp; with_reducible rfl) (h_ := ?_)
             refine pu_ 4 (N := some 85) #[true, true, true, true, true, false, false, false, false, false, false, false, false, false, false, false, false, false, false, false, false, false] HT_.out (h_ := ?_)
             refine tk_ 5 (N := some 86) #[true, true, true, true, true, true, false, false, false, false, false, false, false, false, false, false, false, false, false, false, false, false] HT_.out HW_.out hHeld (hy := by rintro w' ⟨s0, s1, s2, s3, s4, s5, s6, s7⟩; go_simp; with_reducible rfl) (h_ := ?_)
             refine one_ (i := 6) (N := some 87) #[true, true, true, true, true, true, true, false, false, false, false, false, false, false, false, false, false, false, false, false, false, false] rfl rfl (one_of HT_.out (by kernel_rfl)) (by decide) (fun K hK => ?_)
             refine goes_ Tryz.func55 (by kernel_rfl) rfl #[.agg #[.string a0_0, .slice A0_1 l0_1.length c0_1, .int .i64 a0_2, .slice (some ad119) l0_3.length c0_3], .agg #[.string ((rd_T58 l0_3 x5_3).f0), .slice A119_1 ((rd_T58 l0_3 x5_3).f1).length c119_1]] (by rfl) rfl rfl z3_ ?_
             with_reducible refine (spec_l09IndexOK.calls k3 a0_0 _ _ l0_1 a0_2 _ _ l0_3 ((rd_T58 l0_3 x5_3).f0) _ _ ((rd_T58 l0_3 x5_3).f1) true _ ?side1 ?side2 ?side3 ?side4 ?side5 ?side6 A95.out).mono ?_
             (case side1 => exact cz_ ((Kd.C_below HR0_1.out HB.out)))
             (case side2 => exact HC0_1.out)
             (case side3 => exact cz_ ((Kd.C_below HR0_3.out HB.out)))
             (case side4 => exact HC0_3.out)
             (case side5 => exact cz_ ((Kd.C_below HR119_1.out HB.out)))
             (case side6 => exact HC119_1.out)
             rintro e w107 ⟨rfl, hb⟩
             refine ⟨_, rfl, ?_⟩
             have n_ := a2_ (blk_below (g := gb101) (o := .cells #[.string a0_0, .slice A0_1 l0_1.length c0_1, .int .i64 a0_2, .slice (some ad119) l0_3.length c0_3] 35 (0, 0)) z2_ hb) (below_step z1_ hb)
             clear BK101 HB
             obtain ⟨BK101, HB⟩ := n_
             (try clear hb)
             (try clear hb2)
             (try clear hk)
             (try clear hi)
             have q108 : (x5_3 : Int) ≤ ((l0_3.length : Int) : Int) := of_decide_eq_true z5_
             obtain ⟨i0108, hi0108, _, hsz108, _⟩ := info_parts info58
             have hroom108 : l0_3.length ≤ c0_3 := HC0_3.out
             have hC108 : Kd.C k58 _ (some ad119) l0_3.length l0_3 := HR0_3.out
             have hcut108 := cut_to (P := Tryz.prog) 33 58 .i64 Tryz.underlying33 hi0108 (some ad119) l0_3.length c0_3 x5_3 (of_decide_eq_true z5_) q108 hroom108
             have hr108 := Kd.C_take (m := (x5_3 : Int).toNat) hC108 (by omega)
             have hy108 : y121.length = (x5_3 : Int).toNat := (by rw [Ny121.out, List.length_take]; omega)
             rw [← Ny121.out] at hr108
             rw [← hy108] at hcut108
             have HR124 := ak_ hr108
             have HC124 := ak_ (show y121.length ≤ c0_3 from by omega)
             clear hr108 hC108 hroom108 hi0108 hsz108
             have KY108 := ak_ hy108
             clear hy108
             replace q108 := eq_true q108
             refine hK.out _ _ ⟨(blk_cell BK101.out 0).trans rfl, (blk_cell BK101.out 1).trans rfl, (blk_cell BK101.out 2).trans rfl, (blk_cell BK101.out 3).trans rfl, (oc_ HB.out hw119_0 :), (oc_ HB.out hw119_1 :), (oc_ HB.out hw125_0 :), (oc_ HB.out hw125_1 :)⟩ (fun hHeld => ?_)
             clear hK K
             refine norm_ (a' := ?_) ?_ ?_
             rotate_left
             ·show Act.put _ (some 87) _ = _
              simp only [Act.put, sz1_, sz2_, sz3_, i64_w, i32_w]
              rfl
             refine pu_ 7 (N := some 88) #[true, true, true, true, true, true, true, true, false, false, false, false, false, false, false, false, false, false, false, false, false, false] HT_.out (h_ := ?_)
             refine pu_ 8 (N := some 89) #[true, true, true, true, true, true, true, true, true, false, false, false, false, false, false, false, false, false, false, false, false, false] HT_.out (h_ := ?_)
             refine pu_ 9 (N := some 90) #[true, true, true, true, true, true, true, true, true, true, false, false, false, false, false, false, false, false, false, false, false, false] HT_.out (h_ := ?_)
             refine pu_ 11 (N := some 92) #[true, true, true, true, true, true, true, true, true, true, false, true, false, false, false, false, false, false, false, false, false, false] HT_.out (h_ := ?_)
             refine pu_ 13 (N := some 94) #[true, true, true, true, true, true, true, true, true, true, false, true, false, true, false, false, false, false, false, false, false, false] HT_.out (h_ := ?_)
             refine pu_ 15 (N := some 96) #[true, true, true, true, true, true, true, true, true, true, false, true, false, true, false, true, false, false, false, false, false, false] HT_.out (h_ := ?_)
             refine tk_ 10 (N := some 91) #[true, true, true, true, true, true, true, true, true, true, true, true, false, true, false, true, false, false, false, false, false, false] HT_.out HW_.out hHeld (hy := by rintro w' ⟨s0, s1, s2, s3, s4, s5, s6, s7⟩; go_simp; with_reducible rfl) (h_ := ?_)
             refine pu_ 12 (N := some 93) #[true, true, true, true, true, true, true, true, true, true, true, true, true, true, false, true, false, false, false, false, false, false] HT_.out (h_ := ?_)
             refine tk_ 14 (N := some 95) #[true, true, true, true, true, true, true, true, true, true, true, true, true, true, true, true, false, false, false, false, false, false] HT_.out HW_.out hHeld (hy := by rintro w' ⟨s0, s1, s2, s3, s4, s5, s6, s7⟩; go_simp; with_reducible rfl) (h_ := ?_)
             refine pu_ 16 (N := some 97) #[true, true, true, true, true, true, true, true, true, true, true, true, true, true, true, true, true, false, false, false, false, false] HT_.out (h_ := ?_)
             refine pu_ 17 (N := some 98) #[true, true, true, true, true, true, true, true, true, true, true, true, true, true, true, true, true, true, false, false, false, false] HT_.out (h_ := ?_)
             refine tk_ 18 (N := some 99) #[true, true, true, true, true, true, true, true, true, true, true, true, true, true, true, true, true, true, true, false, false, false] HT_.out HW_.out hHeld (hy := by rintro w' ⟨s0, s1, s2, s3, s4, s5, s6, s7⟩; go_simp; with_reducible rfl) (h_ := ?_)
             refine one_ (i := 19) (N := some 100) #[true, true, true, true, true, true, true, true, true, true, true, true, true, true, true, true, true, true, true, true, false, false] rfl rfl (one_of HT_.out (by kernel_rfl)) (by decide) (fun K hK => ?_)
             refine goes_ Tryz.func56 (by kernel_rfl) rfl #[.slice (some ad119) y121.length c0_3, .string ((rd_T58 l0_3 x5_3).f0)] (by rfl) rfl rfl z3_ ?_
             with_reducible refine (spec_l09Index.calls k3 _ _ y121 ((rd_T58 l0_3 x5_3).f0) t126 _ ?side1 ?side2 A99.out).mono ?_
             (case side1 => exact cz_ ((Kd.C_below HR124.out HB.out)))
             (case side2 => exact HC124.out)
             rintro e w' ⟨rfl, ⟨nd, rfl⟩⟩
             refine ⟨_, rfl, ?_⟩
             refine hK.out _ _ ⟨(blk_cell BK101.out 0).trans rfl, (blk_cell BK101.out 1).trans rfl, (blk_cell BK101.out 2).trans rfl, (blk_cell BK101.out 3).trans rfl, (oc_ HB.out hw119_0 :), (oc_ HB.out hw119_1 :), (oc_ HB.out hw125_0 :), (oc_ HB.out hw125_1 :)⟩ (fun hHeld => ?_)
             clear hK K
             refine norm_ (a' := ?_) ?_ ?_
             rotate_left
             ·show Act.put _ (some 100) _ = _
              simp only [Act.put, sz1_, sz2_, sz3_, i64_w, i32_w]
              rfl
             refine pu_ 20 (N := some 101) #[true, true, true, true, true, true, true, true, true, true, true, true, true, true, true, true, true, true, true, true, true, false] HT_.out (h_ := ?_)
             refine pu_ 21 (N := some 102) #[true, true, true, true, true, true, true, true, true, true, true, true, true, true, true, true, true, true, true, true, true, true] HT_.out (h_ := ?_)
             refine done_ (done_of HT_.out (by kernel_rfl)) ?_
             try go_wp2
             go_roundg k3
             case measure => have := HJ1.out; have := HK2.out; have := HK3.out; omega
             case rel => exact ⟨(wrap64 (x5_3 + 1)), z8_, H', ⟨by have := HJ1.out; have := HK2.out; have := HK3.out; omega⟩, ⟨z2_⟩, ⟨z1_⟩⟩
           ·rw [if_neg c98] at H
            exact absurd H (by simp)
          ·replace c96 := Bool.eq_false_iff.mpr c96
           subst c96
           have H1 : (some false) = some r := by rw [if_neg (show ¬ (false = true) by decide)] at H; exact H
           clear H
           have H := H1
           clear H1
           obtain rfl := Option.some.inj H
           obtain ⟨hcz109_0, hcz109_1, hcz109_2, hcz109_3, hfz109_0, hfz109_1, hfz109_2, hfz109_3⟩ := bcf4 BK101.out
           try go_wp2
           have n_ := a2_ (blk_drew BK101.out) (below_drew1 HB.out)
           clear BK101 HB
           obtain ⟨BK101, HB⟩ := n_
           have p119 : 0 ≤ (x5_3 : Int) := of_decide_eq_true z5_
           have q119 : x5_3 < (l0_3.length : Int) := of_decide_eq_true z5_
           obtain ⟨ad119, A119_1, c119_1, e119, hx119_0, hx119_1, hl119_1, hi119_1⟩ := at_T58 HR0_3.out x5_3 p119 q119
           have hw119_1 := hx119_1
           have hw119_0 := hx119_0
           cases e119
           replace hx119_0 := oc_ HB.out hx119_0
           replace hx119_1 := oc_ HB.out hx119_1
           have HR119_1 := ak_ hi119_1
           have HC119_1 := ak_ hl119_1
           clear hi119_1 hl119_1
           replace p119 := eq_true p119
           replace q119 := eq_true q119
           refine start_ (n := 22) (S := fun w' => w'.cell? ⟨gb101, 0, none⟩ = some (.string a0_0) ∧ w'.cell? ⟨gb101, 1, none⟩ = some (.slice A0_1 l0_1.length c0_1) ∧ w'.cell? ⟨gb101, 2, none⟩ = some (.int .i64 a0_2) ∧ w'.cell? ⟨gb101, 3, none⟩ = some (.slice (some ad119) l0_3.length c0_3) ∧ w'.cell? (ad119.add ((x5_3).toNat * 2)) = some (.string ((rd_T58 l0_3 x5_3).f0)) ∧ w'.cell? ⟨(ad119.add ((x5_3).toNat * 2)).block, (ad119.add ((x5_3).toNat * 2)).off + 1, none⟩ = some (.slice A119_1 ((rd_T58 l0_3 x5_3).f1).length c119_1)) (ds := []) #[false, false, false, false, false, false, false, false, false, false, false, false, false, false, false, false, false, false, false, false, false, false] (by kernel_rfl) rfl rfl ⟨(blk_cell BK101.out 0).trans rfl, (blk_cell BK101.out 1).trans rfl, (blk_cell BK101.out 2).trans rfl, (blk_cell BK101.out 3).trans rfl, (oc_ HB.out hw119_0 :), (oc_ HB.out hw119_1 :)⟩ (fun hHeld => ?_); refine with_tabW spec_TableOK.tab12 spec_TableOK.bits12 (fun HT_ HW_ => ?_)
           generalize wr.drew = w110 at BK101 HB HR119_1 hx119_0 hx119_1 hHeld ⊢
           refine pu_ 1 (N := some 82) #[false, true, false, false, false, false, false, false, false, false, false, false, false, false, false, false, false, false, false, false, false, false] HT_.out (h_ := ?_)
           refine pu_ 3 (N := some 84) #[false, true, false, true, false, false, false, false, false, false, false, false, false, false, false, false, false, false, false, false, false, false] HT_.out (h_ := ?_)
           refine tk_ 0 (N := some 81) #[true, true, false, true, false, false, false, false, false, false, false, false, false, false, false, false, false, false, false, false, false, false] HT_.out HW_.out hHeld (hy := by rintro w' ⟨s0, s1, s2, s3, s4, s5⟩; go_simp; with_reducible rfl) (h_ := ?_)
           refine tk_ 2 (N := some 83) #[true, true, true, true, false, false, false, false, false, false, false, false, false, false, false, false, false, false, false, false, false, false] HT_.out HW_.out hHeld (hy := by rintro w' ⟨s0, s1, s2, s3, s4, s5⟩; go_simp; with_reducible rfl) (h_ := ?_)
           refine pu_ 4 (N := some 85) #[true, true, true, true, true, false, false, false, false, false, false, false, false, false, false, false, false, false, false, false, false, false] HT_.out (h_ := ?_)
           refine tk_ 5 (N := some 86) #[true, true, true, true, true, true, false, false, false, false, false, false, false, false, false, false, false, false, false, false, false, false] HT_.out HW_.out hHeld (hy := by rintro w' ⟨s0, s1, s2, s3, s4, s5⟩; go_simp; with_reducible rfl) (h_ := ?_)
           refine one_ (i := 6) (N := some 87) #[true, true, true, true, true, true, true, false, false, false, false, false, false, false, false, false, false, false, false, false, false, false] rfl rfl (one_of HT_.out (by kernel_rfl)) (by decide) (fun K hK => ?_)
           refine goes_ Tryz.func55 (by kernel_rfl) rfl #[.agg #[.string a0_0, .slice A0_1 l0_1.length c0_1, .int .i64 a0_2, .slice (some ad119) l0_3.length c0_3], .agg #[.string ((rd_T58 l0_3 x5_3).f0), .slice A119_1 ((rd_T58 l0_3 x5_3).f1).length c119_1]] (by rfl) rfl rfl z3_ ?_
           with_reducible refine (spec_l09IndexOK.calls k3 a0_0 _ _ l0_1 a0_2 _ _ l0_3 ((rd_T58 l0_3 x5_3).f0) _ _ ((rd_T58 l0_3 x5_3).f1) false _ ?side1 ?side2 ?side3 ?side4 ?side5 ?side6 A95.out).mono ?_
           (case side1 => exact cz_ ((Kd.C_below HR0_1.out HB.out)))
           (case side2 => exact HC0_1.out)
           (case side3 => exact cz_ ((Kd.C_below HR0_3.out HB.out)))
           (case side4 => exact HC0_3.out)
           (case side5 => exact cz_ ((Kd.C_below HR119_1.out HB.out)))
           (case side6 => exact HC119_1.out)
           rintro e w111 ⟨rfl, hb⟩
           refine ⟨_, rfl, ?_⟩
           have n_ := a2_ (blk_below (g := gb101) (o := .cells #[.string a0_0, .slice A0_1 l0_1.length c0_1, .int .i64 a0_2, .slice (some ad119) l0_3.length c0_3] 35 (0, 0)) z2_ hb) (below_step z1_ hb)
           clear BK101 HB
           obtain ⟨BK101, HB⟩ := n_
           (try clear hb)
           (try clear hb2)
           (try clear hk)
           (try clear hi)
           refine hK.out _ _ ⟨(blk_cell BK101.out 0).trans rfl, (blk_cell BK101.out 1).trans rfl, (blk_cell BK101.out 2).trans rfl, (blk_cell BK101.out 3).trans rfl, (oc_ HB.out hw119_0 :), (oc_ HB.out hw119_1 :)⟩ (fun hHeld => ?_)
           clear hK K
           refine norm_ (a' := ?_) ?_ ?_
           rotate_left
           ·show Act.put _ (some 87) _ = _
            simp only [Act.put, sz1_, sz2_, sz3_, i64_w, i32_w]
            rfl
           refine pu_ 7 (N := some 88) #[true, true, true, true, true, true, true, true, false, false, false, false, false, false, false, false, false, false, false, false, false, false] HT_.out (h_ := ?_)
           refine pu_ 8 (N := some 89) #[true, true, true, true, true, true, true, true, true, false, false, false, false, false, false, false, false, false, false, false, false, false] HT_.out (h_ := ?_)
           refine pure_ (i := 9) (N := some 90) (v := undef) (a' := ?_) #[true, true, true, true, true, true, true, true, true, true, false, false, false, false, false, false, false, false, false, false, false, false] rfl rfl (any_of HT_.out (by kernel_rfl)) (fun _ _ _ h => h) (Or.inr ⟨by rfl, rfl⟩) ?_ ?_
           rotate_left
           ·simp only [Act.put, sz1_, sz2_, sz3_, i64_w, i32_w]
            rfl
           refine pure_ (i := 10) (N := some 91) (v := undef) (a' := ?_) #[true, true, true, true, true, true, true, true, true, true, true, false, false, false, false, false, false, false, false, false, false, false] rfl rfl (any_of HT_.out (by kernel_rfl)) (fun _ _ _ h => h) (Or.inr ⟨by rfl, rfl⟩) ?_ ?_
           rotate_left
           ·simp only [Act.put, sz1_, sz2_, sz3_, i64_w, i32_w]
            rfl
           refine pure_ (i := 11) (N := some 92) (v := undef) (a' := ?_) #[true, true, true, true, true, true, true, true, true, true, true, true, false, false, false, false, false, false, false, false, false, false] rfl rfl (any_of HT_.out (by kernel_rfl)) (fun _ _ _ h => h) (Or.inr ⟨by rfl, rfl⟩) ?_ ?_
           rotate_left
           ·simp only [Act.put, sz1_, sz2_, sz3_, i64_w, i32_w]
            rfl
           refine pure_ (i := 12) (N := some 93) (v := undef) (a' := ?_) #[true, true, true, true, true, true, true, true, true, true, true, true, true, false, false, false, false, false, false, false, false, false] rfl rfl (any_of HT_.out (by kernel_rfl)) (fun _ _ _ h => h) (Or.inr ⟨by rfl, rfl⟩) ?_ ?_
           rotate_left
           ·simp only [Act.put, sz1_, sz2_, sz3_, i64_w, i32_w]
            rfl
           refine pure_ (i := 13) (N := some 94) (v := undef) (a' := ?_) #[true, true, true, true, true, true, true, true, true, true, true, true, true, true, false, false, false, false, false, false, false, false] rfl rfl (any_of HT_.out (by kernel_rfl)) (fun _ _ _ h => h) (Or.inr ⟨by rfl, rfl⟩) ?_ ?_
           rotate_left
           ·simp only [Act.put, sz1_, sz2_, sz3_, i64_w, i32_w]
            rfl
           refine pure_ (i := 14) (N := some 95) (v := undef) (a' := ?_) #[true, true, true, true, true, true, true, true, true, true, true, true, true, true, true, false, false, false, false, false, false, false] rfl rfl (any_of HT_.out (by kernel_rfl)) (fun _ _ _ h => h) (Or.inr ⟨by rfl, rfl⟩) ?_ ?_
           rotate_left
           ·simp only [Act.put, sz1_, sz2_, sz3_, i64_w, i32_w]
            rfl
           refine pure_ (i := 15) (N := some 96) (v := undef) (a' := ?_) #[true, true, true, true, true, true, true, true, true, true, true, true, true, true, true, true, false, false, false, false, false, false] rfl rfl (any_of HT_.out (by kernel_rfl)) (fun _ _ _ h => h) (Or.inr ⟨by rfl, rfl⟩) ?_ ?_
           rotate_left
           ·simp only [Act.put, sz1_, sz2_, sz3_, i64_w, i32_w]
            rfl
           refine pure_ (i := 16) (N := some 97) (v := undef) (a' := ?_) #[true, true, true, true, true, true, true, true, true, true, true, true, true, true, true, true, true, false, false, false, false, false] rfl rfl (any_of HT_.out (by kernel_rfl)) (fun _ _ _ h => h) (Or.inr ⟨by rfl, rfl⟩) ?_ ?_
           rotate_left
           ·simp only [Act.put, sz1_, sz2_, sz3_, i64_w, i32_w]
            rfl
           refine pure_ (i := 17) (N := some 98) (v := undef) (a' := ?_) #[true, true, true, true, true, true, true, true, true, true, true, true, true, true, true, true, true, true, false, false, false, false] rfl rfl (any_of HT_.out (by kernel_rfl)) (fun _ _ _ h => h) (Or.inr ⟨by rfl, rfl⟩) ?_ ?_
           rotate_left
           ·simp only [Act.put, sz1_, sz2_, sz3_, i64_w, i32_w]
            rfl
           refine pure_ (i := 18) (N := some 99) (v := undef) (a' := ?_) #[true, true, true, true, true, true, true, true, true, true, true, true, true, true, true, true, true, true, true, false, false, false] rfl rfl (any_of HT_.out (by kernel_rfl)) (fun _ _ _ h => h) (Or.inr ⟨by rfl, rfl⟩) ?_ ?_
           rotate_left
           ·simp only [Act.put, sz1_, sz2_, sz3_, i64_w, i32_w]
            rfl
           refine pure_ (i := 19) (N := some 100) (v := undef) (a' := ?_) #[true, true, true, true, true, true, true, true, true, true, true, true, true, true, true, true, true, true, true, true, false, false] rfl rfl (any_of HT_.out (by kernel_rfl)) (fun _ _ _ h => h) (Or.inr ⟨by rfl, rfl⟩) ?_ ?_
           rotate_left
           ·simp only [Act.put, sz1_, sz2_, sz3_, i64_w, i32_w]
            rfl
           refine pure_ (i := 20) (N := some 101) (v := undef) (a' := ?_) #[true, true, true, true, true, true, true, true, true, true, true, true, true, true, true, true, true, true, true, true, true, false] rfl rfl (any_of HT_.out (by kernel_rfl)) (fun _ _ _ h => h) (Or.inr ⟨by rfl, rfl⟩) ?_ ?_
           rotate_left
           ·simp only [Act.put, sz1_, sz2_, sz3_, i64_w, i32_w]
            rfl
           refine pu_ 21 (N := some 102) #[true, true, true, true, true, true, true, true, true, true, true, true, true, true, true, true, true, true, true, true, true, true] HT_.out (h_ := ?_)
           refine done_ (done_of HT_.out (by kernel_rfl)) ?_
           try go_wp2
           go_ret
           exact ⟨z6_, z1_⟩
         ·rw [if_neg c94] at H
          exact absurd H (by simp)
        ·rw [if_neg c93] at H
         have c93b0 := decide_eq_false c93
         clear c93
         obtain rfl := Option.some.inj H
         obtain ⟨hcz112_0, hcz112_1, hcz112_2, hcz112_3, hfz112_0, hfz112_1, hfz112_2, hfz112_3⟩ := bcf4 BK101.out
         go_wp2
         go_ret
         exact ⟨z6_, z1_⟩

     rw [if_pos c22] at H
     have c22b0 := decide_eq_true c22
     clear c22
     by_cases c23 : 0 ≤ x3_2
     rotate_left
     ·rw [if_neg c23] at H
      exact absurd H (by simp)
     rw [if_pos c23] at H
     have c23b0 := decide_eq_true c23
     clear c23
     replace H := Option.bind_eq_some_iff.mp H
     obtain ⟨t107, A240, H⟩ := H
     have A24 := ak_ A240
     clear A240
     by_cases c25 : t107 = true
     rotate_left
     ·replace c25 := Bool.eq_false_iff.mpr c25
      subst c25
      have H1 : (some false) = some r := by rw [if_neg (show ¬ (false = true) by decide)] at H; exact H
      clear H
      have H := H1
      clear H1
      obtain rfl := Option.some.inj H
      obtain ⟨hcz85_0, hcz85_1, hcz85_2, hcz85_3, hfz85_0, hfz85_1, hfz85_2, hfz85_3⟩ := bcf4 BK101.out
      have p105 : 0 ≤ (x3_2 : Int) := of_decide_eq_true z5_
      have q105 : x3_2 < (l0_1.length : Int) := of_decide_eq_true z5_
      obtain ⟨ad105, e105, hx105_0, hx105_1, hx105_2⟩ := at_T78 HR0_1.out x3_2 p105 q105
      cases e105
      replace hx105_0 := oc_ HB.out hx105_0
      replace hx105_1 := oc_ HB.out hx105_1
      replace hx105_2 := oc_ HB.out hx105_2
      replace p105 := eq_true p105
      replace q105 := eq_true q105
      try go_wp2_with (first | ((with_reducible refine gate_dst (N := 4) rfl ?_); (try (refine gate_guard (by rfl) ?_; dsimp only)); refine bx_ 4 (cs := #[.string (⟨#[]⟩ : ByteArray), .int .i64 0, .bool false]) (t := 78) (h_ := ?_); intro gb106 hg w86 hbox hb; have n_ := a7_ (blk_below (g := gb101) (o := .cells #[.string a0_0, .slice (some ad105) l0_1.length c0_1, .int .i64 a0_2, .slice A0_3 l0_3.length c0_3] 35 (0, 0)) z2_ hb) (below_step z1_ hb) (hbox) ((gs_ w hg (below_size z1_))) ((gs_ w hg (below_size z1_))) ((z22_ : gb101 ≠ gb106)) ((z23_ : gb106 ≠ gb101)); clear BK101 HB; obtain ⟨BK101, HB, BK106, GW106, GE106, NB101_106, NB106_101⟩ := n_; clear hb hbox hg; have hnb87 := NB106_101.out; have hnc87 := NB101_106.out; obtain ⟨hcz88_0, hcz88_1, hcz88_2, hfz88_0, hfz88_1, hfz88_2⟩ := bcf3 BK106.out))
      have n0_ : Aside0 ((((w86.setCell ⟨gb106, 0, none⟩ (.string ((rd_T78 l0_1 x3_2).f0))).setCell ⟨gb106, 1, none⟩ (.int .i64 ((rd_T78 l0_1 x3_2).f1))).setCell ⟨gb106, 2, none⟩ (.bool ((rd_T78 l0_1 x3_2).f2))).heap[gb101]? = some (.cells #[.string a0_0, .slice (some ad105) l0_1.length c0_1, .int .i64 a0_2, .slice A0_3 l0_3.length c0_3] 35 (0, 0))) := ⟨z10_⟩
      have n1_ : Aside0 ((((w86.setCell ⟨gb106, 0, none⟩ (.string ((rd_T78 l0_1 x3_2).f0))).setCell ⟨gb106, 1, none⟩ (.int .i64 ((rd_T78 l0_1 x3_2).f1))).setCell ⟨gb106, 2, none⟩ (.bool ((rd_T78 l0_1 x3_2).f2))).heap[gb106]? = some (.cells #[.string ((rd_T78 l0_1 x3_2).f0), .int .i64 ((rd_T78 l0_1 x3_2).f1), .bool ((rd_T78 l0_1 x3_2).f2)] 78 (0, 0))) := ⟨z12_⟩
      have n2_ : Aside0 (Below w.heap.size w (((w86.setCell ⟨gb106, 0, none⟩ (.string ((rd_T78 l0_1 x3_2).f0))).setCell ⟨gb106, 1, none⟩ (.int .i64 ((rd_T78 l0_1 x3_2).f1))).setCell ⟨gb106, 2, none⟩ (.bool ((rd_T78 l0_1 x3_2).f2)))) := ⟨z9_⟩
      (try clear BK101)
      (try clear BK106)
      (try clear HB)
      generalize (((w86.setCell ⟨gb106, 0, none⟩ (.string ((rd_T78 l0_1 x3_2).f0))).setCell ⟨gb106, 1, none⟩ (.int .i64 ((rd_T78 l0_1 x3_2).f1))).setCell ⟨gb106, 2, none⟩ (.bool ((rd_T78 l0_1 x3_2).f2))) = w89 at n0_ n1_ n2_ ⊢
      have BK101 := n0_
      have BK106 := n1_
      have HB := n2_
      clear n0_ n1_ n2_
      have n_ := a3_ (blk_drew BK101.out) (blk_drew BK106.out) (below_drew1 HB.out)
      clear BK101 BK106 HB
      obtain ⟨BK101, BK106, HB⟩ := n_
      refine start_ (n := 30) (S := fun w' => w'.cell? ⟨gb106, 0, none⟩ = some (.string ((rd_T78 l0_1 x3_2).f0)) ∧ w'.cell? ⟨gb106, 1, none⟩ = some (.int .i64 ((rd_T78 l0_1 x3_2).f1)) ∧ w'.cell? ⟨gb106, 2, none⟩ = some (.bool ((rd_T78 l0_1 x3_2).f2))) (ds := []) #[false, false, false, false, false, false, false, false, false, false, false, false, false, false, false, false, false, false, false, false, false, false, false, false, false, false, false, false, false, false] (by kernel_rfl) rfl rfl ⟨(blk_cell BK106.out 0).trans rfl, (blk_cell BK106.out 1).trans rfl, (blk_cell BK106.out 2).trans rfl⟩ (fun hHeld => ?_); refine with_tabW spec_TableOK.tab7 spec_TableOK.bits7 (fun HT_ HW_ => ?_)
      generalize w89.drew = w90 at BK101 BK106 HB hHeld ⊢
      refine pu_ 0 (N := some 44) #[true, false, false, false, false, false, false, false, false, false, false, false, false, false, false, false, false, false, false, false, false, false, false, false, false, false, false, false, false, false] HT_.out (h_ := ?_)
      refine tk_ 1 (N := some 45) #[true, true, false, false, false, false, false, false, false, false, false, false, false, false, false, false, false, false, false, false, false, false, false, false, false, false, false, false, false, false] HT_.out HW_.out hHeld (hy := by rintro w' ⟨s0, s1, s2⟩; go_simp; with_reducible rfl) (h_ := ?_)
      refine one_ (i := 2) (N := some 46) #[true, true, true, false, false, false, false, false, false, false, false, false, false, false, false, false, false, false, false, false, false, false, false, false, false, false, false, false, false, false] rfl rfl (one_of HT_.out (by kernel_rfl)) (by decide) (fun K hK => ?_)
      refine goes_ Tryz.func53 (by kernel_rfl) rfl #[.string ((rd_T78 l0_1 x3_2).f0)] (by rfl) rfl rfl z3_ ?_
      with_reducible refine (spec_l09Name.calls k2 ((rd_T78 l0_1 x3_2).f0) false _ A24.out).mono ?_
      rintro e w91 ⟨rfl, hb⟩
      refine ⟨_, rfl, ?_⟩
      have n_ := a3_ (blk_below (g := gb101) (o := .cells #[.string a0_0, .slice (some ad105) l0_1.length c0_1, .int .i64 a0_2, .slice A0_3 l0_3.length c0_3] 35 (0, 0)) z2_ hb) (blk_below (g := gb106) (o := .cells #[.string ((rd_T78 l0_1 x3_2).f0), .int .i64 ((rd_T78 l0_1 x3_2).f1), .bool ((rd_T78 l0_1 x3_2).f2)] 78 (0, 0)) z30_ hb) (below_step z9_ hb)
      clear BK101 BK106 HB
      obtain ⟨BK101, BK106, HB⟩ := n_
      (try clear hb)
      (try clear hb2)
      (try clear hk)
      (try clear hi)
      refine hK.out _ _ ⟨(blk_cell BK106.out 0).trans rfl, (blk_cell BK106.out 1).trans rfl, (blk_cell BK106.out 2).trans rfl⟩ (fun hHeld => ?_)
      clear hK K
      refine norm_ (a' := ?_) ?_ ?_
      rotate_left
      ·show Act.put _ (some 46) _ = _
       simp only [Act.put, sz1_, sz2_, sz3_, i64_w, i32_w]
       rfl
      refine pu_ 3 (N := some 47) #[true, true, true, true, false, false, false, false, false, false, false, false, false, false, false, false, false, false, false, false, false, false, false, false, false, false, false, false, false, false] HT_.out (h_ := ?_)
      refine pu_ 4 (N := some 48) #[true, true, true, true, true, false, false, false, false, false, false, false, false, false, false, false, false, false, false, false, false, false, false, false, false, false, false, false, false, false] HT_.out (h_ := ?_)
      refine pure_ (i := 5) (N := some 49) (v := undef) (a' := ?_) #[true, true, true, true, true, true, false, false, false, false, false, false, false, false, false, false, false, false, false, false, false, false, false, false, false, false, false, false, false, false] rfl rfl (any_of HT_.out (by kernel_rfl)) (fun _ _ _ h => h) (Or.inr ⟨by rfl, rfl⟩) ?_ ?_
      rotate_left
      ·simp only [Act.put, sz1_, sz2_, sz3_, i64_w, i32_w]
       rfl
      refine pure_ (i := 6) (N := some 50) (v := undef) (a' := ?_) #[true, true, true, true, true, true, true, false, false, false, false, false, false, false, false, false, false, false, false, false, false, false, false, false, false, false, false, false, false, false] rfl rfl (any_of HT_.out (by kernel_rfl)) (fun _ _ _ h => h) (Or.inr ⟨by rfl, rfl⟩) ?_ ?_
      rotate_left
      ·simp only [Act.put, sz1_, sz2_, sz3_, i64_w, i32_w]
       rfl
      refine pure_ (i := 7) (N := some 51) (v := undef) (a' := ?_) #[true, true, true, true, true, true, true, true, false, false, false, false, false, false, false, false, false, false, false, false, false, false, false, false, false, false, false, false, false, false] rfl rfl (any_of HT_.out (by kernel_rfl)) (fun _ _ _ h => h) (Or.inr ⟨by rfl, rfl⟩) ?_ ?_
      rotate_left
      ·simp only [Act.put, sz1_, sz2_, sz3_, i64_w, i32_w]
       rfl
      refine pure_ (i := 8) (N := some 52) (v := undef) (a' := ?_) #[true, true, true, true, true, true, true, true, true, false, false, false, false, false, false, false, false, false, false, false, false, false, false, false, false, false, false, false, false, false] rfl rfl (any_of HT_.out (by kernel_rfl)) (fun _ _ _ h => h) (Or.inr ⟨by rfl, rfl⟩) ?_ ?_
      rotate_left
      ·simp only [Act.put, sz1_, sz2_, sz3_, i64_w, i32_w]
       rfl
      refine pu_ 9 (N := some 53) #[true, true, true, true, true, true, true, true, true, true, false, false, false, false, false, false, false, false, false, false, false, false, false, false, false, false, false, false, false, false] HT_.out (h_ := ?_)
      refine pu_ 10 (N := some 54) #[true, true, true, true, true, true, true, true, true, true, true, false, false, false, false, false, false, false, false, false, false, false, false, false, false, false, false, false, false, false] HT_.out (h_ := ?_)
      refine pure_ (i := 11) (N := some 55) (v := undef) (a' := ?_) #[true, true, true, true, true, true, true, true, true, true, true, true, false, false, false, false, false, false, false, false, false, false, false, false, false, false, false, false, false, false] rfl rfl (any_of HT_.out (by kernel_rfl)) (fun _ _ _ h => h) (Or.inr ⟨by rfl, rfl⟩) ?_ ?_
      rotate_left
      ·simp only [Act.put, sz1_, sz2_, sz3_, i64_w, i32_w]
       rfl
      refine pure_ (i := 12) (N := some 56) (v := undef) (a' := ?_) #[true, true, true, true, true, true, true, true, true, true, true, true, true, false, false, false, false, false, false, false, false, false, false, false, false, false, false, false, false, false] rfl rfl (any_of HT_.out (by kernel_rfl)) (fun _ _ _ h => h) (Or.inr ⟨by rfl, rfl⟩) ?_ ?_
      rotate_left
      ·simp only [Act.put, sz1_, sz2_, sz3_, i64_w, i32_w]
       rfl
      refine pure_ (i := 13) (N := some 57) (v := undef) (a' := ?_) #[true, true, true, true, true, true, true, true, true, true, true, true, true, true, false, false, false, false, false, false, false, false, false, false, false, false, false, false, false, false] rfl rfl (any_of HT_.out (by kernel_rfl)) (fun _ _ _ h => h) (Or.inr ⟨by rfl, rfl⟩) ?_ ?_
      rotate_left
      ·simp only [Act.put, sz1_, sz2_, sz3_, i64_w, i32_w]
       rfl
      refine pure_ (i := 14) (N := some 58) (v := undef) (a' := ?_) #[true, true, true, true, true, true, true, true, true, true, true, true, true, true, true, false, false, false, false, false, false, false, false, false, false, false, false, false, false, false] rfl rfl (any_of HT_.out (by kernel_rfl)) (fun _ _ _ h => h) (Or.inr ⟨by rfl, rfl⟩) ?_ ?_
      rotate_left
      ·simp only [Act.put, sz1_, sz2_, sz3_, i64_w, i32_w]
       rfl
      refine pure_ (i := 15) (N := some 59) (v := undef) (a' := ?_) #[true, true, true, true, true, true, true, true, true, true, true, true, true, true, true, true, false, false, false, false, false, false, false, false, false, false, false, false, false, false] rfl rfl (any_of HT_.out (by kernel_rfl)) (fun _ _ _ h => h) (Or.inr ⟨by rfl, rfl⟩) ?_ ?_
      rotate_left
      ·simp only [Act.put, sz1_, sz2_, sz3_, i64_w, i32_w]
       rfl
      refine pure_ (i := 16) (N := some 60) (v := undef) (a' := ?_) #[true, true, true, true, true, true, true, true, true, true, true, true, true, true, true, true, true, false, false, false, false, false, false, false, false, false, false, false, false, false] rfl rfl (any_of HT_.out (by kernel_rfl)) (fun _ _ _ h => h) (Or.inr ⟨by rfl, rfl⟩) ?_ ?_
      rotate_left
      ·simp only [Act.put, sz1_, sz2_, sz3_, i64_w, i32_w]
       rfl
      refine pure_ (i := 17) (N := some 61) (v := undef) (a' := ?_) #[true, true, true, true, true, true, true, true, true, true, true, true, true, true, true, true, true, true, false, false, false, false, false, false, false, false, false, false, false, false] rfl rfl (any_of HT_.out (by kernel_rfl)) (fun _ _ _ h => h) (Or.inr ⟨by rfl, rfl⟩) ?_ ?_
      rotate_left
      ·simp only [Act.put, sz1_, sz2_, sz3_, i64_w, i32_w]
       rfl
      refine pure_ (i := 18) (N := some 62) (v := undef) (a' := ?_) #[true, true, true, true, true, true, true, true, true, true, true, true, true, true, true, true, true, true, true, false, false, false, false, false, false, false, false, false, false, false] rfl rfl (any_of HT_.out (by kernel_rfl)) (fun _ _ _ h => h) (Or.inr ⟨by rfl, rfl⟩) ?_ ?_
      rotate_left
      ·simp only [Act.put, sz1_, sz2_, sz3_, i64_w, i32_w]
       rfl
      refine pu_ 19 (N := some 63) #[true, true, true, true, true, true, true, true, true, true, true, true, true, true, true, true, true, true, true, true, false, false, false, false, false, false, false, false, false, false] HT_.out (h_ := ?_)
      refine pu_ 20 (N := some 64) #[true, true, true, true, true, true, true, true, true, true, true, true, true, true, true, true, true, true, true, true, true, false, false, false, false, false, false, false, false, false] HT_.out (h_ := ?_)
      refine pure_ (i := 21) (N := some 65) (v := undef) (a' := ?_) #[true, true, true, true, true, true, true, true, true, true, true, true, true, true, true, true, true, true, true, true, true, true, false, false, false, false, false, false, false, false] rfl rfl (any_of HT_.out (by kernel_rfl)) (fun _ _ _ h => h) (Or.inr ⟨by rfl, rfl⟩) ?_ ?_
      rotate_left
      ·simp only [Act.put, sz1_, sz2_, sz3_, i64_w, i32_w]
       rfl
      refine pure_ (i := 22) (N := some 66) (v := undef) (a' := ?_) #[true, true, true, true, true, true, true, true, true, true, true, true, true, true, true, true, true, true, true, true, true, true, true, false, false, false, false, false, false, false] rfl rfl (any_of HT_.out (by kernel_rfl)) (fun _ _ _ h => h) (Or.inr ⟨by rfl, rfl⟩) ?_ ?_
      rotate_left
      ·simp only [Act.put, sz1_, sz2_, sz3_, i64_w, i32_w]
       rfl
      refine pure_ (i := 23) (N := some 67) (v := undef) (a' := ?_) #[true, true, true, true, true, true, true, true, true, true, true, true, true, true, true, true, true, true, true, true, true, true, true, true, false, false, false, false, false, false] rfl rfl (any_of HT_.out (by kernel_rfl)) (fun _ _ _ h => h) (Or.inr ⟨by rfl, rfl⟩) ?_ ?_
      rotate_left
      ·simp only [Act.put, sz1_, sz2_, sz3_, i64_w, i32_w]
       rfl
      refine pure_ (i := 24) (N := some 68) (v := undef) (a' := ?_) #[true, true, true, true, true, true, true, true, true, true, true, true, true, true, true, true, true, true, true, true, true, true, true, true, true, false, false, false, false, false] rfl rfl (any_of HT_.out (by kernel_rfl)) (fun _ _ _ h => h) (Or.inr ⟨by rfl, rfl⟩) ?_ ?_
      rotate_left
      ·simp only [Act.put, sz1_, sz2_, sz3_, i64_w, i32_w]
       rfl
      refine pure_ (i := 25) (N := some 69) (v := undef) (a' := ?_) #[true, true, true, true, true, true, true, true, true, true, true, true, true, true, true, true, true, true, true, true, true, true, true, true, true, true, false, false, false, false] rfl rfl (any_of HT_.out (by kernel_rfl)) (fun _ _ _ h => h) (Or.inr ⟨by rfl, rfl⟩) ?_ ?_
      rotate_left
      ·simp only [Act.put, sz1_, sz2_, sz3_, i64_w, i32_w]
       rfl
      refine pure_ (i := 26) (N := some 70) (v := undef) (a' := ?_) #[true, true, true, true, true, true, true, true, true, true, true, true, true, true, true, true, true, true, true, true, true, true, true, true, true, true, true, false, false, false] rfl rfl (any_of HT_.out (by kernel_rfl)) (fun _ _ _ h => h) (Or.inr ⟨by rfl, rfl⟩) ?_ ?_
      rotate_left
      ·simp only [Act.put, sz1_, sz2_, sz3_, i64_w, i32_w]
       rfl
      refine pure_ (i := 27) (N := some 71) (v := undef) (a' := ?_) #[true, true, true, true, true, true, true, true, true, true, true, true, true, true, true, true, true, true, true, true, true, true, true, true, true, true, true, true, false, false] rfl rfl (any_of HT_.out (by kernel_rfl)) (fun _ _ _ h => h) (Or.inr ⟨by rfl, rfl⟩) ?_ ?_
      rotate_left
      ·simp only [Act.put, sz1_, sz2_, sz3_, i64_w, i32_w]
       rfl
      refine pure_ (i := 28) (N := some 72) (v := undef) (a' := ?_) #[true, true, true, true, true, true, true, true, true, true, true, true, true, true, true, true, true, true, true, true, true, true, true, true, true, true, true, true, true, false] rfl rfl (any_of HT_.out (by kernel_rfl)) (fun _ _ _ h => h) (Or.inr ⟨by rfl, rfl⟩) ?_ ?_
      rotate_left
      ·simp only [Act.put, sz1_, sz2_, sz3_, i64_w, i32_w]
       rfl
      refine pu_ 29 (N := some 73) #[true, true, true, true, true, true, true, true, true, true, true, true, true, true, true, true, true, true, true, true, true, true, true, true, true, true, true, true, true, true] HT_.out (h_ := ?_)
      refine done_ (done_of HT_.out (by kernel_rfl)) ?_
      try go_wp2
      go_ret
      exact ⟨z6_, z9_⟩
     subst c25
     have H1 : ((spec_l01In.f ((rd_T78 l0_1 x3_2).f1) 1 4).bind fun t108 => (if t108 = true then (if x3_2 < a0_2 then (if (rd_T78 l0_1 x3_2).f2 = true then (some false) else (if x3_2 ≤ (l0_1.length : Int) then ((spec_l09Column.f k2 (l0_1.take (x3_2 : Int).toNat) ((rd_T78 l0_1 x3_2).f0)).bind fun t113 => (if t113 ≥ 0 then (some false) else (spec_TableOK.l0 k2 (wrap64 (x3_2 + 1)) a0_0 l0_1 a0_2 l0_3))) else (none))) else (if x3_2 ≤ (l0_1.length : Int) then ((spec_l09Column.f k2 (l0_1.take (x3_2 : Int).toNat) ((rd_T78 l0_1 x3_2).f0)).bind fun t118 => (if t118 ≥ 0 then (some false) else (spec_TableOK.l0 k2 (wrap64 (x3_2 + 1)) a0_0 l0_1 a0_2 l0_3))) else (none))) else (some false))) = some r := by rw [if_pos rfl] at H; exact H
     clear H
     have H := H1
     clear H1
     replace H := Option.bind_eq_some_iff.mp H
     obtain ⟨t108, A260, H⟩ := H
     have A26 := ak_ A260
     clear A260
     by_cases c27 : t108 = true
     rotate_left
     ·replace c27 := Bool.eq_false_iff.mpr c27
      subst c27
      have H1 : (some false) = some r := by rw [if_neg (show ¬ (false = true) by decide)] at H; exact H
      clear H
      have H := H1
      clear H1
      obtain rfl := Option.some.inj H
      obtain ⟨hcz78_0, hcz78_1, hcz78_2, hcz78_3, hfz78_0, hfz78_1, hfz78_2, hfz78_3⟩ := bcf4 BK101.out
      have p105 : 0 ≤ (x3_2 : Int) := of_decide_eq_true z5_
      have q105 : x3_2 < (l0_1.length : Int) := of_decide_eq_true z5_
      obtain ⟨ad105, e105, hx105_0, hx105_1, hx105_2⟩ := at_T78 HR0_1.out x3_2 p105 q105
      cases e105
      replace hx105_0 := oc_ HB.out hx105_0
      replace hx105_1 := oc_ HB.out hx105_1
      replace hx105_2 := oc_ HB.out hx105_2
      replace p105 := eq_true p105
      replace q105 := eq_true q105
      try go_wp2_with (first | ((with_reducible refine gate_dst (N := 4) rfl ?_); (try (refine gate_guard (by rfl) ?_; dsimp only)); refine bx_ 4 (cs := #[.string (⟨#[]⟩ : ByteArray), .int .i64 0, .bool false]) (t := 78) (h_ := ?_); intro gb106 hg w79 hbox hb; have n_ := a7_ (blk_below (g := gb101) (o := .cells #[.string a0_0, .slice (some ad105) l0_1.length c0_1, .int .i64 a0_2, .slice A0_3 l0_3.length c0_3] 35 (0, 0)) z2_ hb) (below_step z1_ hb) (hbox) ((gs_ w hg (below_size z1_))) ((gs_ w hg (below_size z1_))) ((z22_ : gb101 ≠ gb106)) ((z23_ : gb106 ≠ gb101)); clear BK101 HB; obtain ⟨BK101, HB, BK106, GW106, GE106, NB101_106, NB106_101⟩ := n_; clear hb hbox hg; have hnb80 := NB106_101.out; have hnc80 := NB101_106.out; obtain ⟨hcz81_0, hcz81_1, hcz81_2, hfz81_0, hfz81_1, hfz81_2⟩ := bcf3 BK106.out))
      have n0_ : Aside0 ((((w79.setCell ⟨gb106, 0, none⟩ (.string ((rd_T78 l0_1 x3_2).f0))).setCell ⟨gb106, 1, none⟩ (.int .i64 ((rd_T78 l0_1 x3_2).f1))).setCell ⟨gb106, 2, none⟩ (.bool ((rd_T78 l0_1 x3_2).f2))).heap[gb101]? = some (.cells #[.string a0_0, .slice (some ad105) l0_1.length c0_1, .int .i64 a0_2, .slice A0_3 l0_3.length c0_3] 35 (0, 0))) := ⟨z10_⟩
      have n1_ : Aside0 ((((w79.setCell ⟨gb106, 0, none⟩ (.string ((rd_T78 l0_1 x3_2).f0))).setCell ⟨gb106, 1, none⟩ (.int .i64 ((rd_T78 l0_1 x3_2).f1))).setCell ⟨gb106, 2, none⟩ (.bool ((rd_T78 l0_1 x3_2).f2))).heap[gb106]? = some (.cells #[.string ((rd_T78 l0_1 x3_2).f0), .int .i64 ((rd_T78 l0_1 x3_2).f1), .bool ((rd_T78 l0_1 x3_2).f2)] 78 (0, 0))) := ⟨z12_⟩
      have n2_ : Aside0 (Below w.heap.size w (((w79.setCell ⟨gb106, 0, none⟩ (.string ((rd_T78 l0_1 x3_2).f0))).setCell ⟨gb106, 1, none⟩ (.int .i64 ((rd_T78 l0_1 x3_2).f1))).setCell ⟨gb106, 2, none⟩ (.bool ((rd_T78 l0_1 x3_2).f2)))) := ⟨z9_⟩
      (try clear BK101)
      (try clear BK106)
      (try clear HB)
      generalize (((w79.setCell ⟨gb106, 0, none⟩ (.string ((rd_T78 l0_1 x3_2).f0))).setCell ⟨gb106, 1, none⟩ (.int .i64 ((rd_T78 l0_1 x3_2).f1))).setCell ⟨gb106, 2, none⟩ (.bool ((rd_T78 l0_1 x3_2).f2))) = w82 at n0_ n1_ n2_ ⊢
      have BK101 := n0_
      have BK106 := n1_
      have HB := n2_
      clear n0_ n1_ n2_
      have n_ := a3_ (blk_drew BK101.out) (blk_drew BK106.out) (below_drew1 HB.out)
      clear BK101 BK106 HB
      obtain ⟨BK101, BK106, HB⟩ := n_
      refine start_ (n := 30) (S := fun w' => w'.cell? ⟨gb106, 0, none⟩ = some (.string ((rd_T78 l0_1 x3_2).f0)) ∧ w'.cell? ⟨gb106, 1, none⟩ = some (.int .i64 ((rd_T78 l0_1 x3_2).f1)) ∧ w'.cell? ⟨gb106, 2, none⟩ = some (.bool ((rd_T78 l0_1 x3_2).f2))) (ds := []) #[false, false, false, false, false, false, false, false, false, false, false, false, false, false, false, false, false, false, false, false, false, false, false, false, false, false, false, false, false, false] (by kernel_rfl) rfl rfl ⟨(blk_cell BK106.out 0).trans rfl, (blk_cell BK106.out 1).trans rfl, (blk_cell BK106.out 2).trans rfl⟩ (fun hHeld => ?_); refine with_tabW spec_TableOK.tab7 spec_TableOK.bits7 (fun HT_ HW_ => ?_)
      generalize w82.drew = w83 at BK101 BK106 HB hHeld ⊢
      refine pu_ 0 (N := some 44) #[true, false, false, false, false, false, false, false, false, false, false, false, false, false, false, false, false, false, false, false, false, false, false, false, false, false, false, false, false, false] HT_.out (h_ := ?_)
      refine tk_ 1 (N := some 45) #[true, true, false, false, false, false, false, false, false, false, false, false, false, false, false, false, false, false, false, false, false, false, false, false, false, false, false, false, false, false] HT_.out HW_.out hHeld (hy := by rintro w' ⟨s0, s1, s2⟩; go_simp; with_reducible rfl) (h_ := ?_)
      refine one_ (i := 2) (N := some 46) #[true, true, true, false, false, false, false, false, false, false, false, false, false, false, false, false, false, false, false, false, false, false, false, false, false, false, false, false, false, false] rfl rfl (one_of HT_.out (by kernel_rfl)) (by decide) (fun K hK => ?_)
      refine goes_ Tryz.func53 (by kernel_rfl) rfl #[.string ((rd_T78 l0_1 x3_2).f0)] (by rfl) rfl rfl z3_ ?_
      with_reducible refine (spec_l09Name.calls k2 ((rd_T78 l0_1 x3_2).f0) true _ A24.out).mono ?_
      rintro e w84 ⟨rfl, hb⟩
      refine ⟨_, rfl, ?_⟩
      have n_ := a3_ (blk_below (g := gb101) (o := .cells #[.string a0_0, .slice (some ad105) l0_1.length c0_1, .int .i64 a0_2, .slice A0_3 l0_3.length c0_3] 35 (0, 0)) z2_ hb) (blk_below (g := gb106) (o := .cells #[.string ((rd_T78 l0_1 x3_2).f0), .int .i64 ((rd_T78 l0_1 x3_2).f1), .bool ((rd_T78 l0_1 x3_2).f2)] 78 (0, 0)) z30_ hb) (below_step z9_ hb)
      clear BK101 BK106 HB
      obtain ⟨BK101, BK106, HB⟩ := n_
      (try clear hb)
      (try clear hb2)
      (try clear hk)
      (try clear hi)
      refine hK.out _ _ ⟨(blk_cell BK106.out 0).trans rfl, (blk_cell BK106.out 1).trans rfl, (blk_cell BK106.out 2).trans rfl⟩ (fun hHeld => ?_)
      clear hK K
      refine norm_ (a' := ?_) ?_ ?_
      rotate_left
      ·show Act.put _ (some 46) _ = _
       simp only [Act.put, sz1_, sz2_, sz3_, i64_w, i32_w]
       rfl
      refine pu_ 3 (N := some 47) #[true, true, true, true, false, false, false, false, false, false, false, false, false, false, false, false, false, false, false, false, false, false, false, false, false, false, false, false, false, false] HT_.out (h_ := ?_)
      refine pu_ 4 (N := some 48) #[true, true, true, true, true, false, false, false, false, false, false, false, false, false, false, false, false, false, false, false, false, false, false, false, false, false, false, false, false, false] HT_.out (h_ := ?_)
      refine pu_ 5 (N := some 49) #[true, true, true, true, true, true, false, false, false, false, false, false, false, false, false, false, false, false, false, false, false, false, false, false, false, false, false, false, false, false] HT_.out (h_ := ?_)
      refine tk_ 6 (N := some 50) #[true, true, true, true, true, true, true, false, false, false, false, false, false, false, false, false, false, false, false, false, false, false, false, false, false, false, false, false, false, false] HT_.out HW_.out hHeld (hy := by rintro w' ⟨s0, s1, s2⟩; go_simp; with_reducible rfl) (h_ := ?_)
      refine one_ (i := 7) (N := some 51) #[true, true, true, true, true, true, true, true, false, false, false, false, false, false, false, false, false, false, false, false, false, false, false, false, false, false, false, false, false, false] rfl rfl (one_of HT_.out (by kernel_rfl)) (by decide) (fun K hK => ?_)
      refine goes_ Tryz.func21 (by kernel_rfl) rfl #[.int .i64 ((rd_T78 l0_1 x3_2).f1), .int .i64 1, .int .i64 4] (by rfl) rfl rfl z3_ ?_
      with_reducible refine (spec_l01In.calls ((rd_T78 l0_1 x3_2).f1) 1 4 false _ A26.out).mono ?_
      rintro e w' ⟨rfl, ⟨nd, rfl⟩⟩
      refine ⟨_, rfl, ?_⟩
      refine hK.out _ _ ⟨(blk_cell BK106.out 0).trans rfl, (blk_cell BK106.out 1).trans rfl, (blk_cell BK106.out 2).trans rfl⟩ (fun hHeld => ?_)
      clear hK K
      refine norm_ (a' := ?_) ?_ ?_
      rotate_left
      ·show Act.put _ (some 51) _ = _
       simp only [Act.put, sz1_, sz2_, sz3_, i64_w, i32_w]
       rfl
      refine pu_ 8 (N := some 52) #[true, true, true, true, true, true, true, true, true, false, false, false, false, false, false, false, false, false, false, false, false, false, false, false, false, false, false, false, false, false] HT_.out (h_ := ?_)
      refine pu_ 9 (N := some 53) #[true, true, true, true, true, true, true, true, true, true, false, false, false, false, false, false, false, false, false, false, false, false, false, false, false, false, false, false, false, false] HT_.out (h_ := ?_)
      refine pu_ 10 (N := some 54) #[true, true, true, true, true, true, true, true, true, true, true, false, false, false, false, false, false, false, false, false, false, false, false, false, false, false, false, false, false, false] HT_.out (h_ := ?_)
      refine pure_ (i := 11) (N := some 55) (v := undef) (a' := ?_) #[true, true, true, true, true, true, true, true, true, true, true, true, false, false, false, false, false, false, false, false, false, false, false, false, false, false, false, false, false, false] rfl rfl (any_of HT_.out (by kernel_rfl)) (fun _ _ _ h => h) (Or.inr ⟨by rfl, rfl⟩) ?_ ?_
      rotate_left
      ·simp only [Act.put, sz1_, sz2_, sz3_, i64_w, i32_w]
       rfl
      refine pure_ (i := 12) (N := some 56) (v := undef) (a' := ?_) #[true, true, true, true, true, true, true, true, true, true, true, true, true, false, false, false, false, false, false, false, false, false, false, false, false, false, false, false, false, false] rfl rfl (any_of HT_.out (by kernel_rfl)) (fun _ _ _ h => h) (Or.inr ⟨by rfl, rfl⟩) ?_ ?_
      rotate_left
      ·simp only [Act.put, sz1_, sz2_, sz3_, i64_w, i32_w]
       rfl
      refine pure_ (i := 13) (N := some 57) (v := undef) (a' := ?_) #[true, true, true, true, true, true, true, true, true, true, true, true, true, true, false, false, false, false, false, false, false, false, false, false, false, false, false, false, false, false] rfl rfl (any_of HT_.out (by kernel_rfl)) (fun _ _ _ h => h) (Or.inr ⟨by rfl, rfl⟩) ?_ ?_
      rotate_left
      ·simp only [Act.put, sz1_, sz2_, sz3_, i64_w, i32_w]
       rfl
      refine pure_ (i := 14) (N := some 58) (v := undef) (a' := ?_) #[true, true, true, true, true, true, true, true, true, true, true, true, true, true, true, false, false, false, false, false, false, false, false, false, false, false, false, false, false, false] rfl rfl (any_of HT_.out (by kernel_rfl)) (fun _ _ _ h => h) (Or.inr ⟨by rfl, rfl⟩) ?_ ?_
      rotate_left
      ·simp only [Act.put, sz1_, sz2_, sz3_, i64_w, i32_w]
       rfl
      refine pure_ (i := 15) (N := some 59) (v := undef) (a' := ?_) #[true, true, true, true, true, true, true, true, true, true, true, true, true, true, true, true, false, false, false, false, false, false, false, false, false, false, false, false, false, false] rfl rfl (any_of HT_.out (by kernel_rfl)) (fun _ _ _ h => h) (Or.inr ⟨by rfl, rfl⟩) ?_ ?_
      rotate_left
      ·simp only [Act.put, sz1_, sz2_, sz3_, i64_w, i32_w]
       rfl
      refine pure_ (i := 16) (N := some 60) (v := undef) (a' := ?_) #[true, true, true, true, true, true, true, true, true, true, true, true, true, true, true, true, true, false, false, false, false, false, false, false, false, false, false, false, false, false] rfl rfl (any_of HT_.out (by kernel_rfl)) (fun _ _ _ h => h) (Or.inr ⟨by rfl, rfl⟩) ?_ ?_
      rotate_left
      ·simp only [Act.put, sz1_, sz2_, sz3_, i64_w, i32_w]
       rfl
      refine pure_ (i := 17) (N := some 61) (v := undef) (a' := ?_) #[true, true, true, true, true, true, true, true, true, true, true, true, true, true, true, true, true, true, false, false, false, false, false, false, false, false, false, false, false, false] rfl rfl (any_of HT_.out (by kernel_rfl)) (fun _ _ _ h => h) (Or.inr ⟨by rfl, rfl⟩) ?_ ?_
      rotate_left
      ·simp only [Act.put, sz1_, sz2_, sz3_, i64_w, i32_w]
       rfl
      refine pure_ (i := 18) (N := some 62) (v := undef) (a' := ?_) #[true, true, true, true, true, true, true, true, true, true, true, true, true, true, true, true, true, true, true, false, false, false, false, false, false, false, false, false, false, false] rfl rfl (any_of HT_.out (by kernel_rfl)) (fun _ _ _ h => h) (Or.inr ⟨by rfl, rfl⟩) ?_ ?_
      rotate_left
      ·simp only [Act.put, sz1_, sz2_, sz3_, i64_w, i32_w]
       rfl
      refine pu_ 19 (N := some 63) #[true, true, true, true, true, true, true, true, true, true, true, true, true, true, true, true, true, true, true, true, false, false, false, false, false, false, false, false, false, false] HT_.out (h_ := ?_)
      refine pu_ 20 (N := some 64) #[true, true, true, true, true, true, true, true, true, true, true, true, true, true, true, true, true, true, true, true, true, false, false, false, false, false, false, false, false, false] HT_.out (h_ := ?_)
      refine pure_ (i := 21) (N := some 65) (v := undef) (a' := ?_) #[true, true, true, true, true, true, true, true, true, true, true, true, true, true, true, true, true, true, true, true, true, true, false, false, false, false, false, false, false, false] rfl rfl (any_of HT_.out (by kernel_rfl)) (fun _ _ _ h => h) (Or.inr ⟨by rfl, rfl⟩) ?_ ?_
      rotate_left
      ·simp only [Act.put, sz1_, sz2_, sz3_, i64_w, i32_w]
       rfl
      refine pure_ (i := 22) (N := some 66) (v := undef) (a' := ?_) #[true, true, true, true, true, true, true, true, true, true, true, true, true, true, true, true, true, true, true, true, true, true, true, false, false, false, false, false, false, false] rfl rfl (any_of HT_.out (by kernel_rfl)) (fun _ _ _ h => h) (Or.inr ⟨by rfl, rfl⟩) ?_ ?_
      rotate_left
      ·simp only [Act.put, sz1_, sz2_, sz3_, i64_w, i32_w]
       rfl
      refine pure_ (i := 23) (N := some 67) (v := undef) (a' := ?_) #[true, true, true, true, true, true, true, true, true, true, true, true, true, true, true, true, true, true, true, true, true, true, true, true, false, false, false, false, false, false] rfl rfl (any_of HT_.out (by kernel_rfl)) (fun _ _ _ h => h) (Or.inr ⟨by rfl, rfl⟩) ?_ ?_
      rotate_left
      ·simp only [Act.put, sz1_, sz2_, sz3_, i64_w, i32_w]
       rfl
      refine pure_ (i := 24) (N := some 68) (v := undef) (a' := ?_) #[true, true, true, true, true, true, true, true, true, true, true, true, true, true, true, true, true, true, true, true, true, true, true, true, true, false, false, false, false, false] rfl rfl (any_of HT_.out (by kernel_rfl)) (fun _ _ _ h => h) (Or.inr ⟨by rfl, rfl⟩) ?_ ?_
      rotate_left
      ·simp only [Act.put, sz1_, sz2_, sz3_, i64_w, i32_w]
       rfl
      refine pure_ (i := 25) (N := some 69) (v := undef) (a' := ?_) #[true, true, true, true, true, true, true, true, true, true, true, true, true, true, true, true, true, true, true, true, true, true, true, true, true, true, false, false, false, false] rfl rfl (any_of HT_.out (by kernel_rfl)) (fun _ _ _ h => h) (Or.inr ⟨by rfl, rfl⟩) ?_ ?_
      rotate_left
      ·simp only [Act.put, sz1_, sz2_, sz3_, i64_w, i32_w]
       rfl
      refine pure_ (i := 26) (N := some 70) (v := undef) (a' := ?_) #[true, true, true, true, true, true, true, true, true, true, true, true, true, true, true, true, true, true, true, true, true, true, true, true, true, true, true, false, false, false] rfl rfl (any_of HT_.out (by kernel_rfl)) (fun _ _ _ h => h) (Or.inr ⟨by rfl, rfl⟩) ?_ ?_
      rotate_left
      ·simp only [Act.put, sz1_, sz2_, sz3_, i64_w, i32_w]
       rfl
      refine pure_ (i := 27) (N := some 71) (v := undef) (a' := ?_) #[true, true, true, true, true, true, true, true, true, true, true, true, true, true, true, true, true, true, true, true, true, true, true, true, true, true, true, true, false, false] rfl rfl (any_of HT_.out (by kernel_rfl)) (fun _ _ _ h => h) (Or.inr ⟨by rfl, rfl⟩) ?_ ?_
      rotate_left
      ·simp only [Act.put, sz1_, sz2_, sz3_, i64_w, i32_w]
       rfl
      refine pure_ (i := 28) (N := some 72) (v := undef) (a' := ?_) #[true, true, true, true, true, true, true, true, true, true, true, true, true, true, true, true, true, true, true, true, true, true, true, true, true, true, true, true, true, false] rfl rfl (any_of HT_.out (by kernel_rfl)) (fun _ _ _ h => h) (Or.inr ⟨by rfl, rfl⟩) ?_ ?_
      rotate_left
      ·simp only [Act.put, sz1_, sz2_, sz3_, i64_w, i32_w]
       rfl
      refine pu_ 29 (N := some 73) #[true, true, true, true, true, true, true, true, true, true, true, true, true, true, true, true, true, true, true, true, true, true, true, true, true, true, true, true, true, true] HT_.out (h_ := ?_)
      refine done_ (done_of HT_.out (by kernel_rfl)) ?_
      try go_wp2
      go_ret
      exact ⟨z6_, z9_⟩
     subst c27
     have H1 : (if x3_2 < a0_2 then (if (rd_T78 l0_1 x3_2).f2 = true then (some false) else (if x3_2 ≤ (l0_1.length : Int) then ((spec_l09Column.f k2 (l0_1.take (x3_2 : Int).toNat) ((rd_T78 l0_1 x3_2).f0)).bind fun t113 => (if t113 ≥ 0 then (some false) else (spec_TableOK.l0 k2 (wrap64 (x3_2 + 1)) a0_0 l0_1 a0_2 l0_3))) else (none))) else (if x3_2 ≤ (l0_1.length : Int) then ((spec_l09Column.f k2 (l0_1.take (x3_2 : Int).toNat) ((rd_T78 l0_1 x3_2).f0)).bind fun t118 => (if t118 ≥ 0 then (some false) else (spec_TableOK.l0 k2 (wrap64 (x3_2 + 1)) a0_0 l0_1 a0_2 l0_3))) else (none))) = some r := by rw [if_pos rfl] at H; exact H
     clear H
     have H := H1
     clear H1
     by_cases c28 : x3_2 < a0_2
     rotate_left
     ·rw [if_neg c28] at H
      have c28b0 := decide_eq_false c28
      clear c28
      have c58b0 := eq_true (of_decide_eq_true z5_ : 0 ≤ x3_2)
      by_cases c59 : x3_2 ≤ (l0_1.length : Int)
      ·rw [if_pos c59] at H
       have c59b0 := eq_true c59
       have c59b1 := decide_eq_true c59
       clear c59
       obtain ⟨y114, hy114⟩ : ∃ y_ : List (S78), y_ = (l0_1.take (x3_2 : Int).toNat) := ⟨_, rfl⟩
       replace H : ((spec_l09Column.f k2 y114 ((rd_T78 l0_1 x3_2).f0)).bind fun t118 => (if t118 ≥ 0 then (some false) else (spec_TableOK.l0 k2 (wrap64 (x3_2 + 1)) a0_0 l0_1 a0_2 l0_3))) = some r := by first | (rw [hy114]; with_reducible exact H) | (have H2_ := (Option.bind_some _ _).symm.trans H; rw [hy114]; with_reducible exact H2_) | (have H2_ := (Option.bind_some _ _).symm.trans H; with_reducible exact H2_) | with_reducible exact H | (rw [hy114]; exact H) | exact H
       have Ny114 := ak_ hy114
       clear hy114
       replace H := Option.bind_eq_some_iff.mp H
       obtain ⟨t118, A600, H⟩ := H
       have A60 := ak_ A600
       clear A600
       by_cases c61 : t118 ≥ 0
       ·rw [if_pos c61] at H
        have c61b0 : decide (0 ≤ t118) = true := decide_eq_true c61
        clear c61
        obtain rfl := Option.some.inj H
        obtain ⟨hcz62_0, hcz62_1, hcz62_2, hcz62_3, hfz62_0, hfz62_1, hfz62_2, hfz62_3⟩ := bcf4 BK101.out
        have p105 : 0 ≤ (x3_2 : Int) := of_decide_eq_true z5_
        have q105 : x3_2 < (l0_1.length : Int) := of_decide_eq_true z5_
        obtain ⟨ad105, e105, hx105_0, hx105_1, hx105_2⟩ := at_T78 HR0_1.out x3_2 p105 q105
        cases e105
        replace hx105_0 := oc_ HB.out hx105_0
        replace hx105_1 := oc_ HB.out hx105_1
        replace hx105_2 := oc_ HB.out hx105_2
        replace p105 := eq_true p105
        replace q105 := eq_true q105
        try go_wp2_with (first | ((with_reducible refine gate_dst (N := 4) rfl ?_); (try (refine gate_guard (by rfl) ?_; dsimp only)); refine bx_ 4 (cs := #[.string (⟨#[]⟩ : ByteArray), .int .i64 0, .bool false]) (t := 78) (h_ := ?_); intro gb106 hg w63 hbox hb; have n_ := a7_ (blk_below (g := gb101) (o := .cells #[.string a0_0, .slice (some ad105) l0_1.length c0_1, .int .i64 a0_2, .slice A0_3 l0_3.length c0_3] 35 (0, 0)) z2_ hb) (below_step z1_ hb) (hbox) ((gs_ w hg (below_size z1_))) ((gs_ w hg (below_size z1_))) ((z22_ : gb101 ≠ gb106)) ((z23_ : gb106 ≠ gb101)); clear BK101 HB; obtain ⟨BK101, HB, BK106, GW106, GE106, NB101_106, NB106_101⟩ := n_; clear hb hbox hg; have hnb64 := NB106_101.out; have hnc64 := NB101_106.out; obtain ⟨hcz65_0, hcz65_1, hcz65_2, hfz65_0, hfz65_1, hfz65_2⟩ := bcf3 BK106.out))
        have n0_ : Aside0 ((((w63.setCell ⟨gb106, 0, none⟩ (.string ((rd_T78 l0_1 x3_2).f0))).setCell ⟨gb106, 1, none⟩ (.int .i64 ((rd_T78 l0_1 x3_2).f1))).setCell ⟨gb106, 2, none⟩ (.bool ((rd_T78 l0_1 x3_2).f2))).heap[gb101]? = some (.cells #[.string a0_0, .slice (some ad105) l0_1.length c0_1, .int .i64 a0_2, .slice A0_3 l0_3.length c0_3] 35 (0, 0))) := ⟨z10_⟩
        have n1_ : Aside0 ((((w63.setCell ⟨gb106, 0, none⟩ (.string ((rd_T78 l0_1 x3_2).f0))).setCell ⟨gb106, 1, none⟩ (.int .i64 ((rd_T78 l0_1 x3_2).f1))).setCell ⟨gb106, 2, none⟩ (.bool ((rd_T78 l0_1 x3_2).f2))).heap[gb106]? = some (.cells #[.string ((rd_T78 l0_1 x3_2).f0), .int .i64 ((rd_T78 l0_1 x3_2).f1), .bool ((rd_T78 l0_1 x3_2).f2)] 78 (0, 0))) := ⟨z12_⟩
        have n2_ : Aside0 (Below w.heap.size w (((w63.setCell ⟨gb106, 0, none⟩ (.string ((rd_T78 l0_1 x3_2).f0))).setCell ⟨gb106, 1, none⟩ (.int .i64 ((rd_T78 l0_1 x3_2).f1))).setCell ⟨gb106, 2, none⟩ (.bool ((rd_T78 l0_1 x3_2).f2)))) := ⟨z9_⟩
        (try clear BK101)
        (try clear BK106)
        (try clear HB)
        generalize (((w63.setCell ⟨gb106, 0, none⟩ (.string ((rd_T78 l0_1 x3_2).f0))).setCell ⟨gb106, 1, none⟩ (.int .i64 ((rd_T78 l0_1 x3_2).f1))).setCell ⟨gb106, 2, none⟩ (.bool ((rd_T78 l0_1 x3_2).f2))) = w66 at n0_ n1_ n2_ ⊢
        have BK101 := n0_
        have BK106 := n1_
        have HB := n2_
        clear n0_ n1_ n2_
        have n_ := a3_ (blk_drew BK101.out) (blk_drew BK106.out) (below_drew1 HB.out)
        clear BK101 BK106 HB
        obtain ⟨BK101, BK106, HB⟩ := n_
        refine start_ (n := 30) (S := fun w' => w'.cell? ⟨gb106, 0, none⟩ = some (.string ((rd_T78 l0_1 x3_2).f0)) ∧ w'.cell? ⟨gb106, 1, none⟩ = some (.int .i64 ((rd_T78 l0_1 x3_2).f1)) ∧ w'.cell? ⟨gb106, 2, none⟩ = some (.bool ((rd_T78 l0_1 x3_2).f2)) ∧ w'.cell? ⟨gb101, 0, none⟩ = some (.string a0_0) ∧ w'.cell? ⟨gb101, 1, none⟩ = some (.slice (some ad105) l0_1.length c0_1) ∧ w'.cell? ⟨gb101, 2, none⟩ = some (.int .i64 a0_2) ∧ w'.cell? ⟨gb101, 3, none⟩ = some (.slice A0_3 l0_3.length c0_3)) (ds := []) #[false, false, false, false, false, false, false, false, false, false, false, false, false, false, false, false, false, false, false, false, false, false, false, false, false, false, false, false, false, false] (by kernel_rfl) rfl rfl ⟨(blk_cell BK106.out 0).trans rfl, (blk_cell BK106.out 1).trans rfl, (blk_cell BK106.out 2).trans rfl, (blk_cell BK101.out 0).trans rfl, (blk_cell BK101.out 1).trans rfl, (blk_cell BK101.out 2).trans rfl, (blk_cell BK101.out 3).trans rfl⟩ (fun hHeld => ?_); refine with_tabW spec_TableOK.tab7 spec_TableOK.bits7 (fun HT_ HW_ => ?_)
        generalize w66.drew = w67 at BK101 BK106 HB hHeld ⊢
        refine pu_ 0 (N := some 44) #[true, false, false, false, false, false, false, false, false, false, false, false, false, false, false, false, false, false, false, false, false, false, false, false, false, false, false, false, false, false] HT_.out (h_ := ?_)
        refine tk_ 1 (N := some 45) #[true, true, false, false, false, false, false, false, false, false, false, false, false, false, false, false, false, false, false, false, false, false, false, false, false, false, false, false, false, false] HT_.out HW_.out hHeld (hy := by rintro w' ⟨s0, s1, s2, s3, s4, s5, s6⟩; go_simp; with_reducible rfl) (h_ := ?_)
        refine one_ (i := 2) (N := some 46) #[true, true, true, false, false, false, false, false, false, false, false, false, false, false, false, false, false, false, false, false, false, false, false, false, false, false, false, false, false, false] rfl rfl (one_of HT_.out (by kernel_rfl)) (by decide) (fun K hK => ?_)
        refine goes_ Tryz.func53 (by kernel_rfl) rfl #[.string ((rd_T78 l0_1 x3_2).f0)] (by rfl) rfl rfl z3_ ?_
        with_reducible refine (spec_l09Name.calls k2 ((rd_T78 l0_1 x3_2).f0) true _ A24.out).mono ?_
        rintro e w68 ⟨rfl, hb⟩
        refine ⟨_, rfl, ?_⟩
        have n_ := a3_ (blk_below (g := gb101) (o := .cells #[.string a0_0, .slice (some ad105) l0_1.length c0_1, .int .i64 a0_2, .slice A0_3 l0_3.length c0_3] 35 (0, 0)) z2_ hb) (blk_below (g := gb106) (o := .cells #[.string ((rd_T78 l0_1 x3_2).f0), .int .i64 ((rd_T78 l0_1 x3_2).f1), .bool ((rd_T78 l0_1 x3_2).f2)] 78 (0, 0)) z30_ hb) (below_step z9_ hb)
        clear BK101 BK106 HB
        obtain ⟨BK101, BK106, HB⟩ := n_
        (try clear hb)
        (try clear hb2)
        (try clear hk)
        (try clear hi)
        refine hK.out _ _ ⟨(blk_cell BK106.out 0).trans rfl, (blk_cell BK106.out 1).trans rfl, (blk_cell BK106.out 2).trans rfl, (blk_cell BK101.out 0).trans rfl, (blk_cell BK101.out 1).trans rfl, (blk_cell BK101.out 2).trans rfl, (blk_cell BK101.out 3).trans rfl⟩ (fun hHeld => ?_)
        clear hK K
        refine norm_ (a' := ?_) ?_ ?_
        rotate_left
        ·show Act.put _ (some 46) _ = _
         simp only [Act.put, sz1_, sz2_, sz3_, i64_w, i32_w]
         rfl
        refine pu_ 3 (N := some 47) #[true, true, true, true, false, false, false, false, false, false, false, false, false, false, false, false, false, false, false, false, false, false, false, false, false, false, false, false, false, false] HT_.out (h_ := ?_)
        refine pu_ 4 (N := some 48) #[true, true, true, true, true, false, false, false, false, false, false, false, false, false, false, false, false, false, false, false, false, false, false, false, false, false, false, false, false, false] HT_.out (h_ := ?_)
        refine pu_ 5 (N := some 49) #[true, true, true, true, true, true, false, false, false, false, false, false, false, false, false, false, false, false, false, false, false, false, false, false, false, false, false, false, false, false] HT_.out (h_ := ?_)
        refine tk_ 6 (N := some 50) #[true, true, true, true, true, true, true, false, false, false, false, false, false, false, false, false, false, false, false, false, false, false, false, false, false, false, false, false, false, false] HT_.out HW_.out hHeld (hy := by rintro w' ⟨s0, s1, s2, s3, s4, s5, s6⟩; go_simp; with_reducible rfl) (h_ := ?_)
        refine one_ (i := 7) (N := some 51) #[true, true, true, true, true, true, true, true, false, false, false, false, false, false, false, false, false, false, false, false, false, false, false, false, false, false, false, false, false, false] rfl rfl (one_of HT_.out (by kernel_rfl)) (by decide) (fun K hK => ?_)
        refine goes_ Tryz.func21 (by kernel_rfl) rfl #[.int .i64 ((rd_T78 l0_1 x3_2).f1), .int .i64 1, .int .i64 4] (by rfl) rfl rfl z3_ ?_
        with_reducible refine (spec_l01In.calls ((rd_T78 l0_1 x3_2).f1) 1 4 true _ A26.out).mono ?_
        rintro e w' ⟨rfl, ⟨nd, rfl⟩⟩
        refine ⟨_, rfl, ?_⟩
        have q69 : (x3_2 : Int) ≤ ((l0_1.length : Int) : Int) := of_decide_eq_true z5_
        obtain ⟨i069, hi069, _, hsz69, _⟩ := info_parts info78
        have hroom69 : l0_1.length ≤ c0_1 := HC0_1.out
        have hC69 : Kd.C k78 _ (some ad105) l0_1.length l0_1 := HR0_1.out
        have hcut69 := cut_to (P := Tryz.prog) 32 78 .i64 Tryz.underlying32 hi069 (some ad105) l0_1.length c0_1 x3_2 (of_decide_eq_true z5_) q69 hroom69
        have hr69 := Kd.C_take (m := (x3_2 : Int).toNat) hC69 (by omega)
        have hy69 : y114.length = (x3_2 : Int).toNat := (by rw [Ny114.out, List.length_take]; omega)
        rw [← Ny114.out] at hr69
        rw [← hy69] at hcut69
        have HR117 := ak_ hr69
        have HC117 := ak_ (show y114.length ≤ c0_1 from by omega)
        clear hr69 hC69 hroom69 hi069 hsz69
        have KY69 := ak_ hy69
        clear hy69
        replace q69 := eq_true q69
        refine hK.out _ _ ⟨(blk_cell BK106.out 0).trans rfl, (blk_cell BK106.out 1).trans rfl, (blk_cell BK106.out 2).trans rfl, (blk_cell BK101.out 0).trans rfl, (blk_cell BK101.out 1).trans rfl, (blk_cell BK101.out 2).trans rfl, (blk_cell BK101.out 3).trans rfl⟩ (fun hHeld => ?_)
        clear hK K
        refine norm_ (a' := ?_) ?_ ?_
        rotate_left
        ·show Act.put _ (some 51) _ = _
         simp only [Act.put, sz1_, sz2_, sz3_, i64_w, i32_w]
         rfl
        refine pu_ 8 (N := some 52) #[true, true, true, true, true, true, true, true, true, false, false, false, false, false, false, false, false, false, false, false, false, false, false, false, false, false, false, false, false, false] HT_.out (h_ := ?_)
        refine pu_ 9 (N := some 53) #[true, true, true, true, true, true, true, true, true, true, false, false, false, false, false, false, false, false, false, false, false, false, false, false, false, false, false, false, false, false] HT_.out (h_ := ?_)
        refine pu_ 10 (N := some 54) #[true, true, true, true, true, true, true, true, true, true, true, false, false, false, false, false, false, false, false, false, false, false, false, false, false, false, false, false, false, false] HT_.out (h_ := ?_)
        refine pu_ 11 (N := some 55) #[true, true, true, true, true, true, true, true, true, true, true, true, false, false, false, false, false, false, false, false, false, false, false, false, false, false, false, false, false, false] HT_.out (h_ := ?_)
        refine pu_ 12 (N := some 56) #[true, true, true, true, true, true, true, true, true, true, true, true, true, false, false, false, false, false, false, false, false, false, false, false, false, false, false, false, false, false] HT_.out (h_ := ?_)
        refine tk_ 13 (N := some 57) #[true, true, true, true, true, true, true, true, true, true, true, true, true, true, false, false, false, false, false, false, false, false, false, false, false, false, false, false, false, false] HT_.out HW_.out hHeld (hy := by rintro w' ⟨s0, s1, s2, s3, s4, s5, s6⟩; go_simp; with_reducible rfl) (h_ := ?_)
        refine pu_ 14 (N := some 58) #[true, true, true, true, true, true, true, true, true, true, true, true, true, true, true, false, false, false, false, false, false, false, false, false, false, false, false, false, false, false] HT_.out (h_ := ?_)
        refine pu_ 15 (N := some 59) #[true, true, true, true, true, true, true, true, true, true, true, true, true, true, true, true, false, false, false, false, false, false, false, false, false, false, false, false, false, false] HT_.out (h_ := ?_)
        refine pure_ (i := 16) (N := some 60) (v := undef) (a' := ?_) #[true, true, true, true, true, true, true, true, true, true, true, true, true, true, true, true, true, false, false, false, false, false, false, false, false, false, false, false, false, false] rfl rfl (any_of HT_.out (by kernel_rfl)) (fun _ _ _ h => h) (Or.inr ⟨by rfl, rfl⟩) ?_ ?_
        rotate_left
        ·simp only [Act.put, sz1_, sz2_, sz3_, i64_w, i32_w]
         rfl
        refine pure_ (i := 17) (N := some 61) (v := undef) (a' := ?_) #[true, true, true, true, true, true, true, true, true, true, true, true, true, true, true, true, true, true, false, false, false, false, false, false, false, false, false, false, false, false] rfl rfl (any_of HT_.out (by kernel_rfl)) (fun _ _ _ h => h) (Or.inr ⟨by rfl, rfl⟩) ?_ ?_
        rotate_left
        ·simp only [Act.put, sz1_, sz2_, sz3_, i64_w, i32_w]
         rfl
        refine pu_ 18 (N := some 62) #[true, true, true, true, true, true, true, true, true, true, true, true, true, true, true, true, true, true, true, false, false, false, false, false, false, false, false, false, false, false] HT_.out (h_ := ?_)
        refine pu_ 19 (N := some 63) #[true, true, true, true, true, true, true, true, true, true, true, true, true, true, true, true, true, true, true, true, false, false, false, false, false, false, false, false, false, false] HT_.out (h_ := ?_)
        refine pu_ 20 (N := some 64) #[true, true, true, true, true, true, true, true, true, true, true, true, true, true, true, true, true, true, true, true, true, false, false, false, false, false, false, false, false, false] HT_.out (h_ := ?_)
        refine pu_ 21 (N := some 65) #[true, true, true, true, true, true, true, true, true, true, true, true, true, true, true, true, true, true, true, true, true, true, false, false, false, false, false, false, false, false] HT_.out (h_ := ?_)
        refine pu_ 23 (N := some 67) #[true, true, true, true, true, true, true, true, true, true, true, true, true, true, true, true, true, true, true, true, true, true, false, true, false, false, false, false, false, false] HT_.out (h_ := ?_)
        refine pu_ 25 (N := some 69) #[true, true, true, true, true, true, true, true, true, true, true, true, true, true, true, true, true, true, true, true, true, true, false, true, false, true, false, false, false, false] HT_.out (h_ := ?_)
        refine tk_ 22 (N := some 66) #[true, true, true, true, true, true, true, true, true, true, true, true, true, true, true, true, true, true, true, true, true, true, true, true, false, true, false, false, false, false] HT_.out HW_.out hHeld (hy := by rintro w' ⟨s0, s1, s2, s3, s4, s5, s6⟩; go_simp; with_reducible rfl) (h_ := ?_)
        refine pu_ 24 (N := some 68) #[true, true, true, true, true, true, true, true, true, true, true, true, true, true, true, true, true, true, true, true, true, true, true, true, true, true, false, false, false, false] HT_.out (h_ := ?_)
        refine tk_ 26 (N := some 70) #[true, true, true, true, true, true, true, true, true, true, true, true, true, true, true, true, true, true, true, true, true, true, true, true, true, true, true, false, false, false] HT_.out HW_.out hHeld (hy := by rintro w' ⟨s0, s1, s2, s3, s4, s5, s6⟩; go_simp; with_reducible rfl) (h_ := ?_)
        refine one_ (i := 27) (N := some 71) #[true, true, true, true, true, true, true, true, true, true, true, true, true, true, true, true, true, true, true, true, true, true, true, true, true, true, true, true, false, false] rfl rfl (one_of HT_.out (by kernel_rfl)) (by decide) (fun K hK => ?_)
        refine goes_ Tryz.func54 (by kernel_rfl) rfl #[.slice (some ad105) y114.length c0_1, .string ((rd_T78 l0_1 x3_2).f0)] (by rfl) rfl rfl z3_ ?_
        with_reducible refine (spec_l09Column.calls k2 _ _ y114 ((rd_T78 l0_1 x3_2).f0) t118 _ ?side1 ?side2 A60.out).mono ?_
        (case side1 => repeat (first | exact (Kd.C_below HR117.out z9_) | (with_reducible refine Kd.C_alloc ?_ _) | (with_reducible refine Kd.C_drewN ?_ _) | (with_reducible refine Kd.C_drew ?_)))
        (case side2 => exact HC117.out)
        rintro e w' ⟨rfl, ⟨nd, rfl⟩⟩
        refine ⟨_, rfl, ?_⟩
        refine hK.out _ _ ⟨(blk_cell BK106.out 0).trans rfl, (blk_cell BK106.out 1).trans rfl, (blk_cell BK106.out 2).trans rfl, (blk_cell BK101.out 0).trans rfl, (blk_cell BK101.out 1).trans rfl, (blk_cell BK101.out 2).trans rfl, (blk_cell BK101.out 3).trans rfl⟩ (fun hHeld => ?_)
        clear hK K
        refine norm_ (a' := ?_) ?_ ?_
        rotate_left
        ·show Act.put _ (some 71) _ = _
         simp only [Act.put, sz1_, sz2_, sz3_, i64_w, i32_w]
         rfl
        refine pu_ 28 (N := some 72) #[true, true, true, true, true, true, true, true, true, true, true, true, true, true, true, true, true, true, true, true, true, true, true, true, true, true, true, true, true, false] HT_.out (h_ := ?_)
        refine pu_ 29 (N := some 73) #[true, true, true, true, true, true, true, true, true, true, true, true, true, true, true, true, true, true, true, true, true, true, true, true, true, true, true, true, true, true] HT_.out (h_ := ?_)
        refine done_ (done_of HT_.out (by kernel_rfl)) ?_
        try go_wp2
        go_ret
        exact ⟨z6_, z9_⟩
       ·rw [if_neg c61] at H
        have c61b0 : decide (0 ≤ t118) = false := decide_eq_false c61
        clear c61
        have H' := ak_ H
        clear H
        obtain ⟨hcz70_0, hcz70_1, hcz70_2, hcz70_3, hfz70_0, hfz70_1, hfz70_2, hfz70_3⟩ := bcf4 BK101.out
        have p105 : 0 ≤ (x3_2 : Int) := of_decide_eq_true z5_
        have q105 : x3_2 < (l0_1.length : Int) := of_decide_eq_true z5_
        obtain ⟨ad105, e105, hx105_0, hx105_1, hx105_2⟩ := at_T78 HR0_1.out x3_2 p105 q105
        cases e105
        replace hx105_0 := oc_ HB.out hx105_0
        replace hx105_1 := oc_ HB.out hx105_1
        replace hx105_2 := oc_ HB.out hx105_2
        replace p105 := eq_true p105
        replace q105 := eq_true q105
        try go_wp2_with (first | ((with_reducible refine gate_dst (N := 4) rfl ?_); (try (refine gate_guard (by rfl) ?_; dsimp only)); refine bx_ 4 (cs := #[.string (⟨#[]⟩ : ByteArray), .int .i64 0, .bool false]) (t := 78) (h_ := ?_); intro gb106 hg w71 hbox hb; have n_ := a7_ (blk_below (g := gb101) (o := .cells #[.string a0_0, .slice (some ad105) l0_1.length c0_1, .int .i64 a0_2, .slice A0_3 l0_3.length c0_3] 35 (0, 0)) z2_ hb) (below_step z1_ hb) (hbox) ((gs_ w hg (below_size z1_))) ((gs_ w hg (below_size z1_))) ((z22_ : gb101 ≠ gb106)) ((z23_ : gb106 ≠ gb101)); clear BK101 HB; obtain ⟨BK101, HB, BK106, GW106, GE106, NB101_106, NB106_101⟩ := n_; clear hb hbox hg; have hnb72 := NB106_101.out; have hnc72 := NB101_106.out; obtain ⟨hcz73_0, hcz73_1, hcz73_2, hfz73_0, hfz73_1, hfz73_2⟩ := bcf3 BK106.out))
        have n0_ : Aside0 ((((w71.setCell ⟨gb106, 0, none⟩ (.string ((rd_T78 l0_1 x3_2).f0))).setCell ⟨gb106, 1, none⟩ (.int .i64 ((rd_T78 l0_1 x3_2).f1))).setCell ⟨gb106, 2, none⟩ (.bool ((rd_T78 l0_1 x3_2).f2))).heap[gb101]? = some (.cells #[.string a0_0, .slice (some ad105) l0_1.length c0_1, .int .i64 a0_2, .slice A0_3 l0_3.length c0_3] 35 (0, 0))) := ⟨z10_⟩
        have n1_ : Aside0 ((((w71.setCell ⟨gb106, 0, none⟩ (.string ((rd_T78 l0_1 x3_2).f0))).setCell ⟨gb106, 1, none⟩ (.int .i64 ((rd_T78 l0_1 x3_2).f1))).setCell ⟨gb106, 2, none⟩ (.bool ((rd_T78 l0_1 x3_2).f2))).heap[gb106]? = some (.cells #[.string ((rd_T78 l0_1 x3_2).f0), .int .i64 ((rd_T78 l0_1 x3_2).f1), .bool ((rd_T78 l0_1 x3_2).f2)] 78 (0, 0))) := ⟨z12_⟩
        have n2_ : Aside0 (Below w.heap.size w (((w71.setCell ⟨gb106, 0, none⟩ (.string ((rd_T78 l0_1 x3_2).f0))).setCell ⟨gb106, 1, none⟩ (.int .i64 ((rd_T78 l0_1 x3_2).f1))).setCell ⟨gb106, 2, none⟩ (.bool ((rd_T78 l0_1 x3_2).f2)))) := ⟨z9_⟩
        (try clear BK101)
        (try clear BK106)
        (try clear HB)
        generalize (((w71.setCell ⟨gb106, 0, none⟩ (.string ((rd_T78 l0_1 x3_2).f0))).setCell ⟨gb106, 1, none⟩ (.int .i64 ((rd_T78 l0_1 x3_2).f1))).setCell ⟨gb106, 2, none⟩ (.bool ((rd_T78 l0_1 x3_2).f2))) = w74 at n0_ n1_ n2_ ⊢
        have BK101 := n0_
        have BK106 := n1_
        have HB := n2_
        clear n0_ n1_ n2_
        have n_ := a3_ (blk_drew BK101.out) (blk_drew BK106.out) (below_drew1 HB.out)
        clear BK101 BK106 HB
        obtain ⟨BK101, BK106, HB⟩ := n_
        refine start_ (n := 30) (S := fun w' => w'.cell? ⟨gb106, 0, none⟩ = some (.string ((rd_T78 l0_1 x3_2).f0)) ∧ w'.cell? ⟨gb106, 1, none⟩ = some (.int .i64 ((rd_T78 l0_1 x3_2).f1)) ∧ w'.cell? ⟨gb106, 2, none⟩ = some (.bool ((rd_T78 l0_1 x3_2).f2)) ∧ w'.cell? ⟨gb101, 0, none⟩ = some (.string a0_0) ∧ w'.cell? ⟨gb101, 1, none⟩ = some (.slice (some ad105) l0_1.length c0_1) ∧ w'.cell? ⟨gb101, 2, none⟩ = some (.int .i64 a0_2) ∧ w'.cell? ⟨gb101, 3, none⟩ = some (.slice A0_3 l0_3.length c0_3)) (ds := []) #[false, false, false, false, false, false, false, false, false, false, false, false, false, false, false, false, false, false, false, false, false, false, false, false, false, false, false, false, false, false] (by kernel_rfl) rfl rfl ⟨(blk_cell BK106.out 0).trans rfl, (blk_cell BK106.out 1).trans rfl, (blk_cell BK106.out 2).trans rfl, (blk_cell BK101.out 0).trans rfl, (blk_cell BK101.out 1).trans rfl, (blk_cell BK101.out 2).trans rfl, (blk_cell BK101.out 3).trans rfl⟩ (fun hHeld => ?_); refine with_tabW spec_TableOK.tab7 spec_TableOK.bits7 (fun HT_ HW_ => ?_)
        generalize w74.drew = w75 at BK101 BK106 HB hHeld ⊢
        refine pu_ 0 (N := some 44) #[true, false, false, false, false, false, false, false, false, false, false, false, false, false, false, false, false, false, false, false, false, false, false, false, false, false, false, false, false, false] HT_.out (h_ := ?_)
        refine tk_ 1 (N := some 45) #[true, true, false, false, false, false, false, false, false, false, false, false, false, false, false, false, false, false, false, false, false, false, false, false, false, false, false, false, false, false] HT_.out HW_.out hHeld (hy := by rintro w' ⟨s0, s1, s2, s3, s4, s5, s6⟩; go_simp; with_reducible rfl) (h_ := ?_)
        refine one_ (i := 2) (N := some 46) #[true, true, true, false, false, false, false, false, false, false, false, false, false, false, false, false, false, false, false, false, false, false, false, false, false, false, false, false, false, false] rfl rfl (one_of HT_.out (by kernel_rfl)) (by decide) (fun K hK => ?_)
        refine goes_ Tryz.func53 (by kernel_rfl) rfl #[.string ((rd_T78 l0_1 x3_2).f0)] (by rfl) rfl rfl z3_ ?_
        with_reducible refine (spec_l09Name.calls k2 ((rd_T78 l0_1 x3_2).f0) true _ A24.out).mono ?_
        rintro e w76 ⟨rfl, hb⟩
        refine ⟨_, rfl, ?_⟩
        have n_ := a3_ (blk_below (g := gb101) (o := .cells #[.string a0_0, .slice (some ad105) l0_1.length c0_1, .int .i64 a0_2, .slice A0_3 l0_3.length c0_3] 35 (0, 0)) z2_ hb) (blk_below (g := gb106) (o := .cells #[.string ((rd_T78 l0_1 x3_2).f0), .int .i64 ((rd_T78 l0_1 x3_2).f1), .bool ((rd_T78 l0_1 x3_2).f2)] 78 (0, 0)) z30_ hb) (below_step z9_ hb)
        clear BK101 BK106 HB
        obtain ⟨BK101, BK106, HB⟩ := n_
        (try clear hb)
        (try clear hb2)
        (try clear hk)
        (try clear hi)
        refine hK.out _ _ ⟨(blk_cell BK106.out 0).trans rfl, (blk_cell BK106.out 1).trans rfl, (blk_cell BK106.out 2).trans rfl, (blk_cell BK101.out 0).trans rfl, (blk_cell BK101.out 1).trans rfl, (blk_cell BK101.out 2).trans rfl, (blk_cell BK101.out 3).trans rfl⟩ (fun hHeld => ?_)
        clear hK K
        refine norm_ (a' := ?_) ?_ ?_
        rotate_left
        ·show Act.put _ (some 46) _ = _
         simp only [Act.put, sz1_, sz2_, sz3_, i64_w, i32_w]
         rfl
        refine pu_ 3 (N := some 47) #[true, true, true, true, false, false, false, false, false, false, false, false, false, false, false, false, false, false, false, false, false, false, false, false, false, false, false, false, false, false] HT_.out (h_ := ?_)
        refine pu_ 4 (N := some 48) #[true, true, true, true, true, false, false, false, false, false, false, false, false, false, false, false, false, false, false, false, false, false, false, false, false, false, false, false, false, false] HT_.out (h_ := ?_)
        refine pu_ 5 (N := some 49) #[true, true, true, true, true, true, false, false, false, false, false, false, false, false, false, false, false, false, false, false, false, false, false, false, false, false, false, false, false, false] HT_.out (h_ := ?_)
        refine tk_ 6 (N := some 50) #[true, true, true, true, true, true, true, false, false, false, false, false, false, false, false, false, false, false, false, false, false, false, false, false, false, false, false, false, false, false] HT_.out HW_.out hHeld (hy := by rintro w' ⟨s0, s1, s2, s3, s4, s5, s6⟩; go_simp; with_reducible rfl) (h_ := ?_)
        refine one_ (i := 7) (N := some 51) #[true, true, true, true, true, true, true, true, false, false, false, false, false, false, false, false, false, false, false, false, false, false, false, false, false, false, false, false, false, false] rfl rfl (one_of HT_.out (by kernel_rfl)) (by decide) (fun K hK => ?_)
        refine goes_ Tryz.func21 (by kernel_rfl) rfl #[.int .i64 ((rd_T78 l0_1 x3_2).f1), .int .i64 1, .int .i64 4] (by rfl) rfl rfl z3_ ?_
        with_reducible refine (spec_l01In.calls ((rd_T78 l0_1 x3_2).f1) 1 4 true _ A26.out).mono ?_
        rintro e w' ⟨rfl, ⟨nd, rfl⟩⟩
        refine ⟨_, rfl, ?_⟩
        have q77 : (x3_2 : Int) ≤ ((l0_1.length : Int) : Int) := of_decide_eq_true z5_
        obtain ⟨i077, hi077, _, hsz77, _⟩ := info_parts info78
        have hroom77 : l0_1.length ≤ c0_1 := HC0_1.out
        have hC77 : Kd.C k78 _ (some ad105) l0_1.length l0_1 := HR0_1.out
        have hcut77 := cut_to (P := Tryz.prog) 32 78 .i64 Tryz.underlying32 hi077 (some ad105) l0_1.length c0_1 x3_2 (of_decide_eq_true z5_) q77 hroom77
        have hr77 := Kd.C_take (m := (x3_2 : Int).toNat) hC77 (by omega)
        have hy77 : y114.length = (x3_2 : Int).toNat := (by rw [Ny114.out, List.length_take]; omega)
        rw [← Ny114.out] at hr77
        rw [← hy77] at hcut77
        have HR117 := ak_ hr77
        have HC117 := ak_ (show y114.length ≤ c0_1 from by omega)
        clear hr77 hC77 hroom77 hi077 hsz77
        have KY77 := ak_ hy77
        clear hy77
        replace q77 := eq_true q77
        refine hK.out _ _ ⟨(blk_cell BK106.out 0).trans rfl, (blk_cell BK106.out 1).trans rfl, (blk_cell BK106.out 2).trans rfl, (blk_cell BK101.out 0).trans rfl, (blk_cell BK101.out 1).trans rfl, (blk_cell BK101.out 2).trans rfl, (blk_cell BK101.out 3).trans rfl⟩ (fun hHeld => ?_)
        clear hK K
        refine norm_ (a' := ?_) ?_ ?_
        rotate_left
        ·show Act.put _ (some 51) _ = _
         simp only [Act.put, sz1_, sz2_, sz3_, i64_w, i32_w]
         rfl
        refine pu_ 8 (N := some 52) #[true, true, true, true, true, true, true, true, true, false, false, false, false, false, false, false, false, false, false, false, false, false, false, false, false, false, false, false, false, false] HT_.out (h_ := ?_)
        refine pu_ 9 (N := some 53) #[true, true, true, true, true, true, true, true, true, true, false, false, false, false, false, false, false, false, false, false, false, false, false, false, false, false, false, false, false, false] HT_.out (h_ := ?_)
        refine pu_ 10 (N := some 54) #[true, true, true, true, true, true, true, true, true, true, true, false, false, false, false, false, false, false, false, false, false, false, false, false, false, false, false, false, false, false] HT_.out (h_ := ?_)
        refine pu_ 11 (N := some 55) #[true, true, true, true, true, true, true, true, true, true, true, true, false, false, false, false, false, false, false, false, false, false, false, false, false, false, false, false, false, false] HT_.out (h_ := ?_)
        refine pu_ 12 (N := some 56) #[true, true, true, true, true, true, true, true, true, true, true, true, true, false, false, false, false, false, false, false, false, false, false, false, false, false, false, false, false, false] HT_.out (h_ := ?_)
        refine tk_ 13 (N := some 57) #[true, true, true, true, true, true, true, true, true, true, true, true, true, true, false, false, false, false, false, false, false, false, false, false, false, false, false, false, false, false] HT_.out HW_.out hHeld (hy := by rintro w' ⟨s0, s1, s2, s3, s4, s5, s6⟩; go_simp; with_reducible rfl) (h_ := ?_)
        refine pu_ 14 (N := some 58) #[true, true, true, true, true, true, true, true, true, true, true, true, true, true, true, false, false, false, false, false, false, false, false, false, false, false, false, false, false, false] HT_.out (h_ := ?_)
        refine pu_ 15 (N := some 59) #[true, true, true, true, true, true, true, true, true, true, true, true, true, true, true, true, false, false, false, false, false, false, false, false, false, false, false, false, false, false] HT_.out (h_ := ?_)
        refine pure_ (i := 16) (N := some 60) (v := undef) (a' := ?_) #[true, true, true, true, true, true, true, true, true, true, true, true, true, true, true, true, true, false, false, false, false, false, false, false, false, false, false, false, false, false] rfl rfl (any_of HT_.out (by kernel_rfl)) (fun _ _ _ h => h) (Or.inr ⟨by rfl, rfl⟩) ?_ ?_
        rotate_left
        ·simp only [Act.put, sz1_, sz2_, sz3_, i64_w, i32_w]
         rfl
        refine pure_ (i := 17) (N := some 61) (v := undef) (a' := ?_) #[true, true, true, true, true, true, true, true, true, true, true, true, true, true, true, true, true, true, false, false, false, false, false, false, false, false, false, false, false, false] rfl rfl (any_of HT_.out (by kernel_rfl)) (fun _ _ _ h => h) (Or.inr ⟨by rfl, rfl⟩) ?_ ?_
        rotate_left
        ·simp only [Act.put, sz1_, sz2_, sz3_, i64_w, i32_w]
         rfl
        refine pu_ 18 (N := some 62) #[true, true, true, true, true, true, true, true, true, true, true, true, true, true, true, true, true, true, true, false, false, false, false, false, false, false, false, false, false, false] HT_.out (h_ := ?_)
        refine pu_ 19 (N := some 63) #[true, true, true, true, true, true, true, true, true, true, true, true, true, true, true, true, true, true, true, true, false, false, false, false, false, false, false, false, false, false] HT_.out (h_ := ?_)
        refine pu_ 20 (N := some 64) #[true, true, true, true, true, true, true, true, true, true, true, true, true, true, true, true, true, true, true, true, true, false, false, false, false, false, false, false, false, false] HT_.out (h_ := ?_)
        refine pu_ 21 (N := some 65) #[true, true, true, true, true, true, true, true, true, true, true, true, true, true, true, true, true, true, true, true, true, true, false, false, false, false, false, false, false, false] HT_.out (h_ := ?_)
        refine pu_ 23 (N := some 67) #[true, true, true, true, true, true, true, true, true, true, true, true, true, true, true, true, true, true, true, true, true, true, false, true, false, false, false, false, false, false] HT_.out (h_ := ?_)
        refine pu_ 25 (N := some 69) #[true, true, true, true, true, true, true, true, true, true, true, true, true, true, true, true, true, true, true, true, true, true, false, true, false, true, false, false, false, false] HT_.out (h_ := ?_)
        refine tk_ 22 (N := some 66) #[true, true, true, true, true, true, true, true, true, true, true, true, true, true, true, true, true, true, true, true, true, true, true, true, false, true, false, false, false, false] HT_.out HW_.out hHeld (hy := by rintro w' ⟨s0, s1, s2, s3, s4, s5, s6⟩; go_simp; with_reducible rfl) (h_ := ?_)
        refine pu_ 24 (N := some 68) #[true, true, true, true, true, true, true, true, true, true, true, true, true, true, true, true, true, true, true, true, true, true, true, true, true, true, false, false, false, false] HT_.out (h_ := ?_)
        refine tk_ 26 (N := some 70) #[true, true, true, true, true, true, true, true, true, true, true, true, true, true, true, true, true, true, true, true, true, true, true, true, true, true, true, false, false, false] HT_.out HW_.out hHeld (hy := by rintro w' ⟨s0, s1, s2, s3, s4, s5, s6⟩; go_simp; with_reducible rfl) (h_ := ?_)
        refine one_ (i := 27) (N := some 71) #[true, true, true, true, true, true, true, true, true, true, true, true, true, true, true, true, true, true, true, true, true, true, true, true, true, true, true, true, false, false] rfl rfl (one_of HT_.out (by kernel_rfl)) (by decide) (fun K hK => ?_)
        refine goes_ Tryz.func54 (by kernel_rfl) rfl #[.slice (some ad105) y114.length c0_1, .string ((rd_T78 l0_1 x3_2).f0)] (by rfl) rfl rfl z3_ ?_
        with_reducible refine (spec_l09Column.calls k2 _ _ y114 ((rd_T78 l0_1 x3_2).f0) t118 _ ?side1 ?side2 A60.out).mono ?_
        (case side1 => repeat (first | exact (Kd.C_below HR117.out z9_) | (with_reducible refine Kd.C_alloc ?_ _) | (with_reducible refine Kd.C_drewN ?_ _) | (with_reducible refine Kd.C_drew ?_)))
        (case side2 => exact HC117.out)
        rintro e w' ⟨rfl, ⟨nd, rfl⟩⟩
        refine ⟨_, rfl, ?_⟩
        refine hK.out _ _ ⟨(blk_cell BK106.out 0).trans rfl, (blk_cell BK106.out 1).trans rfl, (blk_cell BK106.out 2).trans rfl, (blk_cell BK101.out 0).trans rfl, (blk_cell BK101.out 1).trans rfl, (blk_cell BK101.out 2).trans rfl, (blk_cell BK101.out 3).trans rfl⟩ (fun hHeld => ?_)
        clear hK K
        refine norm_ (a' := ?_) ?_ ?_
        rotate_left
        ·show Act.put _ (some 71) _ = _
         simp only [Act.put, sz1_, sz2_, sz3_, i64_w, i32_w]
         rfl
        refine pu_ 28 (N := some 72) #[true, true, true, true, true, true, true, true, true, true, true, true, true, true, true, true, true, true, true, true, true, true, true, true, true, true, true, true, true, false] HT_.out (h_ := ?_)
        refine pu_ 29 (N := some 73) #[true, true, true, true, true, true, true, true, true, true, true, true, true, true, true, true, true, true, true, true, true, true, true, true, true, true, true, true, true, true] HT_.out (h_ := ?_)
        refine done_ (done_of HT_.out (by kernel_rfl)) ?_
        try go_wp2
        go_roundg k2
        case measure => have := HJ1.out; have := HK2.out; omega
        case rel => exact ⟨(wrap64 (x3_2 + 1)), z8_, H', ⟨by have := HJ1.out; have := HK2.out; omega⟩, ⟨z2_⟩, ⟨z9_⟩⟩
      ·rw [if_neg c59] at H
       exact absurd H (by simp)
     rw [if_pos c28] at H
     have c28b0 := decide_eq_true c28
     clear c28
     obtain ⟨bq29, hbq29⟩ : ∃ b_ : Bool, b_ = ((rd_T78 l0_1 x3_2).f2) := ⟨_, rfl⟩
     replace H : (if bq29 = true then (some false) else (if x3_2 ≤ (l0_1.length : Int) then ((spec_l09Column.f k2 (l0_1.take (x3_2 : Int).toNat) ((rd_T78 l0_1 x3_2).f0)).bind fun t113 => (if t113 ≥ 0 then (some false) else (spec_TableOK.l0 k2 (wrap64 (x3_2 + 1)) a0_0 l0_1 a0_2 l0_3))) else (none))) = some r := by rw [← hbq29] at H; exact H
     have Nbq29 := ak_ hbq29
     clear hbq29
     by_cases c30 : bq29 = true
     ·subst c30
      have H1 : (some false) = some r := by rw [if_pos rfl] at H; exact H
      clear H
      have H := H1
      clear H1
      obtain rfl := Option.some.inj H
      obtain ⟨hcz31_0, hcz31_1, hcz31_2, hcz31_3, hfz31_0, hfz31_1, hfz31_2, hfz31_3⟩ := bcf4 BK101.out
      have p105 : 0 ≤ (x3_2 : Int) := of_decide_eq_true z5_
      have q105 : x3_2 < (l0_1.length : Int) := of_decide_eq_true z5_
      obtain ⟨ad105, e105, hx105_0, hx105_1, hx105_2⟩ := at_T78 HR0_1.out x3_2 p105 q105
      (try rw [← Nbq29.out] at hx105_2)
      cases e105
      replace hx105_0 := oc_ HB.out hx105_0
      replace hx105_1 := oc_ HB.out hx105_1
      replace hx105_2 := oc_ HB.out hx105_2
      replace p105 := eq_true p105
      replace q105 := eq_true q105
      try go_wp2_with (first | ((with_reducible refine gate_dst (N := 4) rfl ?_); (try (refine gate_guard (by rfl) ?_; dsimp only)); refine bx_ 4 (cs := #[.string (⟨#[]⟩ : ByteArray), .int .i64 0, .bool false]) (t := 78) (h_ := ?_); intro gb106 hg w32 hbox hb; have n_ := a7_ (blk_below (g := gb101) (o := .cells #[.string a0_0, .slice (some ad105) l0_1.length c0_1, .int .i64 a0_2, .slice A0_3 l0_3.length c0_3] 35 (0, 0)) z2_ hb) (below_step z1_ hb) (hbox) ((gs_ w hg (below_size z1_))) ((gs_ w hg (below_size z1_))) ((z22_ : gb101 ≠ gb106)) ((z23_ : gb106 ≠ gb101)); clear BK101 HB; obtain ⟨BK101, HB, BK106, GW106, GE106, NB101_106, NB106_101⟩ := n_; clear hb hbox hg; have hnb33 := NB106_101.out; have hnc33 := NB101_106.out; obtain ⟨hcz34_0, hcz34_1, hcz34_2, hfz34_0, hfz34_1, hfz34_2⟩ := bcf3 BK106.out))
      have n0_ : Aside0 ((((w32.setCell ⟨gb106, 0, none⟩ (.string ((rd_T78 l0_1 x3_2).f0))).setCell ⟨gb106, 1, none⟩ (.int .i64 ((rd_T78 l0_1 x3_2).f1))).setCell ⟨gb106, 2, none⟩ (.bool true)).heap[gb101]? = some (.cells #[.string a0_0, .slice (some ad105) l0_1.length c0_1, .int .i64 a0_2, .slice A0_3 l0_3.length c0_3] 35 (0, 0))) := ⟨z10_⟩
      have n1_ : Aside0 ((((w32.setCell ⟨gb106, 0, none⟩ (.string ((rd_T78 l0_1 x3_2).f0))).setCell ⟨gb106, 1, none⟩ (.int .i64 ((rd_T78 l0_1 x3_2).f1))).setCell ⟨gb106, 2, none⟩ (.bool true)).heap[gb106]? = some (.cells #[.string ((rd_T78 l0_1 x3_2).f0), .int .i64 ((rd_T78 l0_1 x3_2).f1), .bool true] 78 (0, 0))) := ⟨z12_⟩
      have n2_ : Aside0 (Below w.heap.size w (((w32.setCell ⟨gb106, 0, none⟩ (.string ((rd_T78 l0_1 x3_2).f0))).setCell ⟨gb106, 1, none⟩ (.int .i64 ((rd_T78 l0_1 x3_2).f1))).setCell ⟨gb106, 2, none⟩ (.bool true))) := ⟨z9_⟩
      (try clear BK101)
      (try clear BK106)
      (try clear HB)
      generalize (((w32.setCell ⟨gb106, 0, none⟩ (.string ((rd_T78 l0_1 x3_2).f0))).setCell ⟨gb106, 1, none⟩ (.int .i64 ((rd_T78 l0_1 x3_2).f1))).setCell ⟨gb106, 2, none⟩ (.bool true)) = w35 at n0_ n1_ n2_ ⊢
      have BK101 := n0_
      have BK106 := n1_
      have HB := n2_
      clear n0_ n1_ n2_
      have n_ := a3_ (blk_drew BK101.out) (blk_drew BK106.out) (below_drew1 HB.out)
      clear BK101 BK106 HB
      obtain ⟨BK101, BK106, HB⟩ := n_
      refine start_ (n := 30) (S := fun w' => w'.cell? ⟨gb106, 0, none⟩ = some (.string ((rd_T78 l0_1 x3_2).f0)) ∧ w'.cell? ⟨gb106, 1, none⟩ = some (.int .i64 ((rd_T78 l0_1 x3_2).f1)) ∧ w'.cell? ⟨gb106, 2, none⟩ = some (.bool true) ∧ w'.cell? ⟨gb101, 0, none⟩ = some (.string a0_0) ∧ w'.cell? ⟨gb101, 1, none⟩ = some (.slice (some ad105) l0_1.length c0_1) ∧ w'.cell? ⟨gb101, 2, none⟩ = some (.int .i64 a0_2) ∧ w'.cell? ⟨gb101, 3, none⟩ = some (.slice A0_3 l0_3.length c0_3)) (ds := []) #[false, false, false, false, false, false, false, false, false, false, false, false, false, false, false, false, false, false, false, false, false, false, false, false, false, false, false, false, false, false] (by kernel_rfl) rfl rfl ⟨(blk_cell BK106.out 0).trans rfl, (blk_cell BK106.out 1).trans rfl, (blk_cell BK106.out 2).trans rfl, (blk_cell BK101.out 0).trans rfl, (blk_cell BK101.out 1).trans rfl, (blk_cell BK101.out 2).trans rfl, (blk_cell BK101.out 3).trans rfl⟩ (fun hHeld => ?_); refine with_tabW spec_TableOK.tab7 spec_TableOK.bits7 (fun HT_ HW_ => ?_)
      generalize w35.drew = w36 at BK101 BK106 HB hHeld ⊢
      refine pu_ 0 (N := some 44) #[true, false, false, false, false, false, false, false, false, false, false, false, false, false, false, false, false, false, false, false, false, false, false, false, false, false, false, false, false, false] HT_.out (h_ := ?_)
      refine tk_ 1 (N := some 45) #[true, true, false, false, false, false, false, false, false, false, false, false, false, false, false, false, false, false, false, false, false, false, false, false, false, false, false, false, false, false] HT_.out HW_.out hHeld (hy := by rintro w' ⟨s0, s1, s2, s3, s4, s5, s6⟩; go_simp; with_reducible rfl) (h_ := ?_)
      refine one_ (i := 2) (N := some 46) #[true, true, true, false, false, false, false, false, false, false, false, false, false, false, false, false, false, false, false, false, false, false, false, false, false, false, false, false, false, false] rfl rfl (one_of HT_.out (by kernel_rfl)) (by decide) (fun K hK => ?_)
      refine goes_ Tryz.func53 (by kernel_rfl) rfl #[.string ((rd_T78 l0_1 x3_2).f0)] (by rfl) rfl rfl z3_ ?_
      with_reducible refine (spec_l09Name.calls k2 ((rd_T78 l0_1 x3_2).f0) true _ A24.out).mono ?_
      rintro e w37 ⟨rfl, hb⟩
      refine ⟨_, rfl, ?_⟩
      have n_ := a3_ (blk_below (g := gb101) (o := .cells #[.string a0_0, .slice (some ad105) l0_1.length c0_1, .int .i64 a0_2, .slice A0_3 l0_3.length c0_3] 35 (0, 0)) z2_ hb) (blk_below (g := gb106) (o := .cells #[.string ((rd_T78 l0_1 x3_2).f0), .int .i64 ((rd_T78 l0_1 x3_2).f1), .bool true] 78 (0, 0)) z30_ hb) (below_step z9_ hb)
      clear BK101 BK106 HB
      obtain ⟨BK101, BK106, HB⟩ := n_
      (try clear hb)
      (try clear hb2)
      (try clear hk)
      (try clear hi)
      refine hK.out _ _ ⟨(blk_cell BK106.out 0).trans rfl, (blk_cell BK106.out 1).trans rfl, (blk_cell BK106.out 2).trans rfl, (blk_cell BK101.out 0).trans rfl, (blk_cell BK101.out 1).trans rfl, (blk_cell BK101.out 2).trans rfl, (blk_cell BK101.out 3).trans rfl⟩ (fun hHeld => ?_)
      clear hK K
      refine norm_ (a' := ?_) ?_ ?_
      rotate_left
      ·show Act.put _ (some 46) _ = _
       simp only [Act.put, sz1_, sz2_, sz3_, i64_w, i32_w]
       rfl
      refine pu_ 3 (N := some 47) #[true, true, true, true, false, false, false, false, false, false, false, false, false, false, false, false, false, false, false, false, false, false, false, false, false, false, false, false, false, false] HT_.out (h_ := ?_)
      refine pu_ 4 (N := some 48) #[true, true, true, true, true, false, false, false, false, false, false, false, false, false, false, false, false, false, false, false, false, false, false, false, false, false, false, false, false, false] HT_.out (h_ := ?_)
      refine pu_ 5 (N := some 49) #[true, true, true, true, true, true, false, false, false, false, false, false, false, false, false, false, false, false, false, false, false, false, false, false, false, false, false, false, false, false] HT_.out (h_ := ?_)
      refine tk_ 6 (N := some 50) #[true, true, true, true, true, true, true, false, false, false, false, false, false, false, false, false, false, false, false, false, false, false, false, false, false, false, false, false, false, false] HT_.out HW_.out hHeld (hy := by rintro w' ⟨s0, s1, s2, s3, s4, s5, s6⟩; go_simp; with_reducible rfl) (h_ := ?_)
      refine one_ (i := 7) (N := some 51) #[true, true, true, true, true, true, true, true, false, false, false, false, false, false, false, false, false, false, false, false, false, false, false, false, false, false, false, false, false, false] rfl rfl (one_of HT_.out (by kernel_rfl)) (by decide) (fun K hK => ?_)
      refine goes_ Tryz.func21 (by kernel_rfl) rfl #[.int .i64 ((rd_T78 l0_1 x3_2).f1), .int .i64 1, .int .i64 4] (by rfl) rfl rfl z3_ ?_
      with_reducible refine (spec_l01In.calls ((rd_T78 l0_1 x3_2).f1) 1 4 true _ A26.out).mono ?_
      rintro e w' ⟨rfl, ⟨nd, rfl⟩⟩
      refine ⟨_, rfl, ?_⟩
      refine hK.out _ _ ⟨(blk_cell BK106.out 0).trans rfl, (blk_cell BK106.out 1).trans rfl, (blk_cell BK106.out 2).trans rfl, (blk_cell BK101.out 0).trans rfl, (blk_cell BK101.out 1).trans rfl, (blk_cell BK101.out 2).trans rfl, (blk_cell BK101.out 3).trans rfl⟩ (fun hHeld => ?_)
      clear hK K
      refine norm_ (a' := ?_) ?_ ?_
      rotate_left
      ·show Act.put _ (some 51) _ = _
       simp only [Act.put, sz1_, sz2_, sz3_, i64_w, i32_w]
       rfl
      refine pu_ 8 (N := some 52) #[true, true, true, true, true, true, true, true, true, false, false, false, false, false, false, false, false, false, false, false, false, false, false, false, false, false, false, false, false, false] HT_.out (h_ := ?_)
      refine pu_ 9 (N := some 53) #[true, true, true, true, true, true, true, true, true, true, false, false, false, false, false, false, false, false, false, false, false, false, false, false, false, false, false, false, false, false] HT_.out (h_ := ?_)
      refine pu_ 10 (N := some 54) #[true, true, true, true, true, true, true, true, true, true, true, false, false, false, false, false, false, false, false, false, false, false, false, false, false, false, false, false, false, false] HT_.out (h_ := ?_)
      refine pu_ 11 (N := some 55) #[true, true, true, true, true, true, true, true, true, true, true, true, false, false, false, false, false, false, false, false, false, false, false, false, false, false, false, false, false, false] HT_.out (h_ := ?_)
      refine pu_ 12 (N := some 56) #[true, true, true, true, true, true, true, true, true, true, true, true, true, false, false, false, false, false, false, false, false, false, false, false, false, false, false, false, false, false] HT_.out (h_ := ?_)
      refine tk_ 13 (N := some 57) #[true, true, true, true, true, true, true, true, true, true, true, true, true, true, false, false, false, false, false, false, false, false, false, false, false, false, false, false, false, false] HT_.out HW_.out hHeld (hy := by rintro w' ⟨s0, s1, s2, s3, s4, s5, s6⟩; go_simp; with_reducible rfl) (h_ := ?_)
      refine pu_ 14 (N := some 58) #[true, true, true, true, true, true, true, true, true, true, true, true, true, true, true, false, false, false, false, false, false, false, false, false, false, false, false, false, false, false] HT_.out (h_ := ?_)
      refine pu_ 15 (N := some 59) #[true, true, true, true, true, true, true, true, true, true, true, true, true, true, true, true, false, false, false, false, false, false, false, false, false, false, false, false, false, false] HT_.out (h_ := ?_)
      refine pu_ 16 (N := some 60) #[true, true, true, true, true, true, true, true, true, true, true, true, true, true, true, true, true, false, false, false, false, false, false, false, false, false, false, false, false, false] HT_.out (h_ := ?_)
      refine tk_ 17 (N := some 61) #[true, true, true, true, true, true, true, true, true, true, true, true, true, true, true, true, true, true, false, false, false, false, false, false, false, false, false, false, false, false] HT_.out HW_.out hHeld (hy := by rintro w' ⟨s0, s1, s2, s3, s4, s5, s6⟩; go_simp; with_reducible rfl) (h_ := ?_)
      refine pu_ 18 (N := some 62) #[true, true, true, true, true, true, true, true, true, true, true, true, true, true, true, true, true, true, true, false, false, false, false, false, false, false, false, false, false, false] HT_.out (h_ := ?_)
      refine pu_ 19 (N := some 63) #[true, true, true, true, true, true, true, true, true, true, true, true, true, true, true, true, true, true, true, true, false, false, false, false, false, false, false, false, false, false] HT_.out (h_ := ?_)
      refine pu_ 20 (N := some 64) #[true, true, true, true, true, true, true, true, true, true, true, true, true, true, true, true, true, true, true, true, true, false, false, false, false, false, false, false, false, false] HT_.out (h_ := ?_)
      refine pure_ (i := 21) (N := some 65) (v := undef) (a' := ?_) #[true, true, true, true, true, true, true, true, true, true, true, true, true, true, true, true, true, true, true, true, true, true, false, false, false, false, false, false, false, false] rfl rfl (any_of HT_.out (by kernel_rfl)) (fun _ _ _ h => h) (Or.inr ⟨by rfl, rfl⟩) ?_ ?_
      rotate_left
      ·simp only [Act.put, sz1_, sz2_, sz3_, i64_w, i32_w]
       rfl
      refine pure_ (i := 22) (N := some 66) (v := undef) (a' := ?_) #[true, true, true, true, true, true, true, true, true, true, true, true, true, true, true, true, true, true, true, true, true, true, true, false, false, false, false, false, false, false] rfl rfl (any_of HT_.out (by kernel_rfl)) (fun _ _ _ h => h) (Or.inr ⟨by rfl, rfl⟩) ?_ ?_
      rotate_left
      ·simp only [Act.put, sz1_, sz2_, sz3_, i64_w, i32_w]
       rfl
      refine pure_ (i := 23) (N := some 67) (v := undef) (a' := ?_) #[true, true, true, true, true, true, true, true, true, true, true, true, true, true, true, true, true, true, true, true, true, true, true, true, false, false, false, false, false, false] rfl rfl (any_of HT_.out (by kernel_rfl)) (fun _ _ _ h => h) (Or.inr ⟨by rfl, rfl⟩) ?_ ?_
      rotate_left
      ·simp only [Act.put, sz1_, sz2_, sz3_, i64_w, i32_w]
       rfl
      refine pure_ (i := 24) (N := some 68) (v := undef) (a' := ?_) #[true, true, true, true, true, true, true, true, true, true, true, true, true, true, true, true, true, true, true, true, true, true, true, true, true, false, false, false, false, false] rfl rfl (any_of HT_.out (by kernel_rfl)) (fun _ _ _ h => h) (Or.inr ⟨by rfl, rfl⟩) ?_ ?_
      rotate_left
      ·simp only [Act.put, sz1_, sz2_, sz3_, i64_w, i32_w]
       rfl
      refine pure_ (i := 25) (N := some 69) (v := undef) (a' := ?_) #[true, true, true, true, true, true, true, true, true, true, true, true, true, true, true, true, true, true, true, true, true, true, true, true, true, true, false, false, false, false] rfl rfl (any_of HT_.out (by kernel_rfl)) (fun _ _ _ h => h) (Or.inr ⟨by rfl, rfl⟩) ?_ ?_
      rotate_left
      ·simp only [Act.put, sz1_, sz2_, sz3_, i64_w, i32_w]
       rfl
      refine pure_ (i := 26) (N := some 70) (v := undef) (a' := ?_) #[true, true, true, true, true, true, true, true, true, true, true, true, true, true, true, true, true, true, true, true, true, true, true, true, true, true, true, false, false, false] rfl rfl (any_of HT_.out (by kernel_rfl)) (fun _ _ _ h => h) (Or.inr ⟨by rfl, rfl⟩) ?_ ?_
      rotate_left
      ·simp only [Act.put, sz1_, sz2_, sz3_, i64_w, i32_w]
       rfl
      refine pure_ (i := 27) (N := some 71) (v := undef) (a' := ?_) #[true, true, true, true, true, true, true, true, true, true, true, true, true, true, true, true, true, true, true, true, true, true, true, true, true, true, true, true, false, false] rfl rfl (any_of HT_.out (by kernel_rfl)) (fun _ _ _ h => h) (Or.inr ⟨by rfl, rfl⟩) ?_ ?_
      rotate_left
      ·simp only [Act.put, sz1_, sz2_, sz3_, i64_w, i32_w]
       rfl
      refine pure_ (i := 28) (N := some 72) (v := undef) (a' := ?_) #[true, true, true, true, true, true, true, true, true, true, true, true, true, true, true, true, true, true, true, true, true, true, true, true, true, true, true, true, true, false] rfl rfl (any_of HT_.out (by kernel_rfl)) (fun _ _ _ h => h) (Or.inr ⟨by rfl, rfl⟩) ?_ ?_
      rotate_left
      ·simp only [Act.put, sz1_, sz2_, sz3_, i64_w, i32_w]
       rfl
      refine pu_ 29 (N := some 73) #[true, true, true, true, true, true, true, true, true, true, true, true, true, true, true, true, true, true, true, true, true, true, true, true, true, true, true, true, true, true] HT_.out (h_ := ?_)
      refine done_ (done_of HT_.out (by kernel_rfl)) ?_
      try go_wp2
      go_ret
      exact ⟨z6_, z9_⟩
     replace c30 := Bool.eq_false_iff.mpr c30
     subst c30
     have H1 : (if x3_2 ≤ (l0_1.length : Int) then ((spec_l09Column.f k2 (l0_1.take (x3_2 : Int).toNat) ((rd_T78 l0_1 x3_2).f0)).bind fun t113 => (if t113 ≥ 0 then (some false) else (spec_TableOK.l0 k2 (wrap64 (x3_2 + 1)) a0_0 l0_1 a0_2 l0_3))) else (none)) = some r := by rw [if_neg (show ¬ (false = true) by decide)] at H; exact H
     clear H
     have H := H1
     clear H1
     have c38b0 := eq_true (of_decide_eq_true z5_ : 0 ≤ x3_2)
     by_cases c39 : x3_2 ≤ (l0_1.length : Int)
     rotate_left
     ·rw [if_neg c39] at H
      exact absurd H (by simp)
     rw [if_pos c39] at H
     have c39b0 := eq_true c39
     have c39b1 := decide_eq_true c39
     clear c39
     obtain ⟨y109, hy109⟩ : ∃ y_ : List (S78), y_ = (l0_1.take (x3_2 : Int).toNat) := ⟨_, rfl⟩
     replace H : ((spec_l09Column.f k2 y109 ((rd_T78 l0_1 x3_2).f0)).bind fun t113 => (if t113 ≥ 0 then (some false) else (spec_TableOK.l0 k2 (wrap64 (x3_2 + 1)) a0_0 l0_1 a0_2 l0_3))) = some r := by first | (rw [hy109]; with_reducible exact H) | (have H2_ := (Option.bind_some _ _).symm.trans H; rw [hy109]; with_reducible exact H2_) | (have H2_ := (Option.bind_some _ _).symm.trans H; with_reducible exact H2_) | with_reducible exact H | (rw [hy109]; exact H) | exact H
     have Ny109 := ak_ hy109
     clear hy109
     replace H := Option.bind_eq_some_iff.mp H
     obtain ⟨t113, A400, H⟩ := H
     have A40 := ak_ A400
     clear A400
     by_cases c41 : t113 ≥ 0
     ·rw [if_pos c41] at H
      have c41b0 : decide (0 ≤ t113) = true := decide_eq_true c41
      clear c41
      obtain rfl := Option.some.inj H
      obtain ⟨hcz42_0, hcz42_1, hcz42_2, hcz42_3, hfz42_0, hfz42_1, hfz42_2, hfz42_3⟩ := bcf4 BK101.out
      have p105 : 0 ≤ (x3_2 : Int) := of_decide_eq_true z5_
      have q105 : x3_2 < (l0_1.length : Int) := of_decide_eq_true z5_
      obtain ⟨ad105, e105, hx105_0, hx105_1, hx105_2⟩ := at_T78 HR0_1.out x3_2 p105 q105
      (try rw [← Nbq29.out] at hx105_2)
      cases e105
      replace hx105_0 := oc_ HB.out hx105_0
      replace hx105_1 := oc_ HB.out hx105_1
      replace hx105_2 := oc_ HB.out hx105_2
      replace p105 := eq_true p105
      replace q105 := eq_true q105
      try go_wp2_with (first | ((with_reducible refine gate_dst (N := 4) rfl ?_); (try (refine gate_guard (by rfl) ?_; dsimp only)); refine bx_ 4 (cs := #[.string (⟨#[]⟩ : ByteArray), .int .i64 0, .bool false]) (t := 78) (h_ := ?_); intro gb106 hg w43 hbox hb; have n_ := a7_ (blk_below (g := gb101) (o := .cells #[.string a0_0, .slice (some ad105) l0_1.length c0_1, .int .i64 a0_2, .slice A0_3 l0_3.length c0_3] 35 (0, 0)) z2_ hb) (below_step z1_ hb) (hbox) ((gs_ w hg (below_size z1_))) ((gs_ w hg (below_size z1_))) ((z22_ : gb101 ≠ gb106)) ((z23_ : gb106 ≠ gb101)); clear BK101 HB; obtain ⟨BK101, HB, BK106, GW106, GE106, NB101_106, NB106_101⟩ := n_; clear hb hbox hg; have hnb44 := NB106_101.out; have hnc44 := NB101_106.out; obtain ⟨hcz45_0, hcz45_1, hcz45_2, hfz45_0, hfz45_1, hfz45_2⟩ := bcf3 BK106.out))
      have n0_ : Aside0 ((((w43.setCell ⟨gb106, 0, none⟩ (.string ((rd_T78 l0_1 x3_2).f0))).setCell ⟨gb106, 1, none⟩ (.int .i64 ((rd_T78 l0_1 x3_2).f1))).setCell ⟨gb106, 2, none⟩ (.bool false)).heap[gb101]? = some (.cells #[.string a0_0, .slice (some ad105) l0_1.length c0_1, .int .i64 a0_2, .slice A0_3 l0_3.length c0_3] 35 (0, 0))) := ⟨z10_⟩
      have n1_ : Aside0 ((((w43.setCell ⟨gb106, 0, none⟩ (.string ((rd_T78 l0_1 x3_2).f0))).setCell ⟨gb106, 1, none⟩ (.int .i64 ((rd_T78 l0_1 x3_2).f1))).setCell ⟨gb106, 2, none⟩ (.bool false)).heap[gb106]? = some (.cells #[.string ((rd_T78 l0_1 x3_2).f0), .int .i64 ((rd_T78 l0_1 x3_2).f1), .bool false] 78 (0, 0))) := ⟨z12_⟩
      have n2_ : Aside0 (Below w.heap.size w (((w43.setCell ⟨gb106, 0, none⟩ (.string ((rd_T78 l0_1 x3_2).f0))).setCell ⟨gb106, 1, none⟩ (.int .i64 ((rd_T78 l0_1 x3_2).f1))).setCell ⟨gb106, 2, none⟩ (.bool false))) := ⟨z9_⟩
      (try clear BK101)
      (try clear BK106)
      (try clear HB)
      generalize (((w43.setCell ⟨gb106, 0, none⟩ (.string ((rd_T78 l0_1 x3_2).f0))).setCell ⟨gb106, 1, none⟩ (.int .i64 ((rd_T78 l0_1 x3_2).f1))).setCell ⟨gb106, 2, none⟩ (.bool false)) = w46 at n0_ n1_ n2_ ⊢
      have BK101 := n0_
      have BK106 := n1_
      have HB := n2_
      clear n0_ n1_ n2_
      have n_ := a3_ (blk_drew BK101.out) (blk_drew BK106.out) (below_drew1 HB.out)
      clear BK101 BK106 HB
      obtain ⟨BK101, BK106, HB⟩ := n_
      refine start_ (n := 30) (S := fun w' => w'.cell? ⟨gb106, 0, none⟩ = some (.string ((rd_T78 l0_1 x3_2).f0)) ∧ w'.cell? ⟨gb106, 1, none⟩ = some (.int .i64 ((rd_T78 l0_1 x3_2).f1)) ∧ w'.cell? ⟨gb106, 2, none⟩ = some (.bool false) ∧ w'.cell? ⟨gb101, 0, none⟩ = some (.string a0_0) ∧ w'.cell? ⟨gb101, 1, none⟩ = some (.slice (some ad105) l0_1.length c0_1) ∧ w'.cell? ⟨gb101, 2, none⟩ = some (.int .i64 a0_2) ∧ w'.cell? ⟨gb101, 3, none⟩ = some (.slice A0_3 l0_3.length c0_3)) (ds := []) #[false, false, false, false, false, false, false, false, false, false, false, false, false, false, false, false, false, false, false, false, false, false, false, false, false, false, false, false, false, false] (by kernel_rfl) rfl rfl ⟨(blk_cell BK106.out 0).trans rfl, (blk_cell BK106.out 1).trans rfl, (blk_cell BK106.out 2).trans rfl, (blk_cell BK101.out 0).trans rfl, (blk_cell BK101.out 1).trans rfl, (blk_cell BK101.out 2).trans rfl, (blk_cell BK101.out 3).trans rfl⟩ (fun hHeld => ?_); refine with_tabW spec_TableOK.tab7 spec_TableOK.bits7 (fun HT_ HW_ => ?_)
      generalize w46.drew = w47 at BK101 BK106 HB hHeld ⊢
      refine pu_ 0 (N := some 44) #[true, false, false, false, false, false, false, false, false, false, false, false, false, false, false, false, false, false, false, false, false, false, false, false, false, false, false, false, false, false] HT_.out (h_ := ?_)
      refine tk_ 1 (N := some 45) #[true, true, false, false, false, false, false, false, false, false, false, false, false, false, false, false, false, false, false, false, false, false, false, false, false, false, false, false, false, false] HT_.out HW_.out hHeld (hy := by rintro w' ⟨s0, s1, s2, s3, s4, s5, s6⟩; go_simp; with_reducible rfl) (h_ := ?_)
      refine one_ (i := 2) (N := some 46) #[true, true, true, false, false, false, false, false, false, false, false, false, false, false, false, false, false, false, false, false, false, false, false, false, false, false, false, false, false, false] rfl rfl (one_of HT_.out (by kernel_rfl)) (by decide) (fun K hK => ?_)
      refine goes_ Tryz.func53 (by kernel_rfl) rfl #[.string ((rd_T78 l0_1 x3_2).f0)] (by rfl) rfl rfl z3_ ?_
      with_reducible refine (spec_l09Name.calls k2 ((rd_T78 l0_1 x3_2).f0) true _ A24.out).mono ?_
      rintro e w48 ⟨rfl, hb⟩
      refine ⟨_, rfl, ?_⟩
      have n_ := a3_ (blk_below (g := gb101) (o := .cells #[.string a0_0, .slice (some ad105) l0_1.length c0_1, .int .i64 a0_2, .slice A0_3 l0_3.length c0_3] 35 (0, 0)) z2_ hb) (blk_below (g := gb106) (o := .cells #[.string ((rd_T78 l0_1 x3_2).f0), .int .i64 ((rd_T78 l0_1 x3_2).f1), .bool false] 78 (0, 0)) z30_ hb) (below_step z9_ hb)
      clear BK101 BK106 HB
      obtain ⟨BK101, BK106, HB⟩ := n_
      (try clear hb)
      (try clear hb2)
      (try clear hk)
      (try clear hi)
      refine hK.out _ _ ⟨(blk_cell BK106.out 0).trans rfl, (blk_cell BK106.out 1).trans rfl, (blk_cell BK106.out 2).trans rfl, (blk_cell BK101.out 0).trans rfl, (blk_cell BK101.out 1).trans rfl, (blk_cell BK101.out 2).trans rfl, (blk_cell BK101.out 3).trans rfl⟩ (fun hHeld => ?_)
      clear hK K
      refine norm_ (a' := ?_) ?_ ?_
      rotate_left
      ·show Act.put _ (some 46) _ = _
       simp only [Act.put, sz1_, sz2_, sz3_, i64_w, i32_w]
       rfl
      refine pu_ 3 (N := some 47) #[true, true, true, true, false, false, false, false, false, false, false, false, false, false, false, false, false, false, false, false, false, false, false, false, false, false, false, false, false, false] HT_.out (h_ := ?_)
      refine pu_ 4 (N := some 48) #[true, true, true, true, true, false, false, false, false, false, false, false, false, false, false, false, false, false, false, false, false, false, false, false, false, false, false, false, false, false] HT_.out (h_ := ?_)
      refine pu_ 5 (N := some 49) #[true, true, true, true, true, true, false, false, false, false, false, false, false, false, false, false, false, false, false, false, false, false, false, false, false, false, false, false, false, false] HT_.out (h_ := ?_)
      refine tk_ 6 (N := some 50) #[true, true, true, true, true, true, true, false, false, false, false, false, false, false, false, false, false, false, false, false, false, false, false, false, false, false, false, false, false, false] HT_.out HW_.out hHeld (hy := by rintro w' ⟨s0, s1, s2, s3, s4, s5, s6⟩; go_simp; with_reducible rfl) (h_ := ?_)
      refine one_ (i := 7) (N := some 51) #[true, true, true, true, true, true, true, true, false, false, false, false, false, false, false, false, false, false, false, false, false, false, false, false, false, false, false, false, false, false] rfl rfl (one_of HT_.out (by kernel_rfl)) (by decide) (fun K hK => ?_)
      refine goes_ Tryz.func21 (by kernel_rfl) rfl #[.int .i64 ((rd_T78 l0_1 x3_2).f1), .int .i64 1, .int .i64 4] (by rfl) rfl rfl z3_ ?_
      with_reducible refine (spec_l01In.calls ((rd_T78 l0_1 x3_2).f1) 1 4 true _ A26.out).mono ?_
      rintro e w' ⟨rfl, ⟨nd, rfl⟩⟩
      refine ⟨_, rfl, ?_⟩
      have q49 : (x3_2 : Int) ≤ ((l0_1.length : Int) : Int) := of_decide_eq_true z5_
      obtain ⟨i049, hi049, _, hsz49, _⟩ := info_parts info78
      have hroom49 : l0_1.length ≤ c0_1 := HC0_1.out
      have hC49 : Kd.C k78 _ (some ad105) l0_1.length l0_1 := HR0_1.out
      have hcut49 := cut_to (P := Tryz.prog) 32 78 .i64 Tryz.underlying32 hi049 (some ad105) l0_1.length c0_1 x3_2 (of_decide_eq_true z5_) q49 hroom49
      have hr49 := Kd.C_take (m := (x3_2 : Int).toNat) hC49 (by omega)
      have hy49 : y109.length = (x3_2 : Int).toNat := (by rw [Ny109.out, List.length_take]; omega)
      rw [← Ny109.out] at hr49
      rw [← hy49] at hcut49
      have HR112 := ak_ hr49
      have HC112 := ak_ (show y109.length ≤ c0_1 from by omega)
      clear hr49 hC49 hroom49 hi049 hsz49
      have KY49 := ak_ hy49
      clear hy49
      replace q49 := eq_true q49
      refine hK.out _ _ ⟨(blk_cell BK106.out 0).trans rfl, (blk_cell BK106.out 1).trans rfl, (blk_cell BK106.out 2).trans rfl, (blk_cell BK101.out 0).trans rfl, (blk_cell BK101.out 1).trans rfl, (blk_cell BK101.out 2).trans rfl, (blk_cell BK101.out 3).trans rfl⟩ (fun hHeld => ?_)
      clear hK K
      refine norm_ (a' := ?_) ?_ ?_
      rotate_left
      ·show Act.put _ (some 51) _ = _
       simp only [Act.put, sz1_, sz2_, sz3_, i64_w, i32_w]
       rfl
      refine pu_ 8 (N := some 52) #[true, true, true, true, true, true, true, true, true, false, false, false, false, false, false, false, false, false, false, false, false, false, false, false, false, false, false, false, false, false] HT_.out (h_ := ?_)
      refine pu_ 9 (N := some 53) #[true, true, true, true, true, true, true, true, true, true, false, false, false, false, false, false, false, false, false, false, false, false, false, false, false, false, false, false, false, false] HT_.out (h_ := ?_)
      refine pu_ 10 (N := some 54) #[true, true, true, true, true, true, true, true, true, true, true, false, false, false, false, false, false, false, false, false, false, false, false, false, false, false, false, false, false, false] HT_.out (h_ := ?_)
      refine pu_ 11 (N := some 55) #[true, true, true, true, true, true, true, true, true, true, true, true, false, false, false, false, false, false, false, false, false, false, false, false, false, false, false, false, false, false] HT_.out (h_ := ?_)
      refine pu_ 12 (N := some 56) #[true, true, true, true, true, true, true, true, true, true, true, true, true, false, false, false, false, false, false, false, false, false, false, false, false, false, false, false, false, false] HT_.out (h_ := ?_)
      refine tk_ 13 (N := some 57) #[true, true, true, true, true, true, true, true, true, true, true, true, true, true, false, false, false, false, false, false, false, false, false, false, false, false, false, false, false, false] HT_.out HW_.out hHeld (hy := by rintro w' ⟨s0, s1, s2, s3, s4, s5, s6⟩; go_simp; with_reducible rfl) (h_ := ?_)
      refine pu_ 14 (N := some 58) #[true, true, true, true, true, true, true, true, true, true, true, true, true, true, true, false, false, false, false, false, false, false, false, false, false, false, false, false, false, false] HT_.out (h_ := ?_)
      refine pu_ 15 (N := some 59) #[true, true, true, true, true, true, true, true, true, true, true, true, true, true, true, true, false, false, false, false, false, false, false, false, false, false, false, false, false, false] HT_.out (h_ := ?_)
      refine pu_ 16 (N := some 60) #[true, true, true, true, true, true, true, true, true, true, true, true, true, true, true, true, true, false, false, false, false, false, false, false, false, false, false, false, false, false] HT_.out (h_ := ?_)
      refine tk_ 17 (N := some 61) #[true, true, true, true, true, true, true, true, true, true, true, true, true, true, true, true, true, true, false, false, false, false, false, false, false, false, false, false, false, false] HT_.out HW_.out hHeld (hy := by rintro w' ⟨s0, s1, s2, s3, s4, s5, s6⟩; go_simp; with_reducible rfl) (h_ := ?_)
      refine pu_ 18 (N := some 62) #[true, true, true, true, true, true, true, true, true, true, true, true, true, true, true, true, true, true, true, false, false, false, false, false, false, false, false, false, false, false] HT_.out (h_ := ?_)
      refine pu_ 19 (N := some 63) #[true, true, true, true, true, true, true, true, true, true, true, true, true, true, true, true, true, true, true, true, false, false, false, false, false, false, false, false, false, false] HT_.out (h_ := ?_)
      refine pu_ 20 (N := some 64) #[true, true, true, true, true, true, true, true, true, true, true, true, true, true, true, true, true, true, true, true, true, false, false, false, false, false, false, false, false, false] HT_.out (h_ := ?_)
      refine pu_ 21 (N := some 65) #[true, true, true, true, true, true, true, true, true, true, true, true, true, true, true, true, true, true, true, true, true, true, false, false, false, false, false, false, false, false] HT_.out (h_ := ?_)
      refine pu_ 23 (N := some 67) #[true, true, true, true, true, true, true, true, true, true, true, true, true, true, true, true, true, true, true, true, true, true, false, true, false, false, false, false, false, false] HT_.out (h_ := ?_)
      refine pu_ 25 (N := some 69) #[true, true, true, true, true, true, true, true, true, true, true, true, true, true, true, true, true, true, true, true, true, true, false, true, false, true, false, false, false, false] HT_.out (h_ := ?_)
      refine tk_ 22 (N := some 66) #[true, true, true, true, true, true, true, true, true, true, true, true, true, true, true, true, true, true, true, true, true, true, true, true, false, true, false, false, false, false] HT_.out HW_.out hHeld (hy := by rintro w' ⟨s0, s1, s2, s3, s4, s5, s6⟩; go_simp; with_reducible rfl) (h_ := ?_)
      refine pu_ 24 (N := some 68) #[true, true, true, true, true, true, true, true, true, true, true, true, true, true, true, true, true, true, true, true, true, true, true, true, true, true, false, false, false, false] HT_.out (h_ := ?_)
      refine tk_ 26 (N := some 70) #[true, true, true, true, true, true, true, true, true, true, true, true, true, true, true, true, true, true, true, true, true, true, true, true, true, true, true, false, false, false] HT_.out HW_.out hHeld (hy := by rintro w' ⟨s0, s1, s2, s3, s4, s5, s6⟩; go_simp; with_reducible rfl) (h_ := ?_)
      refine one_ (i := 27) (N := some 71) #[true, true, true, true, true, true, true, true, true, true, true, true, true, true, true, true, true, true, true, true, true, true, true, true, true, true, true, true, false, false] rfl rfl (one_of HT_.out (by kernel_rfl)) (by decide) (fun K hK => ?_)
      refine goes_ Tryz.func54 (by kernel_rfl) rfl #[.slice (some ad105) y109.length c0_1, .string ((rd_T78 l0_1 x3_2).f0)] (by rfl) rfl rfl z3_ ?_
      with_reducible refine (spec_l09Column.calls k2 _ _ y109 ((rd_T78 l0_1 x3_2).f0) t113 _ ?side1 ?side2 A40.out).mono ?_
      (case side1 => repeat (first | exact (Kd.C_below HR112.out z9_) | (with_reducible refine Kd.C_alloc ?_ _) | (with_reducible refine Kd.C_drewN ?_ _) | (with_reducible refine Kd.C_drew ?_)))
      (case side2 => exact HC112.out)
      rintro e w' ⟨rfl, ⟨nd, rfl⟩⟩
      refine ⟨_, rfl, ?_⟩
      refine hK.out _ _ ⟨(blk_cell BK106.out 0).trans rfl, (blk_cell BK106.out 1).trans rfl, (blk_cell BK106.out 2).trans rfl, (blk_cell BK101.out 0).trans rfl, (blk_cell BK101.out 1).trans rfl, (blk_cell BK101.out 2).trans rfl, (blk_cell BK101.out 3).trans rfl⟩ (fun hHeld => ?_)
      clear hK K
      refine norm_ (a' := ?_) ?_ ?_
      rotate_left
      ·show Act.put _ (some 71) _ = _
       simp only [Act.put, sz1_, sz2_, sz3_, i64_w, i32_w]
       rfl
      refine pu_ 28 (N := some 72) #[true, true, true, true, true, true, true, true, true, true, true, true, true, true, true, true, true, true, true, true, true, true, true, true, true, true, true, true, true, false] HT_.out (h_ := ?_)
      refine pu_ 29 (N := some 73) #[true, true, true, true, true, true, true, true, true, true, true, true, true, true, true, true, true, true, true, true, true, true, true, true, true, true, true, true, true, true] HT_.out (h_ := ?_)
      refine done_ (done_of HT_.out (by kernel_rfl)) ?_
      try go_wp2
      go_ret
      exact ⟨z6_, z9_⟩
     rw [if_neg c41] at H
     have c41b0 : decide (0 ≤ t113) = false := decide_eq_false c41
     clear c41
     have H' := ak_ H
     clear H
     obtain ⟨hcz50_0, hcz50_1, hcz50_2, hcz50_3, hfz50_0, hfz50_1, hfz50_2, hfz50_3⟩ := bcf4 BK101.out
     have p105 : 0 ≤ (x3_2 : Int) := of_decide_eq_true z5_
     have q105 : x3_2 < (l0_1.length : Int) := of_decide_eq_true z5_
     obtain ⟨ad105, e105, hx105_0, hx105_1, hx105_2⟩ := at_T78 HR0_1.out x3_2 p105 q105
     (try rw [← Nbq29.out] at hx105_2)
     cases e105
     replace hx105_0 := oc_ HB.out hx105_0
     replace hx105_1 := oc_ HB.out hx105_1
     replace hx105_2 := oc_ HB.out hx105_2
     replace p105 := eq_true p105
     replace q105 := eq_true q105
     try go_wp2_with (first | ((with_reducible refine gate_dst (N := 4) rfl ?_); (try (refine gate_guard (by rfl) ?_; dsimp only)); refine bx_ 4 (cs := #[.string (⟨#[]⟩ : ByteArray), .int .i64 0, .bool false]) (t := 78) (h_ := ?_); intro gb106 hg w51 hbox hb; have n_ := a7_ (blk_below (g := gb101) (o := .cells #[.string a0_0, .slice (some ad105) l0_1.length c0_1, .int .i64 a0_2, .slice A0_3 l0_3.length c0_3] 35 (0, 0)) z2_ hb) (below_step z1_ hb) (hbox) ((gs_ w hg (below_size z1_))) ((gs_ w hg (below_size z1_))) ((z22_ : gb101 ≠ gb106)) ((z23_ : gb106 ≠ gb101)); clear BK101 HB; obtain ⟨BK101, HB, BK106, GW106, GE106, NB101_106, NB106_101⟩ := n_; clear hb hbox hg; have hnb52 := NB106_101.out; have hnc52 := NB101_106.out; obtain ⟨hcz53_0, hcz53_1, hcz53_2, hfz53_0, hfz53_1, hfz53_2⟩ := bcf3 BK106.out))
     have n0_ : Aside0 ((((w51.setCell ⟨gb106, 0, none⟩ (.string ((rd_T78 l0_1 x3_2).f0))).setCell ⟨gb106, 1, none⟩ (.int .i64 ((rd_T78 l0_1 x3_2).f1))).setCell ⟨gb106, 2, none⟩ (.bool false)).heap[gb101]? = some (.cells #[.string a0_0, .slice (some ad105) l0_1.length c0_1, .int .i64 a0_2, .slice A0_3 l0_3.length c0_3] 35 (0, 0))) := ⟨z10_⟩
     have n1_ : Aside0 ((((w51.setCell ⟨gb106, 0, none⟩ (.string ((rd_T78 l0_1 x3_2).f0))).setCell ⟨gb106, 1, none⟩ (.int .i64 ((rd_T78 l0_1 x3_2).f1))).setCell ⟨gb106, 2, none⟩ (.bool false)).heap[gb106]? = some (.cells #[.string ((rd_T78 l0_1 x3_2).f0), .int .i64 ((rd_T78 l0_1 x3_2).f1), .bool false] 78 (0, 0))) := ⟨z12_⟩
     have n2_ : Aside0 (Below w.heap.size w (((w51.setCell ⟨gb106, 0, none⟩ (.string ((rd_T78 l0_1 x3_2).f0))).setCell ⟨gb106, 1, none⟩ (.int .i64 ((rd_T78 l0_1 x3_2).f1))).setCell ⟨gb106, 2, none⟩ (.bool false))) := ⟨z9_⟩
     (try clear BK101)
     (try clear BK106)
     (try clear HB)
     generalize (((w51.setCell ⟨gb106, 0, none⟩ (.string ((rd_T78 l0_1 x3_2).f0))).setCell ⟨gb106, 1, none⟩ (.int .i64 ((rd_T78 l0_1 x3_2).f1))).setCell ⟨gb106, 2, none⟩ (.bool false)) = w54 at n0_ n1_ n2_ ⊢
     have BK101 := n0_
     have BK106 := n1_
     have HB := n2_
     clear n0_ n1_ n2_
     have n_ := a3_ (blk_drew BK101.out) (blk_drew BK106.out) (below_drew1 HB.out)
     clear BK101 BK106 HB
     obtain ⟨BK101, BK106, HB⟩ := n_
     refine start_ (n := 30) (S := fun w' => w'.cell? ⟨gb106, 0, none⟩ = some (.string ((rd_T78 l0_1 x3_2).f0)) ∧ w'.cell? ⟨gb106, 1, none⟩ = some (.int .i64 ((rd_T78 l0_1 x3_2).f1)) ∧ w'.cell? ⟨gb106, 2, none⟩ = some (.bool false) ∧ w'.cell? ⟨gb101, 0, none⟩ = some (.string a0_0) ∧ w'.cell? ⟨gb101, 1, none⟩ = some (.slice (some ad105) l0_1.length c0_1) ∧ w'.cell? ⟨gb101, 2, none⟩ = some (.int .i64 a0_2) ∧ w'.cell? ⟨gb101, 3, none⟩ = some (.slice A0_3 l0_3.length c0_3)) (ds := []) #[false, false, false, false, false, false, false, false, false, false, false, false, false, false, false, false, false, false, false, false, false, false, false, false, false, false, false, false, false, false] (by kernel_rfl) rfl rfl ⟨(blk_cell BK106.out 0).trans rfl, (blk_cell BK106.out 1).trans rfl, (blk_cell BK106.out 2).trans rfl, (blk_cell BK101.out 0).trans rfl, (blk_cell BK101.out 1).trans rfl, (blk_cell BK101.out 2).trans rfl, (blk_cell BK101.out 3).trans rfl⟩ (fun hHeld => ?_); refine with_tabW spec_TableOK.tab7 spec_TableOK.bits7 (fun HT_ HW_ => ?_)
     generalize w54.drew = w55 at BK101 BK106 HB hHeld ⊢
     refine pu_ 0 (N := some 44) #[true, false, false, false, false, false, false, false, false, false, false, false, false, false, false, false, false, false, false, false, false, false, false, false, false, false, false, false, false, false] HT_.out (h_ := ?_)
     refine tk_ 1 (N := some 45) #[true, true, false, false, false, false, false, false, false, false, false, false, false, false, false, false, false, false, false, false, false, false, false, false, false, false, false, false, false, false] HT_.out HW_.out hHeld (hy := by rintro w' ⟨s0, s1, s2, s3, s4, s5, s6⟩; go_simp; with_reducible rfl) (h_ := ?_)
     refine one_ (i := 2) (N := some 46) #[true, true, true, false, false, false, false, false, false, false, false, false, false, false, false, false, false, false, false, false, false, false, false, false, false, false, false, false, false, false] rfl rfl (one_of HT_.out (by kernel_rfl)) (by decide) (fun K hK => ?_)
     refine goes_ Tryz.func53 (by kernel_rfl) rfl #[.string ((rd_T78 l0_1 x3_2).f0)] (by rfl) rfl rfl z3_ ?_
     with_reducible refine (spec_l09Name.calls k2 ((rd_T78 l0_1 x3_2).f0) true _ A24.out).mono ?_
     rintro e w56 ⟨rfl, hb⟩
     refine ⟨_, rfl, ?_⟩
     have n_ := a3_ (blk_below (g := gb101) (o := .cells #[.string a0_0, .slice (some ad105) l0_1.length c0_1, .int .i64 a0_2, .slice A0_3 l0_3.length c0_3] 35 (0, 0)) z2_ hb) (blk_below (g := gb106) (o := .cells #[.string ((rd_T78 l0_1 x3_2).f0), .int .i64 ((rd_T78 l0_1 x3_2).f1), .bool false] 78 (0, 0)) z30_ hb) (below_step z9_ hb)
     clear BK101 BK106 HB
     obtain ⟨BK101, BK106, HB⟩ := n_
     (try clear hb)
     (try clear hb2)
     (try clear hk)
     (try clear hi)
     refine hK.out _ _ ⟨(blk_cell BK106.out 0).trans rfl, (blk_cell BK106.out 1).trans rfl, (blk_cell BK106.out 2).trans rfl, (blk_cell BK101.out 0).trans rfl, (blk_cell BK101.out 1).trans rfl, (blk_cell BK101.out 2).trans rfl, (blk_cell BK101.out 3).trans rfl⟩ (fun hHeld => ?_)
     clear hK K
     refine norm_ (a' := ?_) ?_ ?_
     rotate_left
     ·show Act.put _ (some 46) _ = _
      simp only [Act.put, sz1_, sz2_, sz3_, i64_w, i32_w]
      rfl
     refine pu_ 3 (N := some 47) #[true, true, true, true, false, false, false, false, false, false, false, false, false, false, false, false, false, false, false, false, false, false, false, false, false, false, false, false, false, false] HT_.out (h_ := ?_)
     refine pu_ 4 (N := some 48) #[true, true, true, true, true, false, false, false, false, false, false, false, false, false, false, false, false, false, false, false, false, false, false, false, false, false, false, false, false, false] HT_.out (h_ := ?_)
     refine pu_ 5 (N := some 49) #[true, true, true, true, true, true, false, false, false, false, false, false, false, false, false, false, false, false, false, false, false, false, false, false, false, false, false, false, false, false] HT_.out (h_ := ?_)
     refine tk_ 6 (N := some 50) #[true, true, true, true, true, true, true, false, false, false, false, false, false, false, false, false, false, false, false, false, false, false, false, false, false, false, false, false, false, false] HT_.out HW_.out hHeld (hy := by rintro w' ⟨s0, s1, s2, s3, s4, s5, s6⟩; go_simp; with_reducible rfl) (h_ := ?_)
     refine one_ (i := 7) (N := some 51) #[true, true, true, true, true, true, true, true, false, false, false, false, false, false, false, false, false, false, false, false, false, false, false, false, false, false, false, false, false, false] rfl rfl (one_of HT_.out (by kernel_rfl)) (by decide) (fun K hK => ?_)
     refine goes_ Tryz.func21 (by kernel_rfl) rfl #[.int .i64 ((rd_T78 l0_1 x3_2).f1), .int .i64 1, .int .i64 4] (by rfl) rfl rfl z3_ ?_
     with_reducible refine (spec_l01In.calls ((rd_T78 l0_1 x3_2).f1) 1 4 true _ A26.out).mono ?_
     rintro e w' ⟨rfl, ⟨nd, rfl⟩⟩
     refine ⟨_, rfl, ?_⟩
     have q57 : (x3_2 : Int) ≤ ((l0_1.length : Int) : Int) := of_decide_eq_true z5_
     obtain ⟨i057, hi057, _, hsz57, _⟩ := info_parts info78
     have hroom57 : l0_1.length ≤ c0_1 := HC0_1.out
     have hC57 : Kd.C k78 _ (some ad105) l0_1.length l0_1 := HR0_1.out
     have hcut57 := cut_to (P := Tryz.prog) 32 78 .i64 Tryz.underlying32 hi057 (some ad105) l0_1.length c0_1 x3_2 (of_decide_eq_true z5_) q57 hroom57
     have hr57 := Kd.C_take (m := (x3_2 : Int).toNat) hC57 (by omega)
     have hy57 : y109.length = (x3_2 : Int).toNat := (by rw [Ny109.out, List.length_take]; omega)
     rw [← Ny109.out] at hr57
     rw [← hy57] at hcut57
     have HR112 := ak_ hr57
     have HC112 := ak_ (show y109.length ≤ c0_1 from by omega)
     clear hr57 hC57 hroom57 hi057 hsz57
     have KY57 := ak_ hy57
     clear hy57
     replace q57 := eq_true q57
     refine hK.out _ _ ⟨(blk_cell BK106.out 0).trans rfl, (blk_cell BK106.out 1).trans rfl, (blk_cell BK106.out 2).trans rfl, (blk_cell BK101.out 0).trans rfl, (blk_cell BK101.out 1).trans rfl, (blk_cell BK101.out 2).trans rfl, (blk_cell BK101.out 3).trans rfl⟩ (fun hHeld => ?_)
     clear hK K
     refine norm_ (a' := ?_) ?_ ?_
     rotate_left
     ·show Act.put _ (some 51) _ = _
      simp only [Act.put, sz1_, sz2_, sz3_, i64_w, i32_w]
      rfl
     refine pu_ 8 (N := some 52) #[true, true, true, true, true, true, true, true, true, false, false, false, false, false, false, false, false, false, false, false, false, false, false, false, false, false, false, false, false, false] HT_.out (h_ := ?_)
     refine pu_ 9 (N := some 53) #[true, true, true, true, true, true, true, true, true, true, false, false, false, false, false, false, false, false, false, false, false, false, false, false, false, false, false, false, false, false] HT_.out (h_ := ?_)
     refine pu_ 10 (N := some 54) #[true, true, true, true, true, true, true, true, true, true, true, false, false, false, false, false, false, false, false, false, false, false, false, false, false, false, false, false, false, false] HT_.out (h_ := ?_)
     refine pu_ 11 (N := some 55) #[true, true, true, true, true, true, true, true, true, true, true, true, false, false, false, false, false, false, false, false, false, false, false, false, false, false, false, false, false, false] HT_.out (h_ := ?_)
     refine pu_ 12 (N := some 56) #[true, true, true, true, true, true, true, true, true, true, true, true, true, false, false, false, false, false, false, false, false, false, false, false, false, false, false, false, false, false] HT_.out (h_ := ?_)
     refine tk_ 13 (N := some 57) #[true, true, true, true, true, true, true, true, true, true, true, true, true, true, false, false, false, false, false, false, false, false, false, false, false, false, false, false, false, false] HT_.out HW_.out hHeld (hy := by rintro w' ⟨s0, s1, s2, s3, s4, s5, s6⟩; go_simp; with_reducible rfl) (h_ := ?_)
     refine pu_ 14 (N := some 58) #[true, true, true, true, true, true, true, true, true, true, true, true, true, true, true, false, false, false, false, false, false, false, false, false, false, false, false, false, false, false] HT_.out (h_ := ?_)
     refine pu_ 15 (N := some 59) #[true, true, true, true, true, true, true, true, true, true, true, true, true, true, true, true, false, false, false, false, false, false, false, false, false, false, false, false, false, false] HT_.out (h_ := ?_)
     refine pu_ 16 (N := some 60) #[true, true, true, true, true, true, true, true, true, true, true, true, true, true, true, true, true, false, false, false, false, false, false, false, false, false, false, false, false, false] HT_.out (h_ := ?_)
     refine tk_ 17 (N := some 61) #[true, true, true, true, true, true, true, true, true, true, true, true, true, true, true, true, true, true, false, false, false, false, false, false, false, false, false, false, false, false] HT_.out HW_.out hHeld (hy := by rintro w' ⟨s0, s1, s2, s3, s4, s5, s6⟩; go_simp; with_reducible rfl) (h_ := ?_)
     refine pu_ 18 (N := some 62) #[true, true, true, true, true, true, true, true, true, true, true, true, true, true, true, true, true, true, true, false, false, false, false, false, false, false, false, false, false, false] HT_.out (h_ := ?_)
     refine pu_ 19 (N := some 63) #[true, true, true, true, true, true, true, true, true, true, true, true, true, true, true, true, true, true, true, true, false, false, false, false, false, false, false, false, false, false] HT_.out (h_ := ?_)
     refine pu_ 20 (N := some 64) #[true, true, true, true, true, true, true, true, true, true, true, true, true, true, true, true, true, true, true, true, true, false, false, false, false, false, false, false, false, false] HT_.out (h_ := ?_)
     refine pu_ 21 (N := some 65) #[true, true, true, true, true, true, true, true, true, true, true, true, true, true, true, true, true, true, true, true, true, true, false, false, false, false, false, false, false, false] HT_.out (h_ := ?_)
     refine pu_ 23 (N := some 67) #[true, true, true, true, true, true, true, true, true, true, true, true, true, true, true, true, true, true, true, true, true, true, false, true, false, false, false, false, false, false] HT_.out (h_ := ?_)
     refine pu_ 25 (N := some 69) #[true, true, true, true, true, true, true, true, true, true, true, true, true, true, true, true, true, true, true, true, true, true, false, true, false, true, false, false, false, false] HT_.out (h_ := ?_)
     refine tk_ 22 (N := some 66) #[true, true, true, true, true, true, true, true, true, true, true, true, true, true, true, true, true, true, true, true, true, true, true, true, false, true, false, false, false, false] HT_.out HW_.out hHeld (hy := by rintro w' ⟨s0, s1, s2, s3, s4, s5, s6⟩; go_simp; with_reducible rfl) (h_ := ?_)
     refine pu_ 24 (N := some 68) #[true, true, true, true, true, true, true, true, true, true, true, true, true, true, true, true, true, true, true, true, true, true, true, true, true, true, false, false, false, false] HT_.out (h_ := ?_)
     refine tk_ 26 (N := some 70) #[true, true, true, true, true, true, true, true, true, true, true, true, true, true, true, true, true, true, true, true, true, true, true, true, true, true, true, false, false, false] HT_.out HW_.out hHeld (hy := by rintro w' ⟨s0, s1, s2, s3, s4, s5, s6⟩; go_simp; with_reducible rfl) (h_ := ?_)
     refine one_ (i := 27) (N := some 71) #[true, true, true, true, true, true, true, true, true, true, true, true, true, true, true, true, true, true, true, true, true, true, true, true, true, true, true, true, false, false] rfl rfl (one_of HT_.out (by kernel_rfl)) (by decide) (fun K hK => ?_)
     refine goes_ Tryz.func54 (by kernel_rfl) rfl #[.slice (some ad105) y109.length c0_1, .string ((rd_T78 l0_1 x3_2).f0)] (by rfl) rfl rfl z3_ ?_
     with_reducible refine (spec_l09Column.calls k2 _ _ y109 ((rd_T78 l0_1 x3_2).f0) t113 _ ?side1 ?side2 A40.out).mono ?_
     (case side1 => repeat (first | exact (Kd.C_below HR112.out z9_) | (with_reducible refine Kd.C_alloc ?_ _) | (with_reducible refine Kd.C_drewN ?_ _) | (with_reducible refine Kd.C_drew ?_)))
     (case side2 => exact HC112.out)
     rintro e w' ⟨rfl, ⟨nd, rfl⟩⟩
     refine ⟨_, rfl, ?_⟩
     refine hK.out _ _ ⟨(blk_cell BK106.out 0).trans rfl, (blk_cell BK106.out 1).trans rfl, (blk_cell BK106.out 2).trans rfl, (blk_cell BK101.out 0).trans rfl, (blk_cell BK101.out 1).trans rfl, (blk_cell BK101.out 2).trans rfl, (blk_cell BK101.out 3).trans rfl⟩ (fun hHeld => ?_)
     clear hK K
     refine norm_ (a' := ?_) ?_ ?_
     rotate_left
     ·show Act.put _ (some 71) _ = _
      simp only [Act.put, sz1_, sz2_, sz3_, i64_w, i32_w]
      rfl
     refine pu_ 28 (N := some 72) #[true, true, true, true, true, true, true, true, true, true, true, true, true, true, true, true, true, true, true, true, true, true, true, true, true, true, true, true, true, false] HT_.out (h_ := ?_)
     refine pu_ 29 (N := some 73) #[true, true, true, true, true, true, true, true, true, true, true, true, true, true, true, true, true, true, true, true, true, true, true, true, true, true, true, true, true, true] HT_.out (h_ := ?_)
     refine done_ (done_of HT_.out (by kernel_rfl)) ?_
     try go_wp2
     go_roundg k2
     case measure => have := HJ1.out; have := HK2.out; omega
     case rel => exact ⟨(wrap64 (x3_2 + 1)), z8_, H', ⟨by have := HJ1.out; have := HK2.out; omega⟩, ⟨z2_⟩, ⟨z9_⟩⟩
end Go.Proofs.YtlikagbdhjdggaaGreatDoor.X
