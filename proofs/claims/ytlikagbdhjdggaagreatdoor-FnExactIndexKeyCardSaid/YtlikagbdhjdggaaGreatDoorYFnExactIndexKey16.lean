/- Contracts of functions, and what is told of them. -/
import Derived.Test.YtlikagbdhjdggaaGreatDoorYFnExactIndexKey15
set_option maxHeartbeats 8000000
set_option maxRecDepth 100000
namespace Go.Proofs.YtlikagbdhjdggaaGreatDoor.X
open Go.RowKit Go.Proofs.YtlikagbdhjdggaaGreatDoorW.PrintWords Go.Proofs.YtlikagbdhjdggaaGreatDoorW.PrintLast Go.Proofs.YtlikagbdhjdggaaGreatDoorW.PrintMore
attribute [local go_sem] max2_int min2_int max_two min_two max_three min_three max_four min_four
set_option linter.unusedVariables false
set_option linter.unusedSimpArgs false

mutual
def impl_TableOK.j0 : Nat → Bool → ByteArray → List (S78) → Int → List (S58) → Option (Bool)
 | 0, _, _, _, _, _ => none
 | k + 1, x32, x102000, x102001, x102002, x102003 => if x32 = true then (some false) else (impl_TableOK.l0 k x102001 (x102001.length : Int) 0 x102000 x102001 x102002 x102003)
def impl_TableOK.l0 : Nat → List (S78) → Int → Int → ByteArray → List (S78) → Int → List (S58) → Option (Bool)
 | 0, _, _, _, _, _, _, _ => none
 | k + 1, x34, x35, x36, x102000, x102001, x102002, x102003 => if x36 < x35 then (if 0 ≤ x36 then (if x36 < (x34.length : Int) then ((impl_columnOK.f k ((rd_T78 x34 x36).f0) ((rd_T78 x34 x36).f1) ((rd_T78 x34 x36).f2)).bind fun t107 => (if t107 = true then ((impl_Table_column.f x102000 x102001 x102002 x102003 ((rd_T78 x34 x36).f0)).bind fun t108 => (if t108 = x36 then (if x36 < x102002 then (if (rd_T78 x34 x36).f2 = true then (some false) else (impl_TableOK.l0 k x34 x35 (wrap64 (x36 + 1)) x102000 x102001 x102002 x102003)) else (impl_TableOK.l0 k x34 x35 (wrap64 (x36 + 1)) x102000 x102001 x102002 x102003)) else (some false))) else (some false))) else (none)) else (none)) else (impl_TableOK.l1 k x102003 (x102003.length : Int) 0 x102000 x102001 x102002 x102003)
def impl_TableOK.l1 : Nat → List (S58) → Int → Int → ByteArray → List (S78) → Int → List (S58) → Option (Bool)
 | 0, _, _, _, _, _, _, _ => none
 | k + 1, x64, x65, x66, x102000, x102001, x102002, x102003 => if x66 < x65 then (if 0 ≤ x66 then (if x66 < (x64.length : Int) then ((impl_Table_indexOK.f k x102000 x102001 x102002 x102003 ((rd_T58 x64 x66).f0) ((rd_T58 x64 x66).f1)).bind fun t111 => (if t111 = true then ((impl_Table_index.f x102000 x102001 x102002 x102003 ((rd_T58 x64 x66).f0)).bind fun t112 => (if t112 = x66 then (impl_TableOK.l1 k x64 x65 (wrap64 (x66 + 1)) x102000 x102001 x102002 x102003) else (some false))) else (some false))) else (none)) else (none)) else (some true)
end
def impl_TableOK.f (k : Nat) (a0_0 : ByteArray) (l0_1 : List (S78)) (a0_2 : Int) (l0_3 : List (S58)) : Option (Bool) := (impl_isFree.f k a0_0).bind fun t102 => (if t102 = true then ((impl_within.f (l0_1.length : Int) 1 8).bind fun t103 => (if t103 = true then ((impl_within.f a0_2 1 (l0_1.length : Int)).bind fun t104 => (if t104 = true then (impl_TableOK.j0 k (decide ((l0_3.length : Int) > 4)) a0_0 l0_1 a0_2 l0_3) else (impl_TableOK.j0 k true a0_0 l0_1 a0_2 l0_3))) else (impl_TableOK.j0 k true a0_0 l0_1 a0_2 l0_3))) else (impl_TableOK.j0 k true a0_0 l0_1 a0_2 l0_3))
theorem impl_TableOK.mono_l : ∀ k, (∀ y0 y1 y2 y3 y4, LeO (impl_TableOK.j0 k y0 y1 y2 y3 y4) (impl_TableOK.j0 (k + 1) y0 y1 y2 y3 y4)) ∧ (∀ y0 y1 y2 y3 y4 y5 y6, LeO (impl_TableOK.l0 k y0 y1 y2 y3 y4 y5 y6) (impl_TableOK.l0 (k + 1) y0 y1 y2 y3 y4 y5 y6)) ∧ (∀ y0 y1 y2 y3 y4 y5 y6, LeO (impl_TableOK.l1 k y0 y1 y2 y3 y4 y5 y6) (impl_TableOK.l1 (k + 1) y0 y1 y2 y3 y4 y5 y6))
 | 0 => ⟨fun _ _ _ _ _ r h => by simp [impl_TableOK.j0] at h, fun _ _ _ _ _ _ _ r h => by simp [impl_TableOK.l0] at h, fun _ _ _ _ _ _ _ r h => by simp [impl_TableOK.l1] at h⟩
 | k + 1 => by
  obtain ⟨ih0, ih1, ih2⟩ := impl_TableOK.mono_l k
  refine ⟨?_, ?_, ?_⟩
  rotate_left
  ·intro y0 y1 y2 y3 y4 y5 y6
   unfold impl_TableOK.l0
   repeat' first | with_reducible (first | exact ih0 _ _ _ _ _ | exact ih1 _ _ _ _ _ _ _ | exact ih2 _ _ _ _ _ _ _ | exact impl_Table_indexOK.mono _ _ _ _ _ _ _ | exact impl_columnOK.mono _ _ _ _ | exact impl_isFree.mono _ _ | exact LeO.refl _ | exact LeO.none _ | refine LeO.ite ?_ ?_ | refine LeO.bind ?_ (fun _ => ?_)) | exact ih0 _ _ _ _ _ | exact ih1 _ _ _ _ _ _ _ | exact ih2 _ _ _ _ _ _ _ | exact impl_Table_indexOK.mono _ _ _ _ _ _ _ | exact impl_columnOK.mono _ _ _ _ | exact impl_isFree.mono _ _ | exact LeO.none _ | refine LeO.ite ?_ ?_ | refine LeO.bind ?_ (fun _ => ?_)
  ·intro y0 y1 y2 y3 y4 y5 y6
   unfold impl_TableOK.l1
   repeat' first | with_reducible (first | exact ih0 _ _ _ _ _ | exact ih1 _ _ _ _ _ _ _ | exact ih2 _ _ _ _ _ _ _ | exact impl_Table_indexOK.mono _ _ _ _ _ _ _ | exact impl_columnOK.mono _ _ _ _ | exact impl_isFree.mono _ _ | exact LeO.refl _ | exact LeO.none _ | refine LeO.ite ?_ ?_ | refine LeO.bind ?_ (fun _ => ?_)) | exact ih0 _ _ _ _ _ | exact ih1 _ _ _ _ _ _ _ | exact ih2 _ _ _ _ _ _ _ | exact impl_Table_indexOK.mono _ _ _ _ _ _ _ | exact impl_columnOK.mono _ _ _ _ | exact impl_isFree.mono _ _ | exact LeO.none _ | refine LeO.ite ?_ ?_ | refine LeO.bind ?_ (fun _ => ?_)
  intro y0 y1 y2 y3 y4
  unfold impl_TableOK.j0
  repeat' first | with_reducible (first | exact ih0 _ _ _ _ _ | exact ih1 _ _ _ _ _ _ _ | exact ih2 _ _ _ _ _ _ _ | exact impl_Table_indexOK.mono _ _ _ _ _ _ _ | exact impl_columnOK.mono _ _ _ _ | exact impl_isFree.mono _ _ | exact LeO.refl _ | exact LeO.none _ | refine LeO.ite ?_ ?_ | refine LeO.bind ?_ (fun _ => ?_)) | exact ih0 _ _ _ _ _ | exact ih1 _ _ _ _ _ _ _ | exact ih2 _ _ _ _ _ _ _ | exact impl_Table_indexOK.mono _ _ _ _ _ _ _ | exact impl_columnOK.mono _ _ _ _ | exact impl_isFree.mono _ _ | exact LeO.none _ | refine LeO.ite ?_ ?_ | refine LeO.bind ?_ (fun _ => ?_)
theorem impl_TableOK.mono : ∀ a0 a1 a2 a3 k, LeO (impl_TableOK.f k a0 a1 a2 a3) (impl_TableOK.f (k + 1) a0 a1 a2 a3) := by
 intro a0 a1 a2 a3 k
 obtain ⟨ih0, ih1, ih2⟩ := impl_TableOK.mono_l k
 unfold impl_TableOK.f
 repeat' first
   | (with_reducible exact ih0 _ _ _ _ _)
   | (with_reducible exact ih1 _ _ _ _ _ _ _)
   | (with_reducible exact ih2 _ _ _ _ _ _ _)
   | (with_reducible exact impl_Table_indexOK.mono _ _ _ _ _ _ _)
   | (with_reducible exact impl_columnOK.mono _ _ _ _)
   | (with_reducible exact impl_isFree.mono _ _)
   | (with_reducible exact LeO.refl _)
   | (with_reducible exact LeO.none _)
   | (with_reducible refine LeO.ite ?_ ?_)
   | (with_reducible refine LeO.bind ?_ (fun _ => ?_))
   | exact ih0 _ _ _ _ _
   | exact ih1 _ _ _ _ _ _ _
   | exact ih2 _ _ _ _ _ _ _
   | exact impl_Table_indexOK.mono _ _ _ _ _ _ _
   | exact impl_columnOK.mono _ _ _ _
   | exact impl_isFree.mono _ _
   | exact LeO.none _
   | refine LeO.ite ?_ ?_
   | refine LeO.bind ?_ (fun _ => ?_)
theorem impl_TableOK.calls (k : Nat) (a0_0 : ByteArray) (A0_1 : Option Addr) (c0_1 : Nat) (l0_1 : List (S78)) (a0_2 : Int) (A0_3 : Option Addr) (c0_3 : Nat) (l0_3 : List (S58)) (r : Bool) (w : World) (hr0_1 : Kd.C k78 w A0_1 l0_1.length l0_1) (hc0_1 : l0_1.length ≤ c0_1) (hr0_3 : Kd.C k58 w A0_3 l0_3.length l0_3) (hc0_3 : l0_3.length ≤ c0_3) (h : impl_TableOK.f k a0_0 l0_1 a0_2 l0_3 = some r) :
  Calls Tryz.prog 44 #[.agg #[.string a0_0, .slice A0_1 l0_1.length c0_1, .int .i64 a0_2, .slice A0_3 l0_3.length c0_3]] w fun e w' => e = .returned (.bool r) ∧ Below w.heap.size w w' := by
 have hu35 := Tryz.underlying35
 have hu78 := Tryz.underlying78
 have hu58 := Tryz.underlying58
 have HR0_1 := ak_ hr0_1
 have HC0_1 := ak_ hc0_1
 clear hr0_1 hc0_1
 have HR0_3 := ak_ hr0_3
 have HC0_3 := ak_ hc0_3
 clear hr0_3 hc0_3
 have HB := ak_ (Below.refl w.heap.size w)
 have H := h
 unfold impl_TableOK.f at H
 clear h
 have HC2 := ak_ H
 clear H
 go_enter Tryz.func44, Tryz.ntmps44
 go_upto_region 1 with (first | ((with_reducible refine gate_dst (N := 1) rfl ?_); (try (refine gate_guard (by rfl) ?_; dsimp only)); refine bx_ 1 (cs := #[.string a0_0, .slice A0_1 l0_1.length c0_1, .int .i64 a0_2, .slice A0_3 l0_3.length c0_3]) (t := 35) (h_ := ?_); intro gb101 hg w3 hbox hb; have n_ := a4_ (below_step z0_ hb) (hbox) ((gs_ w hg (below_size z0_))) ((gs_ w hg (below_size z0_))); clear HB; obtain ⟨HB, BK101, GW101, GE101⟩ := n_; clear hb hbox hg))
 (try simp only [Act.put, sz1_, sz2_, sz3_])
 go_cut [32] (fun v32 wc => ∃ (kq : Nat) (x32_1 : Bool), v32 = .bool x32_1 ∧ Aside0 (impl_TableOK.j0 kq x32_1 a0_0 l0_1 a0_2 l0_3 = some r) ∧ Aside0 (kq ≤ k) ∧ Aside0 (wc.heap[gb101]? = some (.cells #[.string a0_0, (.slice A0_1 l0_1.length c0_1), .int .i64 a0_2, (.slice A0_3 l0_3.length c0_3)] 35 (0, 0))) ∧ Aside0 (Below w.heap.size w wc))
 case first =>
  have H := HC2.out
  clear HC2
  replace H := Option.bind_eq_some_iff.mp H
  obtain ⟨t102, A40, H⟩ := H
  have A4 := ak_ A40
  clear A40
  by_cases c5 : t102 = true
  rotate_left
  ·replace c5 := Bool.eq_false_iff.mpr c5
   subst c5
   have H1 : (impl_TableOK.j0 k true a0_0 l0_1 a0_2 l0_3) = some r := by rw [if_neg (show ¬ (false = true) by decide)] at H; exact H
   clear H
   have H := H1
   clear H1
   have H' := ak_ H
   clear H
   obtain ⟨hcz19_0, hcz19_1, hcz19_2, hcz19_3, hfz19_0, hfz19_1, hfz19_2, hfz19_3⟩ := bcf4 BK101.out
   go_wp2_with (first | ((with_reducible refine gate_callee (f := 60) rfl ?_); refine goesL_ (some 9) rfl rfl Tryz.func60 (by kernel_rfl) rfl #[.string a0_0] rfl z3_ ?_; (with_reducible refine (impl_isFree.calls k a0_0 false _ z67_).mono ?_); rintro e w20 ⟨rfl, hb⟩; refine ⟨_, rfl, ?_⟩; have n_ := a2_ (blk_below (g := gb101) (o := .cells #[.string a0_0, .slice A0_1 l0_1.length c0_1, .int .i64 a0_2, .slice A0_3 l0_3.length c0_3] 35 (0, 0)) z2_ hb) (below_step z1_ hb); clear BK101 HB; obtain ⟨BK101, HB⟩ := n_; (try clear hb); (try clear hb2); (try clear hk); (try clear hi)))
   go_meet
   case rel => exact ⟨_, (true), z8_, H', ⟨by first | omega | exact Nat.le_refl _⟩, ⟨z2_⟩, ⟨z1_⟩⟩
  subst c5
  have H1 : ((impl_within.f (l0_1.length : Int) 1 8).bind fun t103 => (if t103 = true then ((impl_within.f a0_2 1 (l0_1.length : Int)).bind fun t104 => (if t104 = true then (impl_TableOK.j0 k (decide ((l0_3.length : Int) > 4)) a0_0 l0_1 a0_2 l0_3) else (impl_TableOK.j0 k true a0_0 l0_1 a0_2 l0_3))) else (impl_TableOK.j0 k true a0_0 l0_1 a0_2 l0_3))) = some r := by rw [if_pos rfl] at H; exact H
  clear H
  have H := H1
  clear H1
  replace H := Option.bind_eq_some_iff.mp H
  obtain ⟨t103, A60, H⟩ := H
  have A6 := ak_ A60
  clear A60
  by_cases c7 : t103 = true
  rotate_left
  ·replace c7 := Bool.eq_false_iff.mpr c7
   subst c7
   have H1 : (impl_TableOK.j0 k true a0_0 l0_1 a0_2 l0_3) = some r := by rw [if_neg (show ¬ (false = true) by decide)] at H; exact H
   clear H
   have H := H1
   clear H1
   have H' := ak_ H
   clear H
   obtain ⟨hcz16_0, hcz16_1, hcz16_2, hcz16_3, hfz16_0, hfz16_1, hfz16_2, hfz16_3⟩ := bcf4 BK101.out
   go_wp2_with (first | ((with_reducible refine gate_callee (f := 60) rfl ?_); refine goesL_ (some 9) rfl rfl Tryz.func60 (by kernel_rfl) rfl #[.string a0_0] rfl z3_ ?_; (with_reducible refine (impl_isFree.calls k a0_0 true _ z67_).mono ?_); rintro e w17 ⟨rfl, hb⟩; refine ⟨_, rfl, ?_⟩; have n_ := a2_ (blk_below (g := gb101) (o := .cells #[.string a0_0, .slice A0_1 l0_1.length c0_1, .int .i64 a0_2, .slice A0_3 l0_3.length c0_3] 35 (0, 0)) z2_ hb) (below_step z1_ hb); clear BK101 HB; obtain ⟨BK101, HB⟩ := n_; (try clear hb); (try clear hb2); (try clear hk); (try clear hi); obtain ⟨hcz18_0, hcz18_1, hcz18_2, hcz18_3, hfz18_0, hfz18_1, hfz18_2, hfz18_3⟩ := bcf4 BK101.out) | (go_at_call 28; (with_reducible refine (impl_within.calls (l0_1.length : Int) 1 8 false _ z82_).mono ?_); rintro e w' ⟨rfl, ⟨nd, rfl⟩⟩))
   go_meet
   case rel => exact ⟨_, (true), z8_, H', ⟨by first | omega | exact Nat.le_refl _⟩, ⟨z2_⟩, ⟨z1_⟩⟩
  subst c7
  have H1 : ((impl_within.f a0_2 1 (l0_1.length : Int)).bind fun t104 => (if t104 = true then (impl_TableOK.j0 k (decide ((l0_3.length : Int) > 4)) a0_0 l0_1 a0_2 l0_3) else (impl_TableOK.j0 k true a0_0 l0_1 a0_2 l0_3))) = some r := by rw [if_pos rfl] at H; exact H
  clear H
  have H := H1
  clear H1
  replace H := Option.bind_eq_some_iff.mp H
  obtain ⟨t104, A80, H⟩ := H
  have A8 := ak_ A80
  clear A80
  by_cases c9 : t104 = true
  ·subst c9
   have H1 : (impl_TableOK.j0 k (decide ((l0_3.length : Int) > 4)) a0_0 l0_1 a0_2 l0_3) = some r := by rw [if_pos rfl] at H; exact H
   clear H
   have H := H1
   clear H1
   have H' := ak_ H
   clear H
   obtain ⟨hcz10_0, hcz10_1, hcz10_2, hcz10_3, hfz10_0, hfz10_1, hfz10_2, hfz10_3⟩ := bcf4 BK101.out
   go_wp2_with (first | ((with_reducible refine gate_callee (f := 60) rfl ?_); refine goesL_ (some 9) rfl rfl Tryz.func60 (by kernel_rfl) rfl #[.string a0_0] rfl z3_ ?_; (with_reducible refine (impl_isFree.calls k a0_0 true _ z67_).mono ?_); rintro e w11 ⟨rfl, hb⟩; refine ⟨_, rfl, ?_⟩; have n_ := a2_ (blk_below (g := gb101) (o := .cells #[.string a0_0, .slice A0_1 l0_1.length c0_1, .int .i64 a0_2, .slice A0_3 l0_3.length c0_3] 35 (0, 0)) z2_ hb) (below_step z1_ hb); clear BK101 HB; obtain ⟨BK101, HB⟩ := n_; (try clear hb); (try clear hb2); (try clear hk); (try clear hi); obtain ⟨hcz12_0, hcz12_1, hcz12_2, hcz12_3, hfz12_0, hfz12_1, hfz12_2, hfz12_3⟩ := bcf4 BK101.out) | (go_at_call 28; (with_reducible refine (impl_within.calls (l0_1.length : Int) 1 8 true _ z82_).mono ?_); rintro e w' ⟨rfl, ⟨nd, rfl⟩⟩) | (go_at_call 28; (with_reducible refine (impl_within.calls a0_2 1 (l0_1.length : Int) true _ (by first | (with_reducible exact A8.out) | (have a_ := A8.out; rw [← Nbq31.out] at a_; exact a_))).mono ?_); rintro e w' ⟨rfl, ⟨nd, rfl⟩⟩))
   go_meet
   case rel => exact ⟨_, (decide ((l0_3.length : Int) > 4)), z8_, H', ⟨by first | omega | exact Nat.le_refl _⟩, ⟨z2_⟩, ⟨z1_⟩⟩
  replace c9 := Bool.eq_false_iff.mpr c9
  subst c9
  have H1 : (impl_TableOK.j0 k true a0_0 l0_1 a0_2 l0_3) = some r := by rw [if_neg (show ¬ (false = true) by decide)] at H; exact H
  clear H
  have H := H1
  clear H1
  have H' := ak_ H
  clear H
  obtain ⟨hcz13_0, hcz13_1, hcz13_2, hcz13_3, hfz13_0, hfz13_1, hfz13_2, hfz13_3⟩ := bcf4 BK101.out
  go_wp2_with (first | ((with_reducible refine gate_callee (f := 60) rfl ?_); refine goesL_ (some 9) rfl rfl Tryz.func60 (by kernel_rfl) rfl #[.string a0_0] rfl z3_ ?_; (with_reducible refine (impl_isFree.calls k a0_0 true _ z67_).mono ?_); rintro e w14 ⟨rfl, hb⟩; refine ⟨_, rfl, ?_⟩; have n_ := a2_ (blk_below (g := gb101) (o := .cells #[.string a0_0, .slice A0_1 l0_1.length c0_1, .int .i64 a0_2, .slice A0_3 l0_3.length c0_3] 35 (0, 0)) z2_ hb) (below_step z1_ hb); clear BK101 HB; obtain ⟨BK101, HB⟩ := n_; (try clear hb); (try clear hb2); (try clear hk); (try clear hi); obtain ⟨hcz15_0, hcz15_1, hcz15_2, hcz15_3, hfz15_0, hfz15_1, hfz15_2, hfz15_3⟩ := bcf4 BK101.out) | (go_at_call 28; (with_reducible refine (impl_within.calls (l0_1.length : Int) 1 8 true _ z82_).mono ?_); rintro e w' ⟨rfl, ⟨nd, rfl⟩⟩) | (go_at_call 28; (with_reducible refine (impl_within.calls a0_2 1 (l0_1.length : Int) false _ (by first | (with_reducible exact A8.out) | (have a_ := A8.out; rw [← Nbq31.out] at a_; exact a_))).mono ?_); rintro e w' ⟨rfl, ⟨nd, rfl⟩⟩))
  go_meet
  case rel => exact ⟨_, (true), z8_, H', ⟨by first | omega | exact Nat.le_refl _⟩, ⟨z2_⟩, ⟨z1_⟩⟩
 case rest =>
  clear HC2
  try clear p2
  try clear c4
  try clear c5
  try clear c6
  try clear c7
  try clear c9
  try clear hcz10_0
  try clear hcz10_1
  try clear hcz10_2
  try clear hcz10_3
  try clear hcz12_0
  try clear hcz12_1
  try clear hcz12_2
  try clear hcz12_3
  try clear hcz13_0
  try clear hcz13_1
  try clear hcz13_2
  try clear hcz13_3
  try clear hcz15_0
  try clear hcz15_1
  try clear hcz15_2
  try clear hcz15_3
  try clear hcz16_0
  try clear hcz16_1
  try clear hcz16_2
  try clear hcz16_3
  try clear hcz18_0
  try clear hcz18_1
  try clear hcz18_2
  try clear hcz18_3
  try clear hcz19_0
  try clear hcz19_1
  try clear hcz19_2
  try clear hcz19_3
  try clear hfz10_0
  try clear hfz10_1
  try clear hfz10_2
  try clear hfz10_3
  try clear hfz12_0
  try clear hfz12_1
  try clear hfz12_2
  try clear hfz12_3
  try clear hfz13_0
  try clear hfz13_1
  try clear hfz13_2
  try clear hfz13_3
  try clear hfz15_0
  try clear hfz15_1
  try clear hfz15_2
  try clear hfz15_3
  try clear hfz16_0
  try clear hfz16_1
  try clear hfz16_2
  try clear hfz16_3
  try clear hfz18_0
  try clear hfz18_1
  try clear hfz18_2
  try clear hfz18_3
  try clear hfz19_0
  try clear hfz19_1
  try clear hfz19_2
  try clear hfz19_3
  obtain ⟨kq, x32_1, rfl, HA, HJ1, BK101, HB⟩ := hcut
  cases kq with
  | zero => exact absurd HA.out (by simp [impl_TableOK.j0])
  | succ kj1 =>
   have H := HA.out
   clear HA
   simp only [impl_TableOK.j0] at H
   by_cases c21 : x32_1 = true
   ·subst c21
    have H1 : (some false) = some r := by rw [if_pos rfl] at H; exact H
    clear H
    have H := H1
    clear H1
    obtain rfl := Option.some.inj H
    go_wp2
    go_ret
    exact ⟨z6_, z1_⟩
   replace c21 := Bool.eq_false_iff.mpr c21
   subst c21
   have H1 : (impl_TableOK.l0 kj1 l0_1 (l0_1.length : Int) 0 a0_0 l0_1 a0_2 l0_3) = some r := by rw [if_neg (show ¬ (false = true) by decide)] at H; exact H
   clear H
   have H := H1
   clear H1
   have H' := ak_ H
   clear H
   obtain ⟨hcz22_0, hcz22_1, hcz22_2, hcz22_3, hfz22_0, hfz22_1, hfz22_2, hfz22_3⟩ := bcf4 BK101.out
   go_wp2
   go_loopg [36] kj1 (fun kq v36 w' => ∃ (x36_2 : Int), v36 = .int .i64 x36_2 ∧ Aside0 (impl_TableOK.l0 kq l0_1 (l0_1.length : Int) x36_2 a0_0 l0_1 a0_2 l0_3 = some r) ∧ Aside0 (kq ≤ kj1) ∧ Aside0 (w'.heap[gb101]? = some (.cells #[.string a0_0, (.slice A0_1 l0_1.length c0_1), .int .i64 a0_2, (.slice A0_3 l0_3.length c0_3)] 35 (0, 0))) ∧ Aside0 (Below w.heap.size w w'))
   case atStart => exact ⟨(0), z8_, H', ⟨Nat.le_refl _⟩, ⟨z2_⟩, ⟨z1_⟩⟩
   case round =>
    clear H'
    try clear c2
    try clear p2
    try clear c4
    try clear c5
    try clear c6
    try clear c7
    try clear c9
    try clear c21
    try clear hcz10_0
    try clear hcz10_1
    try clear hcz10_2
    try clear hcz10_3
    try clear hcz12_0
    try clear hcz12_1
    try clear hcz12_2
    try clear hcz12_3
    try clear hcz13_0
    try clear hcz13_1
    try clear hcz13_2
    try clear hcz13_3
    try clear hcz15_0
    try clear hcz15_1
    try clear hcz15_2
    try clear hcz15_3
    try clear hcz16_0
    try clear hcz16_1
    try clear hcz16_2
    try clear hcz16_3
    try clear hcz18_0
    try clear hcz18_1
    try clear hcz18_2
    try clear hcz18_3
    try clear hcz19_0
    try clear hcz19_1
    try clear hcz19_2
    try clear hcz19_3
    try clear hcz22_0
    try clear hcz22_1
    try clear hcz22_2
    try clear hcz22_3
    try clear hfz10_0
    try clear hfz10_1
    try clear hfz10_2
    try clear hfz10_3
    try clear hfz12_0
    try clear hfz12_1
    try clear hfz12_2
    try clear hfz12_3
    try clear hfz13_0
    try clear hfz13_1
    try clear hfz13_2
    try clear hfz13_3
    try clear hfz15_0
    try clear hfz15_1
    try clear hfz15_2
    try clear hfz15_3
    try clear hfz16_0
    try clear hfz16_1
    try clear hfz16_2
    try clear hfz16_3
    try clear hfz18_0
    try clear hfz18_1
    try clear hfz18_2
    try clear hfz18_3
    try clear hfz19_0
    try clear hfz19_1
    try clear hfz19_2
    try clear hfz19_3
    try clear hfz22_0
    try clear hfz22_1
    try clear hfz22_2
    try clear hfz22_3
    try clear p2
    obtain ⟨x36_2, rfl, HA, HK2, BK101, HB⟩ := hrel
    cases gk with
    | zero => exact absurd HA.out (by simp [impl_TableOK.l0])
    | succ k2 =>
     have H := HA.out
     clear HA
     simp only [impl_TableOK.l0] at H
     by_cases c23 : x36_2 < (l0_1.length : Int)
     ·rw [if_pos c23] at H
      have c23b0 := decide_eq_true c23
      clear c23
      by_cases c24 : 0 ≤ x36_2
      ·rw [if_pos c24] at H
       have c24b0 := decide_eq_true c24
       clear c24
       by_cases c25 : x36_2 < (l0_1.length : Int)
       ·rw [if_pos c25] at H
        have c25b0 := decide_eq_true c25
        clear c25
        replace H := Option.bind_eq_some_iff.mp H
        obtain ⟨t107, A260, H⟩ := H
        have A26 := ak_ A260
        clear A260
        by_cases c27 : t107 = true
        ·subst c27
         have H1 : ((impl_Table_column.f a0_0 l0_1 a0_2 l0_3 ((rd_T78 l0_1 x36_2).f0)).bind fun t108 => (if t108 = x36_2 then (if x36_2 < a0_2 then (if (rd_T78 l0_1 x36_2).f2 = true then (some false) else (impl_TableOK.l0 k2 l0_1 (l0_1.length : Int) (wrap64 (x36_2 + 1)) a0_0 l0_1 a0_2 l0_3)) else (impl_TableOK.l0 k2 l0_1 (l0_1.length : Int) (wrap64 (x36_2 + 1)) a0_0 l0_1 a0_2 l0_3)) else (some false))) = some r := by rw [if_pos rfl] at H; exact H
         clear H
         have H := H1
         clear H1
         replace H := Option.bind_eq_some_iff.mp H
         obtain ⟨t108, A280, H⟩ := H
         have A28 := ak_ A280
         clear A280
         by_cases c29 : t108 = x36_2
         ·rw [if_pos c29] at H
          have c29b0 : (t108 == x36_2) = true := beq_iff_eq.mpr c29
          have c29b1 : (t108 != x36_2) = false := bne_eq_false_iff_eq.mpr c29
          clear c29
          by_cases c30 : x36_2 < a0_2
          ·rw [if_pos c30] at H
           have c30b0 := decide_eq_true c30
           clear c30
           obtain ⟨bq31, hbq31⟩ : ∃ b_ : Bool, b_ = ((rd_T78 l0_1 x36_2).f2) := ⟨_, rfl⟩
           replace H : (if bq31 = true then (some false) else (impl_TableOK.l0 k2 l0_1 (l0_1.length : Int) (wrap64 (x36_2 + 1)) a0_0 l0_1 a0_2 l0_3)) = some r := by rw [← hbq31] at H; exact H
           have Nbq31 := ak_ hbq31
           clear hbq31
           by_cases c32 : bq31 = true
           ·subst c32
            have H1 : (some false) = some r := by rw [if_pos rfl] at H; exact H
            clear H
            have H := H1
            clear H1
            obtain rfl := Option.some.inj H
            have p105 : 0 ≤ (x36_2 : Int) := of_decide_eq_true z5_
            have q105 : x36_2 < (l0_1.length : Int) := of_decide_eq_true z5_
            obtain ⟨ad105, e105, hx105_0, hx105_1, hx105_2⟩ := at_T78 HR0_1.out x36_2 p105 q105
            (try rw [← Nbq31.out] at hx105_2)
            cases e105
            replace hx105_0 := oc_ HB.out hx105_0
            replace hx105_1 := oc_ HB.out hx105_1
            replace hx105_2 := oc_ HB.out hx105_2
            replace p105 := eq_true p105
            replace q105 := eq_true q105
            go_wp2_with (first | ((with_reducible refine gate_dst (N := 4) rfl ?_); (try (refine gate_guard (by rfl) ?_; dsimp only)); refine bx_ 4 (cs := #[.string (⟨#[]⟩ : ByteArray), .int .i64 0, .bool false]) (t := 78) (h_ := ?_); intro gb106 hg w33 hbox hb; have n_ := a7_ (blk_below (g := gb101) (o := .cells #[.string a0_0, .slice (some ad105) l0_1.length c0_1, .int .i64 a0_2, .slice A0_3 l0_3.length c0_3] 35 (0, 0)) z2_ hb) (below_step z1_ hb) (hbox) ((gs_ w hg (below_size z1_))) ((gs_ w hg (below_size z1_))) ((z22_ : gb101 ≠ gb106)) ((z23_ : gb106 ≠ gb101)); clear BK101 HB; obtain ⟨BK101, HB, BK106, GW106, GE106, NB101_106, NB106_101⟩ := n_; clear hb hbox hg; have hnb34 := NB106_101.out; have hnc34 := NB101_106.out; obtain ⟨hcz35_0, hcz35_1, hcz35_2, hfz35_0, hfz35_1, hfz35_2⟩ := bcf3 BK106.out) | ((with_reducible refine gate_callee (f := 61) rfl ?_); refine goesL_ (some 42) rfl rfl Tryz.func61 (by kernel_rfl) rfl #[.agg #[.string ((rd_T78 l0_1 x36_2).f0), .int .i64 ((rd_T78 l0_1 x36_2).f1), .bool true]] rfl z3_ ?_; (with_reducible refine (impl_columnOK.calls k2 ((rd_T78 l0_1 x36_2).f0) ((rd_T78 l0_1 x36_2).f1) true true _ z53_).mono ?_); rintro e w36 ⟨rfl, hb⟩; refine ⟨_, rfl, ?_⟩; have n_ := a3_ (blk_below (g := gb101) (o := .cells #[.string a0_0, .slice (some ad105) l0_1.length c0_1, .int .i64 a0_2, .slice A0_3 l0_3.length c0_3] 35 (0, 0)) z10_ hb) (blk_below (g := gb106) (o := .cells #[.string ((rd_T78 l0_1 x36_2).f0), .int .i64 ((rd_T78 l0_1 x36_2).f1), .bool true] 78 (0, 0)) z16_ hb) (below_step z9_ hb); clear BK101 BK106 HB; obtain ⟨BK101, BK106, HB⟩ := n_; (try clear hb); (try clear hb2); (try clear hk); (try clear hi); obtain ⟨hcz37_0, hcz37_1, hcz37_2, hcz37_3, hfz37_0, hfz37_1, hfz37_2, hfz37_3⟩ := bcf4 BK101.out; obtain ⟨hcz38_0, hcz38_1, hcz38_2, hfz38_0, hfz38_1, hfz38_2⟩ := bcf3 BK106.out) | (go_at_call 62; (with_reducible refine (impl_Table_column.calls a0_0 _ _ l0_1 a0_2 _ _ l0_3 ((rd_T78 l0_1 x36_2).f0) t108 _ ?side1 ?side2 ?side3 ?side4 z65_).mono ?_); (case side1 => exact cz_ ((Kd.C_below HR0_1.out HB.out))); (case side2 => exact HC0_1.out); (case side3 => exact cz_ ((Kd.C_below HR0_3.out HB.out))); (case side4 => exact HC0_3.out); rintro e w39 ⟨rfl, hb⟩; have n_ := a3_ (blk_below (g := gb101) (o := .cells #[.string a0_0, .slice (some ad105) l0_1.length c0_1, .int .i64 a0_2, .slice A0_3 l0_3.length c0_3] 35 (0, 0)) z2_ hb) (blk_below (g := gb106) (o := .cells #[.string ((rd_T78 l0_1 x36_2).f0), .int .i64 ((rd_T78 l0_1 x36_2).f1), .bool true] 78 (0, 0)) z30_ hb) (below_step z9_ hb); clear BK101 BK106 HB; obtain ⟨BK101, BK106, HB⟩ := n_; (try clear hb); (try clear hb2); (try clear hk); (try clear hi); obtain ⟨hcz40_0, hcz40_1, hcz40_2, hcz40_3, hfz40_0, hfz40_1, hfz40_2, hfz40_3⟩ := bcf4 BK101.out; obtain ⟨hcz41_0, hcz41_1, hcz41_2, hfz41_0, hfz41_1, hfz41_2⟩ := bcf3 BK106.out))
            go_ret
            exact ⟨z6_, z9_⟩
           ·replace c32 := Bool.eq_false_iff.mpr c32
            subst c32
            have H1 : (impl_TableOK.l0 k2 l0_1 (l0_1.length : Int) (wrap64 (x36_2 + 1)) a0_0 l0_1 a0_2 l0_3) = some r := by rw [if_neg (show ¬ (false = true) by decide)] at H; exact H
            clear H
            have H := H1
            clear H1
            have H' := ak_ H
            clear H
            have p105 : 0 ≤ (x36_2 : Int) := of_decide_eq_true z5_
            have q105 : x36_2 < (l0_1.length : Int) := of_decide_eq_true z5_
            obtain ⟨ad105, e105, hx105_0, hx105_1, hx105_2⟩ := at_T78 HR0_1.out x36_2 p105 q105
            (try rw [← Nbq31.out] at hx105_2)
            cases e105
            replace hx105_0 := oc_ HB.out hx105_0
            replace hx105_1 := oc_ HB.out hx105_1
            replace hx105_2 := oc_ HB.out hx105_2
            replace p105 := eq_true p105
            replace q105 := eq_true q105
            go_wp2_with (first | ((with_reducible refine gate_dst (N := 4) rfl ?_); (try (refine gate_guard (by rfl) ?_; dsimp only)); refine bx_ 4 (cs := #[.string (⟨#[]⟩ : ByteArray), .int .i64 0, .bool false]) (t := 78) (h_ := ?_); intro gb106 hg w42 hbox hb; have n_ := a7_ (blk_below (g := gb101) (o := .cells #[.string a0_0, .slice (some ad105) l0_1.length c0_1, .int .i64 a0_2, .slice A0_3 l0_3.length c0_3] 35 (0, 0)) z2_ hb) (below_step z1_ hb) (hbox) ((gs_ w hg (below_size z1_))) ((gs_ w hg (below_size z1_))) ((z22_ : gb101 ≠ gb106)) ((z23_ : gb106 ≠ gb101)); clear BK101 HB; obtain ⟨BK101, HB, BK106, GW106, GE106, NB101_106, NB106_101⟩ := n_; clear hb hbox hg; have hnb43 := NB106_101.out; have hnc43 := NB101_106.out; obtain ⟨hcz44_0, hcz44_1, hcz44_2, hfz44_0, hfz44_1, hfz44_2⟩ := bcf3 BK106.out) | ((with_reducible refine gate_callee (f := 61) rfl ?_); refine goesL_ (some 42) rfl rfl Tryz.func61 (by kernel_rfl) rfl #[.agg #[.string ((rd_T78 l0_1 x36_2).f0), .int .i64 ((rd_T78 l0_1 x36_2).f1), .bool false]] rfl z3_ ?_; (with_reducible refine (impl_columnOK.calls k2 ((rd_T78 l0_1 x36_2).f0) ((rd_T78 l0_1 x36_2).f1) false true _ z53_).mono ?_); rintro e w45 ⟨rfl, hb⟩; refine ⟨_, rfl, ?_⟩; have n_ := a3_ (blk_below (g := gb101) (o := .cells #[.string a0_0, .slice (some ad105) l0_1.length c0_1, .int .i64 a0_2, .slice A0_3 l0_3.length c0_3] 35 (0, 0)) z10_ hb) (blk_below (g := gb106) (o := .cells #[.string ((rd_T78 l0_1 x36_2).f0), .int .i64 ((rd_T78 l0_1 x36_2).f1), .bool false] 78 (0, 0)) z16_ hb) (below_step z9_ hb); clear BK101 BK106 HB; obtain ⟨BK101, BK106, HB⟩ := n_; (try clear hb); (try clear hb2); (try clear hk); (try clear hi); obtain ⟨hcz46_0, hcz46_1, hcz46_2, hcz46_3, hfz46_0, hfz46_1, hfz46_2, hfz46_3⟩ := bcf4 BK101.out; obtain ⟨hcz47_0, hcz47_1, hcz47_2, hfz47_0, hfz47_1, hfz47_2⟩ := bcf3 BK106.out) | (go_at_call 62; (with_reducible refine (impl_Table_column.calls a0_0 _ _ l0_1 a0_2 _ _ l0_3 ((rd_T78 l0_1 x36_2).f0) t108 _ ?side1 ?side2 ?side3 ?side4 z65_).mono ?_); (case side1 => exact cz_ ((Kd.C_below HR0_1.out HB.out))); (case side2 => exact HC0_1.out); (case side3 => exact cz_ ((Kd.C_below HR0_3.out HB.out))); (case side4 => exact HC0_3.out); rintro e w48 ⟨rfl, hb⟩; have n_ := a3_ (blk_below (g := gb101) (o := .cells #[.string a0_0, .slice (some ad105) l0_1.length c0_1, .int .i64 a0_2, .slice A0_3 l0_3.length c0_3] 35 (0, 0)) z2_ hb) (blk_below (g := gb106) (o := .cells #[.string ((rd_T78 l0_1 x36_2).f0), .int .i64 ((rd_T78 l0_1 x36_2).f1), .bool false] 78 (0, 0)) z30_ hb) (below_step z9_ hb); clear BK101 BK106 HB; obtain ⟨BK101, BK106, HB⟩ := n_; (try clear hb); (try clear hb2); (try clear hk); (try clear hi); obtain ⟨hcz49_0, hcz49_1, hcz49_2, hcz49_3, hfz49_0, hfz49_1, hfz49_2, hfz49_3⟩ := bcf4 BK101.out; obtain ⟨hcz50_0, hcz50_1, hcz50_2, hfz50_0, hfz50_1, hfz50_2⟩ := bcf3 BK106.out))
            go_roundg k2
            case measure => have := HJ1.out; have := HK2.out; omega
            case rel => exact ⟨(wrap64 (x36_2 + 1)), z8_, H', ⟨by have := HJ1.out; have := HK2.out; omega⟩, ⟨z2_⟩, ⟨z9_⟩⟩
          ·rw [if_neg c30] at H
           have c30b0 := decide_eq_false c30
           clear c30
           have H' := ak_ H
           clear H
           have p105 : 0 ≤ (x36_2 : Int) := of_decide_eq_true z5_
           have q105 : x36_2 < (l0_1.length : Int) := of_decide_eq_true z5_
           obtain ⟨ad105, e105, hx105_0, hx105_1, hx105_2⟩ := at_T78 HR0_1.out x36_2 p105 q105
           cases e105
           replace hx105_0 := oc_ HB.out hx105_0
           replace hx105_1 := oc_ HB.out hx105_1
           replace hx105_2 := oc_ HB.out hx105_2
           replace p105 := eq_true p105
           replace q105 := eq_true q105
           go_wp2_with (first | ((with_reducible refine gate_dst (N := 4) rfl ?_); (try (refine gate_guard (by rfl) ?_; dsimp only)); refine bx_ 4 (cs := #[.string (⟨#[]⟩ : ByteArray), .int .i64 0, .bool false]) (t := 78) (h_ := ?_); intro gb106 hg w51 hbox hb; have n_ := a7_ (blk_below (g := gb101) (o := .cells #[.string a0_0, .slice (some ad105) l0_1.length c0_1, .int .i64 a0_2, .slice A0_3 l0_3.length c0_3] 35 (0, 0)) z2_ hb) (below_step z1_ hb) (hbox) ((gs_ w hg (below_size z1_))) ((gs_ w hg (below_size z1_))) ((z22_ : gb101 ≠ gb106)) ((z23_ : gb106 ≠ gb101)); clear BK101 HB; obtain ⟨BK101, HB, BK106, GW106, GE106, NB101_106, NB106_101⟩ := n_; clear hb hbox hg; have hnb52 := NB106_101.out; have hnc52 := NB101_106.out; obtain ⟨hcz53_0, hcz53_1, hcz53_2, hfz53_0, hfz53_1, hfz53_2⟩ := bcf3 BK106.out) | ((with_reducible refine gate_callee (f := 61) rfl ?_); refine goesL_ (some 42) rfl rfl Tryz.func61 (by kernel_rfl) rfl #[.agg #[.string ((rd_T78 l0_1 x36_2).f0), .int .i64 ((rd_T78 l0_1 x36_2).f1), .bool ((rd_T78 l0_1 x36_2).f2)]] rfl z3_ ?_; (with_reducible refine (impl_columnOK.calls k2 ((rd_T78 l0_1 x36_2).f0) ((rd_T78 l0_1 x36_2).f1) ((rd_T78 l0_1 x36_2).f2) true _ z53_).mono ?_); rintro e w54 ⟨rfl, hb⟩; refine ⟨_, rfl, ?_⟩; have n_ := a3_ (blk_below (g := gb101) (o := .cells #[.string a0_0, .slice (some ad105) l0_1.length c0_1, .int .i64 a0_2, .slice A0_3 l0_3.length c0_3] 35 (0, 0)) z10_ hb) (blk_below (g := gb106) (o := .cells #[.string ((rd_T78 l0_1 x36_2).f0), .int .i64 ((rd_T78 l0_1 x36_2).f1), .bool ((rd_T78 l0_1 x36_2).f2)] 78 (0, 0)) z16_ hb) (below_step z9_ hb); clear BK101 BK106 HB; obtain ⟨BK101, BK106, HB⟩ := n_; (try clear hb); (try clear hb2); (try clear hk); (try clear hi); obtain ⟨hcz55_0, hcz55_1, hcz55_2, hcz55_3, hfz55_0, hfz55_1, hfz55_2, hfz55_3⟩ := bcf4 BK101.out; obtain ⟨hcz56_0, hcz56_1, hcz56_2, hfz56_0, hfz56_1, hfz56_2⟩ := bcf3 BK106.out) | (go_at_call 62; (with_reducible refine (impl_Table_column.calls a0_0 _ _ l0_1 a0_2 _ _ l0_3 ((rd_T78 l0_1 x36_2).f0) t108 _ ?side1 ?side2 ?side3 ?side4 z65_).mono ?_); (case side1 => exact cz_ ((Kd.C_below HR0_1.out HB.out))); (case side2 => exact HC0_1.out); (case side3 => exact cz_ ((Kd.C_below HR0_3.out HB.out))); (case side4 => exact HC0_3.out); rintro e w57 ⟨rfl, hb⟩; have n_ := a3_ (blk_below (g := gb101) (o := .cells #[.string a0_0, .slice (some ad105) l0_1.length c0_1, .int .i64 a0_2, .slice A0_3 l0_3.length c0_3] 35 (0, 0)) z2_ hb) (blk_below (g := gb106) (o := .cells #[.string ((rd_T78 l0_1 x36_2).f0), .int .i64 ((rd_T78 l0_1 x36_2).f1), .bool ((rd_T78 l0_1 x36_2).f2)] 78 (0, 0)) z30_ hb) (below_step z9_ hb); clear BK101 BK106 HB; obtain ⟨BK101, BK106, HB⟩ := n_; (try clear hb); (try clear hb2); (try clear hk); (try clear hi); obtain ⟨hcz58_0, hcz58_1, hcz58_2, hcz58_3, hfz58_0, hfz58_1, hfz58_2, hfz58_3⟩ := bcf4 BK101.out))
           go_roundg k2
           case measure => have := HJ1.out; have := HK2.out; omega
           case rel => exact ⟨(wrap64 (x36_2 + 1)), z8_, H', ⟨by have := HJ1.out; have := HK2.out; omega⟩, ⟨z2_⟩, ⟨z9_⟩⟩
         ·rw [if_neg c29] at H
          have c29b0 : (t108 == x36_2) = false := beq_eq_false_iff_ne.mpr c29
          have c29b1 : (t108 != x36_2) = true := bne_iff_ne.mpr c29
          obtain rfl := Option.some.inj H
          have p105 : 0 ≤ (x36_2 : Int) := of_decide_eq_true z5_
          have q105 : x36_2 < (l0_1.length : Int) := of_decide_eq_true z5_
          obtain ⟨ad105, e105, hx105_0, hx105_1, hx105_2⟩ := at_T78 HR0_1.out x36_2 p105 q105
          cases e105
          replace hx105_0 := oc_ HB.out hx105_0
          replace hx105_1 := oc_ HB.out hx105_1
          replace hx105_2 := oc_ HB.out hx105_2
          replace p105 := eq_true p105
          replace q105 := eq_true q105
          go_wp2_with (first | ((with_reducible refine gate_dst (N := 4) rfl ?_); (try (refine gate_guard (by rfl) ?_; dsimp only)); refine bx_ 4 (cs := #[.string (⟨#[]⟩ : ByteArray), .int .i64 0, .bool false]) (t := 78) (h_ := ?_); intro gb106 hg w59 hbox hb; have n_ := a7_ (blk_below (g := gb101) (o := .cells #[.string a0_0, .slice (some ad105) l0_1.length c0_1, .int .i64 a0_2, .slice A0_3 l0_3.length c0_3] 35 (0, 0)) z2_ hb) (below_step z1_ hb) (hbox) ((gs_ w hg (below_size z1_))) ((gs_ w hg (below_size z1_))) ((z22_ : gb101 ≠ gb106)) ((z23_ : gb106 ≠ gb101)); clear BK101 HB; obtain ⟨BK101, HB, BK106, GW106, GE106, NB101_106, NB106_101⟩ := n_; clear hb hbox hg; have hnb60 := NB106_101.out; have hnc60 := NB101_106.out; obtain ⟨hcz61_0, hcz61_1, hcz61_2, hfz61_0, hfz61_1, hfz61_2⟩ := bcf3 BK106.out) | ((with_reducible refine gate_callee (f := 61) rfl ?_); refine goesL_ (some 42) rfl rfl Tryz.func61 (by kernel_rfl) rfl #[.agg #[.string ((rd_T78 l0_1 x36_2).f0), .int .i64 ((rd_T78 l0_1 x36_2).f1), .bool ((rd_T78 l0_1 x36_2).f2)]] rfl z3_ ?_; (with_reducible refine (impl_columnOK.calls k2 ((rd_T78 l0_1 x36_2).f0) ((rd_T78 l0_1 x36_2).f1) ((rd_T78 l0_1 x36_2).f2) true _ z53_).mono ?_); rintro e w62 ⟨rfl, hb⟩; refine ⟨_, rfl, ?_⟩; have n_ := a3_ (blk_below (g := gb101) (o := .cells #[.string a0_0, .slice (some ad105) l0_1.length c0_1, .int .i64 a0_2, .slice A0_3 l0_3.length c0_3] 35 (0, 0)) z10_ hb) (blk_below (g := gb106) (o := .cells #[.string ((rd_T78 l0_1 x36_2).f0), .int .i64 ((rd_T78 l0_1 x36_2).f1), .bool ((rd_T78 l0_1 x36_2).f2)] 78 (0, 0)) z16_ hb) (below_step z9_ hb); clear BK101 BK106 HB; obtain ⟨BK101, BK106, HB⟩ := n_; (try clear hb); (try clear hb2); (try clear hk); (try clear hi); obtain ⟨hcz63_0, hcz63_1, hcz63_2, hcz63_3, hfz63_0, hfz63_1, hfz63_2, hfz63_3⟩ := bcf4 BK101.out; obtain ⟨hcz64_0, hcz64_1, hcz64_2, hfz64_0, hfz64_1, hfz64_2⟩ := bcf3 BK106.out) | (go_at_call 62; (with_reducible refine (impl_Table_column.calls a0_0 _ _ l0_1 a0_2 _ _ l0_3 ((rd_T78 l0_1 x36_2).f0) t108 _ ?side1 ?side2 ?side3 ?side4 z65_).mono ?_); (case side1 => exact cz_ ((Kd.C_below HR0_1.out HB.out))); (case side2 => exact HC0_1.out); (case side3 => exact cz_ ((Kd.C_below HR0_3.out HB.out))); (case side4 => exact HC0_3.out); rintro e w65 ⟨rfl, hb⟩; have n_ := a3_ (blk_below (g := gb101) (o := .cells #[.string a0_0, .slice (some ad105) l0_1.length c0_1, .int .i64 a0_2, .slice A0_3 l0_3.length c0_3] 35 (0, 0)) z2_ hb) (blk_below (g := gb106) (o := .cells #[.string ((rd_T78 l0_1 x36_2).f0), .int .i64 ((rd_T78 l0_1 x36_2).f1), .bool ((rd_T78 l0_1 x36_2).f2)] 78 (0, 0)) z30_ hb) (below_step z9_ hb); clear BK101 BK106 HB; obtain ⟨BK101, BK106, HB⟩ := n_; (try clear hb); (try clear hb2); (try clear hk); (try clear hi)))
          go_ret
          exact ⟨z6_, z9_⟩
        ·replace c27 := Bool.eq_false_iff.mpr c27
         subst c27
         have H1 : (some false) = some r := by rw [if_neg (show ¬ (false = true) by decide)] at H; exact H
         clear H
         have H := H1
         clear H1
         obtain rfl := Option.some.inj H
         have p105 : 0 ≤ (x36_2 : Int) := of_decide_eq_true z5_
         have q105 : x36_2 < (l0_1.length : Int) := of_decide_eq_true z5_
         obtain ⟨ad105, e105, hx105_0, hx105_1, hx105_2⟩ := at_T78 HR0_1.out x36_2 p105 q105
         cases e105
         replace hx105_0 := oc_ HB.out hx105_0
         replace hx105_1 := oc_ HB.out hx105_1
         replace hx105_2 := oc_ HB.out hx105_2
         replace p105 := eq_true p105
         replace q105 := eq_true q105
         go_wp2_with (first | ((with_reducible refine gate_dst (N := 4) rfl ?_); (try (refine gate_guard (by rfl) ?_; dsimp only)); refine bx_ 4 (cs := #[.string (⟨#[]⟩ : ByteArray), .int .i64 0, .bool false]) (t := 78) (h_ := ?_); intro gb106 hg w66 hbox hb; have n_ := a7_ (blk_below (g := gb101) (o := .cells #[.string a0_0, .slice (some ad105) l0_1.length c0_1, .int .i64 a0_2, .slice A0_3 l0_3.length c0_3] 35 (0, 0)) z2_ hb) (below_step z1_ hb) (hbox) ((gs_ w hg (below_size z1_))) ((gs_ w hg (below_size z1_))) ((z22_ : gb101 ≠ gb106)) ((z23_ : gb106 ≠ gb101)); clear BK101 HB; obtain ⟨BK101, HB, BK106, GW106, GE106, NB101_106, NB106_101⟩ := n_; clear hb hbox hg; have hnb67 := NB106_101.out; have hnc67 := NB101_106.out; obtain ⟨hcz68_0, hcz68_1, hcz68_2, hfz68_0, hfz68_1, hfz68_2⟩ := bcf3 BK106.out) | ((with_reducible refine gate_callee (f := 61) rfl ?_); refine goesL_ (some 42) rfl rfl Tryz.func61 (by kernel_rfl) rfl #[.agg #[.string ((rd_T78 l0_1 x36_2).f0), .int .i64 ((rd_T78 l0_1 x36_2).f1), .bool ((rd_T78 l0_1 x36_2).f2)]] rfl z3_ ?_; (with_reducible refine (impl_columnOK.calls k2 ((rd_T78 l0_1 x36_2).f0) ((rd_T78 l0_1 x36_2).f1) ((rd_T78 l0_1 x36_2).f2) false _ z53_).mono ?_); rintro e w69 ⟨rfl, hb⟩; refine ⟨_, rfl, ?_⟩; have n_ := a3_ (blk_below (g := gb101) (o := .cells #[.string a0_0, .slice (some ad105) l0_1.length c0_1, .int .i64 a0_2, .slice A0_3 l0_3.length c0_3] 35 (0, 0)) z10_ hb) (blk_below (g := gb106) (o := .cells #[.string ((rd_T78 l0_1 x36_2).f0), .int .i64 ((rd_T78 l0_1 x36_2).f1), .bool ((rd_T78 l0_1 x36_2).f2)] 78 (0, 0)) z16_ hb) (below_step z9_ hb); clear BK101 BK106 HB; obtain ⟨BK101, BK106, HB⟩ := n_; (try clear hb); (try clear hb2); (try clear hk); (try clear hi)))
         go_ret
         exact ⟨z6_, z9_⟩
       ·rw [if_neg c25] at H
        exact absurd H (by simp)
      ·rw [if_neg c24] at H
       exact absurd H (by simp)
     rw [if_neg c23] at H
     have c23b0 := decide_eq_false c23
     clear c23
     have H' := ak_ H
     clear H
     obtain ⟨hcz70_0, hcz70_1, hcz70_2, hcz70_3, hfz70_0, hfz70_1, hfz70_2, hfz70_3⟩ := bcf4 BK101.out
     go_wp2
     go_loopg [66] k2 (fun kq v66 w' => ∃ (x66_3 : Int), v66 = .int .i64 x66_3 ∧ Aside0 (impl_TableOK.l1 kq l0_3 (l0_3.length : Int) x66_3 a0_0 l0_1 a0_2 l0_3 = some r) ∧ Aside0 (kq ≤ k2) ∧ Aside0 (w'.heap[gb101]? = some (.cells #[.string a0_0, (.slice A0_1 l0_1.length c0_1), .int .i64 a0_2, (.slice A0_3 l0_3.length c0_3)] 35 (0, 0))) ∧ Aside0 (Below w.heap.size w w'))
     case atStart => exact ⟨(0), z8_, H', ⟨Nat.le_refl _⟩, ⟨z2_⟩, ⟨z1_⟩⟩
     case round =>
      clear H'
      try clear p1
      try clear q1
      try clear hx1
      try clear c2
      try clear p2
      try clear c3
      try clear q3
      try clear c4
      try clear c5
      try clear c6
      try clear p6
      try clear c7
      try clear c9
      try clear p10
      try clear q10
      try clear hx10
      try clear c21
      try clear c23
      try clear c23b0
      try clear c24
      try clear c24b0
      try clear c25
      try clear c25b0
      try clear c27
      try clear c29
      try clear c29b0
      try clear c29b1
      try clear c30
      try clear c30b0
      try clear q31
      try clear c32
      try clear c34
      try clear c43
      try clear c44
      try clear c52
      try clear c60
      try clear c61
      try clear p64
      try clear c67
      try clear hcz10_0
      try clear hcz10_1
      try clear hcz10_2
      try clear hcz10_3
      try clear hcz12_0
      try clear hcz12_1
      try clear hcz12_2
      try clear hcz12_3
      try clear hcz13_0
      try clear hcz13_1
      try clear hcz13_2
      try clear hcz13_3
      try clear hcz15_0
      try clear hcz15_1
      try clear hcz15_2
      try clear hcz15_3
      try clear hcz16_0
      try clear hcz16_1
      try clear hcz16_2
      try clear hcz16_3
      try clear hcz18_0
      try clear hcz18_1
      try clear hcz18_2
      try clear hcz18_3
      try clear hcz19_0
      try clear hcz19_1
      try clear hcz19_2
      try clear hcz19_3
      try clear hcz22_0
      try clear hcz22_1
      try clear hcz22_2
      try clear hcz22_3
      try clear hcz35_0
      try clear hcz35_1
      try clear hcz35_2
      try clear hcz37_0
      try clear hcz37_1
      try clear hcz37_2
      try clear hcz37_3
      try clear hcz38_0
      try clear hcz38_1
      try clear hcz38_2
      try clear hcz40_0
      try clear hcz40_1
      try clear hcz40_2
      try clear hcz40_3
      try clear hcz41_0
      try clear hcz41_1
      try clear hcz41_2
      try clear hcz44_0
      try clear hcz44_1
      try clear hcz44_2
      try clear hcz46_0
      try clear hcz46_1
      try clear hcz46_2
      try clear hcz46_3
      try clear hcz47_0
      try clear hcz47_1
      try clear hcz47_2
      try clear hcz49_0
      try clear hcz49_1
      try clear hcz49_2
      try clear hcz49_3
      try clear hcz50_0
      try clear hcz50_1
      try clear hcz50_2
      try clear hcz53_0
      try clear hcz53_1
      try clear hcz53_2
      try clear hcz55_0
      try clear hcz55_1
      try clear hcz55_2
      try clear hcz55_3
      try clear hcz56_0
      try clear hcz56_1
      try clear hcz56_2
      try clear hcz58_0
      try clear hcz58_1
      try clear hcz58_2
      try clear hcz58_3
      try clear hcz61_0
      try clear hcz61_1
      try clear hcz61_2
      try clear hcz63_0
      try clear hcz63_1
      try clear hcz63_2
      try clear hcz63_3
      try clear hcz64_0
      try clear hcz64_1
      try clear hcz64_2
      try clear hcz68_0
      try clear hcz68_1
      try clear hcz68_2
      try clear hcz70_0
      try clear hcz70_1
      try clear hcz70_2
      try clear hcz70_3
      try clear hfz10_0
      try clear hfz10_1
      try clear hfz10_2
      try clear hfz10_3
      try clear hfz12_0
      try clear hfz12_1
      try clear hfz12_2
      try clear hfz12_3
      try clear hfz13_0
      try clear hfz13_1
      try clear hfz13_2
      try clear hfz13_3
      try clear hfz15_0
      try clear hfz15_1
      try clear hfz15_2
      try clear hfz15_3
      try clear hfz16_0
      try clear hfz16_1
      try clear hfz16_2
      try clear hfz16_3
      try clear hfz18_0
      try clear hfz18_1
      try clear hfz18_2
      try clear hfz18_3
      try clear hfz19_0
      try clear hfz19_1
      try clear hfz19_2
      try clear hfz19_3
      try clear hfz22_0
      try clear hfz22_1
      try clear hfz22_2
      try clear hfz22_3
      try clear hfz35_0
      try clear hfz35_1
      try clear hfz35_2
      try clear hfz37_0
      try clear hfz37_1
      try clear hfz37_2
      try clear hfz37_3
      try clear hfz38_0
      try clear hfz38_1
      try clear hfz38_2
      try clear hfz40_0
      try clear hfz40_1
      try clear hfz40_2
      try clear hfz40_3
      try clear hfz41_0
      try clear hfz41_1
      try clear hfz41_2
      try clear hfz44_0
      try clear hfz44_1
      try clear hfz44_2
      try clear hfz46_0
      try clear hfz46_1
      try clear hfz46_2
      try clear hfz46_3
      try clear hfz47_0
      try clear hfz47_1
      try clear hfz47_2
      try clear hfz49_0
      try clear hfz49_1
      try clear hfz49_2
      try clear hfz49_3
      try clear hfz50_0
      try clear hfz50_1
      try clear hfz50_2
      try clear hfz53_0
      try clear hfz53_1
      try clear hfz53_2
      try clear hfz55_0
      try clear hfz55_1
      try clear hfz55_2
      try clear hfz55_3
      try clear hfz56_0
      try clear hfz56_1
      try clear hfz56_2
      try clear hfz58_0
      try clear hfz58_1
      try clear hfz58_2
      try clear hfz58_3
      try clear hfz61_0
      try clear hfz61_1
      try clear hfz61_2
      try clear hfz63_0
      try clear hfz63_1
      try clear hfz63_2
      try clear hfz63_3
      try clear hfz64_0
      try clear hfz64_1
      try clear hfz64_2
      try clear hfz68_0
      try clear hfz68_1
      try clear hfz68_2
      try clear hfz70_0
      try clear hfz70_1
      try clear hfz70_2
      try clear hfz70_3
      try clear hx105_0
      try clear hx105_1
      try clear hx105_2
      try clear p105
      try clear p2
      try clear q105
      obtain ⟨x66_3, rfl, HA, HK3, BK101, HB⟩ := hrel
      cases gk with
      | zero => exact absurd HA.out (by simp [impl_TableOK.l1])
      | succ k3 =>
       have H := HA.out
       clear HA
       simp only [impl_TableOK.l1] at H
       by_cases c71 : x66_3 < (l0_3.length : Int)
       rotate_left
       ·rw [if_neg c71] at H
        have c71b0 := decide_eq_false c71
        clear c71
        obtain rfl := Option.some.inj H
        go_wp2
        go_ret
        exact ⟨z6_, z1_⟩

       rw [if_pos c71] at H
       have c71b0 := decide_eq_true c71
       clear c71
       by_cases c72 : 0 ≤ x66_3
       rotate_left
       ·rw [if_neg c72] at H
        exact absurd H (by simp)
       rw [if_pos c72] at H
       have c72b0 := decide_eq_true c72
       clear c72
       by_cases c73 : x66_3 < (l0_3.length : Int)
       rotate_left
       ·rw [if_neg c73] at H
        exact absurd H (by simp)
       rw [if_pos c73] at H
       have c73b0 := decide_eq_true c73
       clear c73
       replace H := Option.bind_eq_some_iff.mp H
       obtain ⟨t111, A740, H⟩ := H
       have A74 := ak_ A740
       clear A740
       by_cases c75 : t111 = true
       rotate_left
       ·replace c75 := Bool.eq_false_iff.mpr c75
        subst c75
        have H1 : (some false) = some r := by rw [if_neg (show ¬ (false = true) by decide)] at H; exact H
        clear H
        have H := H1
        clear H1
        obtain rfl := Option.some.inj H
        have p109 : 0 ≤ (x66_3 : Int) := of_decide_eq_true z5_
        have q109 : x66_3 < (l0_3.length : Int) := of_decide_eq_true z5_
        obtain ⟨ad109, A109_1, c109_1, e109, hx109_0, hx109_1, hl109_1, hi109_1⟩ := at_T58 HR0_3.out x66_3 p109 q109
        cases e109
        replace hx109_0 := oc_ HB.out hx109_0
        replace hx109_1 := oc_ HB.out hx109_1
        have HR109_1 := ak_ hi109_1
        have HC109_1 := ak_ hl109_1
        clear hi109_1 hl109_1
        replace p109 := eq_true p109
        replace q109 := eq_true q109
        go_wp2_with (first | ((with_reducible refine gate_dst (N := 6) rfl ?_); (try (refine gate_guard (by rfl) ?_; dsimp only)); refine bx_ 6 (cs := #[.string (⟨#[]⟩ : ByteArray), .slice none 0 0]) (t := 58) (h_ := ?_); intro gb110 hg w94 hbox hb; have n_ := a7_ (blk_below (g := gb101) (o := .cells #[.string a0_0, .slice A0_1 l0_1.length c0_1, .int .i64 a0_2, .slice (some ad109) l0_3.length c0_3] 35 (0, 0)) z2_ hb) (below_step z1_ hb) (hbox) ((gs_ w hg (below_size z1_))) ((gs_ w hg (below_size z1_))) ((z56_ : gb101 ≠ gb110)) ((z57_ : gb110 ≠ gb101)); clear BK101 HB; obtain ⟨BK101, HB, BK110, GW110, GE110, NB101_110, NB110_101⟩ := n_; clear hb hbox hg; have hnb95 := NB110_101.out; have hnc95 := NB101_110.out; obtain ⟨hcz96_0, hcz96_1, hfz96_0, hfz96_1⟩ := bcf2 BK110.out; obtain ⟨hcz97_0, hcz97_1, hcz97_2, hcz97_3, hfz97_0, hfz97_1, hfz97_2, hfz97_3⟩ := bcf4 BK101.out) | ((with_reducible refine gate_callee (f := 63) rfl ?_); refine goesL_ (some 73) rfl rfl Tryz.func63 (by kernel_rfl) rfl #[.agg #[.string a0_0, .slice A0_1 l0_1.length c0_1, .int .i64 a0_2, .slice (some ad109) l0_3.length c0_3], .agg #[.string ((rd_T58 l0_3 x66_3).f0), .slice A109_1 ((rd_T58 l0_3 x66_3).f1).length c109_1]] rfl z3_ ?_; (with_reducible refine (impl_Table_indexOK.calls k3 a0_0 _ _ l0_1 a0_2 _ _ l0_3 ((rd_T58 l0_3 x66_3).f0) _ _ ((rd_T58 l0_3 x66_3).f1) false _ ?side1 ?side2 ?side3 ?side4 ?side5 ?side6 z80_).mono ?_); (case side1 => exact Kd.C_below HR0_1.out z14_); (case side2 => exact HC0_1.out); (case side3 => exact Kd.C_below HR0_3.out z14_); (case side4 => exact HC0_3.out); (case side5 => exact Kd.C_below HR109_1.out z14_); (case side6 => exact HC109_1.out); rintro e w98 ⟨rfl, hb⟩; refine ⟨_, rfl, ?_⟩; have n_ := a3_ (blk_below (g := gb101) (o := .cells #[.string a0_0, .slice A0_1 l0_1.length c0_1, .int .i64 a0_2, .slice (some ad109) l0_3.length c0_3] 35 (0, 0)) z39_ hb) (blk_below (g := gb110) (o := .cells #[.string ((rd_T58 l0_3 x66_3).f0), .slice A109_1 ((rd_T58 l0_3 x66_3).f1).length c109_1] 58 (0, 0)) z33_ hb) (below_step z14_ hb); clear BK101 BK110 HB; obtain ⟨BK101, BK110, HB⟩ := n_; (try clear hb); (try clear hb2); (try clear hk); (try clear hi)))
        go_ret
        exact ⟨z6_, z14_⟩
       subst c75
       have H1 : ((impl_Table_index.f a0_0 l0_1 a0_2 l0_3 ((rd_T58 l0_3 x66_3).f0)).bind fun t112 => (if t112 = x66_3 then (impl_TableOK.l1 k3 l0_3 (l0_3.length : Int) (wrap64 (x66_3 + 1)) a0_0 l0_1 a0_2 l0_3) else (some false))) = some r := by rw [if_pos rfl] at H; exact H
       clear H
       have H := H1
       clear H1
       replace H := Option.bind_eq_some_iff.mp H
       obtain ⟨t112, A760, H⟩ := H
       have A76 := ak_ A760
       clear A760
       by_cases c77 : t112 = x66_3
       rotate_left
       ·rw [if_neg c77] at H
        have c77b0 : (t112 == x66_3) = false := beq_eq_false_iff_ne.mpr c77
        have c77b1 : (t112 != x66_3) = true := bne_iff_ne.mpr c77
        obtain rfl := Option.some.inj H
        have p109 : 0 ≤ (x66_3 : Int) := of_decide_eq_true z5_
        have q109 : x66_3 < (l0_3.length : Int) := of_decide_eq_true z5_
        obtain ⟨ad109, A109_1, c109_1, e109, hx109_0, hx109_1, hl109_1, hi109_1⟩ := at_T58 HR0_3.out x66_3 p109 q109
        cases e109
        replace hx109_0 := oc_ HB.out hx109_0
        replace hx109_1 := oc_ HB.out hx109_1
        have HR109_1 := ak_ hi109_1
        have HC109_1 := ak_ hl109_1
        clear hi109_1 hl109_1
        replace p109 := eq_true p109
        replace q109 := eq_true q109
        go_wp2_with (first | ((with_reducible refine gate_dst (N := 6) rfl ?_); (try (refine gate_guard (by rfl) ?_; dsimp only)); refine bx_ 6 (cs := #[.string (⟨#[]⟩ : ByteArray), .slice none 0 0]) (t := 58) (h_ := ?_); intro gb110 hg w86 hbox hb; have n_ := a7_ (blk_below (g := gb101) (o := .cells #[.string a0_0, .slice A0_1 l0_1.length c0_1, .int .i64 a0_2, .slice (some ad109) l0_3.length c0_3] 35 (0, 0)) z2_ hb) (below_step z1_ hb) (hbox) ((gs_ w hg (below_size z1_))) ((gs_ w hg (below_size z1_))) ((z56_ : gb101 ≠ gb110)) ((z57_ : gb110 ≠ gb101)); clear BK101 HB; obtain ⟨BK101, HB, BK110, GW110, GE110, NB101_110, NB110_101⟩ := n_; clear hb hbox hg; have hnb87 := NB110_101.out; have hnc87 := NB101_110.out; obtain ⟨hcz88_0, hcz88_1, hfz88_0, hfz88_1⟩ := bcf2 BK110.out; obtain ⟨hcz89_0, hcz89_1, hcz89_2, hcz89_3, hfz89_0, hfz89_1, hfz89_2, hfz89_3⟩ := bcf4 BK101.out) | ((with_reducible refine gate_callee (f := 63) rfl ?_); refine goesL_ (some 73) rfl rfl Tryz.func63 (by kernel_rfl) rfl #[.agg #[.string a0_0, .slice A0_1 l0_1.length c0_1, .int .i64 a0_2, .slice (some ad109) l0_3.length c0_3], .agg #[.string ((rd_T58 l0_3 x66_3).f0), .slice A109_1 ((rd_T58 l0_3 x66_3).f1).length c109_1]] rfl z3_ ?_; (with_reducible refine (impl_Table_indexOK.calls k3 a0_0 _ _ l0_1 a0_2 _ _ l0_3 ((rd_T58 l0_3 x66_3).f0) _ _ ((rd_T58 l0_3 x66_3).f1) true _ ?side1 ?side2 ?side3 ?side4 ?side5 ?side6 z80_).mono ?_); (case side1 => exact Kd.C_below HR0_1.out z14_); (case side2 => exact HC0_1.out); (case side3 => exact Kd.C_below HR0_3.out z14_); (case side4 => exact HC0_3.out); (case side5 => exact Kd.C_below HR109_1.out z14_); (case side6 => exact HC109_1.out); rintro e w90 ⟨rfl, hb⟩; refine ⟨_, rfl, ?_⟩; have n_ := a3_ (blk_below (g := gb101) (o := .cells #[.string a0_0, .slice A0_1 l0_1.length c0_1, .int .i64 a0_2, .slice (some ad109) l0_3.length c0_3] 35 (0, 0)) z39_ hb) (blk_below (g := gb110) (o := .cells #[.string ((rd_T58 l0_3 x66_3).f0), .slice A109_1 ((rd_T58 l0_3 x66_3).f1).length c109_1] 58 (0, 0)) z33_ hb) (below_step z14_ hb); clear BK101 BK110 HB; obtain ⟨BK101, BK110, HB⟩ := n_; (try clear hb); (try clear hb2); (try clear hk); (try clear hi); obtain ⟨hcz91_0, hcz91_1, hcz91_2, hcz91_3, hfz91_0, hfz91_1, hfz91_2, hfz91_3⟩ := bcf4 BK101.out; obtain ⟨hcz92_0, hcz92_1, hfz92_0, hfz92_1⟩ := bcf2 BK110.out) | (go_at_call 64; (with_reducible refine (impl_Table_index.calls a0_0 _ _ l0_1 a0_2 _ _ l0_3 ((rd_T58 l0_3 x66_3).f0) t112 _ ?side1 ?side2 ?side3 ?side4 (by first | (with_reducible exact A76.out) | (have a_ := A76.out; rw [← Nbq31.out] at a_; exact a_))).mono ?_); (case side1 => exact cz_ ((Kd.C_below HR0_1.out HB.out))); (case side2 => exact HC0_1.out); (case side3 => exact cz_ ((Kd.C_below HR0_3.out HB.out))); (case side4 => exact HC0_3.out); rintro e w93 ⟨rfl, hb⟩; have n_ := a3_ (blk_below (g := gb101) (o := .cells #[.string a0_0, .slice A0_1 l0_1.length c0_1, .int .i64 a0_2, .slice (some ad109) l0_3.length c0_3] 35 (0, 0)) z2_ hb) (blk_below (g := gb110) (o := .cells #[.string ((rd_T58 l0_3 x66_3).f0), .slice A109_1 ((rd_T58 l0_3 x66_3).f1).length c109_1] 58 (0, 0)) z94_ hb) (below_step z14_ hb); clear BK101 BK110 HB; obtain ⟨BK101, BK110, HB⟩ := n_; (try clear hb); (try clear hb2); (try clear hk); (try clear hi)))
        go_ret
        exact ⟨z6_, z14_⟩
       rw [if_pos c77] at H
       have c77b0 : (t112 == x66_3) = true := beq_iff_eq.mpr c77
       have c77b1 : (t112 != x66_3) = false := bne_eq_false_iff_eq.mpr c77
       clear c77
       have H' := ak_ H
       clear H
       have p109 : 0 ≤ (x66_3 : Int) := of_decide_eq_true z5_
       have q109 : x66_3 < (l0_3.length : Int) := of_decide_eq_true z5_
       obtain ⟨ad109, A109_1, c109_1, e109, hx109_0, hx109_1, hl109_1, hi109_1⟩ := at_T58 HR0_3.out x66_3 p109 q109
       cases e109
       replace hx109_0 := oc_ HB.out hx109_0
       replace hx109_1 := oc_ HB.out hx109_1
       have HR109_1 := ak_ hi109_1
       have HC109_1 := ak_ hl109_1
       clear hi109_1 hl109_1
       replace p109 := eq_true p109
       replace q109 := eq_true q109
       go_wp2_with (first | ((with_reducible refine gate_dst (N := 6) rfl ?_); (try (refine gate_guard (by rfl) ?_; dsimp only)); refine bx_ 6 (cs := #[.string (⟨#[]⟩ : ByteArray), .slice none 0 0]) (t := 58) (h_ := ?_); intro gb110 hg w78 hbox hb; have n_ := a7_ (blk_below (g := gb101) (o := .cells #[.string a0_0, .slice A0_1 l0_1.length c0_1, .int .i64 a0_2, .slice (some ad109) l0_3.length c0_3] 35 (0, 0)) z2_ hb) (below_step z1_ hb) (hbox) ((gs_ w hg (below_size z1_))) ((gs_ w hg (below_size z1_))) ((z56_ : gb101 ≠ gb110)) ((z57_ : gb110 ≠ gb101)); clear BK101 HB; obtain ⟨BK101, HB, BK110, GW110, GE110, NB101_110, NB110_101⟩ := n_; clear hb hbox hg; have hnb79 := NB110_101.out; have hnc79 := NB101_110.out; obtain ⟨hcz80_0, hcz80_1, hfz80_0, hfz80_1⟩ := bcf2 BK110.out; obtain ⟨hcz81_0, hcz81_1, hcz81_2, hcz81_3, hfz81_0, hfz81_1, hfz81_2, hfz81_3⟩ := bcf4 BK101.out) | ((with_reducible refine gate_callee (f := 63) rfl ?_); refine goesL_ (some 73) rfl rfl Tryz.func63 (by kernel_rfl) rfl #[.agg #[.string a0_0, .slice A0_1 l0_1.length c0_1, .int .i64 a0_2, .slice (some ad109) l0_3.length c0_3], .agg #[.string ((rd_T58 l0_3 x66_3).f0), .slice A109_1 ((rd_T58 l0_3 x66_3).f1).length c109_1]] rfl z3_ ?_; (with_reducible refine (impl_Table_indexOK.calls k3 a0_0 _ _ l0_1 a0_2 _ _ l0_3 ((rd_T58 l0_3 x66_3).f0) _ _ ((rd_T58 l0_3 x66_3).f1) true _ ?side1 ?side2 ?side3 ?side4 ?side5 ?side6 z80_).mono ?_); (case side1 => exact Kd.C_below HR0_1.out z14_); (case side2 => exact HC0_1.out); (case side3 => exact Kd.C_below HR0_3.out z14_); (case side4 => exact HC0_3.out); (case side5 => exact Kd.C_below HR109_1.out z14_); (case side6 => exact HC109_1.out); rintro e w82 ⟨rfl, hb⟩; refine ⟨_, rfl, ?_⟩; have n_ := a3_ (blk_below (g := gb101) (o := .cells #[.string a0_0, .slice A0_1 l0_1.length c0_1, .int .i64 a0_2, .slice (some ad109) l0_3.length c0_3] 35 (0, 0)) z39_ hb) (blk_below (g := gb110) (o := .cells #[.string ((rd_T58 l0_3 x66_3).f0), .slice A109_1 ((rd_T58 l0_3 x66_3).f1).length c109_1] 58 (0, 0)) z33_ hb) (below_step z14_ hb); clear BK101 BK110 HB; obtain ⟨BK101, BK110, HB⟩ := n_; (try clear hb); (try clear hb2); (try clear hk); (try clear hi); obtain ⟨hcz83_0, hcz83_1, hcz83_2, hcz83_3, hfz83_0, hfz83_1, hfz83_2, hfz83_3⟩ := bcf4 BK101.out; obtain ⟨hcz84_0, hcz84_1, hfz84_0, hfz84_1⟩ := bcf2 BK110.out) | (go_at_call 64; (with_reducible refine (impl_Table_index.calls a0_0 _ _ l0_1 a0_2 _ _ l0_3 ((rd_T58 l0_3 x66_3).f0) t112 _ ?side1 ?side2 ?side3 ?side4 (by first | (with_reducible exact A76.out) | (have a_ := A76.out; rw [← Nbq31.out] at a_; exact a_))).mono ?_); (case side1 => exact cz_ ((Kd.C_below HR0_1.out HB.out))); (case side2 => exact HC0_1.out); (case side3 => exact cz_ ((Kd.C_below HR0_3.out HB.out))); (case side4 => exact HC0_3.out); rintro e w85 ⟨rfl, hb⟩; have n_ := a3_ (blk_below (g := gb101) (o := .cells #[.string a0_0, .slice A0_1 l0_1.length c0_1, .int .i64 a0_2, .slice (some ad109) l0_3.length c0_3] 35 (0, 0)) z2_ hb) (blk_below (g := gb110) (o := .cells #[.string ((rd_T58 l0_3 x66_3).f0), .slice A109_1 ((rd_T58 l0_3 x66_3).f1).length c109_1] 58 (0, 0)) z94_ hb) (below_step z14_ hb); clear BK101 BK110 HB; obtain ⟨BK101, BK110, HB⟩ := n_; (try clear hb); (try clear hb2); (try clear hk); (try clear hi)))
       go_roundg k3
       case measure => have := HJ1.out; have := HK2.out; have := HK3.out; omega
       case rel => exact ⟨(wrap64 (x66_3 + 1)), z8_, H', ⟨by have := HJ1.out; have := HK2.out; have := HK3.out; omega⟩, ⟨z2_⟩, ⟨z14_⟩⟩
end Go.Proofs.YtlikagbdhjdggaaGreatDoor.X
