/- Contracts of functions, and what is told of them. -/
import Derived.Test.YtjknmljdnolilaaDoorYFnExactTableOK3
import Derived.Test.YtjknmljdnolilaaDoorYFnExactTableOK8
import Derived.Test.YtjknmljdnolilaaDoorYFnExactTableOK7
import Derived.Test.YtjknmljdnolilaaDoorYFnExactTableOK9
-- WRITTEN BY xprint.py, a program of this session, over the translation of the seat. Lean checks it.
namespace Go.Proofs.YtjknmljdnolilaaDoor.X
open Go.RowKit Go.Proofs.YtjknmljdnolilaaDoorW.PrintWords Go.Proofs.YtjknmljdnolilaaDoorW.PrintLast Go.Proofs.YtjknmljdnolilaaDoorW.PrintMore
attribute [local go_sem] max2_int min2_int max_two min_two max_three min_three max_four min_four   -- for this text's walks alone
set_option linter.unusedVariables false
set_option linter.unusedSimpArgs false

/-! ### impl_TableOK: function 15 -/
mutual
def impl_TableOK.j0 : Nat → Bool → ByteArray → List (S70) → Int → List (S75) → Option (Bool)
  | 0, _, _, _, _, _ => none
  | k + 1, x32, x102000, x102001, x102002, x102003 => if x32 = true then (some false) else (impl_TableOK.l0 k x102001 (x102001.length : Int) 0 x102000 x102001 x102002 x102003)
def impl_TableOK.l0 : Nat → List (S70) → Int → Int → ByteArray → List (S70) → Int → List (S75) → Option (Bool)
  | 0, _, _, _, _, _, _, _ => none
  | k + 1, x34, x35, x36, x102000, x102001, x102002, x102003 => if x36 < x35 then (if 0 ≤ x36 then (if x36 < (x34.length : Int) then ((impl_columnOK.f k ((rd_T70 x34 x36).f0) ((rd_T70 x34 x36).f1) ((rd_T70 x34 x36).f2)).bind fun t107 => (if t107 = true then ((impl_Table_column.f x102000 x102001 x102002 x102003 ((rd_T70 x34 x36).f0)).bind fun t108 => (if t108 = x36 then (if x36 < x102002 then (if (rd_T70 x34 x36).f2 = true then (some false) else (impl_TableOK.l0 k x34 x35 (wrap64 (x36 + 1)) x102000 x102001 x102002 x102003)) else (impl_TableOK.l0 k x34 x35 (wrap64 (x36 + 1)) x102000 x102001 x102002 x102003)) else (some false))) else (some false))) else (none)) else (none)) else (impl_TableOK.l1 k x102003 (x102003.length : Int) 0 x102000 x102001 x102002 x102003)
def impl_TableOK.l1 : Nat → List (S75) → Int → Int → ByteArray → List (S70) → Int → List (S75) → Option (Bool)
  | 0, _, _, _, _, _, _, _ => none
  | k + 1, x64, x65, x66, x102000, x102001, x102002, x102003 => if x66 < x65 then (if 0 ≤ x66 then (if x66 < (x64.length : Int) then ((impl_Table_indexOK.f k x102000 x102001 x102002 x102003 ((rd_T75 x64 x66).f0) ((rd_T75 x64 x66).f1)).bind fun t111 => (if t111 = true then ((impl_Table_index.f x102000 x102001 x102002 x102003 ((rd_T75 x64 x66).f0)).bind fun t112 => (if t112 = x66 then (impl_TableOK.l1 k x64 x65 (wrap64 (x66 + 1)) x102000 x102001 x102002 x102003) else (some false))) else (some false))) else (none)) else (none)) else (some true)
end
def impl_TableOK.f (k : Nat) (a0_0 : ByteArray) (l0_1 : List (S70)) (a0_2 : Int) (l0_3 : List (S75)) : Option (Bool) := (impl_isFree.f k a0_0).bind fun t102 => (if t102 = true then ((impl_within.f (l0_1.length : Int) 1 8).bind fun t103 => (if t103 = true then ((impl_within.f a0_2 1 (l0_1.length : Int)).bind fun t104 => (if t104 = true then (impl_TableOK.j0 k (decide ((l0_3.length : Int) > 4)) a0_0 l0_1 a0_2 l0_3) else (impl_TableOK.j0 k true a0_0 l0_1 a0_2 l0_3))) else (impl_TableOK.j0 k true a0_0 l0_1 a0_2 l0_3))) else (impl_TableOK.j0 k true a0_0 l0_1 a0_2 l0_3))
theorem impl_TableOK.mono_l : ∀ k, (∀ y0 y1 y2 y3 y4, LeO (impl_TableOK.j0 k y0 y1 y2 y3 y4) (impl_TableOK.j0 (k + 1) y0 y1 y2 y3 y4)) ∧ (∀ y0 y1 y2 y3 y4 y5 y6, LeO (impl_TableOK.l0 k y0 y1 y2 y3 y4 y5 y6) (impl_TableOK.l0 (k + 1) y0 y1 y2 y3 y4 y5 y6)) ∧ (∀ y0 y1 y2 y3 y4 y5 y6, LeO (impl_TableOK.l1 k y0 y1 y2 y3 y4 y5 y6) (impl_TableOK.l1 (k + 1) y0 y1 y2 y3 y4 y5 y6))
  | 0 => ⟨fun _ _ _ _ _ r h => by simp [impl_TableOK.j0] at h, fun _ _ _ _ _ _ _ r h => by simp [impl_TableOK.l0] at h, fun _ _ _ _ _ _ _ r h => by simp [impl_TableOK.l1] at h⟩
  | k + 1 => by
    obtain ⟨ih0, ih1, ih2⟩ := impl_TableOK.mono_l k
    refine ⟨?_, ?_, ?_⟩
    rotate_left
    · intro y0 y1 y2 y3 y4 y5 y6
      unfold impl_TableOK.l0
      repeat' first
      | (with_reducible exact ih0 _ _ _ _ _)
      | (with_reducible exact ih1 _ _ _ _ _ _ _)
      | (with_reducible exact ih2 _ _ _ _ _ _ _)
      | (with_reducible exact impl_Table_indexOK.mono _ _ _ _ _ _ _)
      | (with_reducible exact impl_columnOK.mono _ _ _ _)
      | (with_reducible exact impl_isFree.mono _ _)
      | (with_reducible exact LeO.refl _)
      | (with_reducible exact LeO.none _)
      | (with_reducible refine LeO.ite ?_ ?_)
      | (with_reducible refine LeO.bind ?_ (fun _ => ?_))
      | exact ih0 _ _ _ _ _
      | exact ih1 _ _ _ _ _ _ _
      | exact ih2 _ _ _ _ _ _ _
      | exact impl_Table_indexOK.mono _ _ _ _ _ _ _
      | exact impl_columnOK.mono _ _ _ _
      | exact impl_isFree.mono _ _
      | exact LeO.none _
      | refine LeO.ite ?_ ?_
      | refine LeO.bind ?_ (fun _ => ?_)
    · intro y0 y1 y2 y3 y4 y5 y6
      unfold impl_TableOK.l1
      repeat' first
      | (with_reducible exact ih0 _ _ _ _ _)
      | (with_reducible exact ih1 _ _ _ _ _ _ _)
      | (with_reducible exact ih2 _ _ _ _ _ _ _)
      | (with_reducible exact impl_Table_indexOK.mono _ _ _ _ _ _ _)
      | (with_reducible exact impl_columnOK.mono _ _ _ _)
      | (with_reducible exact impl_isFree.mono _ _)
      | (with_reducible exact LeO.refl _)
      | (with_reducible exact LeO.none _)
      | (with_reducible refine LeO.ite ?_ ?_)
      | (with_reducible refine LeO.bind ?_ (fun _ => ?_))
      | exact ih0 _ _ _ _ _
      | exact ih1 _ _ _ _ _ _ _
      | exact ih2 _ _ _ _ _ _ _
      | exact impl_Table_indexOK.mono _ _ _ _ _ _ _
      | exact impl_columnOK.mono _ _ _ _
      | exact impl_isFree.mono _ _
      | exact LeO.none _
      | refine LeO.ite ?_ ?_
      | refine LeO.bind ?_ (fun _ => ?_)
    intro y0 y1 y2 y3 y4
    unfold impl_TableOK.j0
    repeat' first
    | (with_reducible exact ih0 _ _ _ _ _)
    | (with_reducible exact ih1 _ _ _ _ _ _ _)
    | (with_reducible exact ih2 _ _ _ _ _ _ _)
    | (with_reducible exact impl_Table_indexOK.mono _ _ _ _ _ _ _)
    | (with_reducible exact impl_columnOK.mono _ _ _ _)
    | (with_reducible exact impl_isFree.mono _ _)
    | (with_reducible exact LeO.refl _)
    | (with_reducible exact LeO.none _)
    | (with_reducible refine LeO.ite ?_ ?_)
    | (with_reducible refine LeO.bind ?_ (fun _ => ?_))
    | exact ih0 _ _ _ _ _
    | exact ih1 _ _ _ _ _ _ _
    | exact ih2 _ _ _ _ _ _ _
    | exact impl_Table_indexOK.mono _ _ _ _ _ _ _
    | exact impl_columnOK.mono _ _ _ _
    | exact impl_isFree.mono _ _
    | exact LeO.none _
    | refine LeO.ite ?_ ?_
    | refine LeO.bind ?_ (fun _ => ?_)
theorem impl_TableOK.mono : ∀ a0 a1 a2 a3 k, LeO (impl_TableOK.f k a0 a1 a2 a3) (impl_TableOK.f (k + 1) a0 a1 a2 a3) := by
  intro a0 a1 a2 a3 k
  obtain ⟨ih0, ih1, ih2⟩ := impl_TableOK.mono_l k
  unfold impl_TableOK.f
  repeat' first
      | (with_reducible exact ih0 _ _ _ _ _)
      | (with_reducible exact ih1 _ _ _ _ _ _ _)
      | (with_reducible exact ih2 _ _ _ _ _ _ _)
      | (with_reducible exact impl_Table_indexOK.mono _ _ _ _ _ _ _)
      | (with_reducible exact impl_columnOK.mono _ _ _ _)
      | (with_reducible exact impl_isFree.mono _ _)
      | (with_reducible exact LeO.refl _)
      | (with_reducible exact LeO.none _)
      | (with_reducible refine LeO.ite ?_ ?_)
      | (with_reducible refine LeO.bind ?_ (fun _ => ?_))
      | exact ih0 _ _ _ _ _
      | exact ih1 _ _ _ _ _ _ _
      | exact ih2 _ _ _ _ _ _ _
      | exact impl_Table_indexOK.mono _ _ _ _ _ _ _
      | exact impl_columnOK.mono _ _ _ _
      | exact impl_isFree.mono _ _
      | exact LeO.none _
      | refine LeO.ite ?_ ?_
      | refine LeO.bind ?_ (fun _ => ?_)
set_option maxHeartbeats 8000000 in
set_option maxRecDepth 100000 in
theorem impl_TableOK.calls (k : Nat) (a0_0 : ByteArray) (A0_1 : Option Addr) (c0_1 : Nat) (l0_1 : List (S70)) (a0_2 : Int) (A0_3 : Option Addr) (c0_3 : Nat) (l0_3 : List (S75)) (r : Bool) (w : World) (hr0_1 : Kd.C k70 w A0_1 l0_1.length l0_1) (hc0_1 : l0_1.length ≤ c0_1) (hr0_3 : Kd.C k75 w A0_3 l0_3.length l0_3) (hc0_3 : l0_3.length ≤ c0_3) (h : impl_TableOK.f k a0_0 l0_1 a0_2 l0_3 = some r) :
    Calls Tryd.prog 15 #[.agg #[.string a0_0, .slice A0_1 l0_1.length c0_1, .int .i64 a0_2, .slice A0_3 l0_3.length c0_3]] w fun e w' => e = .returned (.bool r) ∧ Below w.heap.size w w' := by
  have hu39 := Tryd.underlying39
  have hu70 := Tryd.underlying70
  have hu75 := Tryd.underlying75
  have HR0_1 := ak_ hr0_1
  have HC0_1 := ak_ hc0_1
  clear hr0_1 hc0_1
  have HR0_3 := ak_ hr0_3
  have HC0_3 := ak_ hc0_3
  clear hr0_3 hc0_3
  have HB := ak_ (Below.refl w.heap.size w)
  have H : ((impl_isFree.f k a0_0).bind fun t102 => (if t102 = true then ((impl_within.f (l0_1.length : Int) 1 8).bind fun t103 => (if t103 = true then ((impl_within.f a0_2 1 (l0_1.length : Int)).bind fun t104 => (if t104 = true then (impl_TableOK.j0 k (decide ((l0_3.length : Int) > 4)) a0_0 l0_1 a0_2 l0_3) else (impl_TableOK.j0 k true a0_0 l0_1 a0_2 l0_3))) else (impl_TableOK.j0 k true a0_0 l0_1 a0_2 l0_3))) else (impl_TableOK.j0 k true a0_0 l0_1 a0_2 l0_3))) = some r := h
  clear h
  have HC2 := ak_ H
  clear H
  go_enter Tryd.func15, Tryd.ntmps15
  go_upto_region 1 with (first | ((with_reducible refine gate_dst (N := 1) rfl ?_); (try (refine gate_guard (by rfl) ?_; dsimp only)); refine box_event ?hg (N := 1) ?hd (cs := #[.string a0_0, .slice A0_1 l0_1.length c0_1, .int .i64 a0_2, .slice A0_3 l0_3.length c0_3]) (t := 39) ?hr ?_; (case hd => rfl); (case hg => rfl); (case hr => first | (go_simp; done) | (go_simp; rfl)); intro gb101 hg w3 hbox hb; have n0_ := ak_ (below_step z1_ hb); have n1_ := ak_ (hbox); have n2_ := ak_ ((by rw [hg]; exact (below_size z1_) : w.heap.size ≤ gb101)); have n3_ := ak_ ((by rw [hg]; exact (below_size z1_) : w.heap.size ≤ gb101)); clear HB; have HB := n0_; have BK101 := n1_; have GW101 := n2_; have GE101 := n3_; clear n0_ n1_ n2_ n3_; clear hb hbox hg))
  (try simp only [Act.put, List.setIfInBounds_toArray, List.set_cons_zero, List.set_cons_succ])
  go_cut [32] (fun v32 wc => ∃ (kq : Nat) (x32_1 : Bool), v32 = .bool x32_1 ∧ Aside0 (impl_TableOK.j0 kq x32_1 a0_0 l0_1 a0_2 l0_3 = some r) ∧ Aside0 (kq ≤ k) ∧ Aside0 (wc.heap[gb101]? = some (.cells #[.string a0_0, (.slice A0_1 l0_1.length c0_1), .int .i64 a0_2, (.slice A0_3 l0_3.length c0_3)] 39 (0, 0))) ∧ Aside0 (Below w.heap.size w wc))
  case first =>
    have H := HC2.out
    clear HC2
    replace H := Option.bind_eq_some_iff.mp H
    obtain ⟨t102, A40, H⟩ := H
    replace H : (if t102 = true then ((impl_within.f (l0_1.length : Int) 1 8).bind fun t103 => (if t103 = true then ((impl_within.f a0_2 1 (l0_1.length : Int)).bind fun t104 => (if t104 = true then (impl_TableOK.j0 k (decide ((l0_3.length : Int) > 4)) a0_0 l0_1 a0_2 l0_3) else (impl_TableOK.j0 k true a0_0 l0_1 a0_2 l0_3))) else (impl_TableOK.j0 k true a0_0 l0_1 a0_2 l0_3))) else (impl_TableOK.j0 k true a0_0 l0_1 a0_2 l0_3)) = some r := H
    have A4 := ak_ A40
    clear A40
    by_cases c5 : t102 = true
    rotate_left
    · replace c5 := Bool.eq_false_iff.mpr c5
      subst c5
      have H1 : (impl_TableOK.j0 k true a0_0 l0_1 a0_2 l0_3) = some r := by rw [if_neg (show ¬ (false = true) by decide)] at H; exact H
      clear H
      have H := H1
      clear H1
      have H' := ak_ H
      clear H
      have hcz19_0 : w3.cell? ⟨gb101, 0, none⟩ = some (.string a0_0) := (blk_cell BK101.out 0).trans rfl
      have hcz19_1 : w3.cell? ⟨gb101, 1, none⟩ = some (.slice A0_1 l0_1.length c0_1) := (blk_cell BK101.out 1).trans rfl
      have hcz19_2 : w3.cell? ⟨gb101, 2, none⟩ = some (.int .i64 a0_2) := (blk_cell BK101.out 2).trans rfl
      have hcz19_3 : w3.cell? ⟨gb101, 3, none⟩ = some (.slice A0_3 l0_3.length c0_3) := (blk_cell BK101.out 3).trans rfl
      have hfz19_0 := blk_frozen BK101.out 0
      have hfz19_1 := blk_frozen BK101.out 1
      have hfz19_2 := blk_frozen BK101.out 2
      have hfz19_3 := blk_frozen BK101.out 3
      go_wp2_with (first | ((with_reducible refine gate_callee (f := 44) rfl ?_); refine goesL_ (some 9) rfl rfl Tryd.func44 (by kernel_rfl) rfl #[.string a0_0] rfl z3_ ?_; (with_reducible refine (impl_isFree.calls k a0_0 false _ z46_).mono ?_); rintro e w20 ⟨rfl, hb⟩; refine ⟨_, rfl, ?_⟩; have n0_ := ak_ (blk_below (g := gb101) (o := .cells #[.string a0_0, .slice A0_1 l0_1.length c0_1, .int .i64 a0_2, .slice A0_3 l0_3.length c0_3] 39 (0, 0)) z2_ hb); have n1_ := ak_ (below_step z0_ hb); clear BK101; clear HB; have BK101 := n0_; have HB := n1_; clear n0_ n1_; (try clear hb); (try clear hb2); (try clear hk); (try clear hi)))
      go_meet
      case rel => exact ⟨_, (true), z9_, H', ⟨by first | omega | exact Nat.le_refl _⟩, ⟨z2_⟩, ⟨z0_⟩⟩
    subst c5
    have H1 : ((impl_within.f (l0_1.length : Int) 1 8).bind fun t103 => (if t103 = true then ((impl_within.f a0_2 1 (l0_1.length : Int)).bind fun t104 => (if t104 = true then (impl_TableOK.j0 k (decide ((l0_3.length : Int) > 4)) a0_0 l0_1 a0_2 l0_3) else (impl_TableOK.j0 k true a0_0 l0_1 a0_2 l0_3))) else (impl_TableOK.j0 k true a0_0 l0_1 a0_2 l0_3))) = some r := by rw [if_pos rfl] at H; exact H
    clear H
    have H := H1
    clear H1
    replace H := Option.bind_eq_some_iff.mp H
    obtain ⟨t103, A60, H⟩ := H
    replace H : (if t103 = true then ((impl_within.f a0_2 1 (l0_1.length : Int)).bind fun t104 => (if t104 = true then (impl_TableOK.j0 k (decide ((l0_3.length : Int) > 4)) a0_0 l0_1 a0_2 l0_3) else (impl_TableOK.j0 k true a0_0 l0_1 a0_2 l0_3))) else (impl_TableOK.j0 k true a0_0 l0_1 a0_2 l0_3)) = some r := H
    have A6 := ak_ A60
    clear A60
    by_cases c7 : t103 = true
    rotate_left
    · replace c7 := Bool.eq_false_iff.mpr c7
      subst c7
      have H1 : (impl_TableOK.j0 k true a0_0 l0_1 a0_2 l0_3) = some r := by rw [if_neg (show ¬ (false = true) by decide)] at H; exact H
      clear H
      have H := H1
      clear H1
      have H' := ak_ H
      clear H
      have hcz16_0 : w3.cell? ⟨gb101, 0, none⟩ = some (.string a0_0) := (blk_cell BK101.out 0).trans rfl
      have hcz16_1 : w3.cell? ⟨gb101, 1, none⟩ = some (.slice A0_1 l0_1.length c0_1) := (blk_cell BK101.out 1).trans rfl
      have hcz16_2 : w3.cell? ⟨gb101, 2, none⟩ = some (.int .i64 a0_2) := (blk_cell BK101.out 2).trans rfl
      have hcz16_3 : w3.cell? ⟨gb101, 3, none⟩ = some (.slice A0_3 l0_3.length c0_3) := (blk_cell BK101.out 3).trans rfl
      have hfz16_0 := blk_frozen BK101.out 0
      have hfz16_1 := blk_frozen BK101.out 1
      have hfz16_2 := blk_frozen BK101.out 2
      have hfz16_3 := blk_frozen BK101.out 3
      go_wp2_with (first | ((with_reducible refine gate_callee (f := 44) rfl ?_); refine goesL_ (some 9) rfl rfl Tryd.func44 (by kernel_rfl) rfl #[.string a0_0] rfl z3_ ?_; (with_reducible refine (impl_isFree.calls k a0_0 true _ z46_).mono ?_); rintro e w17 ⟨rfl, hb⟩; refine ⟨_, rfl, ?_⟩; have n0_ := ak_ (blk_below (g := gb101) (o := .cells #[.string a0_0, .slice A0_1 l0_1.length c0_1, .int .i64 a0_2, .slice A0_3 l0_3.length c0_3] 39 (0, 0)) z2_ hb); have n1_ := ak_ (below_step z0_ hb); clear BK101; clear HB; have BK101 := n0_; have HB := n1_; clear n0_ n1_; (try clear hb); (try clear hb2); (try clear hk); (try clear hi); have hcz18_0 : w17.cell? ⟨gb101, 0, none⟩ = some (.string a0_0) := (blk_cell BK101.out 0).trans rfl; have hcz18_1 : w17.cell? ⟨gb101, 1, none⟩ = some (.slice A0_1 l0_1.length c0_1) := (blk_cell BK101.out 1).trans rfl; have hcz18_2 : w17.cell? ⟨gb101, 2, none⟩ = some (.int .i64 a0_2) := (blk_cell BK101.out 2).trans rfl; have hcz18_3 : w17.cell? ⟨gb101, 3, none⟩ = some (.slice A0_3 l0_3.length c0_3) := (blk_cell BK101.out 3).trans rfl; have hfz18_0 := blk_frozen BK101.out 0; have hfz18_1 := blk_frozen BK101.out 1; have hfz18_2 := blk_frozen BK101.out 2; have hfz18_3 := blk_frozen BK101.out 3) | (go_at_call 45; (with_reducible refine (impl_within.calls (l0_1.length : Int) 1 8 false _ z54_).mono ?_); rintro e w' ⟨rfl, ⟨nd, rfl⟩⟩))
      go_meet
      case rel => exact ⟨_, (true), z9_, H', ⟨by first | omega | exact Nat.le_refl _⟩, ⟨z2_⟩, ⟨z0_⟩⟩
    subst c7
    have H1 : ((impl_within.f a0_2 1 (l0_1.length : Int)).bind fun t104 => (if t104 = true then (impl_TableOK.j0 k (decide ((l0_3.length : Int) > 4)) a0_0 l0_1 a0_2 l0_3) else (impl_TableOK.j0 k true a0_0 l0_1 a0_2 l0_3))) = some r := by rw [if_pos rfl] at H; exact H
    clear H
    have H := H1
    clear H1
    replace H := Option.bind_eq_some_iff.mp H
    obtain ⟨t104, A80, H⟩ := H
    replace H : (if t104 = true then (impl_TableOK.j0 k (decide ((l0_3.length : Int) > 4)) a0_0 l0_1 a0_2 l0_3) else (impl_TableOK.j0 k true a0_0 l0_1 a0_2 l0_3)) = some r := H
    have A8 := ak_ A80
    clear A80
    by_cases c9 : t104 = true
    · subst c9
      have H1 : (impl_TableOK.j0 k (decide ((l0_3.length : Int) > 4)) a0_0 l0_1 a0_2 l0_3) = some r := by rw [if_pos rfl] at H; exact H
      clear H
      have H := H1
      clear H1
      have H' := ak_ H
      clear H
      have hcz10_0 : w3.cell? ⟨gb101, 0, none⟩ = some (.string a0_0) := (blk_cell BK101.out 0).trans rfl
      have hcz10_1 : w3.cell? ⟨gb101, 1, none⟩ = some (.slice A0_1 l0_1.length c0_1) := (blk_cell BK101.out 1).trans rfl
      have hcz10_2 : w3.cell? ⟨gb101, 2, none⟩ = some (.int .i64 a0_2) := (blk_cell BK101.out 2).trans rfl
      have hcz10_3 : w3.cell? ⟨gb101, 3, none⟩ = some (.slice A0_3 l0_3.length c0_3) := (blk_cell BK101.out 3).trans rfl
      have hfz10_0 := blk_frozen BK101.out 0
      have hfz10_1 := blk_frozen BK101.out 1
      have hfz10_2 := blk_frozen BK101.out 2
      have hfz10_3 := blk_frozen BK101.out 3
      go_wp2_with (first | ((with_reducible refine gate_callee (f := 44) rfl ?_); refine goesL_ (some 9) rfl rfl Tryd.func44 (by kernel_rfl) rfl #[.string a0_0] rfl z3_ ?_; (with_reducible refine (impl_isFree.calls k a0_0 true _ z46_).mono ?_); rintro e w11 ⟨rfl, hb⟩; refine ⟨_, rfl, ?_⟩; have n0_ := ak_ (blk_below (g := gb101) (o := .cells #[.string a0_0, .slice A0_1 l0_1.length c0_1, .int .i64 a0_2, .slice A0_3 l0_3.length c0_3] 39 (0, 0)) z2_ hb); have n1_ := ak_ (below_step z0_ hb); clear BK101; clear HB; have BK101 := n0_; have HB := n1_; clear n0_ n1_; (try clear hb); (try clear hb2); (try clear hk); (try clear hi); have hcz12_0 : w11.cell? ⟨gb101, 0, none⟩ = some (.string a0_0) := (blk_cell BK101.out 0).trans rfl; have hcz12_1 : w11.cell? ⟨gb101, 1, none⟩ = some (.slice A0_1 l0_1.length c0_1) := (blk_cell BK101.out 1).trans rfl; have hcz12_2 : w11.cell? ⟨gb101, 2, none⟩ = some (.int .i64 a0_2) := (blk_cell BK101.out 2).trans rfl; have hcz12_3 : w11.cell? ⟨gb101, 3, none⟩ = some (.slice A0_3 l0_3.length c0_3) := (blk_cell BK101.out 3).trans rfl; have hfz12_0 := blk_frozen BK101.out 0; have hfz12_1 := blk_frozen BK101.out 1; have hfz12_2 := blk_frozen BK101.out 2; have hfz12_3 := blk_frozen BK101.out 3) | (go_at_call 45; (with_reducible refine (impl_within.calls (l0_1.length : Int) 1 8 true _ z54_).mono ?_); rintro e w' ⟨rfl, ⟨nd, rfl⟩⟩) | (go_at_call 45; (with_reducible refine (impl_within.calls a0_2 1 (l0_1.length : Int) true _ (by first | (with_reducible exact A8.out) | (have a_ := A8.out; rw [← Nbq31.out] at a_; exact a_))).mono ?_); rintro e w' ⟨rfl, ⟨nd, rfl⟩⟩))
      go_meet
      case rel => exact ⟨_, (decide ((l0_3.length : Int) > 4)), z9_, H', ⟨by first | omega | exact Nat.le_refl _⟩, ⟨z2_⟩, ⟨z0_⟩⟩
    replace c9 := Bool.eq_false_iff.mpr c9
    subst c9
    have H1 : (impl_TableOK.j0 k true a0_0 l0_1 a0_2 l0_3) = some r := by rw [if_neg (show ¬ (false = true) by decide)] at H; exact H
    clear H
    have H := H1
    clear H1
    have H' := ak_ H
    clear H
    have hcz13_0 : w3.cell? ⟨gb101, 0, none⟩ = some (.string a0_0) := (blk_cell BK101.out 0).trans rfl
    have hcz13_1 : w3.cell? ⟨gb101, 1, none⟩ = some (.slice A0_1 l0_1.length c0_1) := (blk_cell BK101.out 1).trans rfl
    have hcz13_2 : w3.cell? ⟨gb101, 2, none⟩ = some (.int .i64 a0_2) := (blk_cell BK101.out 2).trans rfl
    have hcz13_3 : w3.cell? ⟨gb101, 3, none⟩ = some (.slice A0_3 l0_3.length c0_3) := (blk_cell BK101.out 3).trans rfl
    have hfz13_0 := blk_frozen BK101.out 0
    have hfz13_1 := blk_frozen BK101.out 1
    have hfz13_2 := blk_frozen BK101.out 2
    have hfz13_3 := blk_frozen BK101.out 3
    go_wp2_with (first | ((with_reducible refine gate_callee (f := 44) rfl ?_); refine goesL_ (some 9) rfl rfl Tryd.func44 (by kernel_rfl) rfl #[.string a0_0] rfl z3_ ?_; (with_reducible refine (impl_isFree.calls k a0_0 true _ z46_).mono ?_); rintro e w14 ⟨rfl, hb⟩; refine ⟨_, rfl, ?_⟩; have n0_ := ak_ (blk_below (g := gb101) (o := .cells #[.string a0_0, .slice A0_1 l0_1.length c0_1, .int .i64 a0_2, .slice A0_3 l0_3.length c0_3] 39 (0, 0)) z2_ hb); have n1_ := ak_ (below_step z0_ hb); clear BK101; clear HB; have BK101 := n0_; have HB := n1_; clear n0_ n1_; (try clear hb); (try clear hb2); (try clear hk); (try clear hi); have hcz15_0 : w14.cell? ⟨gb101, 0, none⟩ = some (.string a0_0) := (blk_cell BK101.out 0).trans rfl; have hcz15_1 : w14.cell? ⟨gb101, 1, none⟩ = some (.slice A0_1 l0_1.length c0_1) := (blk_cell BK101.out 1).trans rfl; have hcz15_2 : w14.cell? ⟨gb101, 2, none⟩ = some (.int .i64 a0_2) := (blk_cell BK101.out 2).trans rfl; have hcz15_3 : w14.cell? ⟨gb101, 3, none⟩ = some (.slice A0_3 l0_3.length c0_3) := (blk_cell BK101.out 3).trans rfl; have hfz15_0 := blk_frozen BK101.out 0; have hfz15_1 := blk_frozen BK101.out 1; have hfz15_2 := blk_frozen BK101.out 2; have hfz15_3 := blk_frozen BK101.out 3) | (go_at_call 45; (with_reducible refine (impl_within.calls (l0_1.length : Int) 1 8 true _ z54_).mono ?_); rintro e w' ⟨rfl, ⟨nd, rfl⟩⟩) | (go_at_call 45; (with_reducible refine (impl_within.calls a0_2 1 (l0_1.length : Int) false _ (by first | (with_reducible exact A8.out) | (have a_ := A8.out; rw [← Nbq31.out] at a_; exact a_))).mono ?_); rintro e w' ⟨rfl, ⟨nd, rfl⟩⟩))
    go_meet
    case rel => exact ⟨_, (true), z9_, H', ⟨by first | omega | exact Nat.le_refl _⟩, ⟨z2_⟩, ⟨z0_⟩⟩
  case rest =>
    clear HC2
    try clear c1
    try clear p2
    try clear c4
    try clear c5
    try clear c7
    try clear c9
    try clear c15
    try clear hcz10_0
    try clear hcz10_1
    try clear hcz10_2
    try clear hcz10_3
    try clear hcz12_0
    try clear hcz12_1
    try clear hcz12_2
    try clear hcz12_3
    try clear hcz13_0
    try clear hcz13_1
    try clear hcz13_2
    try clear hcz13_3
    try clear hcz15_0
    try clear hcz15_1
    try clear hcz15_2
    try clear hcz15_3
    try clear hcz16_0
    try clear hcz16_1
    try clear hcz16_2
    try clear hcz16_3
    try clear hcz18_0
    try clear hcz18_1
    try clear hcz18_2
    try clear hcz18_3
    try clear hcz19_0
    try clear hcz19_1
    try clear hcz19_2
    try clear hcz19_3
    try clear hfz10_0
    try clear hfz10_1
    try clear hfz10_2
    try clear hfz10_3
    try clear hfz12_0
    try clear hfz12_1
    try clear hfz12_2
    try clear hfz12_3
    try clear hfz13_0
    try clear hfz13_1
    try clear hfz13_2
    try clear hfz13_3
    try clear hfz15_0
    try clear hfz15_1
    try clear hfz15_2
    try clear hfz15_3
    try clear hfz16_0
    try clear hfz16_1
    try clear hfz16_2
    try clear hfz16_3
    try clear hfz18_0
    try clear hfz18_1
    try clear hfz18_2
    try clear hfz18_3
    try clear hfz19_0
    try clear hfz19_1
    try clear hfz19_2
    try clear hfz19_3
    obtain ⟨kq, x32_1, rfl, HA, HJ1, BK101, HB⟩ := hcut
    cases kq with
    | zero => exact absurd HA.out (by simp [impl_TableOK.j0])
    | succ kj1 =>
      have H := HA.out
      clear HA
      simp only [impl_TableOK.j0] at H
      by_cases c21 : x32_1 = true
      · subst c21
        have H1 : (some false) = some r := by rw [if_pos rfl] at H; exact H
        clear H
        have H := H1
        clear H1
        obtain rfl := Option.some.inj H
        go_wp2
        go_ret
        exact ⟨z7_, z0_⟩
      replace c21 := Bool.eq_false_iff.mpr c21
      subst c21
      have H1 : (impl_TableOK.l0 kj1 l0_1 (l0_1.length : Int) 0 a0_0 l0_1 a0_2 l0_3) = some r := by rw [if_neg (show ¬ (false = true) by decide)] at H; exact H
      clear H
      have H := H1
      clear H1
      have H' := ak_ H
      clear H
      have hcz22_0 : wc.cell? ⟨gb101, 0, none⟩ = some (.string a0_0) := (blk_cell BK101.out 0).trans rfl
      have hcz22_1 : wc.cell? ⟨gb101, 1, none⟩ = some (.slice A0_1 l0_1.length c0_1) := (blk_cell BK101.out 1).trans rfl
      have hcz22_2 : wc.cell? ⟨gb101, 2, none⟩ = some (.int .i64 a0_2) := (blk_cell BK101.out 2).trans rfl
      have hcz22_3 : wc.cell? ⟨gb101, 3, none⟩ = some (.slice A0_3 l0_3.length c0_3) := (blk_cell BK101.out 3).trans rfl
      have hfz22_0 := blk_frozen BK101.out 0
      have hfz22_1 := blk_frozen BK101.out 1
      have hfz22_2 := blk_frozen BK101.out 2
      have hfz22_3 := blk_frozen BK101.out 3
      go_wp2
      go_loopg [36] kj1 (fun kq v36 w' => ∃ (x36_2 : Int), v36 = .int .i64 x36_2 ∧ Aside0 (impl_TableOK.l0 kq l0_1 (l0_1.length : Int) x36_2 a0_0 l0_1 a0_2 l0_3 = some r) ∧ Aside0 (kq ≤ kj1) ∧ Aside0 (w'.heap[gb101]? = some (.cells #[.string a0_0, (.slice A0_1 l0_1.length c0_1), .int .i64 a0_2, (.slice A0_3 l0_3.length c0_3)] 39 (0, 0))) ∧ Aside0 (Below w.heap.size w w'))
      case atStart => exact ⟨(0), z9_, H', ⟨Nat.le_refl _⟩, ⟨z2_⟩, ⟨z0_⟩⟩
      case round =>
        clear H'
        try clear c1
        try clear c2
        try clear p2
        try clear c4
        try clear c5
        try clear c7
        try clear c9
        try clear c15
        try clear c21
        try clear hcz10_0
        try clear hcz10_1
        try clear hcz10_2
        try clear hcz10_3
        try clear hcz12_0
        try clear hcz12_1
        try clear hcz12_2
        try clear hcz12_3
        try clear hcz13_0
        try clear hcz13_1
        try clear hcz13_2
        try clear hcz13_3
        try clear hcz15_0
        try clear hcz15_1
        try clear hcz15_2
        try clear hcz15_3
        try clear hcz16_0
        try clear hcz16_1
        try clear hcz16_2
        try clear hcz16_3
        try clear hcz18_0
        try clear hcz18_1
        try clear hcz18_2
        try clear hcz18_3
        try clear hcz19_0
        try clear hcz19_1
        try clear hcz19_2
        try clear hcz19_3
        try clear hcz22_0
        try clear hcz22_1
        try clear hcz22_2
        try clear hcz22_3
        try clear hfz10_0
        try clear hfz10_1
        try clear hfz10_2
        try clear hfz10_3
        try clear hfz12_0
        try clear hfz12_1
        try clear hfz12_2
        try clear hfz12_3
        try clear hfz13_0
        try clear hfz13_1
        try clear hfz13_2
        try clear hfz13_3
        try clear hfz15_0
        try clear hfz15_1
        try clear hfz15_2
        try clear hfz15_3
        try clear hfz16_0
        try clear hfz16_1
        try clear hfz16_2
        try clear hfz16_3
        try clear hfz18_0
        try clear hfz18_1
        try clear hfz18_2
        try clear hfz18_3
        try clear hfz19_0
        try clear hfz19_1
        try clear hfz19_2
        try clear hfz19_3
        try clear hfz22_0
        try clear hfz22_1
        try clear hfz22_2
        try clear hfz22_3
        try clear p2
        obtain ⟨x36_2, rfl, HA, HK2, BK101, HB⟩ := hrel
        cases gk with
        | zero => exact absurd HA.out (by simp [impl_TableOK.l0])
        | succ k2 =>
          have H := HA.out
          clear HA
          simp only [impl_TableOK.l0] at H
          by_cases c23 : x36_2 < (l0_1.length : Int)
          · rw [if_pos c23] at H
            have c23b0 : decide (x36_2 < (l0_1.length : Int)) = true := decide_eq_true c23
            clear c23
            by_cases c24 : 0 ≤ x36_2
            · rw [if_pos c24] at H
              have c24b0 : decide (0 ≤ x36_2) = true := decide_eq_true c24
              clear c24
              by_cases c25 : x36_2 < (l0_1.length : Int)
              · rw [if_pos c25] at H
                have c25b0 : decide (x36_2 < (l0_1.length : Int)) = true := decide_eq_true c25
                clear c25
                replace H := Option.bind_eq_some_iff.mp H
                obtain ⟨t107, A260, H⟩ := H
                replace H : (if t107 = true then ((impl_Table_column.f a0_0 l0_1 a0_2 l0_3 ((rd_T70 l0_1 x36_2).f0)).bind fun t108 => (if t108 = x36_2 then (if x36_2 < a0_2 then (if (rd_T70 l0_1 x36_2).f2 = true then (some false) else (impl_TableOK.l0 k2 l0_1 (l0_1.length : Int) (wrap64 (x36_2 + 1)) a0_0 l0_1 a0_2 l0_3)) else (impl_TableOK.l0 k2 l0_1 (l0_1.length : Int) (wrap64 (x36_2 + 1)) a0_0 l0_1 a0_2 l0_3)) else (some false))) else (some false)) = some r := H
                have A26 := ak_ A260
                clear A260
                by_cases c27 : t107 = true
                · subst c27
                  have H1 : ((impl_Table_column.f a0_0 l0_1 a0_2 l0_3 ((rd_T70 l0_1 x36_2).f0)).bind fun t108 => (if t108 = x36_2 then (if x36_2 < a0_2 then (if (rd_T70 l0_1 x36_2).f2 = true then (some false) else (impl_TableOK.l0 k2 l0_1 (l0_1.length : Int) (wrap64 (x36_2 + 1)) a0_0 l0_1 a0_2 l0_3)) else (impl_TableOK.l0 k2 l0_1 (l0_1.length : Int) (wrap64 (x36_2 + 1)) a0_0 l0_1 a0_2 l0_3)) else (some false))) = some r := by rw [if_pos rfl] at H; exact H
                  clear H
                  have H := H1
                  clear H1
                  replace H := Option.bind_eq_some_iff.mp H
                  obtain ⟨t108, A280, H⟩ := H
                  replace H : (if t108 = x36_2 then (if x36_2 < a0_2 then (if (rd_T70 l0_1 x36_2).f2 = true then (some false) else (impl_TableOK.l0 k2 l0_1 (l0_1.length : Int) (wrap64 (x36_2 + 1)) a0_0 l0_1 a0_2 l0_3)) else (impl_TableOK.l0 k2 l0_1 (l0_1.length : Int) (wrap64 (x36_2 + 1)) a0_0 l0_1 a0_2 l0_3)) else (some false)) = some r := H
                  have A28 := ak_ A280
                  clear A280
                  by_cases c29 : t108 = x36_2
                  · rw [if_pos c29] at H
                    have c29b0 : (t108 == x36_2) = true := beq_iff_eq.mpr c29
                    have c29b1 : (t108 != x36_2) = false := bne_eq_false_iff_eq.mpr c29
                    clear c29
                    by_cases c30 : x36_2 < a0_2
                    · rw [if_pos c30] at H
                      have c30b0 : decide (x36_2 < a0_2) = true := decide_eq_true c30
                      clear c30
                      obtain ⟨bq31, hbq31⟩ : ∃ b_ : Bool, b_ = ((rd_T70 l0_1 x36_2).f2) := ⟨_, rfl⟩
                      replace H : (if bq31 = true then (some false) else (impl_TableOK.l0 k2 l0_1 (l0_1.length : Int) (wrap64 (x36_2 + 1)) a0_0 l0_1 a0_2 l0_3)) = some r := by rw [← hbq31] at H; exact H
                      have Nbq31 := ak_ hbq31
                      clear hbq31
                      by_cases c32 : bq31 = true
                      · subst c32
                        have H1 : (some false) = some r := by rw [if_pos rfl] at H; exact H
                        clear H
                        have H := H1
                        clear H1
                        obtain rfl := Option.some.inj H
                        have p105 : 0 ≤ (x36_2 : Int) := of_decide_eq_true z5_
                        have q105 : x36_2 < (l0_1.length : Int) := of_decide_eq_true z5_
                        obtain ⟨ad105, e105, hx105_0, hx105_1, hx105_2⟩ := at_T70 HR0_1.out x36_2 p105 q105
                        (try rw [← Nbq31.out] at hx105_2)
                        cases e105
                        replace hx105_0 := (HB.out.cell (World.block_lt_of_cell? w _ hx105_0)).trans hx105_0
                        replace hx105_1 := (HB.out.cell (World.block_lt_of_cell? w _ hx105_1)).trans hx105_1
                        replace hx105_2 := (HB.out.cell (World.block_lt_of_cell? w _ hx105_2)).trans hx105_2
                        replace p105 := eq_true p105
                        replace q105 := eq_true q105
                        go_wp2_with (first | ((with_reducible refine gate_dst (N := 4) rfl ?_); (try (refine gate_guard (by rfl) ?_; dsimp only)); refine box_event ?hg (N := 4) ?hd (cs := #[.string (⟨#[]⟩ : ByteArray), .int .i64 0, .bool false]) (t := 70) ?hr ?_; (case hd => rfl); (case hg => rfl); (case hr => first | (go_simp; done) | (go_simp; rfl)); intro gb106 hg w33 hbox hb; have n0_ := ak_ (blk_below (g := gb101) (o := .cells #[.string a0_0, .slice (some ad105) l0_1.length c0_1, .int .i64 a0_2, .slice A0_3 l0_3.length c0_3] 39 (0, 0)) z2_ hb); have n1_ := ak_ (below_step z0_ hb); have n2_ := ak_ (hbox); have n3_ := ak_ ((by rw [hg]; exact (below_size z0_) : w.heap.size ≤ gb106)); have n4_ := ak_ ((by rw [hg]; exact (below_size z0_) : w.heap.size ≤ gb106)); have n5_ := ak_ ((z16_ : gb101 ≠ gb106)); have n6_ := ak_ ((z17_ : gb106 ≠ gb101)); clear BK101; clear HB; have BK101 := n0_; have HB := n1_; have BK106 := n2_; have GW106 := n3_; have GE106 := n4_; have NB101_106 := n5_; have NB106_101 := n6_; clear n0_ n1_ n2_ n3_ n4_ n5_ n6_; clear hb hbox hg; have hnb34 := NB106_101.out; have hnc34 := NB101_106.out; have hcz35_0 : w33.cell? ⟨gb106, 0, none⟩ = some (.string (⟨#[]⟩ : ByteArray)) := (blk_cell BK106.out 0).trans rfl; have hcz35_1 : w33.cell? ⟨gb106, 1, none⟩ = some (.int .i64 0) := (blk_cell BK106.out 1).trans rfl; have hcz35_2 : w33.cell? ⟨gb106, 2, none⟩ = some (.bool false) := (blk_cell BK106.out 2).trans rfl; have hfz35_0 := blk_frozen BK106.out 0; have hfz35_1 := blk_frozen BK106.out 1; have hfz35_2 := blk_frozen BK106.out 2) | ((with_reducible refine gate_callee (f := 46) rfl ?_); refine goesL_ (some 42) rfl rfl Tryd.func46 (by kernel_rfl) rfl #[.agg #[.string ((rd_T70 l0_1 x36_2).f0), .int .i64 ((rd_T70 l0_1 x36_2).f1), .bool true]] rfl z3_ ?_; (with_reducible refine (impl_columnOK.calls k2 ((rd_T70 l0_1 x36_2).f0) ((rd_T70 l0_1 x36_2).f1) true true _ z30_).mono ?_); rintro e w36 ⟨rfl, hb⟩; refine ⟨_, rfl, ?_⟩; have n0_ := ak_ (blk_below (g := gb101) (o := .cells #[.string a0_0, .slice (some ad105) l0_1.length c0_1, .int .i64 a0_2, .slice A0_3 l0_3.length c0_3] 39 (0, 0)) z8_ hb); have n1_ := ak_ (blk_below (g := gb106) (o := .cells #[.string ((rd_T70 l0_1 x36_2).f0), .int .i64 ((rd_T70 l0_1 x36_2).f1), .bool true] 70 (0, 0)) z14_ hb); have n2_ := ak_ (below_step z6_ hb); clear BK101; clear BK106; clear HB; have BK101 := n0_; have BK106 := n1_; have HB := n2_; clear n0_ n1_ n2_; (try clear hb); (try clear hb2); (try clear hk); (try clear hi); have hcz37_0 : w36.cell? ⟨gb101, 0, none⟩ = some (.string a0_0) := (blk_cell BK101.out 0).trans rfl; have hcz37_1 : w36.cell? ⟨gb101, 1, none⟩ = some (.slice (some ad105) l0_1.length c0_1) := (blk_cell BK101.out 1).trans rfl; have hcz37_2 : w36.cell? ⟨gb101, 2, none⟩ = some (.int .i64 a0_2) := (blk_cell BK101.out 2).trans rfl; have hcz37_3 : w36.cell? ⟨gb101, 3, none⟩ = some (.slice A0_3 l0_3.length c0_3) := (blk_cell BK101.out 3).trans rfl; have hfz37_0 := blk_frozen BK101.out 0; have hfz37_1 := blk_frozen BK101.out 1; have hfz37_2 := blk_frozen BK101.out 2; have hfz37_3 := blk_frozen BK101.out 3; have hcz38_0 : w36.cell? ⟨gb106, 0, none⟩ = some (.string ((rd_T70 l0_1 x36_2).f0)) := (blk_cell BK106.out 0).trans rfl; have hcz38_1 : w36.cell? ⟨gb106, 1, none⟩ = some (.int .i64 ((rd_T70 l0_1 x36_2).f1)) := (blk_cell BK106.out 1).trans rfl; have hcz38_2 : w36.cell? ⟨gb106, 2, none⟩ = some (.bool true) := (blk_cell BK106.out 2).trans rfl; have hfz38_0 := blk_frozen BK106.out 0; have hfz38_1 := blk_frozen BK106.out 1; have hfz38_2 := blk_frozen BK106.out 2) | (go_at_call 47; (with_reducible refine (impl_Table_column.calls a0_0 _ _ l0_1 a0_2 _ _ l0_3 ((rd_T70 l0_1 x36_2).f0) t108 _ ?side1 ?side2 ?side3 ?side4 z44_).mono ?_); (case side1 => repeat (first | exact (Kd.C_below HR0_1.out HB.out) | (with_reducible refine Kd.C_alloc ?_ _) | (with_reducible refine Kd.C_drewN ?_ _) | (with_reducible refine Kd.C_drew ?_))); (case side2 => exact HC0_1.out); (case side3 => repeat (first | exact (Kd.C_below HR0_3.out HB.out) | (with_reducible refine Kd.C_alloc ?_ _) | (with_reducible refine Kd.C_drewN ?_ _) | (with_reducible refine Kd.C_drew ?_))); (case side4 => exact HC0_3.out); rintro e w39 ⟨rfl, hb⟩; have n0_ := ak_ (blk_below (g := gb101) (o := .cells #[.string a0_0, .slice (some ad105) l0_1.length c0_1, .int .i64 a0_2, .slice A0_3 l0_3.length c0_3] 39 (0, 0)) z2_ hb); have n1_ := ak_ (blk_below (g := gb106) (o := .cells #[.string ((rd_T70 l0_1 x36_2).f0), .int .i64 ((rd_T70 l0_1 x36_2).f1), .bool true] 70 (0, 0)) z20_ hb); have n2_ := ak_ (below_step z6_ hb); clear BK101; clear BK106; clear HB; have BK101 := n0_; have BK106 := n1_; have HB := n2_; clear n0_ n1_ n2_; (try clear hb); (try clear hb2); (try clear hk); (try clear hi); have hcz40_0 : w39.cell? ⟨gb101, 0, none⟩ = some (.string a0_0) := (blk_cell BK101.out 0).trans rfl; have hcz40_1 : w39.cell? ⟨gb101, 1, none⟩ = some (.slice (some ad105) l0_1.length c0_1) := (blk_cell BK101.out 1).trans rfl; have hcz40_2 : w39.cell? ⟨gb101, 2, none⟩ = some (.int .i64 a0_2) := (blk_cell BK101.out 2).trans rfl; have hcz40_3 : w39.cell? ⟨gb101, 3, none⟩ = some (.slice A0_3 l0_3.length c0_3) := (blk_cell BK101.out 3).trans rfl; have hfz40_0 := blk_frozen BK101.out 0; have hfz40_1 := blk_frozen BK101.out 1; have hfz40_2 := blk_frozen BK101.out 2; have hfz40_3 := blk_frozen BK101.out 3; have hcz41_0 : w39.cell? ⟨gb106, 0, none⟩ = some (.string ((rd_T70 l0_1 x36_2).f0)) := (blk_cell BK106.out 0).trans rfl; have hcz41_1 : w39.cell? ⟨gb106, 1, none⟩ = some (.int .i64 ((rd_T70 l0_1 x36_2).f1)) := (blk_cell BK106.out 1).trans rfl; have hcz41_2 : w39.cell? ⟨gb106, 2, none⟩ = some (.bool true) := (blk_cell BK106.out 2).trans rfl; have hfz41_0 := blk_frozen BK106.out 0; have hfz41_1 := blk_frozen BK106.out 1; have hfz41_2 := blk_frozen BK106.out 2))
                        go_ret
                        exact ⟨z7_, z6_⟩
                      · replace c32 := Bool.eq_false_iff.mpr c32
                        subst c32
                        have H1 : (impl_TableOK.l0 k2 l0_1 (l0_1.length : Int) (wrap64 (x36_2 + 1)) a0_0 l0_1 a0_2 l0_3) = some r := by rw [if_neg (show ¬ (false = true) by decide)] at H; exact H
                        clear H
                        have H := H1
                        clear H1
                        have H' := ak_ H
                        clear H
                        have p105 : 0 ≤ (x36_2 : Int) := of_decide_eq_true z5_
                        have q105 : x36_2 < (l0_1.length : Int) := of_decide_eq_true z5_
                        obtain ⟨ad105, e105, hx105_0, hx105_1, hx105_2⟩ := at_T70 HR0_1.out x36_2 p105 q105
                        (try rw [← Nbq31.out] at hx105_2)
                        cases e105
                        replace hx105_0 := (HB.out.cell (World.block_lt_of_cell? w _ hx105_0)).trans hx105_0
                        replace hx105_1 := (HB.out.cell (World.block_lt_of_cell? w _ hx105_1)).trans hx105_1
                        replace hx105_2 := (HB.out.cell (World.block_lt_of_cell? w _ hx105_2)).trans hx105_2
                        replace p105 := eq_true p105
                        replace q105 := eq_true q105
                        go_wp2_with (first | ((with_reducible refine gate_dst (N := 4) rfl ?_); (try (refine gate_guard (by rfl) ?_; dsimp only)); refine box_event ?hg (N := 4) ?hd (cs := #[.string (⟨#[]⟩ : ByteArray), .int .i64 0, .bool false]) (t := 70) ?hr ?_; (case hd => rfl); (case hg => rfl); (case hr => first | (go_simp; done) | (go_simp; rfl)); intro gb106 hg w42 hbox hb; have n0_ := ak_ (blk_below (g := gb101) (o := .cells #[.string a0_0, .slice (some ad105) l0_1.length c0_1, .int .i64 a0_2, .slice A0_3 l0_3.length c0_3] 39 (0, 0)) z2_ hb); have n1_ := ak_ (below_step z0_ hb); have n2_ := ak_ (hbox); have n3_ := ak_ ((by rw [hg]; exact (below_size z0_) : w.heap.size ≤ gb106)); have n4_ := ak_ ((by rw [hg]; exact (below_size z0_) : w.heap.size ≤ gb106)); have n5_ := ak_ ((z16_ : gb101 ≠ gb106)); have n6_ := ak_ ((z17_ : gb106 ≠ gb101)); clear BK101; clear HB; have BK101 := n0_; have HB := n1_; have BK106 := n2_; have GW106 := n3_; have GE106 := n4_; have NB101_106 := n5_; have NB106_101 := n6_; clear n0_ n1_ n2_ n3_ n4_ n5_ n6_; clear hb hbox hg; have hnb43 := NB106_101.out; have hnc43 := NB101_106.out; have hcz44_0 : w42.cell? ⟨gb106, 0, none⟩ = some (.string (⟨#[]⟩ : ByteArray)) := (blk_cell BK106.out 0).trans rfl; have hcz44_1 : w42.cell? ⟨gb106, 1, none⟩ = some (.int .i64 0) := (blk_cell BK106.out 1).trans rfl; have hcz44_2 : w42.cell? ⟨gb106, 2, none⟩ = some (.bool false) := (blk_cell BK106.out 2).trans rfl; have hfz44_0 := blk_frozen BK106.out 0; have hfz44_1 := blk_frozen BK106.out 1; have hfz44_2 := blk_frozen BK106.out 2) | ((with_reducible refine gate_callee (f := 46) rfl ?_); refine goesL_ (some 42) rfl rfl Tryd.func46 (by kernel_rfl) rfl #[.agg #[.string ((rd_T70 l0_1 x36_2).f0), .int .i64 ((rd_T70 l0_1 x36_2).f1), .bool false]] rfl z3_ ?_; (with_reducible refine (impl_columnOK.calls k2 ((rd_T70 l0_1 x36_2).f0) ((rd_T70 l0_1 x36_2).f1) false true _ z30_).mono ?_); rintro e w45 ⟨rfl, hb⟩; refine ⟨_, rfl, ?_⟩; have n0_ := ak_ (blk_below (g := gb101) (o := .cells #[.string a0_0, .slice (some ad105) l0_1.length c0_1, .int .i64 a0_2, .slice A0_3 l0_3.length c0_3] 39 (0, 0)) z8_ hb); have n1_ := ak_ (blk_below (g := gb106) (o := .cells #[.string ((rd_T70 l0_1 x36_2).f0), .int .i64 ((rd_T70 l0_1 x36_2).f1), .bool false] 70 (0, 0)) z14_ hb); have n2_ := ak_ (below_step z6_ hb); clear BK101; clear BK106; clear HB; have BK101 := n0_; have BK106 := n1_; have HB := n2_; clear n0_ n1_ n2_; (try clear hb); (try clear hb2); (try clear hk); (try clear hi); have hcz46_0 : w45.cell? ⟨gb101, 0, none⟩ = some (.string a0_0) := (blk_cell BK101.out 0).trans rfl; have hcz46_1 : w45.cell? ⟨gb101, 1, none⟩ = some (.slice (some ad105) l0_1.length c0_1) := (blk_cell BK101.out 1).trans rfl; have hcz46_2 : w45.cell? ⟨gb101, 2, none⟩ = some (.int .i64 a0_2) := (blk_cell BK101.out 2).trans rfl; have hcz46_3 : w45.cell? ⟨gb101, 3, none⟩ = some (.slice A0_3 l0_3.length c0_3) := (blk_cell BK101.out 3).trans rfl; have hfz46_0 := blk_frozen BK101.out 0; have hfz46_1 := blk_frozen BK101.out 1; have hfz46_2 := blk_frozen BK101.out 2; have hfz46_3 := blk_frozen BK101.out 3; have hcz47_0 : w45.cell? ⟨gb106, 0, none⟩ = some (.string ((rd_T70 l0_1 x36_2).f0)) := (blk_cell BK106.out 0).trans rfl; have hcz47_1 : w45.cell? ⟨gb106, 1, none⟩ = some (.int .i64 ((rd_T70 l0_1 x36_2).f1)) := (blk_cell BK106.out 1).trans rfl; have hcz47_2 : w45.cell? ⟨gb106, 2, none⟩ = some (.bool false) := (blk_cell BK106.out 2).trans rfl; have hfz47_0 := blk_frozen BK106.out 0; have hfz47_1 := blk_frozen BK106.out 1; have hfz47_2 := blk_frozen BK106.out 2) | (go_at_call 47; (with_reducible refine (impl_Table_column.calls a0_0 _ _ l0_1 a0_2 _ _ l0_3 ((rd_T70 l0_1 x36_2).f0) t108 _ ?side1 ?side2 ?side3 ?side4 z44_).mono ?_); (case side1 => repeat (first | exact (Kd.C_below HR0_1.out HB.out) | (with_reducible refine Kd.C_alloc ?_ _) | (with_reducible refine Kd.C_drewN ?_ _) | (with_reducible refine Kd.C_drew ?_))); (case side2 => exact HC0_1.out); (case side3 => repeat (first | exact (Kd.C_below HR0_3.out HB.out) | (with_reducible refine Kd.C_alloc ?_ _) | (with_reducible refine Kd.C_drewN ?_ _) | (with_reducible refine Kd.C_drew ?_))); (case side4 => exact HC0_3.out); rintro e w48 ⟨rfl, hb⟩; have n0_ := ak_ (blk_below (g := gb101) (o := .cells #[.string a0_0, .slice (some ad105) l0_1.length c0_1, .int .i64 a0_2, .slice A0_3 l0_3.length c0_3] 39 (0, 0)) z2_ hb); have n1_ := ak_ (blk_below (g := gb106) (o := .cells #[.string ((rd_T70 l0_1 x36_2).f0), .int .i64 ((rd_T70 l0_1 x36_2).f1), .bool false] 70 (0, 0)) z20_ hb); have n2_ := ak_ (below_step z6_ hb); clear BK101; clear BK106; clear HB; have BK101 := n0_; have BK106 := n1_; have HB := n2_; clear n0_ n1_ n2_; (try clear hb); (try clear hb2); (try clear hk); (try clear hi); have hcz49_0 : w48.cell? ⟨gb101, 0, none⟩ = some (.string a0_0) := (blk_cell BK101.out 0).trans rfl; have hcz49_1 : w48.cell? ⟨gb101, 1, none⟩ = some (.slice (some ad105) l0_1.length c0_1) := (blk_cell BK101.out 1).trans rfl; have hcz49_2 : w48.cell? ⟨gb101, 2, none⟩ = some (.int .i64 a0_2) := (blk_cell BK101.out 2).trans rfl; have hcz49_3 : w48.cell? ⟨gb101, 3, none⟩ = some (.slice A0_3 l0_3.length c0_3) := (blk_cell BK101.out 3).trans rfl; have hfz49_0 := blk_frozen BK101.out 0; have hfz49_1 := blk_frozen BK101.out 1; have hfz49_2 := blk_frozen BK101.out 2; have hfz49_3 := blk_frozen BK101.out 3; have hcz50_0 : w48.cell? ⟨gb106, 0, none⟩ = some (.string ((rd_T70 l0_1 x36_2).f0)) := (blk_cell BK106.out 0).trans rfl; have hcz50_1 : w48.cell? ⟨gb106, 1, none⟩ = some (.int .i64 ((rd_T70 l0_1 x36_2).f1)) := (blk_cell BK106.out 1).trans rfl; have hcz50_2 : w48.cell? ⟨gb106, 2, none⟩ = some (.bool false) := (blk_cell BK106.out 2).trans rfl; have hfz50_0 := blk_frozen BK106.out 0; have hfz50_1 := blk_frozen BK106.out 1; have hfz50_2 := blk_frozen BK106.out 2))
                        go_roundg k2
                        case measure => have := HJ1.out; have := HK2.out; omega
                        case rel => exact ⟨(wrap64 (x36_2 + 1)), z9_, H', ⟨by have := HJ1.out; have := HK2.out; omega⟩, ⟨z2_⟩, ⟨z6_⟩⟩
                    · rw [if_neg c30] at H
                      have c30b0 : decide (x36_2 < a0_2) = false := decide_eq_false c30
                      clear c30
                      have H' := ak_ H
                      clear H
                      have p105 : 0 ≤ (x36_2 : Int) := of_decide_eq_true z5_
                      have q105 : x36_2 < (l0_1.length : Int) := of_decide_eq_true z5_
                      obtain ⟨ad105, e105, hx105_0, hx105_1, hx105_2⟩ := at_T70 HR0_1.out x36_2 p105 q105
                      cases e105
                      replace hx105_0 := (HB.out.cell (World.block_lt_of_cell? w _ hx105_0)).trans hx105_0
                      replace hx105_1 := (HB.out.cell (World.block_lt_of_cell? w _ hx105_1)).trans hx105_1
                      replace hx105_2 := (HB.out.cell (World.block_lt_of_cell? w _ hx105_2)).trans hx105_2
                      replace p105 := eq_true p105
                      replace q105 := eq_true q105
                      go_wp2_with (first | ((with_reducible refine gate_dst (N := 4) rfl ?_); (try (refine gate_guard (by rfl) ?_; dsimp only)); refine box_event ?hg (N := 4) ?hd (cs := #[.string (⟨#[]⟩ : ByteArray), .int .i64 0, .bool false]) (t := 70) ?hr ?_; (case hd => rfl); (case hg => rfl); (case hr => first | (go_simp; done) | (go_simp; rfl)); intro gb106 hg w51 hbox hb; have n0_ := ak_ (blk_below (g := gb101) (o := .cells #[.string a0_0, .slice (some ad105) l0_1.length c0_1, .int .i64 a0_2, .slice A0_3 l0_3.length c0_3] 39 (0, 0)) z2_ hb); have n1_ := ak_ (below_step z0_ hb); have n2_ := ak_ (hbox); have n3_ := ak_ ((by rw [hg]; exact (below_size z0_) : w.heap.size ≤ gb106)); have n4_ := ak_ ((by rw [hg]; exact (below_size z0_) : w.heap.size ≤ gb106)); have n5_ := ak_ ((z16_ : gb101 ≠ gb106)); have n6_ := ak_ ((z17_ : gb106 ≠ gb101)); clear BK101; clear HB; have BK101 := n0_; have HB := n1_; have BK106 := n2_; have GW106 := n3_; have GE106 := n4_; have NB101_106 := n5_; have NB106_101 := n6_; clear n0_ n1_ n2_ n3_ n4_ n5_ n6_; clear hb hbox hg; have hnb52 := NB106_101.out; have hnc52 := NB101_106.out; have hcz53_0 : w51.cell? ⟨gb106, 0, none⟩ = some (.string (⟨#[]⟩ : ByteArray)) := (blk_cell BK106.out 0).trans rfl; have hcz53_1 : w51.cell? ⟨gb106, 1, none⟩ = some (.int .i64 0) := (blk_cell BK106.out 1).trans rfl; have hcz53_2 : w51.cell? ⟨gb106, 2, none⟩ = some (.bool false) := (blk_cell BK106.out 2).trans rfl; have hfz53_0 := blk_frozen BK106.out 0; have hfz53_1 := blk_frozen BK106.out 1; have hfz53_2 := blk_frozen BK106.out 2) | ((with_reducible refine gate_callee (f := 46) rfl ?_); refine goesL_ (some 42) rfl rfl Tryd.func46 (by kernel_rfl) rfl #[.agg #[.string ((rd_T70 l0_1 x36_2).f0), .int .i64 ((rd_T70 l0_1 x36_2).f1), .bool ((rd_T70 l0_1 x36_2).f2)]] rfl z3_ ?_; (with_reducible refine (impl_columnOK.calls k2 ((rd_T70 l0_1 x36_2).f0) ((rd_T70 l0_1 x36_2).f1) ((rd_T70 l0_1 x36_2).f2) true _ z30_).mono ?_); rintro e w54 ⟨rfl, hb⟩; refine ⟨_, rfl, ?_⟩; have n0_ := ak_ (blk_below (g := gb101) (o := .cells #[.string a0_0, .slice (some ad105) l0_1.length c0_1, .int .i64 a0_2, .slice A0_3 l0_3.length c0_3] 39 (0, 0)) z8_ hb); have n1_ := ak_ (blk_below (g := gb106) (o := .cells #[.string ((rd_T70 l0_1 x36_2).f0), .int .i64 ((rd_T70 l0_1 x36_2).f1), .bool ((rd_T70 l0_1 x36_2).f2)] 70 (0, 0)) z14_ hb); have n2_ := ak_ (below_step z6_ hb); clear BK101; clear BK106; clear HB; have BK101 := n0_; have BK106 := n1_; have HB := n2_; clear n0_ n1_ n2_; (try clear hb); (try clear hb2); (try clear hk); (try clear hi); have hcz55_0 : w54.cell? ⟨gb101, 0, none⟩ = some (.string a0_0) := (blk_cell BK101.out 0).trans rfl; have hcz55_1 : w54.cell? ⟨gb101, 1, none⟩ = some (.slice (some ad105) l0_1.length c0_1) := (blk_cell BK101.out 1).trans rfl; have hcz55_2 : w54.cell? ⟨gb101, 2, none⟩ = some (.int .i64 a0_2) := (blk_cell BK101.out 2).trans rfl; have hcz55_3 : w54.cell? ⟨gb101, 3, none⟩ = some (.slice A0_3 l0_3.length c0_3) := (blk_cell BK101.out 3).trans rfl; have hfz55_0 := blk_frozen BK101.out 0; have hfz55_1 := blk_frozen BK101.out 1; have hfz55_2 := blk_frozen BK101.out 2; have hfz55_3 := blk_frozen BK101.out 3; have hcz56_0 : w54.cell? ⟨gb106, 0, none⟩ = some (.string ((rd_T70 l0_1 x36_2).f0)) := (blk_cell BK106.out 0).trans rfl; have hcz56_1 : w54.cell? ⟨gb106, 1, none⟩ = some (.int .i64 ((rd_T70 l0_1 x36_2).f1)) := (blk_cell BK106.out 1).trans rfl; have hcz56_2 : w54.cell? ⟨gb106, 2, none⟩ = some (.bool ((rd_T70 l0_1 x36_2).f2)) := (blk_cell BK106.out 2).trans rfl; have hfz56_0 := blk_frozen BK106.out 0; have hfz56_1 := blk_frozen BK106.out 1; have hfz56_2 := blk_frozen BK106.out 2) | (go_at_call 47; (with_reducible refine (impl_Table_column.calls a0_0 _ _ l0_1 a0_2 _ _ l0_3 ((rd_T70 l0_1 x36_2).f0) t108 _ ?side1 ?side2 ?side3 ?side4 z44_).mono ?_); (case side1 => repeat (first | exact (Kd.C_below HR0_1.out HB.out) | (with_reducible refine Kd.C_alloc ?_ _) | (with_reducible refine Kd.C_drewN ?_ _) | (with_reducible refine Kd.C_drew ?_))); (case side2 => exact HC0_1.out); (case side3 => repeat (first | exact (Kd.C_below HR0_3.out HB.out) | (with_reducible refine Kd.C_alloc ?_ _) | (with_reducible refine Kd.C_drewN ?_ _) | (with_reducible refine Kd.C_drew ?_))); (case side4 => exact HC0_3.out); rintro e w57 ⟨rfl, hb⟩; have n0_ := ak_ (blk_below (g := gb101) (o := .cells #[.string a0_0, .slice (some ad105) l0_1.length c0_1, .int .i64 a0_2, .slice A0_3 l0_3.length c0_3] 39 (0, 0)) z2_ hb); have n1_ := ak_ (blk_below (g := gb106) (o := .cells #[.string ((rd_T70 l0_1 x36_2).f0), .int .i64 ((rd_T70 l0_1 x36_2).f1), .bool ((rd_T70 l0_1 x36_2).f2)] 70 (0, 0)) z20_ hb); have n2_ := ak_ (below_step z6_ hb); clear BK101; clear BK106; clear HB; have BK101 := n0_; have BK106 := n1_; have HB := n2_; clear n0_ n1_ n2_; (try clear hb); (try clear hb2); (try clear hk); (try clear hi); have hcz58_0 : w57.cell? ⟨gb101, 0, none⟩ = some (.string a0_0) := (blk_cell BK101.out 0).trans rfl; have hcz58_1 : w57.cell? ⟨gb101, 1, none⟩ = some (.slice (some ad105) l0_1.length c0_1) := (blk_cell BK101.out 1).trans rfl; have hcz58_2 : w57.cell? ⟨gb101, 2, none⟩ = some (.int .i64 a0_2) := (blk_cell BK101.out 2).trans rfl; have hcz58_3 : w57.cell? ⟨gb101, 3, none⟩ = some (.slice A0_3 l0_3.length c0_3) := (blk_cell BK101.out 3).trans rfl; have hfz58_0 := blk_frozen BK101.out 0; have hfz58_1 := blk_frozen BK101.out 1; have hfz58_2 := blk_frozen BK101.out 2; have hfz58_3 := blk_frozen BK101.out 3))
                      go_roundg k2
                      case measure => have := HJ1.out; have := HK2.out; omega
                      case rel => exact ⟨(wrap64 (x36_2 + 1)), z9_, H', ⟨by have := HJ1.out; have := HK2.out; omega⟩, ⟨z2_⟩, ⟨z6_⟩⟩
                  · rw [if_neg c29] at H
                    have c29b0 : (t108 == x36_2) = false := beq_eq_false_iff_ne.mpr c29
                    have c29b1 : (t108 != x36_2) = true := bne_iff_ne.mpr c29
                    obtain rfl := Option.some.inj H
                    have p105 : 0 ≤ (x36_2 : Int) := of_decide_eq_true z5_
                    have q105 : x36_2 < (l0_1.length : Int) := of_decide_eq_true z5_
                    obtain ⟨ad105, e105, hx105_0, hx105_1, hx105_2⟩ := at_T70 HR0_1.out x36_2 p105 q105
                    cases e105
                    replace hx105_0 := (HB.out.cell (World.block_lt_of_cell? w _ hx105_0)).trans hx105_0
                    replace hx105_1 := (HB.out.cell (World.block_lt_of_cell? w _ hx105_1)).trans hx105_1
                    replace hx105_2 := (HB.out.cell (World.block_lt_of_cell? w _ hx105_2)).trans hx105_2
                    replace p105 := eq_true p105
                    replace q105 := eq_true q105
                    go_wp2_with (first | ((with_reducible refine gate_dst (N := 4) rfl ?_); (try (refine gate_guard (by rfl) ?_; dsimp only)); refine box_event ?hg (N := 4) ?hd (cs := #[.string (⟨#[]⟩ : ByteArray), .int .i64 0, .bool false]) (t := 70) ?hr ?_; (case hd => rfl); (case hg => rfl); (case hr => first | (go_simp; done) | (go_simp; rfl)); intro gb106 hg w59 hbox hb; have n0_ := ak_ (blk_below (g := gb101) (o := .cells #[.string a0_0, .slice (some ad105) l0_1.length c0_1, .int .i64 a0_2, .slice A0_3 l0_3.length c0_3] 39 (0, 0)) z2_ hb); have n1_ := ak_ (below_step z0_ hb); have n2_ := ak_ (hbox); have n3_ := ak_ ((by rw [hg]; exact (below_size z0_) : w.heap.size ≤ gb106)); have n4_ := ak_ ((by rw [hg]; exact (below_size z0_) : w.heap.size ≤ gb106)); have n5_ := ak_ ((z16_ : gb101 ≠ gb106)); have n6_ := ak_ ((z17_ : gb106 ≠ gb101)); clear BK101; clear HB; have BK101 := n0_; have HB := n1_; have BK106 := n2_; have GW106 := n3_; have GE106 := n4_; have NB101_106 := n5_; have NB106_101 := n6_; clear n0_ n1_ n2_ n3_ n4_ n5_ n6_; clear hb hbox hg; have hnb60 := NB106_101.out; have hnc60 := NB101_106.out; have hcz61_0 : w59.cell? ⟨gb106, 0, none⟩ = some (.string (⟨#[]⟩ : ByteArray)) := (blk_cell BK106.out 0).trans rfl; have hcz61_1 : w59.cell? ⟨gb106, 1, none⟩ = some (.int .i64 0) := (blk_cell BK106.out 1).trans rfl; have hcz61_2 : w59.cell? ⟨gb106, 2, none⟩ = some (.bool false) := (blk_cell BK106.out 2).trans rfl; have hfz61_0 := blk_frozen BK106.out 0; have hfz61_1 := blk_frozen BK106.out 1; have hfz61_2 := blk_frozen BK106.out 2) | ((with_reducible refine gate_callee (f := 46) rfl ?_); refine goesL_ (some 42) rfl rfl Tryd.func46 (by kernel_rfl) rfl #[.agg #[.string ((rd_T70 l0_1 x36_2).f0), .int .i64 ((rd_T70 l0_1 x36_2).f1), .bool ((rd_T70 l0_1 x36_2).f2)]] rfl z3_ ?_; (with_reducible refine (impl_columnOK.calls k2 ((rd_T70 l0_1 x36_2).f0) ((rd_T70 l0_1 x36_2).f1) ((rd_T70 l0_1 x36_2).f2) true _ z30_).mono ?_); rintro e w62 ⟨rfl, hb⟩; refine ⟨_, rfl, ?_⟩; have n0_ := ak_ (blk_below (g := gb101) (o := .cells #[.string a0_0, .slice (some ad105) l0_1.length c0_1, .int .i64 a0_2, .slice A0_3 l0_3.length c0_3] 39 (0, 0)) z8_ hb); have n1_ := ak_ (blk_below (g := gb106) (o := .cells #[.string ((rd_T70 l0_1 x36_2).f0), .int .i64 ((rd_T70 l0_1 x36_2).f1), .bool ((rd_T70 l0_1 x36_2).f2)] 70 (0, 0)) z14_ hb); have n2_ := ak_ (below_step z6_ hb); clear BK101; clear BK106; clear HB; have BK101 := n0_; have BK106 := n1_; have HB := n2_; clear n0_ n1_ n2_; (try clear hb); (try clear hb2); (try clear hk); (try clear hi); have hcz63_0 : w62.cell? ⟨gb101, 0, none⟩ = some (.string a0_0) := (blk_cell BK101.out 0).trans rfl; have hcz63_1 : w62.cell? ⟨gb101, 1, none⟩ = some (.slice (some ad105) l0_1.length c0_1) := (blk_cell BK101.out 1).trans rfl; have hcz63_2 : w62.cell? ⟨gb101, 2, none⟩ = some (.int .i64 a0_2) := (blk_cell BK101.out 2).trans rfl; have hcz63_3 : w62.cell? ⟨gb101, 3, none⟩ = some (.slice A0_3 l0_3.length c0_3) := (blk_cell BK101.out 3).trans rfl; have hfz63_0 := blk_frozen BK101.out 0; have hfz63_1 := blk_frozen BK101.out 1; have hfz63_2 := blk_frozen BK101.out 2; have hfz63_3 := blk_frozen BK101.out 3; have hcz64_0 : w62.cell? ⟨gb106, 0, none⟩ = some (.string ((rd_T70 l0_1 x36_2).f0)) := (blk_cell BK106.out 0).trans rfl; have hcz64_1 : w62.cell? ⟨gb106, 1, none⟩ = some (.int .i64 ((rd_T70 l0_1 x36_2).f1)) := (blk_cell BK106.out 1).trans rfl; have hcz64_2 : w62.cell? ⟨gb106, 2, none⟩ = some (.bool ((rd_T70 l0_1 x36_2).f2)) := (blk_cell BK106.out 2).trans rfl; have hfz64_0 := blk_frozen BK106.out 0; have hfz64_1 := blk_frozen BK106.out 1; have hfz64_2 := blk_frozen BK106.out 2) | (go_at_call 47; (with_reducible refine (impl_Table_column.calls a0_0 _ _ l0_1 a0_2 _ _ l0_3 ((rd_T70 l0_1 x36_2).f0) t108 _ ?side1 ?side2 ?side3 ?side4 z44_).mono ?_); (case side1 => repeat (first | exact (Kd.C_below HR0_1.out HB.out) | (with_reducible refine Kd.C_alloc ?_ _) | (with_reducible refine Kd.C_drewN ?_ _) | (with_reducible refine Kd.C_drew ?_))); (case side2 => exact HC0_1.out); (case side3 => repeat (first | exact (Kd.C_below HR0_3.out HB.out) | (with_reducible refine Kd.C_alloc ?_ _) | (with_reducible refine Kd.C_drewN ?_ _) | (with_reducible refine Kd.C_drew ?_))); (case side4 => exact HC0_3.out); rintro e w65 ⟨rfl, hb⟩; have n0_ := ak_ (blk_below (g := gb101) (o := .cells #[.string a0_0, .slice (some ad105) l0_1.length c0_1, .int .i64 a0_2, .slice A0_3 l0_3.length c0_3] 39 (0, 0)) z2_ hb); have n1_ := ak_ (blk_below (g := gb106) (o := .cells #[.string ((rd_T70 l0_1 x36_2).f0), .int .i64 ((rd_T70 l0_1 x36_2).f1), .bool ((rd_T70 l0_1 x36_2).f2)] 70 (0, 0)) z20_ hb); have n2_ := ak_ (below_step z6_ hb); clear BK101; clear BK106; clear HB; have BK101 := n0_; have BK106 := n1_; have HB := n2_; clear n0_ n1_ n2_; (try clear hb); (try clear hb2); (try clear hk); (try clear hi)))
                    go_ret
                    exact ⟨z7_, z6_⟩
                · replace c27 := Bool.eq_false_iff.mpr c27
                  subst c27
                  have H1 : (some false) = some r := by rw [if_neg (show ¬ (false = true) by decide)] at H; exact H
                  clear H
                  have H := H1
                  clear H1
                  obtain rfl := Option.some.inj H
                  have p105 : 0 ≤ (x36_2 : Int) := of_decide_eq_true z5_
                  have q105 : x36_2 < (l0_1.length : Int) := of_decide_eq_true z5_
                  obtain ⟨ad105, e105, hx105_0, hx105_1, hx105_2⟩ := at_T70 HR0_1.out x36_2 p105 q105
                  cases e105
                  replace hx105_0 := (HB.out.cell (World.block_lt_of_cell? w _ hx105_0)).trans hx105_0
                  replace hx105_1 := (HB.out.cell (World.block_lt_of_cell? w _ hx105_1)).trans hx105_1
                  replace hx105_2 := (HB.out.cell (World.block_lt_of_cell? w _ hx105_2)).trans hx105_2
                  replace p105 := eq_true p105
                  replace q105 := eq_true q105
                  go_wp2_with (first | ((with_reducible refine gate_dst (N := 4) rfl ?_); (try (refine gate_guard (by rfl) ?_; dsimp only)); refine box_event ?hg (N := 4) ?hd (cs := #[.string (⟨#[]⟩ : ByteArray), .int .i64 0, .bool false]) (t := 70) ?hr ?_; (case hd => rfl); (case hg => rfl); (case hr => first | (go_simp; done) | (go_simp; rfl)); intro gb106 hg w66 hbox hb; have n0_ := ak_ (blk_below (g := gb101) (o := .cells #[.string a0_0, .slice (some ad105) l0_1.length c0_1, .int .i64 a0_2, .slice A0_3 l0_3.length c0_3] 39 (0, 0)) z2_ hb); have n1_ := ak_ (below_step z0_ hb); have n2_ := ak_ (hbox); have n3_ := ak_ ((by rw [hg]; exact (below_size z0_) : w.heap.size ≤ gb106)); have n4_ := ak_ ((by rw [hg]; exact (below_size z0_) : w.heap.size ≤ gb106)); have n5_ := ak_ ((z16_ : gb101 ≠ gb106)); have n6_ := ak_ ((z17_ : gb106 ≠ gb101)); clear BK101; clear HB; have BK101 := n0_; have HB := n1_; have BK106 := n2_; have GW106 := n3_; have GE106 := n4_; have NB101_106 := n5_; have NB106_101 := n6_; clear n0_ n1_ n2_ n3_ n4_ n5_ n6_; clear hb hbox hg; have hnb67 := NB106_101.out; have hnc67 := NB101_106.out; have hcz68_0 : w66.cell? ⟨gb106, 0, none⟩ = some (.string (⟨#[]⟩ : ByteArray)) := (blk_cell BK106.out 0).trans rfl; have hcz68_1 : w66.cell? ⟨gb106, 1, none⟩ = some (.int .i64 0) := (blk_cell BK106.out 1).trans rfl; have hcz68_2 : w66.cell? ⟨gb106, 2, none⟩ = some (.bool false) := (blk_cell BK106.out 2).trans rfl; have hfz68_0 := blk_frozen BK106.out 0; have hfz68_1 := blk_frozen BK106.out 1; have hfz68_2 := blk_frozen BK106.out 2) | ((with_reducible refine gate_callee (f := 46) rfl ?_); refine goesL_ (some 42) rfl rfl Tryd.func46 (by kernel_rfl) rfl #[.agg #[.string ((rd_T70 l0_1 x36_2).f0), .int .i64 ((rd_T70 l0_1 x36_2).f1), .bool ((rd_T70 l0_1 x36_2).f2)]] rfl z3_ ?_; (with_reducible refine (impl_columnOK.calls k2 ((rd_T70 l0_1 x36_2).f0) ((rd_T70 l0_1 x36_2).f1) ((rd_T70 l0_1 x36_2).f2) false _ z30_).mono ?_); rintro e w69 ⟨rfl, hb⟩; refine ⟨_, rfl, ?_⟩; have n0_ := ak_ (blk_below (g := gb101) (o := .cells #[.string a0_0, .slice (some ad105) l0_1.length c0_1, .int .i64 a0_2, .slice A0_3 l0_3.length c0_3] 39 (0, 0)) z8_ hb); have n1_ := ak_ (blk_below (g := gb106) (o := .cells #[.string ((rd_T70 l0_1 x36_2).f0), .int .i64 ((rd_T70 l0_1 x36_2).f1), .bool ((rd_T70 l0_1 x36_2).f2)] 70 (0, 0)) z14_ hb); have n2_ := ak_ (below_step z6_ hb); clear BK101; clear BK106; clear HB; have BK101 := n0_; have BK106 := n1_; have HB := n2_; clear n0_ n1_ n2_; (try clear hb); (try clear hb2); (try clear hk); (try clear hi)))
                  go_ret
                  exact ⟨z7_, z6_⟩
              · rw [if_neg c25] at H
                exact absurd H (by simp)
            · rw [if_neg c24] at H
              exact absurd H (by simp)
          rw [if_neg c23] at H
          have c23b0 : decide (x36_2 < (l0_1.length : Int)) = false := decide_eq_false c23
          clear c23
          have H' := ak_ H
          clear H
          have hcz70_0 : wr.cell? ⟨gb101, 0, none⟩ = some (.string a0_0) := (blk_cell BK101.out 0).trans rfl
          have hcz70_1 : wr.cell? ⟨gb101, 1, none⟩ = some (.slice A0_1 l0_1.length c0_1) := (blk_cell BK101.out 1).trans rfl
          have hcz70_2 : wr.cell? ⟨gb101, 2, none⟩ = some (.int .i64 a0_2) := (blk_cell BK101.out 2).trans rfl
          have hcz70_3 : wr.cell? ⟨gb101, 3, none⟩ = some (.slice A0_3 l0_3.length c0_3) := (blk_cell BK101.out 3).trans rfl
          have hfz70_0 := blk_frozen BK101.out 0
          have hfz70_1 := blk_frozen BK101.out 1
          have hfz70_2 := blk_frozen BK101.out 2
          have hfz70_3 := blk_frozen BK101.out 3
          go_wp2
          go_loopg [66] k2 (fun kq v66 w' => ∃ (x66_3 : Int), v66 = .int .i64 x66_3 ∧ Aside0 (impl_TableOK.l1 kq l0_3 (l0_3.length : Int) x66_3 a0_0 l0_1 a0_2 l0_3 = some r) ∧ Aside0 (kq ≤ k2) ∧ Aside0 (w'.heap[gb101]? = some (.cells #[.string a0_0, (.slice A0_1 l0_1.length c0_1), .int .i64 a0_2, (.slice A0_3 l0_3.length c0_3)] 39 (0, 0))) ∧ Aside0 (Below w.heap.size w w'))
          case atStart => exact ⟨(0), z9_, H', ⟨Nat.le_refl _⟩, ⟨z2_⟩, ⟨z0_⟩⟩
          case round =>
            clear H'
            try clear c1
            try clear p1
            try clear q1
            try clear hx1
            try clear c2
            try clear p2
            try clear c3
            try clear q3
            try clear c4
            try clear c5
            try clear c6
            try clear p6
            try clear c7
            try clear c9
            try clear p10
            try clear q10
            try clear hx10
            try clear c15
            try clear c21
            try clear c23
            try clear c23b0
            try clear c24
            try clear c24b0
            try clear c25
            try clear c25b0
            try clear c27
            try clear c29
            try clear c29b0
            try clear c29b1
            try clear c30
            try clear c30b0
            try clear q31
            try clear c32
            try clear c34
            try clear c43
            try clear c44
            try clear c46
            try clear c52
            try clear c60
            try clear p64
            try clear c67
            try clear hcz10_0
            try clear hcz10_1
            try clear hcz10_2
            try clear hcz10_3
            try clear hcz12_0
            try clear hcz12_1
            try clear hcz12_2
            try clear hcz12_3
            try clear hcz13_0
            try clear hcz13_1
            try clear hcz13_2
            try clear hcz13_3
            try clear hcz15_0
            try clear hcz15_1
            try clear hcz15_2
            try clear hcz15_3
            try clear hcz16_0
            try clear hcz16_1
            try clear hcz16_2
            try clear hcz16_3
            try clear hcz18_0
            try clear hcz18_1
            try clear hcz18_2
            try clear hcz18_3
            try clear hcz19_0
            try clear hcz19_1
            try clear hcz19_2
            try clear hcz19_3
            try clear hcz22_0
            try clear hcz22_1
            try clear hcz22_2
            try clear hcz22_3
            try clear hcz35_0
            try clear hcz35_1
            try clear hcz35_2
            try clear hcz37_0
            try clear hcz37_1
            try clear hcz37_2
            try clear hcz37_3
            try clear hcz38_0
            try clear hcz38_1
            try clear hcz38_2
            try clear hcz40_0
            try clear hcz40_1
            try clear hcz40_2
            try clear hcz40_3
            try clear hcz41_0
            try clear hcz41_1
            try clear hcz41_2
            try clear hcz44_0
            try clear hcz44_1
            try clear hcz44_2
            try clear hcz46_0
            try clear hcz46_1
            try clear hcz46_2
            try clear hcz46_3
            try clear hcz47_0
            try clear hcz47_1
            try clear hcz47_2
            try clear hcz49_0
            try clear hcz49_1
            try clear hcz49_2
            try clear hcz49_3
            try clear hcz50_0
            try clear hcz50_1
            try clear hcz50_2
            try clear hcz53_0
            try clear hcz53_1
            try clear hcz53_2
            try clear hcz55_0
            try clear hcz55_1
            try clear hcz55_2
            try clear hcz55_3
            try clear hcz56_0
            try clear hcz56_1
            try clear hcz56_2
            try clear hcz58_0
            try clear hcz58_1
            try clear hcz58_2
            try clear hcz58_3
            try clear hcz61_0
            try clear hcz61_1
            try clear hcz61_2
            try clear hcz63_0
            try clear hcz63_1
            try clear hcz63_2
            try clear hcz63_3
            try clear hcz64_0
            try clear hcz64_1
            try clear hcz64_2
            try clear hcz68_0
            try clear hcz68_1
            try clear hcz68_2
            try clear hcz70_0
            try clear hcz70_1
            try clear hcz70_2
            try clear hcz70_3
            try clear hfz10_0
            try clear hfz10_1
            try clear hfz10_2
            try clear hfz10_3
            try clear hfz12_0
            try clear hfz12_1
            try clear hfz12_2
            try clear hfz12_3
            try clear hfz13_0
            try clear hfz13_1
            try clear hfz13_2
            try clear hfz13_3
            try clear hfz15_0
            try clear hfz15_1
            try clear hfz15_2
            try clear hfz15_3
            try clear hfz16_0
            try clear hfz16_1
            try clear hfz16_2
            try clear hfz16_3
            try clear hfz18_0
            try clear hfz18_1
            try clear hfz18_2
            try clear hfz18_3
            try clear hfz19_0
            try clear hfz19_1
            try clear hfz19_2
            try clear hfz19_3
            try clear hfz22_0
            try clear hfz22_1
            try clear hfz22_2
            try clear hfz22_3
            try clear hfz35_0
            try clear hfz35_1
            try clear hfz35_2
            try clear hfz37_0
            try clear hfz37_1
            try clear hfz37_2
            try clear hfz37_3
            try clear hfz38_0
            try clear hfz38_1
            try clear hfz38_2
            try clear hfz40_0
            try clear hfz40_1
            try clear hfz40_2
            try clear hfz40_3
            try clear hfz41_0
            try clear hfz41_1
            try clear hfz41_2
            try clear hfz44_0
            try clear hfz44_1
            try clear hfz44_2
            try clear hfz46_0
            try clear hfz46_1
            try clear hfz46_2
            try clear hfz46_3
            try clear hfz47_0
            try clear hfz47_1
            try clear hfz47_2
            try clear hfz49_0
            try clear hfz49_1
            try clear hfz49_2
            try clear hfz49_3
            try clear hfz50_0
            try clear hfz50_1
            try clear hfz50_2
            try clear hfz53_0
            try clear hfz53_1
            try clear hfz53_2
            try clear hfz55_0
            try clear hfz55_1
            try clear hfz55_2
            try clear hfz55_3
            try clear hfz56_0
            try clear hfz56_1
            try clear hfz56_2
            try clear hfz58_0
            try clear hfz58_1
            try clear hfz58_2
            try clear hfz58_3
            try clear hfz61_0
            try clear hfz61_1
            try clear hfz61_2
            try clear hfz63_0
            try clear hfz63_1
            try clear hfz63_2
            try clear hfz63_3
            try clear hfz64_0
            try clear hfz64_1
            try clear hfz64_2
            try clear hfz68_0
            try clear hfz68_1
            try clear hfz68_2
            try clear hfz70_0
            try clear hfz70_1
            try clear hfz70_2
            try clear hfz70_3
            try clear hx105_0
            try clear hx105_1
            try clear hx105_2
            try clear p105
            try clear p2
            try clear q105
            obtain ⟨x66_3, rfl, HA, HK3, BK101, HB⟩ := hrel
            cases gk with
            | zero => exact absurd HA.out (by simp [impl_TableOK.l1])
            | succ k3 =>
              have H := HA.out
              clear HA
              simp only [impl_TableOK.l1] at H
              by_cases c71 : x66_3 < (l0_3.length : Int)
              rotate_left
              · rw [if_neg c71] at H
                have c71b0 : decide (x66_3 < (l0_3.length : Int)) = false := decide_eq_false c71
                clear c71
                obtain rfl := Option.some.inj H
                go_wp2
                go_ret
                exact ⟨z7_, z0_⟩

              rw [if_pos c71] at H
              have c71b0 : decide (x66_3 < (l0_3.length : Int)) = true := decide_eq_true c71
              clear c71
              by_cases c72 : 0 ≤ x66_3
              rotate_left
              · rw [if_neg c72] at H
                exact absurd H (by simp)
              rw [if_pos c72] at H
              have c72b0 : decide (0 ≤ x66_3) = true := decide_eq_true c72
              clear c72
              by_cases c73 : x66_3 < (l0_3.length : Int)
              rotate_left
              · rw [if_neg c73] at H
                exact absurd H (by simp)
              rw [if_pos c73] at H
              have c73b0 : decide (x66_3 < (l0_3.length : Int)) = true := decide_eq_true c73
              clear c73
              replace H := Option.bind_eq_some_iff.mp H
              obtain ⟨t111, A740, H⟩ := H
              replace H : (if t111 = true then ((impl_Table_index.f a0_0 l0_1 a0_2 l0_3 ((rd_T75 l0_3 x66_3).f0)).bind fun t112 => (if t112 = x66_3 then (impl_TableOK.l1 k3 l0_3 (l0_3.length : Int) (wrap64 (x66_3 + 1)) a0_0 l0_1 a0_2 l0_3) else (some false))) else (some false)) = some r := H
              have A74 := ak_ A740
              clear A740
              by_cases c75 : t111 = true
              rotate_left
              · replace c75 := Bool.eq_false_iff.mpr c75
                subst c75
                have H1 : (some false) = some r := by rw [if_neg (show ¬ (false = true) by decide)] at H; exact H
                clear H
                have H := H1
                clear H1
                obtain rfl := Option.some.inj H
                have p109 : 0 ≤ (x66_3 : Int) := of_decide_eq_true z5_
                have q109 : x66_3 < (l0_3.length : Int) := of_decide_eq_true z5_
                obtain ⟨ad109, A109_1, c109_1, e109, hx109_0, hx109_1, hl109_1, hi109_1⟩ := at_T75 HR0_3.out x66_3 p109 q109
                cases e109
                replace hx109_0 := (HB.out.cell (World.block_lt_of_cell? w _ hx109_0)).trans hx109_0
                replace hx109_1 := (HB.out.cell (World.block_lt_of_cell? w _ hx109_1)).trans hx109_1
                have HR109_1 := ak_ hi109_1
                have HC109_1 := ak_ hl109_1
                clear hi109_1 hl109_1
                replace p109 := eq_true p109
                replace q109 := eq_true q109
                go_wp2_with (first | ((with_reducible refine gate_dst (N := 6) rfl ?_); (try (refine gate_guard (by rfl) ?_; dsimp only)); refine box_event ?hg (N := 6) ?hd (cs := #[.string (⟨#[]⟩ : ByteArray), .slice none 0 0]) (t := 75) ?hr ?_; (case hd => rfl); (case hg => rfl); (case hr => first | (go_simp; done) | (go_simp; rfl)); intro gb110 hg w94 hbox hb; have n0_ := ak_ (blk_below (g := gb101) (o := .cells #[.string a0_0, .slice A0_1 l0_1.length c0_1, .int .i64 a0_2, .slice (some ad109) l0_3.length c0_3] 39 (0, 0)) z2_ hb); have n1_ := ak_ (below_step z0_ hb); have n2_ := ak_ (hbox); have n3_ := ak_ ((by rw [hg]; exact (below_size z0_) : w.heap.size ≤ gb110)); have n4_ := ak_ ((by rw [hg]; exact (below_size z0_) : w.heap.size ≤ gb110)); have n5_ := ak_ ((z33_ : gb101 ≠ gb110)); have n6_ := ak_ ((z34_ : gb110 ≠ gb101)); clear BK101; clear HB; have BK101 := n0_; have HB := n1_; have BK110 := n2_; have GW110 := n3_; have GE110 := n4_; have NB101_110 := n5_; have NB110_101 := n6_; clear n0_ n1_ n2_ n3_ n4_ n5_ n6_; clear hb hbox hg; have hnb95 := NB110_101.out; have hnc95 := NB101_110.out; have hcz96_0 : w94.cell? ⟨gb110, 0, none⟩ = some (.string (⟨#[]⟩ : ByteArray)) := (blk_cell BK110.out 0).trans rfl; have hcz96_1 : w94.cell? ⟨gb110, 1, none⟩ = some (.slice none 0 0) := (blk_cell BK110.out 1).trans rfl; have hfz96_0 := blk_frozen BK110.out 0; have hfz96_1 := blk_frozen BK110.out 1; have hcz97_0 : w94.cell? ⟨gb101, 0, none⟩ = some (.string a0_0) := (blk_cell BK101.out 0).trans rfl; have hcz97_1 : w94.cell? ⟨gb101, 1, none⟩ = some (.slice A0_1 l0_1.length c0_1) := (blk_cell BK101.out 1).trans rfl; have hcz97_2 : w94.cell? ⟨gb101, 2, none⟩ = some (.int .i64 a0_2) := (blk_cell BK101.out 2).trans rfl; have hcz97_3 : w94.cell? ⟨gb101, 3, none⟩ = some (.slice (some ad109) l0_3.length c0_3) := (blk_cell BK101.out 3).trans rfl; have hfz97_0 := blk_frozen BK101.out 0; have hfz97_1 := blk_frozen BK101.out 1; have hfz97_2 := blk_frozen BK101.out 2; have hfz97_3 := blk_frozen BK101.out 3) | ((with_reducible refine gate_callee (f := 48) rfl ?_); refine goesL_ (some 73) rfl rfl Tryd.func48 (by kernel_rfl) rfl #[.agg #[.string a0_0, .slice A0_1 l0_1.length c0_1, .int .i64 a0_2, .slice (some ad109) l0_3.length c0_3], .agg #[.string ((rd_T75 l0_3 x66_3).f0), .slice A109_1 ((rd_T75 l0_3 x66_3).f1).length c109_1]] rfl z3_ ?_; (with_reducible refine (impl_Table_indexOK.calls k3 a0_0 _ _ l0_1 a0_2 _ _ l0_3 ((rd_T75 l0_3 x66_3).f0) _ _ ((rd_T75 l0_3 x66_3).f1) false _ ?side1 ?side2 ?side3 ?side4 ?side5 ?side6 z52_).mono ?_); (case side1 => exact Kd.C_below HR0_1.out z13_); (case side2 => exact HC0_1.out); (case side3 => exact Kd.C_below HR0_3.out z13_); (case side4 => exact HC0_3.out); (case side5 => exact Kd.C_below HR109_1.out z13_); (case side6 => exact HC109_1.out); rintro e w98 ⟨rfl, hb⟩; refine ⟨_, rfl, ?_⟩; have n0_ := ak_ (blk_below (g := gb101) (o := .cells #[.string a0_0, .slice A0_1 l0_1.length c0_1, .int .i64 a0_2, .slice (some ad109) l0_3.length c0_3] 39 (0, 0)) z23_ hb); have n1_ := ak_ (blk_below (g := gb110) (o := .cells #[.string ((rd_T75 l0_3 x66_3).f0), .slice A109_1 ((rd_T75 l0_3 x66_3).f1).length c109_1] 75 (0, 0)) z21_ hb); have n2_ := ak_ (below_step z13_ hb); clear BK101; clear BK110; clear HB; have BK101 := n0_; have BK110 := n1_; have HB := n2_; clear n0_ n1_ n2_; (try clear hb); (try clear hb2); (try clear hk); (try clear hi)))
                go_ret
                exact ⟨z7_, z13_⟩
              subst c75
              have H1 : ((impl_Table_index.f a0_0 l0_1 a0_2 l0_3 ((rd_T75 l0_3 x66_3).f0)).bind fun t112 => (if t112 = x66_3 then (impl_TableOK.l1 k3 l0_3 (l0_3.length : Int) (wrap64 (x66_3 + 1)) a0_0 l0_1 a0_2 l0_3) else (some false))) = some r := by rw [if_pos rfl] at H; exact H
              clear H
              have H := H1
              clear H1
              replace H := Option.bind_eq_some_iff.mp H
              obtain ⟨t112, A760, H⟩ := H
              replace H : (if t112 = x66_3 then (impl_TableOK.l1 k3 l0_3 (l0_3.length : Int) (wrap64 (x66_3 + 1)) a0_0 l0_1 a0_2 l0_3) else (some false)) = some r := H
              have A76 := ak_ A760
              clear A760
              by_cases c77 : t112 = x66_3
              rotate_left
              · rw [if_neg c77] at H
                have c77b0 : (t112 == x66_3) = false := beq_eq_false_iff_ne.mpr c77
                have c77b1 : (t112 != x66_3) = true := bne_iff_ne.mpr c77
                obtain rfl := Option.some.inj H
                have p109 : 0 ≤ (x66_3 : Int) := of_decide_eq_true z5_
                have q109 : x66_3 < (l0_3.length : Int) := of_decide_eq_true z5_
                obtain ⟨ad109, A109_1, c109_1, e109, hx109_0, hx109_1, hl109_1, hi109_1⟩ := at_T75 HR0_3.out x66_3 p109 q109
                cases e109
                replace hx109_0 := (HB.out.cell (World.block_lt_of_cell? w _ hx109_0)).trans hx109_0
                replace hx109_1 := (HB.out.cell (World.block_lt_of_cell? w _ hx109_1)).trans hx109_1
                have HR109_1 := ak_ hi109_1
                have HC109_1 := ak_ hl109_1
                clear hi109_1 hl109_1
                replace p109 := eq_true p109
                replace q109 := eq_true q109
                go_wp2_with (first | ((with_reducible refine gate_dst (N := 6) rfl ?_); (try (refine gate_guard (by rfl) ?_; dsimp only)); refine box_event ?hg (N := 6) ?hd (cs := #[.string (⟨#[]⟩ : ByteArray), .slice none 0 0]) (t := 75) ?hr ?_; (case hd => rfl); (case hg => rfl); (case hr => first | (go_simp; done) | (go_simp; rfl)); intro gb110 hg w86 hbox hb; have n0_ := ak_ (blk_below (g := gb101) (o := .cells #[.string a0_0, .slice A0_1 l0_1.length c0_1, .int .i64 a0_2, .slice (some ad109) l0_3.length c0_3] 39 (0, 0)) z2_ hb); have n1_ := ak_ (below_step z0_ hb); have n2_ := ak_ (hbox); have n3_ := ak_ ((by rw [hg]; exact (below_size z0_) : w.heap.size ≤ gb110)); have n4_ := ak_ ((by rw [hg]; exact (below_size z0_) : w.heap.size ≤ gb110)); have n5_ := ak_ ((z33_ : gb101 ≠ gb110)); have n6_ := ak_ ((z34_ : gb110 ≠ gb101)); clear BK101; clear HB; have BK101 := n0_; have HB := n1_; have BK110 := n2_; have GW110 := n3_; have GE110 := n4_; have NB101_110 := n5_; have NB110_101 := n6_; clear n0_ n1_ n2_ n3_ n4_ n5_ n6_; clear hb hbox hg; have hnb87 := NB110_101.out; have hnc87 := NB101_110.out; have hcz88_0 : w86.cell? ⟨gb110, 0, none⟩ = some (.string (⟨#[]⟩ : ByteArray)) := (blk_cell BK110.out 0).trans rfl; have hcz88_1 : w86.cell? ⟨gb110, 1, none⟩ = some (.slice none 0 0) := (blk_cell BK110.out 1).trans rfl; have hfz88_0 := blk_frozen BK110.out 0; have hfz88_1 := blk_frozen BK110.out 1; have hcz89_0 : w86.cell? ⟨gb101, 0, none⟩ = some (.string a0_0) := (blk_cell BK101.out 0).trans rfl; have hcz89_1 : w86.cell? ⟨gb101, 1, none⟩ = some (.slice A0_1 l0_1.length c0_1) := (blk_cell BK101.out 1).trans rfl; have hcz89_2 : w86.cell? ⟨gb101, 2, none⟩ = some (.int .i64 a0_2) := (blk_cell BK101.out 2).trans rfl; have hcz89_3 : w86.cell? ⟨gb101, 3, none⟩ = some (.slice (some ad109) l0_3.length c0_3) := (blk_cell BK101.out 3).trans rfl; have hfz89_0 := blk_frozen BK101.out 0; have hfz89_1 := blk_frozen BK101.out 1; have hfz89_2 := blk_frozen BK101.out 2; have hfz89_3 := blk_frozen BK101.out 3) | ((with_reducible refine gate_callee (f := 48) rfl ?_); refine goesL_ (some 73) rfl rfl Tryd.func48 (by kernel_rfl) rfl #[.agg #[.string a0_0, .slice A0_1 l0_1.length c0_1, .int .i64 a0_2, .slice (some ad109) l0_3.length c0_3], .agg #[.string ((rd_T75 l0_3 x66_3).f0), .slice A109_1 ((rd_T75 l0_3 x66_3).f1).length c109_1]] rfl z3_ ?_; (with_reducible refine (impl_Table_indexOK.calls k3 a0_0 _ _ l0_1 a0_2 _ _ l0_3 ((rd_T75 l0_3 x66_3).f0) _ _ ((rd_T75 l0_3 x66_3).f1) true _ ?side1 ?side2 ?side3 ?side4 ?side5 ?side6 z52_).mono ?_); (case side1 => exact Kd.C_below HR0_1.out z13_); (case side2 => exact HC0_1.out); (case side3 => exact Kd.C_below HR0_3.out z13_); (case side4 => exact HC0_3.out); (case side5 => exact Kd.C_below HR109_1.out z13_); (case side6 => exact HC109_1.out); rintro e w90 ⟨rfl, hb⟩; refine ⟨_, rfl, ?_⟩; have n0_ := ak_ (blk_below (g := gb101) (o := .cells #[.string a0_0, .slice A0_1 l0_1.length c0_1, .int .i64 a0_2, .slice (some ad109) l0_3.length c0_3] 39 (0, 0)) z23_ hb); have n1_ := ak_ (blk_below (g := gb110) (o := .cells #[.string ((rd_T75 l0_3 x66_3).f0), .slice A109_1 ((rd_T75 l0_3 x66_3).f1).length c109_1] 75 (0, 0)) z21_ hb); have n2_ := ak_ (below_step z13_ hb); clear BK101; clear BK110; clear HB; have BK101 := n0_; have BK110 := n1_; have HB := n2_; clear n0_ n1_ n2_; (try clear hb); (try clear hb2); (try clear hk); (try clear hi); have hcz91_0 : w90.cell? ⟨gb101, 0, none⟩ = some (.string a0_0) := (blk_cell BK101.out 0).trans rfl; have hcz91_1 : w90.cell? ⟨gb101, 1, none⟩ = some (.slice A0_1 l0_1.length c0_1) := (blk_cell BK101.out 1).trans rfl; have hcz91_2 : w90.cell? ⟨gb101, 2, none⟩ = some (.int .i64 a0_2) := (blk_cell BK101.out 2).trans rfl; have hcz91_3 : w90.cell? ⟨gb101, 3, none⟩ = some (.slice (some ad109) l0_3.length c0_3) := (blk_cell BK101.out 3).trans rfl; have hfz91_0 := blk_frozen BK101.out 0; have hfz91_1 := blk_frozen BK101.out 1; have hfz91_2 := blk_frozen BK101.out 2; have hfz91_3 := blk_frozen BK101.out 3; have hcz92_0 : w90.cell? ⟨gb110, 0, none⟩ = some (.string ((rd_T75 l0_3 x66_3).f0)) := (blk_cell BK110.out 0).trans rfl; have hcz92_1 : w90.cell? ⟨gb110, 1, none⟩ = some (.slice A109_1 ((rd_T75 l0_3 x66_3).f1).length c109_1) := (blk_cell BK110.out 1).trans rfl; have hfz92_0 := blk_frozen BK110.out 0; have hfz92_1 := blk_frozen BK110.out 1) | (go_at_call 49; (with_reducible refine (impl_Table_index.calls a0_0 _ _ l0_1 a0_2 _ _ l0_3 ((rd_T75 l0_3 x66_3).f0) t112 _ ?side1 ?side2 ?side3 ?side4 (by first | (with_reducible exact A76.out) | (have a_ := A76.out; rw [← Nbq31.out] at a_; exact a_))).mono ?_); (case side1 => repeat (first | exact (Kd.C_below HR0_1.out HB.out) | (with_reducible refine Kd.C_alloc ?_ _) | (with_reducible refine Kd.C_drewN ?_ _) | (with_reducible refine Kd.C_drew ?_))); (case side2 => exact HC0_1.out); (case side3 => repeat (first | exact (Kd.C_below HR0_3.out HB.out) | (with_reducible refine Kd.C_alloc ?_ _) | (with_reducible refine Kd.C_drewN ?_ _) | (with_reducible refine Kd.C_drew ?_))); (case side4 => exact HC0_3.out); rintro e w93 ⟨rfl, hb⟩; have n0_ := ak_ (blk_below (g := gb101) (o := .cells #[.string a0_0, .slice A0_1 l0_1.length c0_1, .int .i64 a0_2, .slice (some ad109) l0_3.length c0_3] 39 (0, 0)) z2_ hb); have n1_ := ak_ (blk_below (g := gb110) (o := .cells #[.string ((rd_T75 l0_3 x66_3).f0), .slice A109_1 ((rd_T75 l0_3 x66_3).f1).length c109_1] 75 (0, 0)) (by (with_reducible repeat (first | refine blk_drewN ?_ _ | refine blk_drew ?_ | refine blk_alloc ?_ _)); exact BK110.out) hb); have n2_ := ak_ (below_step z13_ hb); clear BK101; clear BK110; clear HB; have BK101 := n0_; have BK110 := n1_; have HB := n2_; clear n0_ n1_ n2_; (try clear hb); (try clear hb2); (try clear hk); (try clear hi)))
                go_ret
                exact ⟨z7_, z13_⟩
              rw [if_pos c77] at H
              have c77b0 : (t112 == x66_3) = true := beq_iff_eq.mpr c77
              have c77b1 : (t112 != x66_3) = false := bne_eq_false_iff_eq.mpr c77
              clear c77
              have H' := ak_ H
              clear H
              have p109 : 0 ≤ (x66_3 : Int) := of_decide_eq_true z5_
              have q109 : x66_3 < (l0_3.length : Int) := of_decide_eq_true z5_
              obtain ⟨ad109, A109_1, c109_1, e109, hx109_0, hx109_1, hl109_1, hi109_1⟩ := at_T75 HR0_3.out x66_3 p109 q109
              cases e109
              replace hx109_0 := (HB.out.cell (World.block_lt_of_cell? w _ hx109_0)).trans hx109_0
              replace hx109_1 := (HB.out.cell (World.block_lt_of_cell? w _ hx109_1)).trans hx109_1
              have HR109_1 := ak_ hi109_1
              have HC109_1 := ak_ hl109_1
              clear hi109_1 hl109_1
              replace p109 := eq_true p109
              replace q109 := eq_true q109
              go_wp2_with (first | ((with_reducible refine gate_dst (N := 6) rfl ?_); (try (refine gate_guard (by rfl) ?_; dsimp only)); refine box_event ?hg (N := 6) ?hd (cs := #[.string (⟨#[]⟩ : ByteArray), .slice none 0 0]) (t := 75) ?hr ?_; (case hd => rfl); (case hg => rfl); (case hr => first | (go_simp; done) | (go_simp; rfl)); intro gb110 hg w78 hbox hb; have n0_ := ak_ (blk_below (g := gb101) (o := .cells #[.string a0_0, .slice A0_1 l0_1.length c0_1, .int .i64 a0_2, .slice (some ad109) l0_3.length c0_3] 39 (0, 0)) z2_ hb); have n1_ := ak_ (below_step z0_ hb); have n2_ := ak_ (hbox); have n3_ := ak_ ((by rw [hg]; exact (below_size z0_) : w.heap.size ≤ gb110)); have n4_ := ak_ ((by rw [hg]; exact (below_size z0_) : w.heap.size ≤ gb110)); have n5_ := ak_ ((z33_ : gb101 ≠ gb110)); have n6_ := ak_ ((z34_ : gb110 ≠ gb101)); clear BK101; clear HB; have BK101 := n0_; have HB := n1_; have BK110 := n2_; have GW110 := n3_; have GE110 := n4_; have NB101_110 := n5_; have NB110_101 := n6_; clear n0_ n1_ n2_ n3_ n4_ n5_ n6_; clear hb hbox hg; have hnb79 := NB110_101.out; have hnc79 := NB101_110.out; have hcz80_0 : w78.cell? ⟨gb110, 0, none⟩ = some (.string (⟨#[]⟩ : ByteArray)) := (blk_cell BK110.out 0).trans rfl; have hcz80_1 : w78.cell? ⟨gb110, 1, none⟩ = some (.slice none 0 0) := (blk_cell BK110.out 1).trans rfl; have hfz80_0 := blk_frozen BK110.out 0; have hfz80_1 := blk_frozen BK110.out 1; have hcz81_0 : w78.cell? ⟨gb101, 0, none⟩ = some (.string a0_0) := (blk_cell BK101.out 0).trans rfl; have hcz81_1 : w78.cell? ⟨gb101, 1, none⟩ = some (.slice A0_1 l0_1.length c0_1) := (blk_cell BK101.out 1).trans rfl; have hcz81_2 : w78.cell? ⟨gb101, 2, none⟩ = some (.int .i64 a0_2) := (blk_cell BK101.out 2).trans rfl; have hcz81_3 : w78.cell? ⟨gb101, 3, none⟩ = some (.slice (some ad109) l0_3.length c0_3) := (blk_cell BK101.out 3).trans rfl; have hfz81_0 := blk_frozen BK101.out 0; have hfz81_1 := blk_frozen BK101.out 1; have hfz81_2 := blk_frozen BK101.out 2; have hfz81_3 := blk_frozen BK101.out 3) | ((with_reducible refine gate_callee (f := 48) rfl ?_); refine goesL_ (some 73) rfl rfl Tryd.func48 (by kernel_rfl) rfl #[.agg #[.string a0_0, .slice A0_1 l0_1.length c0_1, .int .i64 a0_2, .slice (some ad109) l0_3.length c0_3], .agg #[.string ((rd_T75 l0_3 x66_3).f0), .slice A109_1 ((rd_T75 l0_3 x66_3).f1).length c109_1]] rfl z3_ ?_; (with_reducible refine (impl_Table_indexOK.calls k3 a0_0 _ _ l0_1 a0_2 _ _ l0_3 ((rd_T75 l0_3 x66_3).f0) _ _ ((rd_T75 l0_3 x66_3).f1) true _ ?side1 ?side2 ?side3 ?side4 ?side5 ?side6 z52_).mono ?_); (case side1 => exact Kd.C_below HR0_1.out z13_); (case side2 => exact HC0_1.out); (case side3 => exact Kd.C_below HR0_3.out z13_); (case side4 => exact HC0_3.out); (case side5 => exact Kd.C_below HR109_1.out z13_); (case side6 => exact HC109_1.out); rintro e w82 ⟨rfl, hb⟩; refine ⟨_, rfl, ?_⟩; have n0_ := ak_ (blk_below (g := gb101) (o := .cells #[.string a0_0, .slice A0_1 l0_1.length c0_1, .int .i64 a0_2, .slice (some ad109) l0_3.length c0_3] 39 (0, 0)) z23_ hb); have n1_ := ak_ (blk_below (g := gb110) (o := .cells #[.string ((rd_T75 l0_3 x66_3).f0), .slice A109_1 ((rd_T75 l0_3 x66_3).f1).length c109_1] 75 (0, 0)) z21_ hb); have n2_ := ak_ (below_step z13_ hb); clear BK101; clear BK110; clear HB; have BK101 := n0_; have BK110 := n1_; have HB := n2_; clear n0_ n1_ n2_; (try clear hb); (try clear hb2); (try clear hk); (try clear hi); have hcz83_0 : w82.cell? ⟨gb101, 0, none⟩ = some (.string a0_0) := (blk_cell BK101.out 0).trans rfl; have hcz83_1 : w82.cell? ⟨gb101, 1, none⟩ = some (.slice A0_1 l0_1.length c0_1) := (blk_cell BK101.out 1).trans rfl; have hcz83_2 : w82.cell? ⟨gb101, 2, none⟩ = some (.int .i64 a0_2) := (blk_cell BK101.out 2).trans rfl; have hcz83_3 : w82.cell? ⟨gb101, 3, none⟩ = some (.slice (some ad109) l0_3.length c0_3) := (blk_cell BK101.out 3).trans rfl; have hfz83_0 := blk_frozen BK101.out 0; have hfz83_1 := blk_frozen BK101.out 1; have hfz83_2 := blk_frozen BK101.out 2; have hfz83_3 := blk_frozen BK101.out 3; have hcz84_0 : w82.cell? ⟨gb110, 0, none⟩ = some (.string ((rd_T75 l0_3 x66_3).f0)) := (blk_cell BK110.out 0).trans rfl; have hcz84_1 : w82.cell? ⟨gb110, 1, none⟩ = some (.slice A109_1 ((rd_T75 l0_3 x66_3).f1).length c109_1) := (blk_cell BK110.out 1).trans rfl; have hfz84_0 := blk_frozen BK110.out 0; have hfz84_1 := blk_frozen BK110.out 1) | (go_at_call 49; (with_reducible refine (impl_Table_index.calls a0_0 _ _ l0_1 a0_2 _ _ l0_3 ((rd_T75 l0_3 x66_3).f0) t112 _ ?side1 ?side2 ?side3 ?side4 (by first | (with_reducible exact A76.out) | (have a_ := A76.out; rw [← Nbq31.out] at a_; exact a_))).mono ?_); (case side1 => repeat (first | exact (Kd.C_below HR0_1.out HB.out) | (with_reducible refine Kd.C_alloc ?_ _) | (with_reducible refine Kd.C_drewN ?_ _) | (with_reducible refine Kd.C_drew ?_))); (case side2 => exact HC0_1.out); (case side3 => repeat (first | exact (Kd.C_below HR0_3.out HB.out) | (with_reducible refine Kd.C_alloc ?_ _) | (with_reducible refine Kd.C_drewN ?_ _) | (with_reducible refine Kd.C_drew ?_))); (case side4 => exact HC0_3.out); rintro e w85 ⟨rfl, hb⟩; have n0_ := ak_ (blk_below (g := gb101) (o := .cells #[.string a0_0, .slice A0_1 l0_1.length c0_1, .int .i64 a0_2, .slice (some ad109) l0_3.length c0_3] 39 (0, 0)) z2_ hb); have n1_ := ak_ (blk_below (g := gb110) (o := .cells #[.string ((rd_T75 l0_3 x66_3).f0), .slice A109_1 ((rd_T75 l0_3 x66_3).f1).length c109_1] 75 (0, 0)) (by (with_reducible repeat (first | refine blk_drewN ?_ _ | refine blk_drew ?_ | refine blk_alloc ?_ _)); exact BK110.out) hb); have n2_ := ak_ (below_step z13_ hb); clear BK101; clear BK110; clear HB; have BK101 := n0_; have BK110 := n1_; have HB := n2_; clear n0_ n1_ n2_; (try clear hb); (try clear hb2); (try clear hk); (try clear hi)))
              go_roundg k3
              case measure => have := HJ1.out; have := HK2.out; have := HK3.out; omega
              case rel => exact ⟨(wrap64 (x66_3 + 1)), z9_, H', ⟨by have := HJ1.out; have := HK2.out; have := HK3.out; omega⟩, ⟨z2_⟩, ⟨z13_⟩⟩
end Go.Proofs.YtjknmljdnolilaaDoor.X
