/- Contracts of functions, and what is told of them. -/
import Derived.Test.YtjknmljdnolilaaGreatDoorYFnExactTableText3
import Derived.Test.YtjknmljdnolilaaGreatDoorYFnExactTableText8
import Derived.Test.YtjknmljdnolilaaGreatDoorYFnExactTableText15
-- WRITTEN BY xprint.py, a program of this session, over the translation of the seat. Lean checks it.
namespace Go.Proofs.YtjknmljdnolilaaGreatDoor.X
open Go.RowKit Go.Proofs.YtjknmljdnolilaaGreatDoorW.PrintWords Go.Proofs.YtjknmljdnolilaaGreatDoorW.PrintLast Go.Proofs.YtjknmljdnolilaaGreatDoorW.PrintMore
attribute [local go_sem] max2_int min2_int max_two min_two max_three min_three max_four min_four   -- for this text's walks alone
set_option linter.unusedVariables false
set_option linter.unusedSimpArgs false

/-! ### impl_tableText: function 25 -/
mutual
def impl_tableText.l0 : Nat → List ByteArray → List (S81) → Int → Int → ByteArray → List (S81) → Int → List (S84) → Option (ByteArray)
  | 0, _, _, _, _, _, _, _, _ => none
  | k + 1, x3, x15, x16, x17, x102000, x102001, x102002, x102003 => if x17 < x16 then (if 0 ≤ x17 then (if x17 < (x15.length : Int) then (if ((rd_T81 x15 x17).f0).size + 1 ≤ 9223372036854775807 then ((impl_typeWords.f).bind fun t107 => (if 0 ≤ ((rd_T81 x15 x17).f1) then (if ((rd_T81 x15 x17).f1) < (t107.length : Int) then (if (((rd_T81 x15 x17).f0) ++ (⟨#[32]⟩ : ByteArray)).size + (rdOf ByteArray.empty t107 ((rd_T81 x15 x17).f1)).size ≤ 9223372036854775807 then (if (rd_T81 x15 x17).f2 = true then (if ((((rd_T81 x15 x17).f0) ++ (⟨#[32]⟩ : ByteArray)) ++ (rdOf ByteArray.empty t107 ((rd_T81 x15 x17).f1))).size + 5 ≤ 9223372036854775807 then (if x3.length < 8796093022208 then (impl_tableText.l0 k (x3 ++ [((((rd_T81 x15 x17).f0) ++ (⟨#[32]⟩ : ByteArray)) ++ (rdOf ByteArray.empty t107 ((rd_T81 x15 x17).f1))) ++ (⟨#[32, 110, 117, 108, 108]⟩ : ByteArray)]) x15 x16 (wrap64 (x17 + 1)) x102000 x102001 x102002 x102003) else (none)) else (none)) else (if x3.length < 8796093022208 then (impl_tableText.l0 k (x3 ++ [(((rd_T81 x15 x17).f0) ++ (⟨#[32]⟩ : ByteArray)) ++ (rdOf ByteArray.empty t107 ((rd_T81 x15 x17).f1))]) x15 x16 (wrap64 (x17 + 1)) x102000 x102001 x102002 x102003) else (none))) else (none)) else (none)) else (none))) else (none)) else (none)) else (none)) else (if x102000.size + 1 ≤ 9223372036854775807 then ((strings_Join.f x3 (⟨#[44, 32]⟩ : ByteArray)).bind fun t117 => (if (x102000 ++ (⟨#[40]⟩ : ByteArray)).size + t117.size ≤ 9223372036854775807 then (if ((x102000 ++ (⟨#[40]⟩ : ByteArray)) ++ t117).size + 6 ≤ 9223372036854775807 then ((impl_formatInt.f x102002).bind fun t118 => (if (((x102000 ++ (⟨#[40]⟩ : ByteArray)) ++ t117) ++ (⟨#[41, 32, 107, 101, 121, 32]⟩ : ByteArray)).size + t118.size ≤ 9223372036854775807 then (impl_tableText.l1 k ((((x102000 ++ (⟨#[40]⟩ : ByteArray)) ++ t117) ++ (⟨#[41, 32, 107, 101, 121, 32]⟩ : ByteArray)) ++ t118) x102003 (x102003.length : Int) 0 x102000 x102001 x102002 x102003) else (none))) else (none)) else (none))) else (none))
def impl_tableText.l1 : Nat → ByteArray → List (S84) → Int → Int → ByteArray → List (S81) → Int → List (S84) → Option (ByteArray)
  | 0, _, _, _, _, _, _, _, _ => none
  | k + 1, x7, x51, x52, x53, x102000, x102001, x102002, x102003 => if x53 < x52 then (if 0 ≤ x53 then (if x53 < (x51.length : Int) then (impl_tableText.l2 k x7 (([] : List ByteArray)) x51 x52 x53 ((rd_T84 x51 x53).f1) (((rd_T84 x51 x53).f1).length : Int) 0 x102000 x102001 x102002 x102003 ((rd_T84 x51 x53).f0) ((rd_T84 x51 x53).f1)) else (none)) else (none)) else (some x7)
def impl_tableText.l2 : Nat → ByteArray → List ByteArray → List (S84) → Int → Int → List Int → Int → Int → ByteArray → List (S81) → Int → List (S84) → ByteArray → List Int → Option (ByteArray)
  | 0, _, _, _, _, _, _, _, _, _, _, _, _, _, _ => none
  | k + 1, x7, x10, x51, x52, x53, x59, x60, x61, x102000, x102001, x102002, x102003, x121000, x121001 => if x61 < x60 then (if 0 ≤ x61 then (if x61 < (x59.length : Int) then (if 0 ≤ (rd x59 x61) then (if (rd x59 x61) < (x102001.length : Int) then (if x10.length < 8796093022208 then (impl_tableText.l2 k x7 (x10 ++ [(rd_T81 x102001 (rd x59 x61)).f0]) x51 x52 x53 x59 x60 (wrap64 (x61 + 1)) x102000 x102001 x102002 x102003 x121000 x121001) else (none)) else (none)) else (none)) else (none)) else (none)) else (if 7 + x121000.size ≤ 9223372036854775807 then (if ((⟨#[32, 105, 110, 100, 101, 120, 32]⟩ : ByteArray) ++ x121000).size + 1 ≤ 9223372036854775807 then ((strings_Join.f x10 (⟨#[44, 32]⟩ : ByteArray)).bind fun t129 => (if (((⟨#[32, 105, 110, 100, 101, 120, 32]⟩ : ByteArray) ++ x121000) ++ (⟨#[40]⟩ : ByteArray)).size + t129.size ≤ 9223372036854775807 then (if ((((⟨#[32, 105, 110, 100, 101, 120, 32]⟩ : ByteArray) ++ x121000) ++ (⟨#[40]⟩ : ByteArray)) ++ t129).size + 1 ≤ 9223372036854775807 then (if x7.size + (((((⟨#[32, 105, 110, 100, 101, 120, 32]⟩ : ByteArray) ++ x121000) ++ (⟨#[40]⟩ : ByteArray)) ++ t129) ++ (⟨#[41]⟩ : ByteArray)).size ≤ 9223372036854775807 then (impl_tableText.l1 k (x7 ++ (((((⟨#[32, 105, 110, 100, 101, 120, 32]⟩ : ByteArray) ++ x121000) ++ (⟨#[40]⟩ : ByteArray)) ++ t129) ++ (⟨#[41]⟩ : ByteArray))) x51 x52 (wrap64 (x53 + 1)) x102000 x102001 x102002 x102003) else (none)) else (none)) else (none))) else (none)) else (none))
end
def impl_tableText.f (k : Nat) (a0_0 : ByteArray) (l0_1 : List (S81)) (a0_2 : Int) (l0_3 : List (S84)) : Option (ByteArray) := impl_tableText.l0 k (([] : List ByteArray)) l0_1 (l0_1.length : Int) 0 a0_0 l0_1 a0_2 l0_3
theorem impl_tableText.mono_l : ∀ k, (∀ y0 y1 y2 y3 y4 y5 y6 y7, LeO (impl_tableText.l0 k y0 y1 y2 y3 y4 y5 y6 y7) (impl_tableText.l0 (k + 1) y0 y1 y2 y3 y4 y5 y6 y7)) ∧ (∀ y0 y1 y2 y3 y4 y5 y6 y7, LeO (impl_tableText.l1 k y0 y1 y2 y3 y4 y5 y6 y7) (impl_tableText.l1 (k + 1) y0 y1 y2 y3 y4 y5 y6 y7)) ∧ (∀ y0 y1 y2 y3 y4 y5 y6 y7 y8 y9 y10 y11 y12 y13, LeO (impl_tableText.l2 k y0 y1 y2 y3 y4 y5 y6 y7 y8 y9 y10 y11 y12 y13) (impl_tableText.l2 (k + 1) y0 y1 y2 y3 y4 y5 y6 y7 y8 y9 y10 y11 y12 y13))
  | 0 => ⟨fun _ _ _ _ _ _ _ _ r h => by simp [impl_tableText.l0] at h, fun _ _ _ _ _ _ _ _ r h => by simp [impl_tableText.l1] at h, fun _ _ _ _ _ _ _ _ _ _ _ _ _ _ r h => by simp [impl_tableText.l2] at h⟩
  | k + 1 => by
    obtain ⟨ih0, ih1, ih2⟩ := impl_tableText.mono_l k
    refine ⟨?_, ?_, ?_⟩
    rotate_left
    · intro y0 y1 y2 y3 y4 y5 y6 y7
      unfold impl_tableText.l1
      repeat' first
      | (with_reducible exact ih0 _ _ _ _ _ _ _ _)
      | (with_reducible exact ih1 _ _ _ _ _ _ _ _)
      | (with_reducible exact ih2 _ _ _ _ _ _ _ _ _ _ _ _ _ _)
      | (with_reducible exact LeO.refl _)
      | (with_reducible exact LeO.none _)
      | (with_reducible refine LeO.ite ?_ ?_)
      | (with_reducible refine LeO.bind ?_ (fun _ => ?_))
      | exact ih0 _ _ _ _ _ _ _ _
      | exact ih1 _ _ _ _ _ _ _ _
      | exact ih2 _ _ _ _ _ _ _ _ _ _ _ _ _ _
      | exact LeO.none _
      | refine LeO.ite ?_ ?_
      | refine LeO.bind ?_ (fun _ => ?_)
    · intro y0 y1 y2 y3 y4 y5 y6 y7 y8 y9 y10 y11 y12 y13
      unfold impl_tableText.l2
      repeat' first
      | (with_reducible exact ih0 _ _ _ _ _ _ _ _)
      | (with_reducible exact ih1 _ _ _ _ _ _ _ _)
      | (with_reducible exact ih2 _ _ _ _ _ _ _ _ _ _ _ _ _ _)
      | (with_reducible exact LeO.refl _)
      | (with_reducible exact LeO.none _)
      | (with_reducible refine LeO.ite ?_ ?_)
      | (with_reducible refine LeO.bind ?_ (fun _ => ?_))
      | exact ih0 _ _ _ _ _ _ _ _
      | exact ih1 _ _ _ _ _ _ _ _
      | exact ih2 _ _ _ _ _ _ _ _ _ _ _ _ _ _
      | exact LeO.none _
      | refine LeO.ite ?_ ?_
      | refine LeO.bind ?_ (fun _ => ?_)
    intro y0 y1 y2 y3 y4 y5 y6 y7
    unfold impl_tableText.l0
    repeat' first
    | (with_reducible exact ih0 _ _ _ _ _ _ _ _)
    | (with_reducible exact ih1 _ _ _ _ _ _ _ _)
    | (with_reducible exact ih2 _ _ _ _ _ _ _ _ _ _ _ _ _ _)
    | (with_reducible exact LeO.refl _)
    | (with_reducible exact LeO.none _)
    | (with_reducible refine LeO.ite ?_ ?_)
    | (with_reducible refine LeO.bind ?_ (fun _ => ?_))
    | exact ih0 _ _ _ _ _ _ _ _
    | exact ih1 _ _ _ _ _ _ _ _
    | exact ih2 _ _ _ _ _ _ _ _ _ _ _ _ _ _
    | exact LeO.none _
    | refine LeO.ite ?_ ?_
    | refine LeO.bind ?_ (fun _ => ?_)
theorem impl_tableText.mono : ∀ a0 a1 a2 a3 k, LeO (impl_tableText.f k a0 a1 a2 a3) (impl_tableText.f (k + 1) a0 a1 a2 a3) := by
  intro a0 a1 a2 a3 k
  obtain ⟨ih0, ih1, ih2⟩ := impl_tableText.mono_l k
  unfold impl_tableText.f
  repeat' first
      | (with_reducible exact ih0 _ _ _ _ _ _ _ _)
      | (with_reducible exact ih1 _ _ _ _ _ _ _ _)
      | (with_reducible exact ih2 _ _ _ _ _ _ _ _ _ _ _ _ _ _)
      | (with_reducible exact LeO.refl _)
      | (with_reducible exact LeO.none _)
      | (with_reducible refine LeO.ite ?_ ?_)
      | (with_reducible refine LeO.bind ?_ (fun _ => ?_))
      | exact ih0 _ _ _ _ _ _ _ _
      | exact ih1 _ _ _ _ _ _ _ _
      | exact ih2 _ _ _ _ _ _ _ _ _ _ _ _ _ _
      | exact LeO.none _
      | refine LeO.ite ?_ ?_
      | refine LeO.bind ?_ (fun _ => ?_)
def impl_tableText.T5 : Bool × List (List Nat × List Nat) := (true, [([], []), ([0], [0]), ([1], [1]), ([], []), ([], []), ([4], [4]), ([3, 5], [3, 5]), ([6], [6]), ([2, 7], [2, 7]), ([8, 3, 0, 1, 2, 3, 4, 5, 6, 7, 8], [8])])
def impl_tableText.B5 : List Nat := [0, 1, 3, 0, 0, 16, 56, 120, 255, 511]
theorem impl_tableText.tab5 : rtab .any (opsOf Tryz.f25 5) = impl_tableText.T5 := by kernel_rfl
theorem impl_tableText.bits5 : waitsOk impl_tableText.T5.2 impl_tableText.B5 = true := by kernel_rfl
def impl_tableText.T10 : Bool × List (List Nat × List Nat) := (true, [([], []), ([0], [0]), ([1], [1]), ([], []), ([3], [3]), ([2, 4], [2, 4]), ([5], [5]), ([], []), ([7], [7]), ([8, 4], [8]), ([6, 9], [6, 9]), ([10, 9, 0, 1, 2, 3, 4, 5, 6, 7, 8, 9, 10], [10])])
def impl_tableText.B10 : List Nat := [0, 1, 3, 0, 8, 31, 63, 0, 128, 408, 1023, 2047]
theorem impl_tableText.tab10 : rtab .any (opsOf Tryz.f25 10) = impl_tableText.T10 := by kernel_rfl
theorem impl_tableText.bits10 : waitsOk impl_tableText.T10.2 impl_tableText.B10 = true := by kernel_rfl
def impl_tableText.T20 : Bool × List (List Nat × List Nat) := (true, [([], []), ([], []), ([1], [1]), ([2], [2]), ([3], [3]), ([], []), ([5], [5]), ([4, 6], [4, 6]), ([7], [7]), ([0, 8], [0, 8]), ([9, 6, 0, 1, 2, 3, 4, 5, 6, 7, 8, 9], [0, 9])])
def impl_tableText.B20 : List Nat := [0, 0, 2, 6, 14, 0, 32, 126, 254, 511, 1023]
theorem impl_tableText.tab20 : rtab .any (opsOf Tryz.f25 20) = impl_tableText.T20 := by kernel_rfl
theorem impl_tableText.bits20 : waitsOk impl_tableText.T20.2 impl_tableText.B20 = true := by kernel_rfl
set_option maxHeartbeats 8000000 in
set_option maxRecDepth 100000 in
theorem impl_tableText.calls (k : Nat) (a0_0 : ByteArray) (A0_1 : Option Addr) (c0_1 : Nat) (l0_1 : List (S81)) (a0_2 : Int) (A0_3 : Option Addr) (c0_3 : Nat) (l0_3 : List (S84)) (r : ByteArray) (w : World) (hr0_1 : Kd.C k81 w A0_1 l0_1.length l0_1) (hc0_1 : l0_1.length ≤ c0_1) (hr0_3 : Kd.C k84 w A0_3 l0_3.length l0_3) (hc0_3 : l0_3.length ≤ c0_3) (h : impl_tableText.f k a0_0 l0_1 a0_2 l0_3 = some r) :
    Calls Tryz.prog 25 #[.agg #[.string a0_0, .slice A0_1 l0_1.length c0_1, .int .i64 a0_2, .slice A0_3 l0_3.length c0_3]] w fun e w' => e = .returned (.string r) ∧ Below w.heap.size w w' := by
  have hu32 := Tryz.underlying32
  have hu81 := Tryz.underlying81
  have hu84 := Tryz.underlying84
  have HR0_1 := ak_ hr0_1
  have HC0_1 := ak_ hc0_1
  clear hr0_1 hc0_1
  have HR0_3 := ak_ hr0_3
  have HC0_3 := ak_ hc0_3
  clear hr0_3 hc0_3
  have HB := ak_ (Below.refl w.heap.size w)
  have H : (impl_tableText.l0 k (([] : List ByteArray)) l0_1 (l0_1.length : Int) 0 a0_0 l0_1 a0_2 l0_3) = some r := h
  clear h
  obtain ⟨y102, hy102⟩ : ∃ y_ : List ByteArray, y_ = (([] : List ByteArray)) := ⟨_, rfl⟩
  replace H : (impl_tableText.l0 k y102 l0_1 (l0_1.length : Int) 0 a0_0 l0_1 a0_2 l0_3) = some r := by first | (rw [hy102]; with_reducible exact H) | (have H2_ := (Option.bind_some _ _).symm.trans H; rw [hy102]; with_reducible exact H2_) | (have H2_ := (Option.bind_some _ _).symm.trans H; with_reducible exact H2_) | with_reducible exact H | (rw [hy102]; exact H) | exact H
  have Ny102 := ak_ hy102
  clear hy102
  have H' := ak_ H
  clear H
  go_enter Tryz.func25, Tryz.ntmps25
  go_wp2_with (first | ((with_reducible refine gate_dst (N := 1) rfl ?_); refine bx_ 1 (cs := #[.string a0_0, .slice A0_1 l0_1.length c0_1, .int .i64 a0_2, .slice A0_3 l0_3.length c0_3]) (t := 32) (h_ := ?_); intro gb101 hg w2 hbox hb; have n_ := a4_ (below_step z1_ hb) (hbox) ((gs_ w hg (below_size z1_))) ((gs_ w hg (below_size z1_))); clear HB; obtain ⟨HB, BK101, GW101, GE101⟩ := n_; clear hb hbox hg) | ((with_reducible refine gate_dst (N := 13) rfl ?_); refine Kd.R_lit Kd.string _ 9 ?hg (N := 13) ?hd (xs := ([] : List ByteArray)) (inner := []) (ok := fun _ => True) (okp := fun _ => True) ?hr ?hp (fun _ hk => hk) trivial (Below.refl _ _) (Nat.le_refl _) (by simp) ?_; (case hd => rfl); (case hg => rfl); (case hr => first | (go_simp; done) | (go_simp; rfl)); (case hp => exact (Reps.none _ _)); intro v103 w3 ho4 hb hg_ hnew_; clear hg_ hnew_; (first | rw [← Ny102.out] at ho4 | (simp only [Int.reduceToNat] at ho4; rw [← Ny102.out] at ho4)); have n_ := a3_ (Kd.R_lower ho4 (below_size z0_)) (blk_below (g := gb101) (o := .cells #[.string a0_0, .slice A0_1 l0_1.length c0_1, .int .i64 a0_2, .slice A0_3 l0_3.length c0_3] 32 (0, 0)) z2_ hb) (below_step z0_ hb); clear BK101 HB; obtain ⟨HO104, BK101, HB⟩ := n_; clear hb ho4; obtain ⟨hcz5_0, hcz5_1, hcz5_2, hcz5_3, hfz5_0, hfz5_1, hfz5_2, hfz5_3⟩ := bcf4 BK101.out))
  go_loopg [3, 17] k (fun kq v3 v17 w' => ∃ (x3_1 : List ByteArray) (x17_1 : Int), v17 = .int .i64 x17_1 ∧ Aside0 (impl_tableText.l0 kq x3_1 l0_1 (l0_1.length : Int) x17_1 a0_0 l0_1 a0_2 l0_3 = some r) ∧ Aside0 (kq ≤ k) ∧ Aside0 (Kd.R Kd.string 9 w' w.heap.size (fun _ => True) v3 x3_1) ∧ Aside0 (w'.heap[gb101]? = some (.cells #[.string a0_0, (.slice A0_1 l0_1.length c0_1), .int .i64 a0_2, (.slice A0_3 l0_3.length c0_3)] 32 (0, 0))) ∧ Aside0 (Below w.heap.size w w'))
  case atStart => exact ⟨(y102), (0), z9_, H', ⟨Nat.le_refl _⟩, ⟨z35_⟩, ⟨z2_⟩, ⟨z0_⟩⟩
  case round =>
    clear H'
    try clear c2
    try clear p2
    try clear hcz5_0
    try clear hcz5_1
    try clear hcz5_2
    try clear hcz5_3
    try clear hfz5_0
    try clear hfz5_1
    try clear hfz5_2
    try clear hfz5_3
    obtain ⟨x3_1, x17_1, rfl, HA, HK1, HO_3, BK101, HB⟩ := hrel
    cases gk with
    | zero => exact absurd HA.out (by simp [impl_tableText.l0])
    | succ k1 =>
      have H := HA.out
      clear HA
      simp only [impl_tableText.l0] at H
      by_cases c6 : x17_1 < (l0_1.length : Int)
      · rw [if_pos c6] at H
        have c6b0 := decide_eq_true c6
        clear c6
        by_cases c7 : 0 ≤ x17_1
        · rw [if_pos c7] at H
          have c7b0 := decide_eq_true c7
          clear c7
          by_cases c8 : x17_1 < (l0_1.length : Int)
          · rw [if_pos c8] at H
            have c8b0 := decide_eq_true c8
            clear c8
            by_cases c9 : ((rd_T81 l0_1 x17_1).f0).size + 1 ≤ 9223372036854775807
            · rw [if_pos c9] at H
              have c9b0 := eq_true c9
              have c9b1 := decide_eq_true c9
              try have c9b2 : (9223372036854775807 < ((rd_T81 l0_1 x17_1).f0).size + 1) = False := eq_false (Nat.not_lt.2 c9)
              replace H := Option.bind_eq_some_iff.mp H
              obtain ⟨t107, A100, H⟩ := H
              have A10 := ak_ A100
              clear A100
              by_cases c11 : 0 ≤ ((rd_T81 l0_1 x17_1).f1)
              · rw [if_pos c11] at H
                have c11b0 := decide_eq_true c11
                clear c11
                by_cases c12 : ((rd_T81 l0_1 x17_1).f1) < (t107.length : Int)
                · rw [if_pos c12] at H
                  have c12b0 := decide_eq_true c12
                  clear c12
                  by_cases c13 : (((rd_T81 l0_1 x17_1).f0) ++ (⟨#[32]⟩ : ByteArray)).size + (rdOf ByteArray.empty t107 ((rd_T81 l0_1 x17_1).f1)).size ≤ 9223372036854775807
                  · rw [if_pos c13] at H
                    have c13b0 := eq_true c13
                    have c13b1 := decide_eq_true c13
                    try have c13b2 : (9223372036854775807 < (((rd_T81 l0_1 x17_1).f0) ++ (⟨#[32]⟩ : ByteArray)).size + (rdOf ByteArray.empty t107 ((rd_T81 l0_1 x17_1).f1)).size) = False := eq_false (Nat.not_lt.2 c13)
                    try have c13b3 : (9223372036854775807 < ((rd_T81 l0_1 x17_1).f0).size + 1 + (rdOf ByteArray.empty t107 ((rd_T81 l0_1 x17_1).f1)).size) = False := eq_false (by have z_ := c13; simp only [ByteArray.size_append] at z_; exact Nat.not_lt.2 z_)
                    obtain ⟨bq14, hbq14⟩ : ∃ b_ : Bool, b_ = ((rd_T81 l0_1 x17_1).f2) := ⟨_, rfl⟩
                    replace H : (if bq14 = true then (if ((((rd_T81 l0_1 x17_1).f0) ++ (⟨#[32]⟩ : ByteArray)) ++ (rdOf ByteArray.empty t107 ((rd_T81 l0_1 x17_1).f1))).size + 5 ≤ 9223372036854775807 then (if x3_1.length < 8796093022208 then (impl_tableText.l0 k1 (x3_1 ++ [((((rd_T81 l0_1 x17_1).f0) ++ (⟨#[32]⟩ : ByteArray)) ++ (rdOf ByteArray.empty t107 ((rd_T81 l0_1 x17_1).f1))) ++ (⟨#[32, 110, 117, 108, 108]⟩ : ByteArray)]) l0_1 (l0_1.length : Int) (wrap64 (x17_1 + 1)) a0_0 l0_1 a0_2 l0_3) else (none)) else (none)) else (if x3_1.length < 8796093022208 then (impl_tableText.l0 k1 (x3_1 ++ [(((rd_T81 l0_1 x17_1).f0) ++ (⟨#[32]⟩ : ByteArray)) ++ (rdOf ByteArray.empty t107 ((rd_T81 l0_1 x17_1).f1))]) l0_1 (l0_1.length : Int) (wrap64 (x17_1 + 1)) a0_0 l0_1 a0_2 l0_3) else (none))) = some r := by rw [← hbq14] at H; exact H
                    have Nbq14 := ak_ hbq14
                    clear hbq14
                    by_cases c15 : bq14 = true
                    · subst c15
                      have H1 : (if ((((rd_T81 l0_1 x17_1).f0) ++ (⟨#[32]⟩ : ByteArray)) ++ (rdOf ByteArray.empty t107 ((rd_T81 l0_1 x17_1).f1))).size + 5 ≤ 9223372036854775807 then (if x3_1.length < 8796093022208 then (impl_tableText.l0 k1 (x3_1 ++ [((((rd_T81 l0_1 x17_1).f0) ++ (⟨#[32]⟩ : ByteArray)) ++ (rdOf ByteArray.empty t107 ((rd_T81 l0_1 x17_1).f1))) ++ (⟨#[32, 110, 117, 108, 108]⟩ : ByteArray)]) l0_1 (l0_1.length : Int) (wrap64 (x17_1 + 1)) a0_0 l0_1 a0_2 l0_3) else (none)) else (none)) = some r := by rw [if_pos rfl] at H; exact H
                      clear H
                      have H := H1
                      clear H1
                      by_cases c16 : ((((rd_T81 l0_1 x17_1).f0) ++ (⟨#[32]⟩ : ByteArray)) ++ (rdOf ByteArray.empty t107 ((rd_T81 l0_1 x17_1).f1))).size + 5 ≤ 9223372036854775807
                      · rw [if_pos c16] at H
                        have c16b0 := eq_true c16
                        have c16b1 := decide_eq_true c16
                        try have c16b2 : (9223372036854775807 < ((((rd_T81 l0_1 x17_1).f0) ++ (⟨#[32]⟩ : ByteArray)) ++ (rdOf ByteArray.empty t107 ((rd_T81 l0_1 x17_1).f1))).size + 5) = False := eq_false (Nat.not_lt.2 c16)
                        try have c16b3 : (9223372036854775807 < ((rd_T81 l0_1 x17_1).f0).size + 1 + (rdOf ByteArray.empty t107 ((rd_T81 l0_1 x17_1).f1)).size + 5) = False := eq_false (by have z_ := c16; simp only [ByteArray.size_append] at z_; exact Nat.not_lt.2 z_)
                        by_cases c17 : x3_1.length < 8796093022208
                        · rw [if_pos c17] at H
                          have LMc17 := ak_ c17
                          clear c17
                          obtain ⟨y111, hy111⟩ : ∃ y_ : List ByteArray, y_ = (x3_1 ++ [((((rd_T81 l0_1 x17_1).f0) ++ (⟨#[32]⟩ : ByteArray)) ++ (rdOf ByteArray.empty t107 ((rd_T81 l0_1 x17_1).f1))) ++ (⟨#[32, 110, 117, 108, 108]⟩ : ByteArray)]) := ⟨_, rfl⟩
                          replace H : (impl_tableText.l0 k1 y111 l0_1 (l0_1.length : Int) (wrap64 (x17_1 + 1)) a0_0 l0_1 a0_2 l0_3) = some r := by first | (rw [hy111]; with_reducible exact H) | (have H2_ := (Option.bind_some _ _).symm.trans H; rw [hy111]; with_reducible exact H2_) | (have H2_ := (Option.bind_some _ _).symm.trans H; with_reducible exact H2_) | with_reducible exact H | (rw [hy111]; exact H) | exact H
                          have Ny111 := ak_ hy111
                          clear hy111
                          have H' := ak_ H
                          clear H
                          have p105 : 0 ≤ (x17_1 : Int) := of_decide_eq_true z4_
                          have q105 : x17_1 < (l0_1.length : Int) := of_decide_eq_true z4_
                          obtain ⟨ad105, e105, hx105_0, hx105_1, hx105_2⟩ := at_T81 HR0_1.out x17_1 p105 q105
                          (try rw [← Nbq14.out] at hx105_2)
                          cases e105
                          replace hx105_0 := oc_ HB.out hx105_0
                          replace hx105_1 := oc_ HB.out hx105_1
                          replace hx105_2 := oc_ HB.out hx105_2
                          replace p105 := eq_true p105
                          replace q105 := eq_true q105
                          try go_wp2_with (first | ((with_reducible refine gate_dst (N := 5) rfl ?_); refine bx_ 5 (cs := #[.string (⟨#[]⟩ : ByteArray), .int .i64 0, .bool false]) (t := 81) (h_ := ?_); intro gb106 hg w18 hbox hb; have n_ := a8_ (Kd.R_below z21_ hb) (blk_below (g := gb101) (o := .cells #[.string a0_0, .slice (some ad105) l0_1.length c0_1, .int .i64 a0_2, .slice A0_3 l0_3.length c0_3] 32 (0, 0)) z2_ hb) (below_step z0_ hb) (hbox) ((gs_ w hg (below_size z0_))) ((gs_ w hg (below_size z0_))) ((z16_ : gb101 ≠ gb106)) ((z17_ : gb106 ≠ gb101)); clear HO_3 BK101 HB; obtain ⟨HO_3, BK101, HB, BK106, GW106, GE106, NB101_106, NB106_101⟩ := n_; clear hb hbox hg; have hnb19 := NB106_101.out; have hnc19 := NB101_106.out; obtain ⟨hcz20_0, hcz20_1, hcz20_2, hfz20_0, hfz20_1, hfz20_2⟩ := bcf3 BK106.out))
                          have n0_ : Aside0 (Kd.R Kd.string 9 (((w18.setCell ⟨gb106, 0, none⟩ (.string ((rd_T81 l0_1 x17_1).f0))).setCell ⟨gb106, 1, none⟩ (.int .i64 ((rd_T81 l0_1 x17_1).f1))).setCell ⟨gb106, 2, none⟩ (.bool true)) w.heap.size (fun _ => True) u3 x3_1) := ⟨by (with_reducible repeat (first | apply Kd.R_alloc | apply Kd.R_drewN | apply Kd.R_drew)); exact Kd.R_mono (Kd.R_far (p := ⟨gb106, 2, none⟩) (Kd.R_far (p := ⟨gb106, 1, none⟩) (Kd.R_far (p := ⟨gb106, 0, none⟩) (Kd.R_types HO_3.out BK106.out (by decide)) (fun _ hk => hk.2) (.string ((rd_T81 l0_1 x17_1).f0))) (fun _ hk => hk.2) (.int .i64 ((rd_T81 l0_1 x17_1).f1))) (fun _ hk => hk.2) (.bool true)) (fun _ hk => trivial)⟩
                          have n1_ : Aside0 ((((w18.setCell ⟨gb106, 0, none⟩ (.string ((rd_T81 l0_1 x17_1).f0))).setCell ⟨gb106, 1, none⟩ (.int .i64 ((rd_T81 l0_1 x17_1).f1))).setCell ⟨gb106, 2, none⟩ (.bool true)).heap[gb101]? = some (.cells #[.string a0_0, .slice (some ad105) l0_1.length c0_1, .int .i64 a0_2, .slice A0_3 l0_3.length c0_3] 32 (0, 0))) := ⟨z8_⟩
                          have n2_ : Aside0 ((((w18.setCell ⟨gb106, 0, none⟩ (.string ((rd_T81 l0_1 x17_1).f0))).setCell ⟨gb106, 1, none⟩ (.int .i64 ((rd_T81 l0_1 x17_1).f1))).setCell ⟨gb106, 2, none⟩ (.bool true)).heap[gb106]? = some (.cells #[.string ((rd_T81 l0_1 x17_1).f0), .int .i64 ((rd_T81 l0_1 x17_1).f1), .bool true] 81 (0, 0))) := ⟨z26_⟩
                          have n3_ : Aside0 (Below w.heap.size w (((w18.setCell ⟨gb106, 0, none⟩ (.string ((rd_T81 l0_1 x17_1).f0))).setCell ⟨gb106, 1, none⟩ (.int .i64 ((rd_T81 l0_1 x17_1).f1))).setCell ⟨gb106, 2, none⟩ (.bool true))) := ⟨z6_⟩
                          (try clear HO_3)
                          (try clear BK101)
                          (try clear BK106)
                          (try clear HB)
                          generalize (((w18.setCell ⟨gb106, 0, none⟩ (.string ((rd_T81 l0_1 x17_1).f0))).setCell ⟨gb106, 1, none⟩ (.int .i64 ((rd_T81 l0_1 x17_1).f1))).setCell ⟨gb106, 2, none⟩ (.bool true)) = w21 at n0_ n1_ n2_ n3_ ⊢
                          have HO_3 := n0_
                          have BK101 := n1_
                          have BK106 := n2_
                          have HB := n3_
                          clear n0_ n1_ n2_ n3_
                          have n_ := a4_ (Kd.R_drew HO_3.out) (blk_drew BK101.out) (blk_drew BK106.out) (below_drew1 HB.out)
                          clear HO_3 BK101 BK106 HB
                          obtain ⟨HO_3, BK101, BK106, HB⟩ := n_
                          refine start_ (n := 10) (S := fun w' => w'.cell? ⟨gb106, 0, none⟩ = some (.string ((rd_T81 l0_1 x17_1).f0)) ∧ w'.cell? ⟨gb106, 1, none⟩ = some (.int .i64 ((rd_T81 l0_1 x17_1).f1)) ∧ w'.cell? ⟨gb106, 2, none⟩ = some (.bool true)) (ds := []) #[false, false, false, false, false, false, false, false, false, false] (by kernel_rfl) rfl rfl ⟨(blk_cell BK106.out 0).trans rfl, (blk_cell BK106.out 1).trans rfl, (blk_cell BK106.out 2).trans rfl⟩ (fun hHeld => ?_); refine with_tabW impl_tableText.tab5 impl_tableText.bits5 (fun HT_ HW_ => ?_)
                          generalize w21.drew = w22 at HO_3 BK101 BK106 HB hHeld ⊢
                          refine pu_ 0 (N := some 21) #[true, false, false, false, false, false, false, false, false, false] HT_.out (h_ := ?_)
                          refine pu_ 4 (N := some 25) #[true, false, false, false, true, false, false, false, false, false] HT_.out (h_ := ?_)
                          refine tk_ 1 (N := some 22) #[true, true, false, false, true, false, false, false, false, false] HT_.out HW_.out hHeld (hy := by rintro w' ⟨s0, s1, s2⟩; go_simp; with_reducible rfl) (h_ := ?_)
                          refine pu_ 2 (N := some 23) #[true, true, true, false, true, false, false, false, false, false] HT_.out (h_ := ?_)
                          refine tk_ 5 (N := some 26) #[true, true, true, false, true, true, false, false, false, false] HT_.out HW_.out hHeld (hy := by rintro w' ⟨s0, s1, s2⟩; go_simp; with_reducible rfl) (h_ := ?_)
                          refine one_ (i := 3) (N := some 24) #[true, true, true, true, true, true, false, false, false, false] rfl rfl (one_of HT_.out (by kernel_rfl)) (by decide) (fun K hK => ?_)
                          refine goes_ Tryz.func54 (by kernel_rfl) rfl #[] (by rfl) rfl rfl z3_ ?_
                          with_reducible refine (impl_typeWords.calls  t107 _ A10.out).mono ?_
                          rintro e w23 ⟨v108, rfl, ho0, hb⟩
                          refine ⟨_, rfl, ?_⟩
                          have n_ := a5_ (Kd.R_elder' z21_ (Kd.R_base ho0) hb) (Kd.R_lower (Kd.R_new' ho0 (Kd.R_lt z21_)) (below_size z6_)) (blk_below (g := gb101) (o := .cells #[.string a0_0, .slice (some ad105) l0_1.length c0_1, .int .i64 a0_2, .slice A0_3 l0_3.length c0_3] 32 (0, 0)) z2_ hb) (blk_below (g := gb106) (o := .cells #[.string ((rd_T81 l0_1 x17_1).f0), .int .i64 ((rd_T81 l0_1 x17_1).f1), .bool true] 81 (0, 0)) z18_ hb) (below_step z6_ hb)
                          clear HO_3 BK101 BK106 HB
                          obtain ⟨HO_3, HO109, BK101, BK106, HB⟩ := n_
                          (try clear hb)
                          (try clear hb2)
                          (try clear hk)
                          (try clear hi)
                          (try clear ho0)
                          obtain ⟨Ao24, co24, eo24⟩ := Kd.R_slice HO109.out
                          (first | subst eo24 | (injection eo24 with f1_ f2_ f3_; have f4_ := f1_.symm; have f5_ := f3_.symm; clear f1_ f2_ f3_; subst f4_; subst f5_))
                          have p110 : 0 ≤ (((rd_T81 l0_1 x17_1).f1) : Int) := of_decide_eq_true z4_
                          have q110 : ((rd_T81 l0_1 x17_1).f1) < (t107.length : Int) := of_decide_eq_true z4_
                          obtain ⟨ad110, e110, hx110_0⟩ := Kd.at_string (Kd.R_reads' HO109.out).2.2 ((rd_T81 l0_1 x17_1).f1) p110 q110
                          cases e110
                          replace p110 := eq_true p110
                          replace q110 := eq_true q110
                          refine hK.out _ _ ⟨(blk_cell BK106.out 0).trans rfl, (blk_cell BK106.out 1).trans rfl, (blk_cell BK106.out 2).trans rfl⟩ (fun hHeld => ?_)
                          clear hK K
                          refine norm_ (a' := ?_) ?_ ?_
                          rotate_left
                          · show Act.put _ (some 24) _ = _
                            simp only [Act.put, List.setIfInBounds_toArray, List.set_cons_zero, List.set_cons_succ, i64_w, i32_w]
                            rfl
                          refine pu_ 6 (N := some 27) #[true, true, true, true, true, true, true, false, false, false] HT_.out (h_ := ?_)
                          refine onv_ 7 (N := some 28) #[true, true, true, true, true, true, true, true, false, false] HT_.out hHeld (hy := by obtain ⟨s0, s1, s2⟩ := hHeld; go_simp; with_reducible rfl) (h_ := ?_)
                          refine pu_ 8 (N := some 29) #[true, true, true, true, true, true, true, true, true, false] HT_.out (h_ := ?_)
                          refine pu_ 9 (N := some 6) #[true, true, true, true, true, true, true, true, true, true] HT_.out (h_ := ?_)
                          refine done_ (done_of HT_.out (by kernel_rfl)) ?_
                          obtain ⟨hcz25_0, hcz25_1, hcz25_2, hfz25_0, hfz25_1, hfz25_2⟩ := bcf3 BK106.out
                          try go_wp2_with (first | ((with_reducible refine gate_builtin (b := .append) (xs := #[.tmp 34, .tmp 36]) rfl ?_); at_builtin; refine Kd.R_append Kd.string (w0 := w) w.heap.size rfl (.tmp 34) (.tmp 36) 86 9 (.string ⟨#[]⟩) 16 rfl Tryz.underlying86 info9 rfl (by decide) (by omega) u3 x3_1 (((((rd_T81 l0_1 x17_1).f0) ++ (⟨#[32]⟩ : ByteArray)) ++ (rdOf ByteArray.empty t107 ((rd_T81 l0_1 x17_1).f1))) ++ (⟨#[32, 110, 117, 108, 108]⟩ : ByteArray)) [.string (((((rd_T81 l0_1 x17_1).f0) ++ (⟨#[32]⟩ : ByteArray)) ++ (rdOf ByteArray.empty t107 ((rd_T81 l0_1 x17_1).f1))) ++ (⟨#[32, 110, 117, 108, 108]⟩ : ByteArray))] (fun k_ => some k_ ≠ (.slice (some ad110) t107.length co24 : Value).ownBlock) (fun _ => False) rfl rfl ?aP (fun _ hk => hk.elim) ?aF ?aO ?aB ?aS ?aL ?_; (case aP => exact rfl); (case aB => exact z6_); (case aF => exact (fun k_ hk => Kd.fresh' (Kd.R_lt z48_) k_ hk)); (case aO => exact (by (with_reducible repeat (first | apply Kd.R_alloc | apply Kd.R_drewN | apply Kd.R_drew)); exact Kd.R_mono HO_3.out (fun _ hk => hk.2))); (case aS => exact (below_size z6_)); (case aL => have := LMc17.out; omega); intro v112 w26 ho hb hg hat; rw [← Ny111.out] at ho; have n_ := a5_ (blk_grown (g := gb101) (o := .cells #[.string a0_0, .slice (some ad105) l0_1.length c0_1, .int .i64 a0_2, .slice A0_3 l0_3.length c0_3] 32 (0, 0)) z2_ hg (Kd.R_ne HO_3.out BK101.out (by decide))) (blk_grown (g := gb106) (o := .cells #[.string ((rd_T81 l0_1 x17_1).f0), .int .i64 ((rd_T81 l0_1 x17_1).f1), .bool true] 81 (0, 0)) z18_ hg (Kd.R_ne HO_3.out BK106.out (by decide))) (Kd.R_after (ok := (fun _ => True)) z48_ hg hat) (hb) (ho); clear BK101 BK106 HO109 HB HO_3; obtain ⟨BK101, BK106, HO109, HB, HO113⟩ := n_; clear ho hb hg hat))
                          go_roundg k1
                          case measure => have := HK1.out; omega
                          case rel => exact ⟨(y111), (wrap64 (x17_1 + 1)), z9_, H', ⟨by have := HK1.out; omega⟩, ⟨by (with_reducible repeat (first | apply Kd.R_alloc | apply Kd.R_drewN | apply Kd.R_drew)); exact Kd.R_mono HO113.out (fun _ hk => trivial)⟩, ⟨z2_⟩, ⟨z6_⟩⟩
                        · rw [if_neg c17] at H
                          exact absurd H (by simp)
                      · rw [if_neg c16] at H
                        exact absurd H (by simp)
                    · replace c15 := Bool.eq_false_iff.mpr c15
                      subst c15
                      have H1 : (if x3_1.length < 8796093022208 then (impl_tableText.l0 k1 (x3_1 ++ [(((rd_T81 l0_1 x17_1).f0) ++ (⟨#[32]⟩ : ByteArray)) ++ (rdOf ByteArray.empty t107 ((rd_T81 l0_1 x17_1).f1))]) l0_1 (l0_1.length : Int) (wrap64 (x17_1 + 1)) a0_0 l0_1 a0_2 l0_3) else (none)) = some r := by rw [if_neg (show ¬ (false = true) by decide)] at H; exact H
                      clear H
                      have H := H1
                      clear H1
                      by_cases c27 : x3_1.length < 8796093022208
                      · rw [if_pos c27] at H
                        have LMc27 := ak_ c27
                        clear c27
                        obtain ⟨y114, hy114⟩ : ∃ y_ : List ByteArray, y_ = (x3_1 ++ [(((rd_T81 l0_1 x17_1).f0) ++ (⟨#[32]⟩ : ByteArray)) ++ (rdOf ByteArray.empty t107 ((rd_T81 l0_1 x17_1).f1))]) := ⟨_, rfl⟩
                        replace H : (impl_tableText.l0 k1 y114 l0_1 (l0_1.length : Int) (wrap64 (x17_1 + 1)) a0_0 l0_1 a0_2 l0_3) = some r := by first | (rw [hy114]; with_reducible exact H) | (have H2_ := (Option.bind_some _ _).symm.trans H; rw [hy114]; with_reducible exact H2_) | (have H2_ := (Option.bind_some _ _).symm.trans H; with_reducible exact H2_) | with_reducible exact H | (rw [hy114]; exact H) | exact H
                        have Ny114 := ak_ hy114
                        clear hy114
                        have H' := ak_ H
                        clear H
                        have p105 : 0 ≤ (x17_1 : Int) := of_decide_eq_true z4_
                        have q105 : x17_1 < (l0_1.length : Int) := of_decide_eq_true z4_
                        obtain ⟨ad105, e105, hx105_0, hx105_1, hx105_2⟩ := at_T81 HR0_1.out x17_1 p105 q105
                        (try rw [← Nbq14.out] at hx105_2)
                        cases e105
                        replace hx105_0 := oc_ HB.out hx105_0
                        replace hx105_1 := oc_ HB.out hx105_1
                        replace hx105_2 := oc_ HB.out hx105_2
                        replace p105 := eq_true p105
                        replace q105 := eq_true q105
                        try go_wp2_with (first | ((with_reducible refine gate_dst (N := 5) rfl ?_); refine bx_ 5 (cs := #[.string (⟨#[]⟩ : ByteArray), .int .i64 0, .bool false]) (t := 81) (h_ := ?_); intro gb106 hg w28 hbox hb; have n_ := a8_ (Kd.R_below z21_ hb) (blk_below (g := gb101) (o := .cells #[.string a0_0, .slice (some ad105) l0_1.length c0_1, .int .i64 a0_2, .slice A0_3 l0_3.length c0_3] 32 (0, 0)) z2_ hb) (below_step z0_ hb) (hbox) ((gs_ w hg (below_size z0_))) ((gs_ w hg (below_size z0_))) ((z16_ : gb101 ≠ gb106)) ((z17_ : gb106 ≠ gb101)); clear HO_3 BK101 HB; obtain ⟨HO_3, BK101, HB, BK106, GW106, GE106, NB101_106, NB106_101⟩ := n_; clear hb hbox hg; have hnb29 := NB106_101.out; have hnc29 := NB101_106.out; obtain ⟨hcz30_0, hcz30_1, hcz30_2, hfz30_0, hfz30_1, hfz30_2⟩ := bcf3 BK106.out))
                        have n0_ : Aside0 (Kd.R Kd.string 9 (((w28.setCell ⟨gb106, 0, none⟩ (.string ((rd_T81 l0_1 x17_1).f0))).setCell ⟨gb106, 1, none⟩ (.int .i64 ((rd_T81 l0_1 x17_1).f1))).setCell ⟨gb106, 2, none⟩ (.bool false)) w.heap.size (fun _ => True) u3 x3_1) := ⟨by (with_reducible repeat (first | apply Kd.R_alloc | apply Kd.R_drewN | apply Kd.R_drew)); exact Kd.R_mono (Kd.R_far (p := ⟨gb106, 2, none⟩) (Kd.R_far (p := ⟨gb106, 1, none⟩) (Kd.R_far (p := ⟨gb106, 0, none⟩) (Kd.R_types HO_3.out BK106.out (by decide)) (fun _ hk => hk.2) (.string ((rd_T81 l0_1 x17_1).f0))) (fun _ hk => hk.2) (.int .i64 ((rd_T81 l0_1 x17_1).f1))) (fun _ hk => hk.2) (.bool false)) (fun _ hk => trivial)⟩
                        have n1_ : Aside0 ((((w28.setCell ⟨gb106, 0, none⟩ (.string ((rd_T81 l0_1 x17_1).f0))).setCell ⟨gb106, 1, none⟩ (.int .i64 ((rd_T81 l0_1 x17_1).f1))).setCell ⟨gb106, 2, none⟩ (.bool false)).heap[gb101]? = some (.cells #[.string a0_0, .slice (some ad105) l0_1.length c0_1, .int .i64 a0_2, .slice A0_3 l0_3.length c0_3] 32 (0, 0))) := ⟨z8_⟩
                        have n2_ : Aside0 ((((w28.setCell ⟨gb106, 0, none⟩ (.string ((rd_T81 l0_1 x17_1).f0))).setCell ⟨gb106, 1, none⟩ (.int .i64 ((rd_T81 l0_1 x17_1).f1))).setCell ⟨gb106, 2, none⟩ (.bool false)).heap[gb106]? = some (.cells #[.string ((rd_T81 l0_1 x17_1).f0), .int .i64 ((rd_T81 l0_1 x17_1).f1), .bool false] 81 (0, 0))) := ⟨z26_⟩
                        have n3_ : Aside0 (Below w.heap.size w (((w28.setCell ⟨gb106, 0, none⟩ (.string ((rd_T81 l0_1 x17_1).f0))).setCell ⟨gb106, 1, none⟩ (.int .i64 ((rd_T81 l0_1 x17_1).f1))).setCell ⟨gb106, 2, none⟩ (.bool false))) := ⟨z6_⟩
                        (try clear HO_3)
                        (try clear BK101)
                        (try clear BK106)
                        (try clear HB)
                        generalize (((w28.setCell ⟨gb106, 0, none⟩ (.string ((rd_T81 l0_1 x17_1).f0))).setCell ⟨gb106, 1, none⟩ (.int .i64 ((rd_T81 l0_1 x17_1).f1))).setCell ⟨gb106, 2, none⟩ (.bool false)) = w31 at n0_ n1_ n2_ n3_ ⊢
                        have HO_3 := n0_
                        have BK101 := n1_
                        have BK106 := n2_
                        have HB := n3_
                        clear n0_ n1_ n2_ n3_
                        have n_ := a4_ (Kd.R_drew HO_3.out) (blk_drew BK101.out) (blk_drew BK106.out) (below_drew1 HB.out)
                        clear HO_3 BK101 BK106 HB
                        obtain ⟨HO_3, BK101, BK106, HB⟩ := n_
                        refine start_ (n := 10) (S := fun w' => w'.cell? ⟨gb106, 0, none⟩ = some (.string ((rd_T81 l0_1 x17_1).f0)) ∧ w'.cell? ⟨gb106, 1, none⟩ = some (.int .i64 ((rd_T81 l0_1 x17_1).f1)) ∧ w'.cell? ⟨gb106, 2, none⟩ = some (.bool false)) (ds := []) #[false, false, false, false, false, false, false, false, false, false] (by kernel_rfl) rfl rfl ⟨(blk_cell BK106.out 0).trans rfl, (blk_cell BK106.out 1).trans rfl, (blk_cell BK106.out 2).trans rfl⟩ (fun hHeld => ?_); refine with_tabW impl_tableText.tab5 impl_tableText.bits5 (fun HT_ HW_ => ?_)
                        generalize w31.drew = w32 at HO_3 BK101 BK106 HB hHeld ⊢
                        refine pu_ 0 (N := some 21) #[true, false, false, false, false, false, false, false, false, false] HT_.out (h_ := ?_)
                        refine pu_ 4 (N := some 25) #[true, false, false, false, true, false, false, false, false, false] HT_.out (h_ := ?_)
                        refine tk_ 1 (N := some 22) #[true, true, false, false, true, false, false, false, false, false] HT_.out HW_.out hHeld (hy := by rintro w' ⟨s0, s1, s2⟩; go_simp; with_reducible rfl) (h_ := ?_)
                        refine pu_ 2 (N := some 23) #[true, true, true, false, true, false, false, false, false, false] HT_.out (h_ := ?_)
                        refine tk_ 5 (N := some 26) #[true, true, true, false, true, true, false, false, false, false] HT_.out HW_.out hHeld (hy := by rintro w' ⟨s0, s1, s2⟩; go_simp; with_reducible rfl) (h_ := ?_)
                        refine one_ (i := 3) (N := some 24) #[true, true, true, true, true, true, false, false, false, false] rfl rfl (one_of HT_.out (by kernel_rfl)) (by decide) (fun K hK => ?_)
                        refine goes_ Tryz.func54 (by kernel_rfl) rfl #[] (by rfl) rfl rfl z3_ ?_
                        with_reducible refine (impl_typeWords.calls  t107 _ A10.out).mono ?_
                        rintro e w33 ⟨v108, rfl, ho0, hb⟩
                        refine ⟨_, rfl, ?_⟩
                        have n_ := a5_ (Kd.R_elder' z21_ (Kd.R_base ho0) hb) (Kd.R_lower (Kd.R_new' ho0 (Kd.R_lt z21_)) (below_size z6_)) (blk_below (g := gb101) (o := .cells #[.string a0_0, .slice (some ad105) l0_1.length c0_1, .int .i64 a0_2, .slice A0_3 l0_3.length c0_3] 32 (0, 0)) z2_ hb) (blk_below (g := gb106) (o := .cells #[.string ((rd_T81 l0_1 x17_1).f0), .int .i64 ((rd_T81 l0_1 x17_1).f1), .bool false] 81 (0, 0)) z18_ hb) (below_step z6_ hb)
                        clear HO_3 BK101 BK106 HB
                        obtain ⟨HO_3, HO109, BK101, BK106, HB⟩ := n_
                        (try clear hb)
                        (try clear hb2)
                        (try clear hk)
                        (try clear hi)
                        (try clear ho0)
                        obtain ⟨Ao34, co34, eo34⟩ := Kd.R_slice HO109.out
                        (first | subst eo34 | (injection eo34 with f1_ f2_ f3_; have f4_ := f1_.symm; have f5_ := f3_.symm; clear f1_ f2_ f3_; subst f4_; subst f5_))
                        have p110 : 0 ≤ (((rd_T81 l0_1 x17_1).f1) : Int) := of_decide_eq_true z4_
                        have q110 : ((rd_T81 l0_1 x17_1).f1) < (t107.length : Int) := of_decide_eq_true z4_
                        obtain ⟨ad110, e110, hx110_0⟩ := Kd.at_string (Kd.R_reads' HO109.out).2.2 ((rd_T81 l0_1 x17_1).f1) p110 q110
                        cases e110
                        replace p110 := eq_true p110
                        replace q110 := eq_true q110
                        refine hK.out _ _ ⟨(blk_cell BK106.out 0).trans rfl, (blk_cell BK106.out 1).trans rfl, (blk_cell BK106.out 2).trans rfl⟩ (fun hHeld => ?_)
                        clear hK K
                        refine norm_ (a' := ?_) ?_ ?_
                        rotate_left
                        · show Act.put _ (some 24) _ = _
                          simp only [Act.put, List.setIfInBounds_toArray, List.set_cons_zero, List.set_cons_succ, i64_w, i32_w]
                          rfl
                        refine pu_ 6 (N := some 27) #[true, true, true, true, true, true, true, false, false, false] HT_.out (h_ := ?_)
                        refine onv_ 7 (N := some 28) #[true, true, true, true, true, true, true, true, false, false] HT_.out hHeld (hy := by obtain ⟨s0, s1, s2⟩ := hHeld; go_simp; with_reducible rfl) (h_ := ?_)
                        refine pu_ 8 (N := some 29) #[true, true, true, true, true, true, true, true, true, false] HT_.out (h_ := ?_)
                        refine pu_ 9 (N := some 6) #[true, true, true, true, true, true, true, true, true, true] HT_.out (h_ := ?_)
                        refine done_ (done_of HT_.out (by kernel_rfl)) ?_
                        obtain ⟨hcz35_0, hcz35_1, hcz35_2, hfz35_0, hfz35_1, hfz35_2⟩ := bcf3 BK106.out
                        try go_wp2_with (first | ((with_reducible refine gate_builtin (b := .append) (xs := #[.tmp 34, .tmp 36]) rfl ?_); at_builtin; refine Kd.R_append Kd.string (w0 := w) w.heap.size rfl (.tmp 34) (.tmp 36) 86 9 (.string ⟨#[]⟩) 16 rfl Tryz.underlying86 info9 rfl (by decide) (by omega) u3 x3_1 ((((rd_T81 l0_1 x17_1).f0) ++ (⟨#[32]⟩ : ByteArray)) ++ (rdOf ByteArray.empty t107 ((rd_T81 l0_1 x17_1).f1))) [.string ((((rd_T81 l0_1 x17_1).f0) ++ (⟨#[32]⟩ : ByteArray)) ++ (rdOf ByteArray.empty t107 ((rd_T81 l0_1 x17_1).f1)))] (fun k_ => some k_ ≠ (.slice (some ad110) t107.length co34 : Value).ownBlock) (fun _ => False) rfl rfl ?aP (fun _ hk => hk.elim) ?aF ?aO ?aB ?aS ?aL ?_; (case aP => exact rfl); (case aB => exact z6_); (case aF => exact (fun k_ hk => Kd.fresh' (Kd.R_lt z48_) k_ hk)); (case aO => exact (by (with_reducible repeat (first | apply Kd.R_alloc | apply Kd.R_drewN | apply Kd.R_drew)); exact Kd.R_mono HO_3.out (fun _ hk => hk.2))); (case aS => exact (below_size z6_)); (case aL => have := LMc27.out; omega); intro v115 w36 ho hb hg hat; rw [← Ny114.out] at ho; have n_ := a5_ (blk_grown (g := gb101) (o := .cells #[.string a0_0, .slice (some ad105) l0_1.length c0_1, .int .i64 a0_2, .slice A0_3 l0_3.length c0_3] 32 (0, 0)) z2_ hg (Kd.R_ne HO_3.out BK101.out (by decide))) (blk_grown (g := gb106) (o := .cells #[.string ((rd_T81 l0_1 x17_1).f0), .int .i64 ((rd_T81 l0_1 x17_1).f1), .bool false] 81 (0, 0)) z18_ hg (Kd.R_ne HO_3.out BK106.out (by decide))) (Kd.R_after (ok := (fun _ => True)) z48_ hg hat) (hb) (ho); clear BK101 BK106 HO109 HB HO_3; obtain ⟨BK101, BK106, HO109, HB, HO116⟩ := n_; clear ho hb hg hat))
                        go_roundg k1
                        case measure => have := HK1.out; omega
                        case rel => exact ⟨(y114), (wrap64 (x17_1 + 1)), z9_, H', ⟨by have := HK1.out; omega⟩, ⟨by (with_reducible repeat (first | apply Kd.R_alloc | apply Kd.R_drewN | apply Kd.R_drew)); exact Kd.R_mono HO116.out (fun _ hk => trivial)⟩, ⟨z2_⟩, ⟨z6_⟩⟩
                      · rw [if_neg c27] at H
                        exact absurd H (by simp)
                  · rw [if_neg c13] at H
                    exact absurd H (by simp)
                · rw [if_neg c12] at H
                  exact absurd H (by simp)
              · rw [if_neg c11] at H
                exact absurd H (by simp)
            · rw [if_neg c9] at H
              exact absurd H (by simp)
          · rw [if_neg c8] at H
            exact absurd H (by simp)
        · rw [if_neg c7] at H
          exact absurd H (by simp)
      rw [if_neg c6] at H
      have c6b0 := decide_eq_false c6
      clear c6
      by_cases c37 : a0_0.size + 1 ≤ 9223372036854775807
      rotate_left
      · rw [if_neg c37] at H
        exact absurd H (by simp)

      rw [if_pos c37] at H
      have c37b0 := eq_true c37
      have c37b1 := decide_eq_true c37
      try have c37b2 : (9223372036854775807 < a0_0.size + 1) = False := eq_false (Nat.not_lt.2 c37)
      replace H := Option.bind_eq_some_iff.mp H
      obtain ⟨t117, A380, H⟩ := H
      have A38 := ak_ A380
      clear A380
      by_cases c39 : (a0_0 ++ (⟨#[40]⟩ : ByteArray)).size + t117.size ≤ 9223372036854775807
      rotate_left
      · rw [if_neg c39] at H
        exact absurd H (by simp)
      rw [if_pos c39] at H
      have c39b0 := eq_true c39
      have c39b1 := decide_eq_true c39
      try have c39b2 : (9223372036854775807 < (a0_0 ++ (⟨#[40]⟩ : ByteArray)).size + t117.size) = False := eq_false (Nat.not_lt.2 c39)
      try have c39b3 : (9223372036854775807 < a0_0.size + 1 + t117.size) = False := eq_false (by have z_ := c39; simp only [ByteArray.size_append] at z_; exact Nat.not_lt.2 z_)
      by_cases c40 : ((a0_0 ++ (⟨#[40]⟩ : ByteArray)) ++ t117).size + 6 ≤ 9223372036854775807
      rotate_left
      · rw [if_neg c40] at H
        exact absurd H (by simp)
      rw [if_pos c40] at H
      have c40b0 := eq_true c40
      have c40b1 := decide_eq_true c40
      try have c40b2 : (9223372036854775807 < ((a0_0 ++ (⟨#[40]⟩ : ByteArray)) ++ t117).size + 6) = False := eq_false (Nat.not_lt.2 c40)
      try have c40b3 : (9223372036854775807 < a0_0.size + 1 + t117.size + 6) = False := eq_false (by have z_ := c40; simp only [ByteArray.size_append] at z_; exact Nat.not_lt.2 z_)
      replace H := Option.bind_eq_some_iff.mp H
      obtain ⟨t118, A410, H⟩ := H
      have A41 := ak_ A410
      clear A410
      by_cases c42 : (((a0_0 ++ (⟨#[40]⟩ : ByteArray)) ++ t117) ++ (⟨#[41, 32, 107, 101, 121, 32]⟩ : ByteArray)).size + t118.size ≤ 9223372036854775807
      rotate_left
      · rw [if_neg c42] at H
        exact absurd H (by simp)
      rw [if_pos c42] at H
      have c42b0 := eq_true c42
      have c42b1 := decide_eq_true c42
      try have c42b2 : (9223372036854775807 < (((a0_0 ++ (⟨#[40]⟩ : ByteArray)) ++ t117) ++ (⟨#[41, 32, 107, 101, 121, 32]⟩ : ByteArray)).size + t118.size) = False := eq_false (Nat.not_lt.2 c42)
      try have c42b3 : (9223372036854775807 < a0_0.size + 1 + t117.size + 6 + t118.size) = False := eq_false (by have z_ := c42; simp only [ByteArray.size_append] at z_; exact Nat.not_lt.2 z_)
      have H' := ak_ H
      clear H
      try go_wp2
      have n_ := a3_ (Kd.R_drew HO_3.out) (blk_drew BK101.out) (below_drew1 HB.out)
      clear HO_3 BK101 HB
      obtain ⟨HO_3, BK101, HB⟩ := n_
      obtain ⟨Ao44, co44, eo44⟩ := Kd.R_slice HO_3.out
      (first | subst eo44 | (injection eo44 with f1_ f2_ f3_; have f4_ := f1_.symm; have f5_ := f3_.symm; clear f1_ f2_ f3_; subst f4_; subst f5_))
      refine start_ (n := 12) (S := fun w' => w'.cell? ⟨gb101, 0, none⟩ = some (.string a0_0) ∧ w'.cell? ⟨gb101, 1, none⟩ = some (.slice A0_1 l0_1.length c0_1) ∧ w'.cell? ⟨gb101, 2, none⟩ = some (.int .i64 a0_2) ∧ w'.cell? ⟨gb101, 3, none⟩ = some (.slice A0_3 l0_3.length c0_3)) (ds := []) #[false, false, false, false, false, false, false, false, false, false, false, false] (by kernel_rfl) rfl rfl ⟨(blk_cell BK101.out 0).trans rfl, (blk_cell BK101.out 1).trans rfl, (blk_cell BK101.out 2).trans rfl, (blk_cell BK101.out 3).trans rfl⟩ (fun hHeld => ?_); refine with_tabW impl_tableText.tab10 impl_tableText.bits10 (fun HT_ HW_ => ?_)
      generalize wr.drew = w43 at HO_3 BK101 HB hHeld ⊢
      refine pu_ 0 (N := some 39) #[true, false, false, false, false, false, false, false, false, false, false, false] HT_.out (h_ := ?_)
      refine pu_ 3 (N := some 42) #[true, false, false, true, false, false, false, false, false, false, false, false] HT_.out (h_ := ?_)
      refine pu_ 7 (N := some 46) #[true, false, false, true, false, false, false, true, false, false, false, false] HT_.out (h_ := ?_)
      refine tk_ 1 (N := some 40) #[true, true, false, true, false, false, false, true, false, false, false, false] HT_.out HW_.out hHeld (hy := by rintro w' ⟨s0, s1, s2, s3⟩; go_simp; with_reducible rfl) (h_ := ?_)
      refine pu_ 2 (N := some 41) #[true, true, true, true, false, false, false, true, false, false, false, false] HT_.out (h_ := ?_)
      refine tk_ 8 (N := some 47) #[true, true, true, true, false, false, false, true, true, false, false, false] HT_.out HW_.out hHeld (hy := by rintro w' ⟨s0, s1, s2, s3⟩; go_simp; with_reducible rfl) (h_ := ?_)
      refine one_ (i := 4) (N := some 43) #[true, true, true, true, true, false, false, true, true, false, false, false] rfl rfl (one_of HT_.out (by kernel_rfl)) (by decide) (fun K hK => ?_)
      refine goes_ Tryz.func55 (by kernel_rfl) rfl #[.slice Ao44 x3_1.length co44, .string (⟨#[44, 32]⟩ : ByteArray)] (by rfl) rfl rfl z3_ ?_
      with_reducible refine (strings_Join.calls _ _ x3_1 (⟨#[44, 32]⟩ : ByteArray) t117 _ ?side1 ?side2 A38.out ?side9).mono ?_
      (case side1 => repeat (first | exact (Kd.R_reads' HO_3.out).2.2 | (with_reducible refine Kd.C_alloc ?_ _) | (with_reducible refine Kd.C_drewN ?_ _) | (with_reducible refine Kd.C_drew ?_)))
      (case side2 => exact (Kd.R_reads' HO_3.out).2.1)
      (case side9 => exact strings_Join.spot HO_3.out)
      rintro e w45 ⟨rfl, hb⟩
      refine ⟨_, rfl, ?_⟩
      have n_ := a3_ (Kd.R_below z21_ hb) (blk_below (g := gb101) (o := .cells #[.string a0_0, .slice A0_1 l0_1.length c0_1, .int .i64 a0_2, .slice A0_3 l0_3.length c0_3] 32 (0, 0)) z2_ hb) (below_step z0_ hb)
      clear HO_3 BK101 HB
      obtain ⟨HO_3, BK101, HB⟩ := n_
      (try clear hb)
      (try clear hb2)
      (try clear hk)
      (try clear hi)
      refine hK.out _ _ ⟨(blk_cell BK101.out 0).trans rfl, (blk_cell BK101.out 1).trans rfl, (blk_cell BK101.out 2).trans rfl, (blk_cell BK101.out 3).trans rfl⟩ (fun hHeld => ?_)
      clear hK K
      refine norm_ (a' := ?_) ?_ ?_
      rotate_left
      · show Act.put _ (some 43) _ = _
        simp only [Act.put, List.setIfInBounds_toArray, List.set_cons_zero, List.set_cons_succ, i64_w, i32_w]
        rfl
      refine pu_ 5 (N := some 44) #[true, true, true, true, true, true, false, true, true, false, false, false] HT_.out (h_ := ?_)
      refine pu_ 6 (N := some 45) #[true, true, true, true, true, true, true, true, true, false, false, false] HT_.out (h_ := ?_)
      refine one_ (i := 9) (N := some 48) #[true, true, true, true, true, true, true, true, true, true, false, false] rfl rfl (one_of HT_.out (by kernel_rfl)) (by decide) (fun K hK => ?_)
      refine goes_ Tryz.func56 (by kernel_rfl) rfl #[.int .i64 a0_2] (by rfl) rfl rfl z3_ ?_
      with_reducible refine (impl_formatInt.calls a0_2 t118 _ A41.out).mono ?_
      rintro e w' ⟨rfl, ⟨nd, rfl⟩⟩
      refine ⟨_, rfl, ?_⟩
      refine hK.out _ _ ⟨(blk_cell BK101.out 0).trans rfl, (blk_cell BK101.out 1).trans rfl, (blk_cell BK101.out 2).trans rfl, (blk_cell BK101.out 3).trans rfl⟩ (fun hHeld => ?_)
      clear hK K
      refine norm_ (a' := ?_) ?_ ?_
      rotate_left
      · show Act.put _ (some 48) _ = _
        simp only [Act.put, List.setIfInBounds_toArray, List.set_cons_zero, List.set_cons_succ, i64_w, i32_w]
        rfl
      refine pu_ 10 (N := some 49) #[true, true, true, true, true, true, true, true, true, true, true, false] HT_.out (h_ := ?_)
      refine pu_ 11 (N := some 7) #[true, true, true, true, true, true, true, true, true, true, true, true] HT_.out (h_ := ?_)
      refine done_ (done_of HT_.out (by kernel_rfl)) ?_
      obtain ⟨hcz46_0, hcz46_1, hcz46_2, hcz46_3, hfz46_0, hfz46_1, hfz46_2, hfz46_3⟩ := bcf4 BK101.out
      try go_wp2
      go_loopg [7, 53] k1 (fun kq v7 v53 w' => ∃ (x7_2 : ByteArray) (x53_2 : Int), v7 = .string x7_2 ∧ v53 = .int .i64 x53_2 ∧ Aside0 (impl_tableText.l1 kq x7_2 l0_3 (l0_3.length : Int) x53_2 a0_0 l0_1 a0_2 l0_3 = some r) ∧ Aside0 (kq ≤ k1) ∧ Aside0 (w'.heap[gb101]? = some (.cells #[.string a0_0, (.slice A0_1 l0_1.length c0_1), .int .i64 a0_2, (.slice A0_3 l0_3.length c0_3)] 32 (0, 0))) ∧ Aside0 (Below w.heap.size w w'))
      case atStart => exact ⟨((((a0_0 ++ (⟨#[40]⟩ : ByteArray)) ++ t117) ++ (⟨#[41, 32, 107, 101, 121, 32]⟩ : ByteArray)) ++ t118), (0), z9_, z9_, H', ⟨Nat.le_refl _⟩, ⟨z2_⟩, ⟨z0_⟩⟩
      case round =>
        clear H'
        try clear c1
        try clear p1
        try clear q1
        try clear hx1
        try clear c2
        try clear p2
        try clear c3
        try clear c4
        try clear c5
        try clear c6
        try clear c6b0
        try clear p6
        try clear c7
        try clear c7b0
        try clear c8
        try clear c8b0
        try clear c9
        try clear c9b0
        try clear c9b1
        try clear c9b2
        try clear p10
        try clear q10
        try clear hx10
        try clear c11
        try clear c11b0
        try clear p11
        try clear q11
        try clear hx11
        try clear c12
        try clear c12b0
        try clear c13
        try clear c13b0
        try clear c13b1
        try clear c13b2
        try clear q14
        try clear c15
        try clear c16
        try clear c16b0
        try clear c16b1
        try clear c16b2
        try clear c17
        try clear c19
        try clear c27
        try clear c29
        try clear c37
        try clear c37b0
        try clear c37b1
        try clear c37b2
        try clear c39
        try clear c39b0
        try clear c39b1
        try clear c39b2
        try clear c40
        try clear c40b0
        try clear c40b1
        try clear c40b2
        try clear c42
        try clear c42b0
        try clear c42b1
        try clear c42b2
        try clear hcz20_0
        try clear hcz20_1
        try clear hcz20_2
        try clear hcz25_0
        try clear hcz25_1
        try clear hcz25_2
        try clear hcz30_0
        try clear hcz30_1
        try clear hcz30_2
        try clear hcz35_0
        try clear hcz35_1
        try clear hcz35_2
        try clear hcz46_0
        try clear hcz46_1
        try clear hcz46_2
        try clear hcz46_3
        try clear hfz20_0
        try clear hfz20_1
        try clear hfz20_2
        try clear hfz25_0
        try clear hfz25_1
        try clear hfz25_2
        try clear hfz30_0
        try clear hfz30_1
        try clear hfz30_2
        try clear hfz35_0
        try clear hfz35_1
        try clear hfz35_2
        try clear hfz46_0
        try clear hfz46_1
        try clear hfz46_2
        try clear hfz46_3
        try clear hx105_0
        try clear hx105_1
        try clear hx105_2
        try clear hx110_0
        try clear p105
        try clear p110
        try clear q105
        try clear q110
        obtain ⟨x7_2, x53_2, rfl, rfl, HA, HK2, BK101, HB⟩ := hrel
        cases gk with
        | zero => exact absurd HA.out (by simp [impl_tableText.l1])
        | succ k2 =>
          have H := HA.out
          clear HA
          simp only [impl_tableText.l1] at H
          by_cases c47 : x53_2 < (l0_3.length : Int)
          rotate_left
          · rw [if_neg c47] at H
            have c47b0 := decide_eq_false c47
            clear c47
            obtain rfl := Option.some.inj H
            go_wp2
            go_ret
            exact ⟨z7_, z0_⟩
          rw [if_pos c47] at H
          have c47b0 := decide_eq_true c47
          clear c47
          by_cases c48 : 0 ≤ x53_2
          rotate_left
          · rw [if_neg c48] at H
            exact absurd H (by simp)
          rw [if_pos c48] at H
          have c48b0 := decide_eq_true c48
          clear c48
          by_cases c49 : x53_2 < (l0_3.length : Int)
          rotate_left
          · rw [if_neg c49] at H
            exact absurd H (by simp)
          rw [if_pos c49] at H
          have c49b0 := decide_eq_true c49
          clear c49
          obtain ⟨y121, hy121⟩ : ∃ y_ : List ByteArray, y_ = (([] : List ByteArray)) := ⟨_, rfl⟩
          replace H : (impl_tableText.l2 k2 x7_2 y121 l0_3 (l0_3.length : Int) x53_2 ((rd_T84 l0_3 x53_2).f1) (((rd_T84 l0_3 x53_2).f1).length : Int) 0 a0_0 l0_1 a0_2 l0_3 ((rd_T84 l0_3 x53_2).f0) ((rd_T84 l0_3 x53_2).f1)) = some r := by first | (rw [hy121]; with_reducible exact H) | (have H2_ := (Option.bind_some _ _).symm.trans H; rw [hy121]; with_reducible exact H2_) | (have H2_ := (Option.bind_some _ _).symm.trans H; with_reducible exact H2_) | with_reducible exact H | (rw [hy121]; exact H) | exact H
          have Ny121 := ak_ hy121
          clear hy121
          have H' := ak_ H
          clear H
          have p119 : 0 ≤ (x53_2 : Int) := of_decide_eq_true z4_
          have q119 : x53_2 < (l0_3.length : Int) := of_decide_eq_true z4_
          obtain ⟨ad119, A119_1, c119_1, e119, hx119_0, hx119_1, hl119_1, hi119_1⟩ := at_T84 HR0_3.out x53_2 p119 q119
          cases e119
          replace hx119_0 := oc_ HB.out hx119_0
          replace hx119_1 := oc_ HB.out hx119_1
          have HR119_1 := ak_ hi119_1
          have HC119_1 := ak_ hl119_1
          clear hi119_1 hl119_1
          replace p119 := eq_true p119
          replace q119 := eq_true q119
          go_wp2_with (first | ((with_reducible refine gate_dst (N := 9) rfl ?_); refine bx_ 9 (cs := #[.string (⟨#[]⟩ : ByteArray), .slice none 0 0]) (t := 84) (h_ := ?_); intro gb120 hg w50 hbox hb; have n_ := a7_ (blk_below (g := gb101) (o := .cells #[.string a0_0, .slice A0_1 l0_1.length c0_1, .int .i64 a0_2, .slice (some ad119) l0_3.length c0_3] 32 (0, 0)) z2_ hb) (below_step z0_ hb) (hbox) ((gs_ w hg (below_size z0_))) ((gs_ w hg (below_size z0_))) ((by rw [hg]; exact Nat.ne_of_lt (blk_lt (g := gb101) (o := .cells #[.string a0_0, .slice A0_1 l0_1.length c0_1, .int .i64 a0_2, .slice (some ad119) l0_3.length c0_3] 32 (0, 0)) z2_) : gb101 ≠ gb120)) ((by rw [hg]; exact Nat.ne_of_gt (blk_lt (g := gb101) (o := .cells #[.string a0_0, .slice A0_1 l0_1.length c0_1, .int .i64 a0_2, .slice (some ad119) l0_3.length c0_3] 32 (0, 0)) z2_) : gb120 ≠ gb101)); clear BK101 HB; obtain ⟨BK101, HB, BK120, GW120, GE120, NB101_120, NB120_101⟩ := n_; clear hb hbox hg; have hnb51 := NB120_101.out; have hnc51 := NB101_120.out; obtain ⟨hcz52_0, hcz52_1, hfz52_0, hfz52_1⟩ := bcf2 BK120.out) | ((with_reducible refine gate_dst (N := 57) rfl ?_); refine Kd.R_lit Kd.string _ 9 ?hg (N := 57) ?hd (xs := ([] : List ByteArray)) (inner := []) (ok := fun _ => True) (okp := fun _ => True) ?hr ?hp (fun _ hk => hk) trivial (Below.refl _ _) (Nat.le_refl _) (by simp) ?_; (case hd => rfl); (case hg => rfl); (case hr => first | (go_simp; done) | (go_simp; rfl)); (case hp => exact (Reps.none _ _)); intro v122 w53 ho54 hb hg_ hnew_; clear hg_ hnew_; (first | rw [← Ny121.out] at ho54 | (simp only [Int.reduceToNat] at ho54; rw [← Ny121.out] at ho54)); have n_ := a4_ (Kd.R_lower ho54 (below_size z19_)) (blk_below (g := gb101) (o := .cells #[.string a0_0, .slice A0_1 l0_1.length c0_1, .int .i64 a0_2, .slice (some ad119) l0_3.length c0_3] 32 (0, 0)) (by (with_reducible repeat (first | refine blk_drewN ?_ _ | refine blk_drew ?_ | refine blk_alloc ?_ _)); refine blk_far ?_ NB101_120.out _; (with_reducible repeat (first | refine blk_drewN ?_ _ | refine blk_drew ?_ | refine blk_alloc ?_ _)); refine blk_far ?_ NB101_120.out _; (with_reducible repeat (first | refine blk_drewN ?_ _ | refine blk_drew ?_ | refine blk_alloc ?_ _)); exact BK101.out) hb) (blk_below (g := gb120) (o := .cells #[.string ((rd_T84 l0_3 x53_2).f0), .slice A119_1 ((rd_T84 l0_3 x53_2).f1).length c119_1] 84 (0, 0)) (by (with_reducible repeat (first | refine blk_drewN ?_ _ | refine blk_drew ?_ | refine blk_alloc ?_ _)); refine blk_put (cs := #[.string ((rd_T84 l0_3 x53_2).f0), .slice none 0 0]) ?_ 1 _ rfl; (with_reducible repeat (first | refine blk_drewN ?_ _ | refine blk_drew ?_ | refine blk_alloc ?_ _)); refine blk_put (cs := #[.string (⟨#[]⟩ : ByteArray), .slice none 0 0]) ?_ 0 _ rfl; (with_reducible repeat (first | refine blk_drewN ?_ _ | refine blk_drew ?_ | refine blk_alloc ?_ _)); exact BK120.out) hb) (below_step z19_ hb); clear BK101 BK120 HB; obtain ⟨HO123, BK101, BK120, HB⟩ := n_; clear hb ho54; obtain ⟨hcz55_0, hcz55_1, hfz55_0, hfz55_1⟩ := bcf2 BK120.out))
          go_loopg [10, 61] k2 (fun kq v10 v61 w' => ∃ (x10_3 : List ByteArray) (x61_3 : Int), v61 = .int .i64 x61_3 ∧ Aside0 (impl_tableText.l2 kq x7_2 x10_3 l0_3 (l0_3.length : Int) x53_2 ((rd_T84 l0_3 x53_2).f1) (((rd_T84 l0_3 x53_2).f1).length : Int) x61_3 a0_0 l0_1 a0_2 l0_3 ((rd_T84 l0_3 x53_2).f0) ((rd_T84 l0_3 x53_2).f1) = some r) ∧ Aside0 (kq ≤ k2) ∧ Aside0 (Kd.R Kd.string 9 w' w.heap.size (fun _ => True) v10 x10_3) ∧ Aside0 (w'.heap[gb101]? = some (.cells #[.string a0_0, (.slice A0_1 l0_1.length c0_1), .int .i64 a0_2, (.slice (some ad119) l0_3.length c0_3)] 32 (0, 0))) ∧ Aside0 (w'.heap[gb120]? = some (.cells #[.string ((rd_T84 l0_3 x53_2).f0), (.slice A119_1 ((rd_T84 l0_3 x53_2).f1).length c119_1)] 84 (0, 0))) ∧ Aside0 (Below w.heap.size w w'))
          case atStart => exact ⟨(y121), (0), z9_, H', ⟨Nat.le_refl _⟩, ⟨by (with_reducible repeat (first | apply Kd.R_alloc | apply Kd.R_drewN | apply Kd.R_drew)); exact HO123.out⟩, ⟨z2_⟩, ⟨z42_⟩, ⟨z19_⟩⟩
          case round =>
            clear H'
            try clear c1
            try clear p1
            try clear q1
            try clear hx1
            try clear c2
            try clear p2
            try clear c3
            try clear c4
            try clear c5
            try clear c6
            try clear c6b0
            try clear p6
            try clear c7
            try clear c7b0
            try clear c8
            try clear c8b0
            try clear c9
            try clear c9b0
            try clear c9b1
            try clear c9b2
            try clear p10
            try clear q10
            try clear hx10
            try clear c11
            try clear c11b0
            try clear p11
            try clear q11
            try clear hx11
            try clear c12
            try clear c12b0
            try clear c13
            try clear c13b0
            try clear c13b1
            try clear c13b2
            try clear q14
            try clear c15
            try clear c16
            try clear c16b0
            try clear c16b1
            try clear c16b2
            try clear c17
            try clear c19
            try clear c27
            try clear c29
            try clear c37
            try clear c37b0
            try clear c37b1
            try clear c37b2
            try clear c39
            try clear c39b0
            try clear c39b1
            try clear c39b2
            try clear c40
            try clear c40b0
            try clear c40b1
            try clear c40b2
            try clear c42
            try clear c42b0
            try clear c42b1
            try clear c42b2
            try clear c47
            try clear c47b0
            try clear c48
            try clear c48b0
            try clear c49
            try clear c49b0
            try clear c51
            try clear c54
            try clear c55
            try clear hcz20_0
            try clear hcz20_1
            try clear hcz20_2
            try clear hcz25_0
            try clear hcz25_1
            try clear hcz25_2
            try clear hcz30_0
            try clear hcz30_1
            try clear hcz30_2
            try clear hcz35_0
            try clear hcz35_1
            try clear hcz35_2
            try clear hcz46_0
            try clear hcz46_1
            try clear hcz46_2
            try clear hcz46_3
            try clear hcz52_0
            try clear hcz52_1
            try clear hcz55_0
            try clear hcz55_1
            try clear hfz20_0
            try clear hfz20_1
            try clear hfz20_2
            try clear hfz25_0
            try clear hfz25_1
            try clear hfz25_2
            try clear hfz30_0
            try clear hfz30_1
            try clear hfz30_2
            try clear hfz35_0
            try clear hfz35_1
            try clear hfz35_2
            try clear hfz46_0
            try clear hfz46_1
            try clear hfz46_2
            try clear hfz46_3
            try clear hfz52_0
            try clear hfz52_1
            try clear hfz55_0
            try clear hfz55_1
            try clear hx105_0
            try clear hx105_1
            try clear hx105_2
            try clear hx110_0
            try clear hx119_0
            try clear hx119_1
            try clear p1
            try clear p10
            try clear p105
            try clear p11
            try clear p110
            try clear p119
            try clear p2
            try clear p6
            try clear q1
            try clear q10
            try clear q105
            try clear q11
            try clear q110
            try clear q119
            try clear q14
            obtain ⟨x10_3, x61_3, rfl, HA, HK3, HO_10, BK101, BK120, HB⟩ := hrel
            cases gk with
            | zero => exact absurd HA.out (by simp [impl_tableText.l2])
            | succ k3 =>
              have H := HA.out
              clear HA
              simp only [impl_tableText.l2] at H
              by_cases c56 : x61_3 < (((rd_T84 l0_3 x53_2).f1).length : Int)
              · rw [if_pos c56] at H
                have c56b0 := decide_eq_true c56
                clear c56
                by_cases c57 : 0 ≤ x61_3
                · rw [if_pos c57] at H
                  have c57b0 := decide_eq_true c57
                  clear c57
                  by_cases c58 : x61_3 < (((rd_T84 l0_3 x53_2).f1).length : Int)
                  · rw [if_pos c58] at H
                    have c58b0 := decide_eq_true c58
                    clear c58
                    by_cases c59 : 0 ≤ (rd ((rd_T84 l0_3 x53_2).f1) x61_3)
                    · rw [if_pos c59] at H
                      have c59b0 := decide_eq_true c59
                      clear c59
                      by_cases c60 : (rd ((rd_T84 l0_3 x53_2).f1) x61_3) < (l0_1.length : Int)
                      · rw [if_pos c60] at H
                        have c60b0 := decide_eq_true c60
                        clear c60
                        by_cases c61 : x10_3.length < 8796093022208
                        · rw [if_pos c61] at H
                          have LMc61 := ak_ c61
                          clear c61
                          obtain ⟨y126, hy126⟩ : ∃ y_ : List ByteArray, y_ = (x10_3 ++ [(rd_T81 l0_1 (rd ((rd_T84 l0_3 x53_2).f1) x61_3)).f0]) := ⟨_, rfl⟩
                          replace H : (impl_tableText.l2 k3 x7_2 y126 l0_3 (l0_3.length : Int) x53_2 ((rd_T84 l0_3 x53_2).f1) (((rd_T84 l0_3 x53_2).f1).length : Int) (wrap64 (x61_3 + 1)) a0_0 l0_1 a0_2 l0_3 ((rd_T84 l0_3 x53_2).f0) ((rd_T84 l0_3 x53_2).f1)) = some r := by first | (rw [hy126]; with_reducible exact H) | (have H2_ := (Option.bind_some _ _).symm.trans H; rw [hy126]; with_reducible exact H2_) | (have H2_ := (Option.bind_some _ _).symm.trans H; with_reducible exact H2_) | with_reducible exact H | (rw [hy126]; exact H) | exact H
                          have Ny126 := ak_ hy126
                          clear hy126
                          have H' := ak_ H
                          clear H
                          have p124 : 0 ≤ (x61_3 : Int) := of_decide_eq_true z4_
                          have q124 : x61_3 < (((rd_T84 l0_3 x53_2).f1).length : Int) := of_decide_eq_true z4_
                          obtain ⟨ad124, e124, hx124_0⟩ := Kd.at_int HR119_1.out x61_3 p124 q124
                          cases e124
                          replace hx124_0 := oc_ HB.out hx124_0
                          replace p124 := eq_true p124
                          replace q124 := eq_true q124
                          have hnb62 := NB101_120.out
                          have hnc62 := NB120_101.out
                          obtain ⟨hcz63_0, hcz63_1, hcz63_2, hcz63_3, hfz63_0, hfz63_1, hfz63_2, hfz63_3⟩ := bcf4 BK101.out
                          have p125 : 0 ≤ ((rd ((rd_T84 l0_3 x53_2).f1) x61_3) : Int) := of_decide_eq_true z4_
                          have q125 : (rd ((rd_T84 l0_3 x53_2).f1) x61_3) < (l0_1.length : Int) := of_decide_eq_true z4_
                          obtain ⟨ad125, e125, hx125_0, hx125_1, hx125_2⟩ := at_T81 HR0_1.out (rd ((rd_T84 l0_3 x53_2).f1) x61_3) p125 q125
                          cases e125
                          replace hx125_0 := oc_ HB.out hx125_0
                          replace hx125_1 := oc_ HB.out hx125_1
                          replace hx125_2 := oc_ HB.out hx125_2
                          replace p125 := eq_true p125
                          replace q125 := eq_true q125
                          go_wp2_with (first | ((with_reducible refine gate_builtin (b := .append) (xs := #[.tmp 65, .tmp 72]) rfl ?_); at_builtin; refine Kd.R_append Kd.string (w0 := w) w.heap.size rfl (.tmp 65) (.tmp 72) 86 9 (.string ⟨#[]⟩) 16 rfl Tryz.underlying86 info9 rfl (by decide) (by omega) u10 x10_3 ((rd_T81 l0_1 (rd ((rd_T84 l0_3 x53_2).f1) x61_3)).f0) [.string ((rd_T81 l0_1 (rd ((rd_T84 l0_3 x53_2).f1) x61_3)).f0)] (fun _ => True) (fun _ => False) rfl rfl ?aP (fun _ hk => hk.elim) ?aF ?aO ?aB ?aS ?aL ?_; (case aP => exact rfl); (case aB => exact z19_); (case aF => exact (fun _ _ => trivial)); (case aO => exact (by (with_reducible repeat (first | apply Kd.R_alloc | apply Kd.R_drewN | apply Kd.R_drew)); exact HO_10.out)); (case aS => exact (below_size z19_)); (case aL => have := LMc61.out; omega); intro v127 w64 ho hb hg hat; rw [← Ny126.out] at ho; have n_ := a4_ (blk_grown (g := gb101) (o := .cells #[.string a0_0, .slice (some ad125) l0_1.length c0_1, .int .i64 a0_2, .slice (some ad119) l0_3.length c0_3] 32 (0, 0)) z2_ hg (Kd.R_ne HO_10.out BK101.out (by decide))) (blk_grown (g := gb120) (o := .cells #[.string ((rd_T84 l0_3 x53_2).f0), .slice (some ad124) ((rd_T84 l0_3 x53_2).f1).length c119_1] 84 (0, 0)) z42_ hg (Kd.R_ne HO_10.out BK120.out (by decide))) (hb) (ho); clear BK101 BK120 HB HO_10; obtain ⟨BK101, BK120, HB, HO128⟩ := n_; clear ho hb hg hat))
                          go_roundg k3
                          case measure => have := HK1.out; have := HK2.out; have := HK3.out; omega
                          case rel => exact ⟨(y126), (wrap64 (x61_3 + 1)), z9_, H', ⟨by have := HK1.out; have := HK2.out; have := HK3.out; omega⟩, ⟨by (with_reducible repeat (first | apply Kd.R_alloc | apply Kd.R_drewN | apply Kd.R_drew)); exact HO128.out⟩, ⟨z2_⟩, ⟨z42_⟩, ⟨z19_⟩⟩
                        · rw [if_neg c61] at H
                          exact absurd H (by simp)
                      · rw [if_neg c60] at H
                        exact absurd H (by simp)
                    · rw [if_neg c59] at H
                      exact absurd H (by simp)
                  · rw [if_neg c58] at H
                    exact absurd H (by simp)
                · rw [if_neg c57] at H
                  exact absurd H (by simp)
              rw [if_neg c56] at H
              have c56b0 := decide_eq_false c56
              clear c56
              by_cases c65 : 7 + ((rd_T84 l0_3 x53_2).f0).size ≤ 9223372036854775807
              rotate_left
              · rw [if_neg c65] at H
                exact absurd H (by simp)
              rw [if_pos c65] at H
              have c65b0 := eq_true c65
              have c65b1 := decide_eq_true c65
              try have c65b2 : (9223372036854775807 < 7 + ((rd_T84 l0_3 x53_2).f0).size) = False := eq_false (Nat.not_lt.2 c65)
              by_cases c66 : ((⟨#[32, 105, 110, 100, 101, 120, 32]⟩ : ByteArray) ++ ((rd_T84 l0_3 x53_2).f0)).size + 1 ≤ 9223372036854775807
              rotate_left
              · rw [if_neg c66] at H
                exact absurd H (by simp)
              rw [if_pos c66] at H
              have c66b0 := eq_true c66
              have c66b1 := decide_eq_true c66
              try have c66b2 : (9223372036854775807 < ((⟨#[32, 105, 110, 100, 101, 120, 32]⟩ : ByteArray) ++ ((rd_T84 l0_3 x53_2).f0)).size + 1) = False := eq_false (Nat.not_lt.2 c66)
              try have c66b3 : (9223372036854775807 < 7 + ((rd_T84 l0_3 x53_2).f0).size + 1) = False := eq_false (by have z_ := c66; simp only [ByteArray.size_append] at z_; exact Nat.not_lt.2 z_)
              replace H := Option.bind_eq_some_iff.mp H
              obtain ⟨t129, A670, H⟩ := H
              have A67 := ak_ A670
              clear A670
              by_cases c68 : (((⟨#[32, 105, 110, 100, 101, 120, 32]⟩ : ByteArray) ++ ((rd_T84 l0_3 x53_2).f0)) ++ (⟨#[40]⟩ : ByteArray)).size + t129.size ≤ 9223372036854775807
              rotate_left
              · rw [if_neg c68] at H
                exact absurd H (by simp)
              rw [if_pos c68] at H
              have c68b0 := eq_true c68
              have c68b1 := decide_eq_true c68
              try have c68b2 : (9223372036854775807 < (((⟨#[32, 105, 110, 100, 101, 120, 32]⟩ : ByteArray) ++ ((rd_T84 l0_3 x53_2).f0)) ++ (⟨#[40]⟩ : ByteArray)).size + t129.size) = False := eq_false (Nat.not_lt.2 c68)
              try have c68b3 : (9223372036854775807 < 7 + ((rd_T84 l0_3 x53_2).f0).size + 1 + t129.size) = False := eq_false (by have z_ := c68; simp only [ByteArray.size_append] at z_; exact Nat.not_lt.2 z_)
              by_cases c69 : ((((⟨#[32, 105, 110, 100, 101, 120, 32]⟩ : ByteArray) ++ ((rd_T84 l0_3 x53_2).f0)) ++ (⟨#[40]⟩ : ByteArray)) ++ t129).size + 1 ≤ 9223372036854775807
              rotate_left
              · rw [if_neg c69] at H
                exact absurd H (by simp)
              rw [if_pos c69] at H
              have c69b0 := eq_true c69
              have c69b1 := decide_eq_true c69
              try have c69b2 : (9223372036854775807 < ((((⟨#[32, 105, 110, 100, 101, 120, 32]⟩ : ByteArray) ++ ((rd_T84 l0_3 x53_2).f0)) ++ (⟨#[40]⟩ : ByteArray)) ++ t129).size + 1) = False := eq_false (Nat.not_lt.2 c69)
              try have c69b3 : (9223372036854775807 < 7 + ((rd_T84 l0_3 x53_2).f0).size + 1 + t129.size + 1) = False := eq_false (by have z_ := c69; simp only [ByteArray.size_append] at z_; exact Nat.not_lt.2 z_)
              by_cases c70 : x7_2.size + (((((⟨#[32, 105, 110, 100, 101, 120, 32]⟩ : ByteArray) ++ ((rd_T84 l0_3 x53_2).f0)) ++ (⟨#[40]⟩ : ByteArray)) ++ t129) ++ (⟨#[41]⟩ : ByteArray)).size ≤ 9223372036854775807
              rotate_left
              · rw [if_neg c70] at H
                exact absurd H (by simp)
              rw [if_pos c70] at H
              have c70b0 := eq_true c70
              have c70b1 := decide_eq_true c70
              try have c70b2 : (9223372036854775807 < x7_2.size + (((((⟨#[32, 105, 110, 100, 101, 120, 32]⟩ : ByteArray) ++ ((rd_T84 l0_3 x53_2).f0)) ++ (⟨#[40]⟩ : ByteArray)) ++ t129) ++ (⟨#[41]⟩ : ByteArray)).size) = False := eq_false (Nat.not_lt.2 c70)
              try have c70b3 : (9223372036854775807 < x7_2.size + (7 + ((rd_T84 l0_3 x53_2).f0).size + 1 + t129.size + 1)) = False := eq_false (by have z_ := c70; simp only [ByteArray.size_append] at z_; exact Nat.not_lt.2 z_)
              have H' := ak_ H
              clear H
              try go_wp2
              have n_ := a4_ (Kd.R_drew HO_10.out) (blk_drew BK101.out) (blk_drew BK120.out) (below_drew1 HB.out)
              clear HO_10 BK101 BK120 HB
              obtain ⟨HO_10, BK101, BK120, HB⟩ := n_
              obtain ⟨Ao72, co72, eo72⟩ := Kd.R_slice HO_10.out
              (first | subst eo72 | (injection eo72 with f1_ f2_ f3_; have f4_ := f1_.symm; have f5_ := f3_.symm; clear f1_ f2_ f3_; subst f4_; subst f5_))
              refine start_ (n := 11) (S := fun w' => w'.cell? ⟨gb120, 0, none⟩ = some (.string ((rd_T84 l0_3 x53_2).f0)) ∧ w'.cell? ⟨gb120, 1, none⟩ = some (.slice A119_1 ((rd_T84 l0_3 x53_2).f1).length c119_1)) (ds := []) #[false, false, false, false, false, false, false, false, false, false, false] (by kernel_rfl) rfl rfl ⟨(blk_cell BK120.out 0).trans rfl, (blk_cell BK120.out 1).trans rfl⟩ (fun hHeld => ?_); refine with_tabW impl_tableText.tab20 impl_tableText.bits20 (fun HT_ HW_ => ?_)
              generalize wr.drew = w71 at HO_10 BK101 BK120 HB hHeld ⊢
              refine pu_ 0 (N := some 75) #[true, false, false, false, false, false, false, false, false, false, false] HT_.out (h_ := ?_)
              refine pu_ 1 (N := some 76) #[true, true, false, false, false, false, false, false, false, false, false] HT_.out (h_ := ?_)
              refine pu_ 5 (N := some 80) #[true, true, false, false, false, true, false, false, false, false, false] HT_.out (h_ := ?_)
              refine tk_ 2 (N := some 77) #[true, true, true, false, false, true, false, false, false, false, false] HT_.out HW_.out hHeld (hy := by rintro w' ⟨s0, s1⟩; go_simp; with_reducible rfl) (h_ := ?_)
              refine pu_ 3 (N := some 78) #[true, true, true, true, false, true, false, false, false, false, false] HT_.out (h_ := ?_)
              refine pu_ 4 (N := some 79) #[true, true, true, true, true, true, false, false, false, false, false] HT_.out (h_ := ?_)
              refine one_ (i := 6) (N := some 81) #[true, true, true, true, true, true, true, false, false, false, false] rfl rfl (one_of HT_.out (by kernel_rfl)) (by decide) (fun K hK => ?_)
              refine goes_ Tryz.func55 (by kernel_rfl) rfl #[.slice Ao72 x10_3.length co72, .string (⟨#[44, 32]⟩ : ByteArray)] (by rfl) rfl rfl z3_ ?_
              with_reducible refine (strings_Join.calls _ _ x10_3 (⟨#[44, 32]⟩ : ByteArray) t129 _ ?side1 ?side2 A67.out ?side9).mono ?_
              (case side1 => repeat (first | exact (Kd.R_reads' HO_10.out).2.2 | (with_reducible refine Kd.C_alloc ?_ _) | (with_reducible refine Kd.C_drewN ?_ _) | (with_reducible refine Kd.C_drew ?_)))
              (case side2 => exact (Kd.R_reads' HO_10.out).2.1)
              (case side9 => exact strings_Join.spot HO_10.out)
              rintro e w73 ⟨rfl, hb⟩
              refine ⟨_, rfl, ?_⟩
              have n_ := a4_ (Kd.R_below (by (with_reducible repeat (first | apply Kd.R_alloc | apply Kd.R_drewN | apply Kd.R_drew)); exact HO_10.out) hb) (blk_below (g := gb101) (o := .cells #[.string a0_0, .slice A0_1 l0_1.length c0_1, .int .i64 a0_2, .slice (some ad119) l0_3.length c0_3] 32 (0, 0)) z2_ hb) (blk_below (g := gb120) (o := .cells #[.string ((rd_T84 l0_3 x53_2).f0), .slice A119_1 ((rd_T84 l0_3 x53_2).f1).length c119_1] 84 (0, 0)) z42_ hb) (below_step z19_ hb)
              clear HO_10 BK101 BK120 HB
              obtain ⟨HO_10, BK101, BK120, HB⟩ := n_
              (try clear hb)
              (try clear hb2)
              (try clear hk)
              (try clear hi)
              refine hK.out _ _ ⟨(blk_cell BK120.out 0).trans rfl, (blk_cell BK120.out 1).trans rfl⟩ (fun hHeld => ?_)
              clear hK K
              refine norm_ (a' := ?_) ?_ ?_
              rotate_left
              · show Act.put _ (some 81) _ = _
                simp only [Act.put, List.setIfInBounds_toArray, List.set_cons_zero, List.set_cons_succ, i64_w, i32_w]
                rfl
              refine pu_ 7 (N := some 82) #[true, true, true, true, true, true, true, true, false, false, false] HT_.out (h_ := ?_)
              refine pu_ 8 (N := some 83) #[true, true, true, true, true, true, true, true, true, false, false] HT_.out (h_ := ?_)
              refine pu_ 9 (N := some 84) #[true, true, true, true, true, true, true, true, true, true, false] HT_.out (h_ := ?_)
              refine pu_ 10 (N := some 7) #[true, true, true, true, true, true, true, true, true, true, true] HT_.out (h_ := ?_)
              refine done_ (done_of HT_.out (by kernel_rfl)) ?_
              try go_wp2
              go_roundg k3
              case measure => have := HK1.out; have := HK2.out; have := HK3.out; omega
              case rel => exact ⟨(x7_2 ++ (((((⟨#[32, 105, 110, 100, 101, 120, 32]⟩ : ByteArray) ++ ((rd_T84 l0_3 x53_2).f0)) ++ (⟨#[40]⟩ : ByteArray)) ++ t129) ++ (⟨#[41]⟩ : ByteArray))), (wrap64 (x53_2 + 1)), z9_, z9_, H', ⟨by have := HK1.out; have := HK2.out; have := HK3.out; omega⟩, ⟨z2_⟩, ⟨z19_⟩⟩
end Go.Proofs.YtjknmljdnolilaaGreatDoor.X
