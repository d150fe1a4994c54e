/- Contracts of functions, and what is told of them. -/
import Derived.Test.YtjknmljdnolilaaGreatDoorYFnExactTableText3
import Derived.Test.YtjknmljdnolilaaGreatDoorYFnExactTableText8
-- WRITTEN BY xprint.py, a program of this session, over the translation of the seat. Lean checks it.
namespace Go.Proofs.YtjknmljdnolilaaGreatDoor.X
open Go.RowKit Go.Proofs.YtjknmljdnolilaaGreatDoorW.PrintWords Go.Proofs.YtjknmljdnolilaaGreatDoorW.PrintLast Go.Proofs.YtjknmljdnolilaaGreatDoorW.PrintMore
attribute [local go_sem] max2_int min2_int max_two min_two max_three min_three max_four min_four   -- for this text's walks alone
set_option linter.unusedVariables false
set_option linter.unusedSimpArgs false

/-! ### spec_l09Text: function 21 -/
mutual
def spec_l09Text.l0 : Nat → ByteArray → Int → ByteArray → List (S81) → Int → List (S84) → Option (ByteArray)
  | 0, _, _, _, _, _, _ => none
  | k + 1, x3, x4, x102000, x102001, x102002, x102003 => if x4 < (x102001.length : Int) then (if x4 > 0 then (if x3.size + 2 ≤ 9223372036854775807 then (if 0 ≤ x4 then (if ((rd_T81 x102001 x4).f0).size + 1 ≤ 9223372036854775807 then ((spec_l09Types.f).bind fun t103 => (if 0 ≤ ((rd_T81 x102001 x4).f1) then (if ((rd_T81 x102001 x4).f1) < (t103.length : Int) then (if (((rd_T81 x102001 x4).f0) ++ (⟨#[32]⟩ : ByteArray)).size + (rdOf ByteArray.empty t103 ((rd_T81 x102001 x4).f1)).size ≤ 9223372036854775807 then (if (x3 ++ (⟨#[44, 32]⟩ : ByteArray)).size + ((((rd_T81 x102001 x4).f0) ++ (⟨#[32]⟩ : ByteArray)) ++ (rdOf ByteArray.empty t103 ((rd_T81 x102001 x4).f1))).size ≤ 9223372036854775807 then (if (rd_T81 x102001 x4).f2 = true then (if ((x3 ++ (⟨#[44, 32]⟩ : ByteArray)) ++ ((((rd_T81 x102001 x4).f0) ++ (⟨#[32]⟩ : ByteArray)) ++ (rdOf ByteArray.empty t103 ((rd_T81 x102001 x4).f1)))).size + 5 ≤ 9223372036854775807 then (spec_l09Text.l0 k (((x3 ++ (⟨#[44, 32]⟩ : ByteArray)) ++ ((((rd_T81 x102001 x4).f0) ++ (⟨#[32]⟩ : ByteArray)) ++ (rdOf ByteArray.empty t103 ((rd_T81 x102001 x4).f1)))) ++ (⟨#[32, 110, 117, 108, 108]⟩ : ByteArray)) (wrap64 (x4 + 1)) x102000 x102001 x102002 x102003) else (none)) else (spec_l09Text.l0 k ((x3 ++ (⟨#[44, 32]⟩ : ByteArray)) ++ ((((rd_T81 x102001 x4).f0) ++ (⟨#[32]⟩ : ByteArray)) ++ (rdOf ByteArray.empty t103 ((rd_T81 x102001 x4).f1)))) (wrap64 (x4 + 1)) x102000 x102001 x102002 x102003)) else (none)) else (none)) else (none)) else (none))) else (none)) else (none)) else (none)) else (if 0 ≤ x4 then (if ((rd_T81 x102001 x4).f0).size + 1 ≤ 9223372036854775807 then ((spec_l09Types.f).bind fun t110 => (if 0 ≤ ((rd_T81 x102001 x4).f1) then (if ((rd_T81 x102001 x4).f1) < (t110.length : Int) then (if (((rd_T81 x102001 x4).f0) ++ (⟨#[32]⟩ : ByteArray)).size + (rdOf ByteArray.empty t110 ((rd_T81 x102001 x4).f1)).size ≤ 9223372036854775807 then (if x3.size + ((((rd_T81 x102001 x4).f0) ++ (⟨#[32]⟩ : ByteArray)) ++ (rdOf ByteArray.empty t110 ((rd_T81 x102001 x4).f1))).size ≤ 9223372036854775807 then (if (rd_T81 x102001 x4).f2 = true then (if (x3 ++ ((((rd_T81 x102001 x4).f0) ++ (⟨#[32]⟩ : ByteArray)) ++ (rdOf ByteArray.empty t110 ((rd_T81 x102001 x4).f1)))).size + 5 ≤ 9223372036854775807 then (spec_l09Text.l0 k ((x3 ++ ((((rd_T81 x102001 x4).f0) ++ (⟨#[32]⟩ : ByteArray)) ++ (rdOf ByteArray.empty t110 ((rd_T81 x102001 x4).f1)))) ++ (⟨#[32, 110, 117, 108, 108]⟩ : ByteArray)) (wrap64 (x4 + 1)) x102000 x102001 x102002 x102003) else (none)) else (spec_l09Text.l0 k (x3 ++ ((((rd_T81 x102001 x4).f0) ++ (⟨#[32]⟩ : ByteArray)) ++ (rdOf ByteArray.empty t110 ((rd_T81 x102001 x4).f1)))) (wrap64 (x4 + 1)) x102000 x102001 x102002 x102003)) else (none)) else (none)) else (none)) else (none))) else (none)) else (none))) else ((spec_l00Digits.f k x102002).bind fun t116 => (if 6 + t116.size ≤ 9223372036854775807 then (if x3.size + ((⟨#[41, 32, 107, 101, 121, 32]⟩ : ByteArray) ++ t116).size ≤ 9223372036854775807 then (spec_l09Text.l1 k (x3 ++ ((⟨#[41, 32, 107, 101, 121, 32]⟩ : ByteArray) ++ t116)) 0 x102000 x102001 x102002 x102003) else (none)) else (none)))
def spec_l09Text.l1 : Nat → ByteArray → Int → ByteArray → List (S81) → Int → List (S84) → Option (ByteArray)
  | 0, _, _, _, _, _, _ => none
  | k + 1, x3, x5, x102000, x102001, x102002, x102003 => if x5 < (x102003.length : Int) then (if 0 ≤ x5 then (if 7 + ((rd_T84 x102003 x5).f0).size ≤ 9223372036854775807 then (if ((⟨#[32, 105, 110, 100, 101, 120, 32]⟩ : ByteArray) ++ ((rd_T84 x102003 x5).f0)).size + 1 ≤ 9223372036854775807 then (if x3.size + (((⟨#[32, 105, 110, 100, 101, 120, 32]⟩ : ByteArray) ++ ((rd_T84 x102003 x5).f0)) ++ (⟨#[40]⟩ : ByteArray)).size ≤ 9223372036854775807 then (spec_l09Text.l2 k (x3 ++ (((⟨#[32, 105, 110, 100, 101, 120, 32]⟩ : ByteArray) ++ ((rd_T84 x102003 x5).f0)) ++ (⟨#[40]⟩ : ByteArray))) x5 0 x102000 x102001 x102002 x102003) else (none)) else (none)) else (none)) else (none)) else (some x3)
def spec_l09Text.l2 : Nat → ByteArray → Int → Int → ByteArray → List (S81) → Int → List (S84) → Option (ByteArray)
  | 0, _, _, _, _, _, _, _ => none
  | k + 1, x3, x5, x6, x102000, x102001, x102002, x102003 => if 0 ≤ x5 then (if x5 < (x102003.length : Int) then (if x6 < (((rd_T84 x102003 x5).f1).length : Int) then (if x6 > 0 then (if x3.size + 2 ≤ 9223372036854775807 then (if 0 ≤ x6 then (if 0 ≤ (rd ((rd_T84 x102003 x5).f1) x6) then (if (rd ((rd_T84 x102003 x5).f1) x6) < (x102001.length : Int) then (if (x3 ++ (⟨#[44, 32]⟩ : ByteArray)).size + ((rd_T81 x102001 (rd ((rd_T84 x102003 x5).f1) x6)).f0).size ≤ 9223372036854775807 then (spec_l09Text.l2 k ((x3 ++ (⟨#[44, 32]⟩ : ByteArray)) ++ ((rd_T81 x102001 (rd ((rd_T84 x102003 x5).f1) x6)).f0)) x5 (wrap64 (x6 + 1)) x102000 x102001 x102002 x102003) else (none)) else (none)) else (none)) else (none)) else (none)) else (if 0 ≤ x6 then (if 0 ≤ (rd ((rd_T84 x102003 x5).f1) x6) then (if (rd ((rd_T84 x102003 x5).f1) x6) < (x102001.length : Int) then (if x3.size + ((rd_T81 x102001 (rd ((rd_T84 x102003 x5).f1) x6)).f0).size ≤ 9223372036854775807 then (spec_l09Text.l2 k (x3 ++ ((rd_T81 x102001 (rd ((rd_T84 x102003 x5).f1) x6)).f0)) x5 (wrap64 (x6 + 1)) x102000 x102001 x102002 x102003) else (none)) else (none)) else (none)) else (none))) else (if x3.size + 1 ≤ 9223372036854775807 then (spec_l09Text.l1 k (x3 ++ (⟨#[41]⟩ : ByteArray)) (wrap64 (x5 + 1)) x102000 x102001 x102002 x102003) else (none))) else (none)) else (none)
end
def spec_l09Text.f (k : Nat) (a0_0 : ByteArray) (l0_1 : List (S81)) (a0_2 : Int) (l0_3 : List (S84)) : Option (ByteArray) := if a0_0.size + 1 ≤ 9223372036854775807 then (spec_l09Text.l0 k (a0_0 ++ (⟨#[40]⟩ : ByteArray)) 0 a0_0 l0_1 a0_2 l0_3) else (none)
theorem spec_l09Text.mono_l : ∀ k, (∀ y0 y1 y2 y3 y4 y5, LeO (spec_l09Text.l0 k y0 y1 y2 y3 y4 y5) (spec_l09Text.l0 (k + 1) y0 y1 y2 y3 y4 y5)) ∧ (∀ y0 y1 y2 y3 y4 y5, LeO (spec_l09Text.l1 k y0 y1 y2 y3 y4 y5) (spec_l09Text.l1 (k + 1) y0 y1 y2 y3 y4 y5)) ∧ (∀ y0 y1 y2 y3 y4 y5 y6, LeO (spec_l09Text.l2 k y0 y1 y2 y3 y4 y5 y6) (spec_l09Text.l2 (k + 1) y0 y1 y2 y3 y4 y5 y6))
  | 0 => ⟨fun _ _ _ _ _ _ r h => by simp [spec_l09Text.l0] at h, fun _ _ _ _ _ _ r h => by simp [spec_l09Text.l1] at h, fun _ _ _ _ _ _ _ r h => by simp [spec_l09Text.l2] at h⟩
  | k + 1 => by
    obtain ⟨ih0, ih1, ih2⟩ := spec_l09Text.mono_l k
    refine ⟨?_, ?_, ?_⟩
    rotate_left
    · intro y0 y1 y2 y3 y4 y5
      unfold spec_l09Text.l1
      repeat' first
      | (with_reducible exact ih0 _ _ _ _ _ _)
      | (with_reducible exact ih1 _ _ _ _ _ _)
      | (with_reducible exact ih2 _ _ _ _ _ _ _)
      | (with_reducible exact spec_l00Digits.mono _ _)
      | (with_reducible exact LeO.refl _)
      | (with_reducible exact LeO.none _)
      | (with_reducible refine LeO.ite ?_ ?_)
      | (with_reducible refine LeO.bind ?_ (fun _ => ?_))
      | exact ih0 _ _ _ _ _ _
      | exact ih1 _ _ _ _ _ _
      | exact ih2 _ _ _ _ _ _ _
      | exact spec_l00Digits.mono _ _
      | exact LeO.none _
      | refine LeO.ite ?_ ?_
      | refine LeO.bind ?_ (fun _ => ?_)
    · intro y0 y1 y2 y3 y4 y5 y6
      unfold spec_l09Text.l2
      repeat' first
      | (with_reducible exact ih0 _ _ _ _ _ _)
      | (with_reducible exact ih1 _ _ _ _ _ _)
      | (with_reducible exact ih2 _ _ _ _ _ _ _)
      | (with_reducible exact spec_l00Digits.mono _ _)
      | (with_reducible exact LeO.refl _)
      | (with_reducible exact LeO.none _)
      | (with_reducible refine LeO.ite ?_ ?_)
      | (with_reducible refine LeO.bind ?_ (fun _ => ?_))
      | exact ih0 _ _ _ _ _ _
      | exact ih1 _ _ _ _ _ _
      | exact ih2 _ _ _ _ _ _ _
      | exact spec_l00Digits.mono _ _
      | exact LeO.none _
      | refine LeO.ite ?_ ?_
      | refine LeO.bind ?_ (fun _ => ?_)
    intro y0 y1 y2 y3 y4 y5
    unfold spec_l09Text.l0
    repeat' first
    | (with_reducible exact ih0 _ _ _ _ _ _)
    | (with_reducible exact ih1 _ _ _ _ _ _)
    | (with_reducible exact ih2 _ _ _ _ _ _ _)
    | (with_reducible exact spec_l00Digits.mono _ _)
    | (with_reducible exact LeO.refl _)
    | (with_reducible exact LeO.none _)
    | (with_reducible refine LeO.ite ?_ ?_)
    | (with_reducible refine LeO.bind ?_ (fun _ => ?_))
    | exact ih0 _ _ _ _ _ _
    | exact ih1 _ _ _ _ _ _
    | exact ih2 _ _ _ _ _ _ _
    | exact spec_l00Digits.mono _ _
    | exact LeO.none _
    | refine LeO.ite ?_ ?_
    | refine LeO.bind ?_ (fun _ => ?_)
theorem spec_l09Text.mono : ∀ a0 a1 a2 a3 k, LeO (spec_l09Text.f k a0 a1 a2 a3) (spec_l09Text.f (k + 1) a0 a1 a2 a3) := by
  intro a0 a1 a2 a3 k
  obtain ⟨ih0, ih1, ih2⟩ := spec_l09Text.mono_l k
  unfold spec_l09Text.f
  repeat' first
      | (with_reducible exact ih0 _ _ _ _ _ _)
      | (with_reducible exact ih1 _ _ _ _ _ _)
      | (with_reducible exact ih2 _ _ _ _ _ _ _)
      | (with_reducible exact spec_l00Digits.mono _ _)
      | (with_reducible exact LeO.refl _)
      | (with_reducible exact LeO.none _)
      | (with_reducible refine LeO.ite ?_ ?_)
      | (with_reducible refine LeO.bind ?_ (fun _ => ?_))
      | exact ih0 _ _ _ _ _ _
      | exact ih1 _ _ _ _ _ _
      | exact ih2 _ _ _ _ _ _ _
      | exact spec_l00Digits.mono _ _
      | exact LeO.none _
      | refine LeO.ite ?_ ?_
      | refine LeO.bind ?_ (fun _ => ?_)
def spec_l09Text.T7 : Bool × List (List Nat × List Nat) := (true, [([], []), ([], []), ([1], [1]), ([], []), ([2, 3], [2, 3]), ([4], [4]), ([5], [5]), ([6], [6]), ([], []), ([], []), ([9], [9]), ([], []), ([10, 11], [10, 11]), ([12], [12]), ([13], [13]), ([8, 14], [8, 14]), ([15], [15]), ([7, 16], [7, 16]), ([0, 17], [0, 17]), ([18, 8, 0, 1, 2, 3, 4, 5, 6, 7, 8, 9, 10, 11, 12, 13, 14, 15, 16, 17, 18], [0, 18])])
def spec_l09Text.B7 : List Nat := [0, 0, 2, 0, 14, 30, 62, 126, 0, 0, 512, 0, 3584, 7680, 15872, 32512, 65280, 131070, 262143, 524287]
theorem spec_l09Text.tab7 : rtab .any (opsOf Tryz.f21 7) = spec_l09Text.T7 := by kernel_rfl
theorem spec_l09Text.bits7 : waitsOk spec_l09Text.T7.2 spec_l09Text.B7 = true := by kernel_rfl
def spec_l09Text.T20 : Bool × List (List Nat × List Nat) := (true, [([], []), ([], []), ([1], [1]), ([], []), ([3], [3]), ([], []), ([4, 5], [4, 5]), ([6], [6]), ([7], [7]), ([], []), ([8, 9], [8, 9]), ([10], [10]), ([2, 11], [2, 11]), ([12], [12]), ([13], [13]), ([0, 14], [0, 14]), ([15, 0, 1, 2, 3, 4, 5, 6, 7, 8, 9, 10, 11, 12, 13, 14, 15], [0, 15])])
def spec_l09Text.B20 : List Nat := [0, 0, 2, 0, 8, 0, 56, 120, 248, 0, 1016, 2040, 4094, 8190, 16382, 32767, 65535]
theorem spec_l09Text.tab20 : rtab .any (opsOf Tryz.f21 20) = spec_l09Text.T20 := by kernel_rfl
theorem spec_l09Text.bits20 : waitsOk spec_l09Text.T20.2 spec_l09Text.B20 = true := by kernel_rfl
set_option maxHeartbeats 8000000 in
set_option maxRecDepth 100000 in
theorem spec_l09Text.calls (k : Nat) (a0_0 : ByteArray) (A0_1 : Option Addr) (c0_1 : Nat) (l0_1 : List (S81)) (a0_2 : Int) (A0_3 : Option Addr) (c0_3 : Nat) (l0_3 : List (S84)) (r : ByteArray) (w : World) (hr0_1 : Kd.C k81 w A0_1 l0_1.length l0_1) (hc0_1 : l0_1.length ≤ c0_1) (hr0_3 : Kd.C k84 w A0_3 l0_3.length l0_3) (hc0_3 : l0_3.length ≤ c0_3) (h : spec_l09Text.f k a0_0 l0_1 a0_2 l0_3 = some r) :
    Calls Tryz.prog 21 #[.agg #[.string a0_0, .slice A0_1 l0_1.length c0_1, .int .i64 a0_2, .slice A0_3 l0_3.length c0_3]] w fun e w' => e = .returned (.string r) ∧ Below w.heap.size w w' := by
  have hu32 := Tryz.underlying32
  have HR0_1 := ak_ hr0_1
  have HC0_1 := ak_ hc0_1
  clear hr0_1 hc0_1
  have HR0_3 := ak_ hr0_3
  have HC0_3 := ak_ hc0_3
  clear hr0_3 hc0_3
  have HB := ak_ (Below.refl w.heap.size w)
  have H : (if a0_0.size + 1 ≤ 9223372036854775807 then (spec_l09Text.l0 k (a0_0 ++ (⟨#[40]⟩ : ByteArray)) 0 a0_0 l0_1 a0_2 l0_3) else (none)) = some r := h
  clear h
  by_cases c2 : a0_0.size + 1 ≤ 9223372036854775807
  rotate_left
  · rw [if_neg c2] at H
    exact absurd H (by simp)

  rw [if_pos c2] at H
  have c2b0 := eq_true c2
  have c2b1 := decide_eq_true c2
  try have c2b2 : (9223372036854775807 < a0_0.size + 1) = False := eq_false (Nat.not_lt.2 c2)
  have H' := ak_ H
  clear H
  go_enter Tryz.func21, Tryz.ntmps21
  go_wp2_with (first | ((with_reducible refine gate_dst (N := 1) rfl ?_); refine bx_ 1 (cs := #[.string a0_0, .slice A0_1 l0_1.length c0_1, .int .i64 a0_2, .slice A0_3 l0_3.length c0_3]) (t := 32) (h_ := ?_); intro gb101 hg w3 hbox hb; have n_ := a4_ (below_step z1_ hb) (hbox) ((gs_ w hg (below_size z1_))) ((gs_ w hg (below_size z1_))); clear HB; obtain ⟨HB, BK101, GW101, GE101⟩ := n_; clear hb hbox hg; obtain ⟨hcz4_0, hcz4_1, hcz4_2, hcz4_3, hfz4_0, hfz4_1, hfz4_2, hfz4_3⟩ := bcf4 BK101.out))
  go_loopg [3, 4] k (fun kq v3 v4 w' => ∃ (x3_1 : ByteArray) (x4_1 : Int), v3 = .string x3_1 ∧ v4 = .int .i64 x4_1 ∧ Aside0 (spec_l09Text.l0 kq x3_1 x4_1 a0_0 l0_1 a0_2 l0_3 = some r) ∧ Aside0 (kq ≤ k) ∧ Aside0 (w'.heap[gb101]? = some (.cells #[.string a0_0, (.slice A0_1 l0_1.length c0_1), .int .i64 a0_2, (.slice A0_3 l0_3.length c0_3)] 32 (0, 0))) ∧ Aside0 (Below w.heap.size w w'))
  case atStart => exact ⟨(a0_0 ++ (⟨#[40]⟩ : ByteArray)), (0), z9_, z9_, H', ⟨Nat.le_refl _⟩, ⟨z2_⟩, ⟨z0_⟩⟩
  case round =>
    clear H'
    try clear c2
    try clear c2b0
    try clear c2b1
    try clear c2b2
    try clear p2
    try clear hcz4_0
    try clear hcz4_1
    try clear hcz4_2
    try clear hcz4_3
    try clear hfz4_0
    try clear hfz4_1
    try clear hfz4_2
    try clear hfz4_3
    obtain ⟨x3_1, x4_1, rfl, rfl, HA, HK1, BK101, HB⟩ := hrel
    cases gk with
    | zero => exact absurd HA.out (by simp [spec_l09Text.l0])
    | succ k1 =>
      have H := HA.out
      clear HA
      simp only [spec_l09Text.l0] at H
      by_cases c5 : x4_1 < (l0_1.length : Int)
      · rw [if_pos c5] at H
        have c5b0 := decide_eq_true c5
        clear c5
        by_cases c6 : x4_1 > 0
        · rw [if_pos c6] at H
          have c6b0 : decide (0 < x4_1) = true := decide_eq_true c6
          clear c6
          by_cases c7 : x3_1.size + 2 ≤ 9223372036854775807
          · rw [if_pos c7] at H
            have c7b0 := eq_true c7
            have c7b1 := decide_eq_true c7
            try have c7b2 : (9223372036854775807 < x3_1.size + 2) = False := eq_false (Nat.not_lt.2 c7)
            by_cases c8 : 0 ≤ x4_1
            · rw [if_pos c8] at H
              have c8b0 := decide_eq_true c8
              clear c8
              by_cases c9 : ((rd_T81 l0_1 x4_1).f0).size + 1 ≤ 9223372036854775807
              · rw [if_pos c9] at H
                have c9b0 := eq_true c9
                have c9b1 := decide_eq_true c9
                try have c9b2 : (9223372036854775807 < ((rd_T81 l0_1 x4_1).f0).size + 1) = False := eq_false (Nat.not_lt.2 c9)
                replace H := Option.bind_eq_some_iff.mp H
                obtain ⟨t103, A100, H⟩ := H
                have A10 := ak_ A100
                clear A100
                by_cases c11 : 0 ≤ ((rd_T81 l0_1 x4_1).f1)
                · rw [if_pos c11] at H
                  have c11b0 := decide_eq_true c11
                  clear c11
                  by_cases c12 : ((rd_T81 l0_1 x4_1).f1) < (t103.length : Int)
                  · rw [if_pos c12] at H
                    have c12b0 := decide_eq_true c12
                    clear c12
                    by_cases c13 : (((rd_T81 l0_1 x4_1).f0) ++ (⟨#[32]⟩ : ByteArray)).size + (rdOf ByteArray.empty t103 ((rd_T81 l0_1 x4_1).f1)).size ≤ 9223372036854775807
                    · rw [if_pos c13] at H
                      have c13b0 := eq_true c13
                      have c13b1 := decide_eq_true c13
                      try have c13b2 : (9223372036854775807 < (((rd_T81 l0_1 x4_1).f0) ++ (⟨#[32]⟩ : ByteArray)).size + (rdOf ByteArray.empty t103 ((rd_T81 l0_1 x4_1).f1)).size) = False := eq_false (Nat.not_lt.2 c13)
                      try have c13b3 : (9223372036854775807 < ((rd_T81 l0_1 x4_1).f0).size + 1 + (rdOf ByteArray.empty t103 ((rd_T81 l0_1 x4_1).f1)).size) = False := eq_false (by have z_ := c13; simp only [ByteArray.size_append] at z_; exact Nat.not_lt.2 z_)
                      by_cases c14 : (x3_1 ++ (⟨#[44, 32]⟩ : ByteArray)).size + ((((rd_T81 l0_1 x4_1).f0) ++ (⟨#[32]⟩ : ByteArray)) ++ (rdOf ByteArray.empty t103 ((rd_T81 l0_1 x4_1).f1))).size ≤ 9223372036854775807
                      · rw [if_pos c14] at H
                        have c14b0 := eq_true c14
                        have c14b1 := decide_eq_true c14
                        try have c14b2 : (9223372036854775807 < (x3_1 ++ (⟨#[44, 32]⟩ : ByteArray)).size + ((((rd_T81 l0_1 x4_1).f0) ++ (⟨#[32]⟩ : ByteArray)) ++ (rdOf ByteArray.empty t103 ((rd_T81 l0_1 x4_1).f1))).size) = False := eq_false (Nat.not_lt.2 c14)
                        try have c14b3 : (9223372036854775807 < x3_1.size + 2 + (((rd_T81 l0_1 x4_1).f0).size + 1 + (rdOf ByteArray.empty t103 ((rd_T81 l0_1 x4_1).f1)).size)) = False := eq_false (by have z_ := c14; simp only [ByteArray.size_append] at z_; exact Nat.not_lt.2 z_)
                        obtain ⟨bq15, hbq15⟩ : ∃ b_ : Bool, b_ = ((rd_T81 l0_1 x4_1).f2) := ⟨_, rfl⟩
                        replace H : (if bq15 = true then (if ((x3_1 ++ (⟨#[44, 32]⟩ : ByteArray)) ++ ((((rd_T81 l0_1 x4_1).f0) ++ (⟨#[32]⟩ : ByteArray)) ++ (rdOf ByteArray.empty t103 ((rd_T81 l0_1 x4_1).f1)))).size + 5 ≤ 9223372036854775807 then (spec_l09Text.l0 k1 (((x3_1 ++ (⟨#[44, 32]⟩ : ByteArray)) ++ ((((rd_T81 l0_1 x4_1).f0) ++ (⟨#[32]⟩ : ByteArray)) ++ (rdOf ByteArray.empty t103 ((rd_T81 l0_1 x4_1).f1)))) ++ (⟨#[32, 110, 117, 108, 108]⟩ : ByteArray)) (wrap64 (x4_1 + 1)) a0_0 l0_1 a0_2 l0_3) else (none)) else (spec_l09Text.l0 k1 ((x3_1 ++ (⟨#[44, 32]⟩ : ByteArray)) ++ ((((rd_T81 l0_1 x4_1).f0) ++ (⟨#[32]⟩ : ByteArray)) ++ (rdOf ByteArray.empty t103 ((rd_T81 l0_1 x4_1).f1)))) (wrap64 (x4_1 + 1)) a0_0 l0_1 a0_2 l0_3)) = some r := by rw [← hbq15] at H; exact H
                        have Nbq15 := ak_ hbq15
                        clear hbq15
                        by_cases c16 : bq15 = true
                        · subst c16
                          have H1 : (if ((x3_1 ++ (⟨#[44, 32]⟩ : ByteArray)) ++ ((((rd_T81 l0_1 x4_1).f0) ++ (⟨#[32]⟩ : ByteArray)) ++ (rdOf ByteArray.empty t103 ((rd_T81 l0_1 x4_1).f1)))).size + 5 ≤ 9223372036854775807 then (spec_l09Text.l0 k1 (((x3_1 ++ (⟨#[44, 32]⟩ : ByteArray)) ++ ((((rd_T81 l0_1 x4_1).f0) ++ (⟨#[32]⟩ : ByteArray)) ++ (rdOf ByteArray.empty t103 ((rd_T81 l0_1 x4_1).f1)))) ++ (⟨#[32, 110, 117, 108, 108]⟩ : ByteArray)) (wrap64 (x4_1 + 1)) a0_0 l0_1 a0_2 l0_3) else (none)) = some r := by rw [if_pos rfl] at H; exact H
                          clear H
                          have H := H1
                          clear H1
                          by_cases c17 : ((x3_1 ++ (⟨#[44, 32]⟩ : ByteArray)) ++ ((((rd_T81 l0_1 x4_1).f0) ++ (⟨#[32]⟩ : ByteArray)) ++ (rdOf ByteArray.empty t103 ((rd_T81 l0_1 x4_1).f1)))).size + 5 ≤ 9223372036854775807
                          · rw [if_pos c17] at H
                            have c17b0 := eq_true c17
                            have c17b1 := decide_eq_true c17
                            try have c17b2 : (9223372036854775807 < ((x3_1 ++ (⟨#[44, 32]⟩ : ByteArray)) ++ ((((rd_T81 l0_1 x4_1).f0) ++ (⟨#[32]⟩ : ByteArray)) ++ (rdOf ByteArray.empty t103 ((rd_T81 l0_1 x4_1).f1)))).size + 5) = False := eq_false (Nat.not_lt.2 c17)
                            try have c17b3 : (9223372036854775807 < x3_1.size + 2 + (((rd_T81 l0_1 x4_1).f0).size + 1 + (rdOf ByteArray.empty t103 ((rd_T81 l0_1 x4_1).f1)).size) + 5) = False := eq_false (by have z_ := c17; simp only [ByteArray.size_append] at z_; exact Nat.not_lt.2 z_)
                            have H' := ak_ H
                            clear H
                            obtain ⟨hcz18_0, hcz18_1, hcz18_2, hcz18_3, hfz18_0, hfz18_1, hfz18_2, hfz18_3⟩ := bcf4 BK101.out
                            try go_wp2
                            have n_ := a2_ (blk_drew BK101.out) (below_drew1 HB.out)
                            clear BK101 HB
                            obtain ⟨BK101, HB⟩ := n_
                            have p102 : 0 ≤ (x4_1 : Int) := of_decide_eq_true z4_
                            have q102 : x4_1 < (l0_1.length : Int) := of_decide_eq_true z4_
                            obtain ⟨ad102, e102, hx102_0, hx102_1, hx102_2⟩ := at_T81 HR0_1.out x4_1 p102 q102
                            have hw102_2 := hx102_2
                            have hw102_1 := hx102_1
                            have hw102_0 := hx102_0
                            (try rw [← Nbq15.out] at hx102_2)
                            cases e102
                            replace hx102_0 := oc_ HB.out hx102_0
                            replace hx102_1 := oc_ HB.out hx102_1
                            replace hx102_2 := oc_ HB.out hx102_2
                            replace p102 := eq_true p102
                            replace q102 := eq_true q102
                            have p106 : 0 ≤ (x4_1 : Int) := of_decide_eq_true z4_
                            have q106 : x4_1 < (l0_1.length : Int) := of_decide_eq_true z4_
                            obtain ⟨ad106, e106, hx106_0, hx106_1, hx106_2⟩ := at_T81 HR0_1.out x4_1 p106 q106
                            have hw106_2 := hx106_2
                            have hw106_1 := hx106_1
                            have hw106_0 := hx106_0
                            (try rw [← Nbq15.out] at hx106_2)
                            obtain rfl : ad102 = ad106 := (by injection e106)
                            replace hx106_0 := oc_ HB.out hx106_0
                            replace hx106_1 := oc_ HB.out hx106_1
                            replace hx106_2 := oc_ HB.out hx106_2
                            replace p106 := eq_true p106
                            replace q106 := eq_true q106
                            refine start_ (n := 20) (S := fun w' => w'.cell? ⟨gb101, 0, none⟩ = some (.string a0_0) ∧ w'.cell? ⟨gb101, 1, none⟩ = some (.slice (some ad102) l0_1.length c0_1) ∧ w'.cell? ⟨gb101, 2, none⟩ = some (.int .i64 a0_2) ∧ w'.cell? ⟨gb101, 3, none⟩ = some (.slice A0_3 l0_3.length c0_3) ∧ w'.cell? (ad102.add ((x4_1).toNat * 3)) = some (.string ((rd_T81 l0_1 x4_1).f0)) ∧ w'.cell? ⟨(ad102.add ((x4_1).toNat * 3)).block, (ad102.add ((x4_1).toNat * 3)).off + 1, none⟩ = some (.int .i64 ((rd_T81 l0_1 x4_1).f1)) ∧ w'.cell? ⟨(ad102.add ((x4_1).toNat * 3)).block, (ad102.add ((x4_1).toNat * 3)).off + 2, none⟩ = some (.bool true) ∧ w'.cell? (ad102.add ((x4_1).toNat * 3)) = some (.string ((rd_T81 l0_1 x4_1).f0)) ∧ w'.cell? ⟨(ad102.add ((x4_1).toNat * 3)).block, (ad102.add ((x4_1).toNat * 3)).off + 1, none⟩ = some (.int .i64 ((rd_T81 l0_1 x4_1).f1)) ∧ w'.cell? ⟨(ad102.add ((x4_1).toNat * 3)).block, (ad102.add ((x4_1).toNat * 3)).off + 2, none⟩ = some (.bool true)) (ds := []) #[false, false, false, false, false, false, false, false, false, false, false, false, false, false, false, false, false, false, false, false] (by kernel_rfl) rfl rfl ⟨(blk_cell BK101.out 0).trans rfl, (blk_cell BK101.out 1).trans rfl, (blk_cell BK101.out 2).trans rfl, (blk_cell BK101.out 3).trans rfl, (oc_ HB.out hw102_0 :), (oc_ HB.out hw102_1 :), z27_, (oc_ HB.out hw106_0 :), (oc_ HB.out hw106_1 :), z28_⟩ (fun hHeld => ?_); refine with_tabW spec_l09Text.tab7 spec_l09Text.bits7 (fun HT_ HW_ => ?_)
                            generalize wr.drew = w19 at BK101 HB hx102_0 hx102_1 hx102_2 hx106_0 hx106_1 hx106_2 hHeld ⊢
                            refine pu_ 0 (N := some 21) #[true, false, false, false, false, false, false, false, false, false, false, false, false, false, false, false, false, false, false, false] HT_.out (h_ := ?_)
                            refine pu_ 1 (N := some 22) #[true, true, false, false, false, false, false, false, false, false, false, false, false, false, false, false, false, false, false, false] HT_.out (h_ := ?_)
                            refine pu_ 3 (N := some 24) #[true, true, false, true, false, false, false, false, false, false, false, false, false, false, false, false, false, false, false, false] HT_.out (h_ := ?_)
                            refine pu_ 9 (N := some 30) #[true, true, false, true, false, false, false, false, false, true, false, false, false, false, false, false, false, false, false, false] HT_.out (h_ := ?_)
                            refine pu_ 11 (N := some 32) #[true, true, false, true, false, false, false, false, false, true, false, true, false, false, false, false, false, false, false, false] HT_.out (h_ := ?_)
                            refine tk_ 2 (N := some 23) #[true, true, true, true, false, false, false, false, false, true, false, true, false, false, false, false, false, false, false, false] HT_.out HW_.out hHeld (hy := by rintro w' ⟨s0, s1, s2, s3, s4, s5, s6, s7, s8, s9⟩; go_simp; with_reducible rfl) (h_ := ?_)
                            refine pu_ 4 (N := some 25) #[true, true, true, true, true, false, false, false, false, true, false, true, false, false, false, false, false, false, false, false] HT_.out (h_ := ?_)
                            refine pu_ 5 (N := some 26) #[true, true, true, true, true, true, false, false, false, true, false, true, false, false, false, false, false, false, false, false] HT_.out (h_ := ?_)
                            refine tk_ 6 (N := some 27) #[true, true, true, true, true, true, true, false, false, true, false, true, false, false, false, false, false, false, false, false] HT_.out HW_.out hHeld (hy := by rintro w' ⟨s0, s1, s2, s3, s4, s5, s6, s7, s8, s9⟩; go_simp; with_reducible rfl) (h_ := ?_)
                            refine pu_ 7 (N := some 28) #[true, true, true, true, true, true, true, true, false, true, false, true, false, false, false, false, false, false, false, false] HT_.out (h_ := ?_)
                            refine tk_ 10 (N := some 31) #[true, true, true, true, true, true, true, true, false, true, true, true, false, false, false, false, false, false, false, false] HT_.out HW_.out hHeld (hy := by rintro w' ⟨s0, s1, s2, s3, s4, s5, s6, s7, s8, s9⟩; go_simp; with_reducible rfl) (h_ := ?_)
                            refine pu_ 12 (N := some 33) #[true, true, true, true, true, true, true, true, false, true, true, true, true, false, false, false, false, false, false, false] HT_.out (h_ := ?_)
                            refine pu_ 13 (N := some 34) #[true, true, true, true, true, true, true, true, false, true, true, true, true, true, false, false, false, false, false, false] HT_.out (h_ := ?_)
                            refine tk_ 14 (N := some 35) #[true, true, true, true, true, true, true, true, false, true, true, true, true, true, true, false, false, false, false, false] HT_.out HW_.out hHeld (hy := by rintro w' ⟨s0, s1, s2, s3, s4, s5, s6, s7, s8, s9⟩; go_simp; with_reducible rfl) (h_ := ?_)
                            refine one_ (i := 8) (N := some 29) #[true, true, true, true, true, true, true, true, true, true, true, true, true, true, true, false, false, false, false, false] rfl rfl (one_of HT_.out (by kernel_rfl)) (by decide) (fun K hK => ?_)
                            refine goes_ Tryz.func44 (by kernel_rfl) rfl #[] (by rfl) rfl rfl z3_ ?_
                            with_reducible refine (spec_l09Types.calls  t103 _ A10.out).mono ?_
                            rintro e w20 ⟨v104, rfl, ho0, hb⟩
                            refine ⟨_, rfl, ?_⟩
                            have n_ := a3_ (Kd.R_lower ho0 (below_size z0_)) (blk_below (g := gb101) (o := .cells #[.string a0_0, .slice (some ad102) l0_1.length c0_1, .int .i64 a0_2, .slice A0_3 l0_3.length c0_3] 32 (0, 0)) z2_ hb) (below_step z0_ hb)
                            clear BK101 HB
                            obtain ⟨HO105, BK101, HB⟩ := n_
                            (try clear hb)
                            (try clear hb2)
                            (try clear hk)
                            (try clear hi)
                            (try clear ho0)
                            obtain ⟨Ao21, co21, eo21⟩ := Kd.R_slice HO105.out
                            (first | subst eo21 | (injection eo21 with f1_ f2_ f3_; have f4_ := f1_.symm; have f5_ := f3_.symm; clear f1_ f2_ f3_; subst f4_; subst f5_))
                            have p107 : 0 ≤ (((rd_T81 l0_1 x4_1).f1) : Int) := of_decide_eq_true z4_
                            have q107 : ((rd_T81 l0_1 x4_1).f1) < (t103.length : Int) := of_decide_eq_true z4_
                            obtain ⟨ad107, e107, hx107_0⟩ := Kd.at_string (Kd.R_reads' HO105.out).2.2 ((rd_T81 l0_1 x4_1).f1) p107 q107
                            cases e107
                            replace p107 := eq_true p107
                            replace q107 := eq_true q107
                            refine hK.out _ _ ⟨(blk_cell BK101.out 0).trans rfl, (blk_cell BK101.out 1).trans rfl, (blk_cell BK101.out 2).trans rfl, (blk_cell BK101.out 3).trans rfl, (oc_ HB.out hw102_0 :), (oc_ HB.out hw102_1 :), z27_, (oc_ HB.out hw106_0 :), (oc_ HB.out hw106_1 :), z28_⟩ (fun hHeld => ?_)
                            clear hK K
                            refine norm_ (a' := ?_) ?_ ?_
                            rotate_left
                            · show Act.put _ (some 29) _ = _
                              simp only [Act.put, List.setIfInBounds_toArray, List.set_cons_zero, List.set_cons_succ, i64_w, i32_w]
                              rfl
                            refine pu_ 15 (N := some 36) #[true, true, true, true, true, true, true, true, true, true, true, true, true, true, true, true, false, false, false, false] HT_.out (h_ := ?_)
                            refine onv_ 16 (N := some 37) #[true, true, true, true, true, true, true, true, true, true, true, true, true, true, true, true, true, false, false, false] HT_.out hHeld (hy := by obtain ⟨s0, s1, s2, s3, s4, s5, s6, s7, s8, s9⟩ := hHeld; go_simp; with_reducible rfl) (h_ := ?_)
                            refine pu_ 17 (N := some 38) #[true, true, true, true, true, true, true, true, true, true, true, true, true, true, true, true, true, true, false, false] HT_.out (h_ := ?_)
                            refine pu_ 18 (N := some 39) #[true, true, true, true, true, true, true, true, true, true, true, true, true, true, true, true, true, true, true, false] HT_.out (h_ := ?_)
                            refine pu_ 19 (N := some 3) #[true, true, true, true, true, true, true, true, true, true, true, true, true, true, true, true, true, true, true, true] HT_.out (h_ := ?_)
                            refine done_ (done_of HT_.out (by kernel_rfl)) ?_
                            obtain ⟨hcz22_0, hcz22_1, hcz22_2, hcz22_3, hfz22_0, hfz22_1, hfz22_2, hfz22_3⟩ := bcf4 BK101.out
                            have p108 : 0 ≤ (x4_1 : Int) := of_decide_eq_true z4_
                            have q108 : x4_1 < (l0_1.length : Int) := of_decide_eq_true z4_
                            obtain ⟨ad108, e108, hx108_0, hx108_1, hx108_2⟩ := at_T81 HR0_1.out x4_1 p108 q108
                            (try rw [← Nbq15.out] at hx108_2)
                            obtain rfl : ad102 = ad108 := (by injection e108)
                            replace hx108_0 := oc_ HB.out hx108_0
                            replace hx108_1 := oc_ HB.out hx108_1
                            replace hx108_2 := oc_ HB.out hx108_2
                            replace p108 := eq_true p108
                            replace q108 := eq_true q108
                            try go_wp2
                            go_roundg k1
                            case measure => have := HK1.out; omega
                            case rel => exact ⟨(((x3_1 ++ (⟨#[44, 32]⟩ : ByteArray)) ++ ((((rd_T81 l0_1 x4_1).f0) ++ (⟨#[32]⟩ : ByteArray)) ++ (rdOf ByteArray.empty t103 ((rd_T81 l0_1 x4_1).f1)))) ++ (⟨#[32, 110, 117, 108, 108]⟩ : ByteArray)), (wrap64 (x4_1 + 1)), z9_, z9_, H', ⟨by have := HK1.out; omega⟩, ⟨z2_⟩, ⟨z0_⟩⟩
                          · rw [if_neg c17] at H
                            exact absurd H (by simp)
                        · replace c16 := Bool.eq_false_iff.mpr c16
                          subst c16
                          have H1 : (spec_l09Text.l0 k1 ((x3_1 ++ (⟨#[44, 32]⟩ : ByteArray)) ++ ((((rd_T81 l0_1 x4_1).f0) ++ (⟨#[32]⟩ : ByteArray)) ++ (rdOf ByteArray.empty t103 ((rd_T81 l0_1 x4_1).f1)))) (wrap64 (x4_1 + 1)) a0_0 l0_1 a0_2 l0_3) = some r := by rw [if_neg (show ¬ (false = true) by decide)] at H; exact H
                          clear H
                          have H := H1
                          clear H1
                          have H' := ak_ H
                          clear H
                          obtain ⟨hcz23_0, hcz23_1, hcz23_2, hcz23_3, hfz23_0, hfz23_1, hfz23_2, hfz23_3⟩ := bcf4 BK101.out
                          try go_wp2
                          have n_ := a2_ (blk_drew BK101.out) (below_drew1 HB.out)
                          clear BK101 HB
                          obtain ⟨BK101, HB⟩ := n_
                          have p102 : 0 ≤ (x4_1 : Int) := of_decide_eq_true z4_
                          have q102 : x4_1 < (l0_1.length : Int) := of_decide_eq_true z4_
                          obtain ⟨ad102, e102, hx102_0, hx102_1, hx102_2⟩ := at_T81 HR0_1.out x4_1 p102 q102
                          have hw102_2 := hx102_2
                          have hw102_1 := hx102_1
                          have hw102_0 := hx102_0
                          (try rw [← Nbq15.out] at hx102_2)
                          cases e102
                          replace hx102_0 := oc_ HB.out hx102_0
                          replace hx102_1 := oc_ HB.out hx102_1
                          replace hx102_2 := oc_ HB.out hx102_2
                          replace p102 := eq_true p102
                          replace q102 := eq_true q102
                          have p106 : 0 ≤ (x4_1 : Int) := of_decide_eq_true z4_
                          have q106 : x4_1 < (l0_1.length : Int) := of_decide_eq_true z4_
                          obtain ⟨ad106, e106, hx106_0, hx106_1, hx106_2⟩ := at_T81 HR0_1.out x4_1 p106 q106
                          have hw106_2 := hx106_2
                          have hw106_1 := hx106_1
                          have hw106_0 := hx106_0
                          (try rw [← Nbq15.out] at hx106_2)
                          obtain rfl : ad102 = ad106 := (by injection e106)
                          replace hx106_0 := oc_ HB.out hx106_0
                          replace hx106_1 := oc_ HB.out hx106_1
                          replace hx106_2 := oc_ HB.out hx106_2
                          replace p106 := eq_true p106
                          replace q106 := eq_true q106
                          refine start_ (n := 20) (S := fun w' => w'.cell? ⟨gb101, 0, none⟩ = some (.string a0_0) ∧ w'.cell? ⟨gb101, 1, none⟩ = some (.slice (some ad102) l0_1.length c0_1) ∧ w'.cell? ⟨gb101, 2, none⟩ = some (.int .i64 a0_2) ∧ w'.cell? ⟨gb101, 3, none⟩ = some (.slice A0_3 l0_3.length c0_3) ∧ w'.cell? (ad102.add ((x4_1).toNat * 3)) = some (.string ((rd_T81 l0_1 x4_1).f0)) ∧ w'.cell? ⟨(ad102.add ((x4_1).toNat * 3)).block, (ad102.add ((x4_1).toNat * 3)).off + 1, none⟩ = some (.int .i64 ((rd_T81 l0_1 x4_1).f1)) ∧ w'.cell? ⟨(ad102.add ((x4_1).toNat * 3)).block, (ad102.add ((x4_1).toNat * 3)).off + 2, none⟩ = some (.bool false) ∧ w'.cell? (ad102.add ((x4_1).toNat * 3)) = some (.string ((rd_T81 l0_1 x4_1).f0)) ∧ w'.cell? ⟨(ad102.add ((x4_1).toNat * 3)).block, (ad102.add ((x4_1).toNat * 3)).off + 1, none⟩ = some (.int .i64 ((rd_T81 l0_1 x4_1).f1)) ∧ w'.cell? ⟨(ad102.add ((x4_1).toNat * 3)).block, (ad102.add ((x4_1).toNat * 3)).off + 2, none⟩ = some (.bool false)) (ds := []) #[false, false, false, false, false, false, false, false, false, false, false, false, false, false, false, false, false, false, false, false] (by kernel_rfl) rfl rfl ⟨(blk_cell BK101.out 0).trans rfl, (blk_cell BK101.out 1).trans rfl, (blk_cell BK101.out 2).trans rfl, (blk_cell BK101.out 3).trans rfl, (oc_ HB.out hw102_0 :), (oc_ HB.out hw102_1 :), z27_, (oc_ HB.out hw106_0 :), (oc_ HB.out hw106_1 :), z28_⟩ (fun hHeld => ?_); refine with_tabW spec_l09Text.tab7 spec_l09Text.bits7 (fun HT_ HW_ => ?_)
                          generalize wr.drew = w24 at BK101 HB hx102_0 hx102_1 hx102_2 hx106_0 hx106_1 hx106_2 hHeld ⊢
                          refine pu_ 0 (N := some 21) #[true, false, false, false, false, false, false, false, false, false, false, false, false, false, false, false, false, false, false, false] HT_.out (h_ := ?_)
                          refine pu_ 1 (N := some 22) #[true, true, false, false, false, false, false, false, false, false, false, false, false, false, false, false, false, false, false, false] HT_.out (h_ := ?_)
                          refine pu_ 3 (N := some 24) #[true, true, false, true, false, false, false, false, false, false, false, false, false, false, false, false, false, false, false, false] HT_.out (h_ := ?_)
                          refine pu_ 9 (N := some 30) #[true, true, false, true, false, false, false, false, false, true, false, false, false, false, false, false, false, false, false, false] HT_.out (h_ := ?_)
                          refine pu_ 11 (N := some 32) #[true, true, false, true, false, false, false, false, false, true, false, true, false, false, false, false, false, false, false, false] HT_.out (h_ := ?_)
                          refine tk_ 2 (N := some 23) #[true, true, true, true, false, false, false, false, false, true, false, true, false, false, false, false, false, false, false, false] HT_.out HW_.out hHeld (hy := by rintro w' ⟨s0, s1, s2, s3, s4, s5, s6, s7, s8, s9⟩; go_simp; with_reducible rfl) (h_ := ?_)
                          refine pu_ 4 (N := some 25) #[true, true, true, true, true, false, false, false, false, true, false, true, false, false, false, false, false, false, false, false] HT_.out (h_ := ?_)
                          refine pu_ 5 (N := some 26) #[true, true, true, true, true, true, false, false, false, true, false, true, false, false, false, false, false, false, false, false] HT_.out (h_ := ?_)
                          refine tk_ 6 (N := some 27) #[true, true, true, true, true, true, true, false, false, true, false, true, false, false, false, false, false, false, false, false] HT_.out HW_.out hHeld (hy := by rintro w' ⟨s0, s1, s2, s3, s4, s5, s6, s7, s8, s9⟩; go_simp; with_reducible rfl) (h_ := ?_)
                          refine pu_ 7 (N := some 28) #[true, true, true, true, true, true, true, true, false, true, false, true, false, false, false, false, false, false, false, false] HT_.out (h_ := ?_)
                          refine tk_ 10 (N := some 31) #[true, true, true, true, true, true, true, true, false, true, true, true, false, false, false, false, false, false, false, false] HT_.out HW_.out hHeld (hy := by rintro w' ⟨s0, s1, s2, s3, s4, s5, s6, s7, s8, s9⟩; go_simp; with_reducible rfl) (h_ := ?_)
                          refine pu_ 12 (N := some 33) #[true, true, true, true, true, true, true, true, false, true, true, true, true, false, false, false, false, false, false, false] HT_.out (h_ := ?_)
                          refine pu_ 13 (N := some 34) #[true, true, true, true, true, true, true, true, false, true, true, true, true, true, false, false, false, false, false, false] HT_.out (h_ := ?_)
                          refine tk_ 14 (N := some 35) #[true, true, true, true, true, true, true, true, false, true, true, true, true, true, true, false, false, false, false, false] HT_.out HW_.out hHeld (hy := by rintro w' ⟨s0, s1, s2, s3, s4, s5, s6, s7, s8, s9⟩; go_simp; with_reducible rfl) (h_ := ?_)
                          refine one_ (i := 8) (N := some 29) #[true, true, true, true, true, true, true, true, true, true, true, true, true, true, true, false, false, false, false, false] rfl rfl (one_of HT_.out (by kernel_rfl)) (by decide) (fun K hK => ?_)
                          refine goes_ Tryz.func44 (by kernel_rfl) rfl #[] (by rfl) rfl rfl z3_ ?_
                          with_reducible refine (spec_l09Types.calls  t103 _ A10.out).mono ?_
                          rintro e w25 ⟨v104, rfl, ho0, hb⟩
                          refine ⟨_, rfl, ?_⟩
                          have n_ := a3_ (Kd.R_lower ho0 (below_size z0_)) (blk_below (g := gb101) (o := .cells #[.string a0_0, .slice (some ad102) l0_1.length c0_1, .int .i64 a0_2, .slice A0_3 l0_3.length c0_3] 32 (0, 0)) z2_ hb) (below_step z0_ hb)
                          clear BK101 HB
                          obtain ⟨HO105, BK101, HB⟩ := n_
                          (try clear hb)
                          (try clear hb2)
                          (try clear hk)
                          (try clear hi)
                          (try clear ho0)
                          obtain ⟨Ao26, co26, eo26⟩ := Kd.R_slice HO105.out
                          (first | subst eo26 | (injection eo26 with f1_ f2_ f3_; have f4_ := f1_.symm; have f5_ := f3_.symm; clear f1_ f2_ f3_; subst f4_; subst f5_))
                          have p107 : 0 ≤ (((rd_T81 l0_1 x4_1).f1) : Int) := of_decide_eq_true z4_
                          have q107 : ((rd_T81 l0_1 x4_1).f1) < (t103.length : Int) := of_decide_eq_true z4_
                          obtain ⟨ad107, e107, hx107_0⟩ := Kd.at_string (Kd.R_reads' HO105.out).2.2 ((rd_T81 l0_1 x4_1).f1) p107 q107
                          cases e107
                          replace p107 := eq_true p107
                          replace q107 := eq_true q107
                          refine hK.out _ _ ⟨(blk_cell BK101.out 0).trans rfl, (blk_cell BK101.out 1).trans rfl, (blk_cell BK101.out 2).trans rfl, (blk_cell BK101.out 3).trans rfl, (oc_ HB.out hw102_0 :), (oc_ HB.out hw102_1 :), z27_, (oc_ HB.out hw106_0 :), (oc_ HB.out hw106_1 :), z28_⟩ (fun hHeld => ?_)
                          clear hK K
                          refine norm_ (a' := ?_) ?_ ?_
                          rotate_left
                          · show Act.put _ (some 29) _ = _
                            simp only [Act.put, List.setIfInBounds_toArray, List.set_cons_zero, List.set_cons_succ, i64_w, i32_w]
                            rfl
                          refine pu_ 15 (N := some 36) #[true, true, true, true, true, true, true, true, true, true, true, true, true, true, true, true, false, false, false, false] HT_.out (h_ := ?_)
                          refine onv_ 16 (N := some 37) #[true, true, true, true, true, true, true, true, true, true, true, true, true, true, true, true, true, false, false, false] HT_.out hHeld (hy := by obtain ⟨s0, s1, s2, s3, s4, s5, s6, s7, s8, s9⟩ := hHeld; go_simp; with_reducible rfl) (h_ := ?_)
                          refine pu_ 17 (N := some 38) #[true, true, true, true, true, true, true, true, true, true, true, true, true, true, true, true, true, true, false, false] HT_.out (h_ := ?_)
                          refine pu_ 18 (N := some 39) #[true, true, true, true, true, true, true, true, true, true, true, true, true, true, true, true, true, true, true, false] HT_.out (h_ := ?_)
                          refine pu_ 19 (N := some 3) #[true, true, true, true, true, true, true, true, true, true, true, true, true, true, true, true, true, true, true, true] HT_.out (h_ := ?_)
                          refine done_ (done_of HT_.out (by kernel_rfl)) ?_
                          obtain ⟨hcz27_0, hcz27_1, hcz27_2, hcz27_3, hfz27_0, hfz27_1, hfz27_2, hfz27_3⟩ := bcf4 BK101.out
                          have p108 : 0 ≤ (x4_1 : Int) := of_decide_eq_true z4_
                          have q108 : x4_1 < (l0_1.length : Int) := of_decide_eq_true z4_
                          obtain ⟨ad108, e108, hx108_0, hx108_1, hx108_2⟩ := at_T81 HR0_1.out x4_1 p108 q108
                          (try rw [← Nbq15.out] at hx108_2)
                          obtain rfl : ad102 = ad108 := (by injection e108)
                          replace hx108_0 := oc_ HB.out hx108_0
                          replace hx108_1 := oc_ HB.out hx108_1
                          replace hx108_2 := oc_ HB.out hx108_2
                          replace p108 := eq_true p108
                          replace q108 := eq_true q108
                          try go_wp2
                          go_roundg k1
                          case measure => have := HK1.out; omega
                          case rel => exact ⟨((x3_1 ++ (⟨#[44, 32]⟩ : ByteArray)) ++ ((((rd_T81 l0_1 x4_1).f0) ++ (⟨#[32]⟩ : ByteArray)) ++ (rdOf ByteArray.empty t103 ((rd_T81 l0_1 x4_1).f1)))), (wrap64 (x4_1 + 1)), z9_, z9_, H', ⟨by have := HK1.out; omega⟩, ⟨z2_⟩, ⟨z0_⟩⟩
                      · rw [if_neg c14] at H
                        exact absurd H (by simp)
                    · rw [if_neg c13] at H
                      exact absurd H (by simp)
                  · rw [if_neg c12] at H
                    exact absurd H (by simp)
                · rw [if_neg c11] at H
                  exact absurd H (by simp)
              · rw [if_neg c9] at H
                exact absurd H (by simp)
            · rw [if_neg c8] at H
              exact absurd H (by simp)
          · rw [if_neg c7] at H
            exact absurd H (by simp)
        · rw [if_neg c6] at H
          have c6b0 : decide (0 < x4_1) = false := decide_eq_false c6
          clear c6
          by_cases c28 : 0 ≤ x4_1
          · rw [if_pos c28] at H
            have c28b0 := decide_eq_true c28
            clear c28
            by_cases c29 : ((rd_T81 l0_1 x4_1).f0).size + 1 ≤ 9223372036854775807
            · rw [if_pos c29] at H
              have c29b0 := eq_true c29
              have c29b1 := decide_eq_true c29
              try have c29b2 : (9223372036854775807 < ((rd_T81 l0_1 x4_1).f0).size + 1) = False := eq_false (Nat.not_lt.2 c29)
              replace H := Option.bind_eq_some_iff.mp H
              obtain ⟨t110, A300, H⟩ := H
              have A30 := ak_ A300
              clear A300
              by_cases c31 : 0 ≤ ((rd_T81 l0_1 x4_1).f1)
              · rw [if_pos c31] at H
                have c31b0 := decide_eq_true c31
                clear c31
                by_cases c32 : ((rd_T81 l0_1 x4_1).f1) < (t110.length : Int)
                · rw [if_pos c32] at H
                  have c32b0 := decide_eq_true c32
                  clear c32
                  by_cases c33 : (((rd_T81 l0_1 x4_1).f0) ++ (⟨#[32]⟩ : ByteArray)).size + (rdOf ByteArray.empty t110 ((rd_T81 l0_1 x4_1).f1)).size ≤ 9223372036854775807
                  · rw [if_pos c33] at H
                    have c33b0 := eq_true c33
                    have c33b1 := decide_eq_true c33
                    try have c33b2 : (9223372036854775807 < (((rd_T81 l0_1 x4_1).f0) ++ (⟨#[32]⟩ : ByteArray)).size + (rdOf ByteArray.empty t110 ((rd_T81 l0_1 x4_1).f1)).size) = False := eq_false (Nat.not_lt.2 c33)
                    try have c33b3 : (9223372036854775807 < ((rd_T81 l0_1 x4_1).f0).size + 1 + (rdOf ByteArray.empty t110 ((rd_T81 l0_1 x4_1).f1)).size) = False := eq_false (by have z_ := c33; simp only [ByteArray.size_append] at z_; exact Nat.not_lt.2 z_)
                    by_cases c34 : x3_1.size + ((((rd_T81 l0_1 x4_1).f0) ++ (⟨#[32]⟩ : ByteArray)) ++ (rdOf ByteArray.empty t110 ((rd_T81 l0_1 x4_1).f1))).size ≤ 9223372036854775807
                    · rw [if_pos c34] at H
                      have c34b0 := eq_true c34
                      have c34b1 := decide_eq_true c34
                      try have c34b2 : (9223372036854775807 < x3_1.size + ((((rd_T81 l0_1 x4_1).f0) ++ (⟨#[32]⟩ : ByteArray)) ++ (rdOf ByteArray.empty t110 ((rd_T81 l0_1 x4_1).f1))).size) = False := eq_false (Nat.not_lt.2 c34)
                      try have c34b3 : (9223372036854775807 < x3_1.size + (((rd_T81 l0_1 x4_1).f0).size + 1 + (rdOf ByteArray.empty t110 ((rd_T81 l0_1 x4_1).f1)).size)) = False := eq_false (by have z_ := c34; simp only [ByteArray.size_append] at z_; exact Nat.not_lt.2 z_)
                      obtain ⟨bq35, hbq35⟩ : ∃ b_ : Bool, b_ = ((rd_T81 l0_1 x4_1).f2) := ⟨_, rfl⟩
                      replace H : (if bq35 = true then (if (x3_1 ++ ((((rd_T81 l0_1 x4_1).f0) ++ (⟨#[32]⟩ : ByteArray)) ++ (rdOf ByteArray.empty t110 ((rd_T81 l0_1 x4_1).f1)))).size + 5 ≤ 9223372036854775807 then (spec_l09Text.l0 k1 ((x3_1 ++ ((((rd_T81 l0_1 x4_1).f0) ++ (⟨#[32]⟩ : ByteArray)) ++ (rdOf ByteArray.empty t110 ((rd_T81 l0_1 x4_1).f1)))) ++ (⟨#[32, 110, 117, 108, 108]⟩ : ByteArray)) (wrap64 (x4_1 + 1)) a0_0 l0_1 a0_2 l0_3) else (none)) else (spec_l09Text.l0 k1 (x3_1 ++ ((((rd_T81 l0_1 x4_1).f0) ++ (⟨#[32]⟩ : ByteArray)) ++ (rdOf ByteArray.empty t110 ((rd_T81 l0_1 x4_1).f1)))) (wrap64 (x4_1 + 1)) a0_0 l0_1 a0_2 l0_3)) = some r := by rw [← hbq35] at H; exact H
                      have Nbq35 := ak_ hbq35
                      clear hbq35
                      by_cases c36 : bq35 = true
                      · subst c36
                        have H1 : (if (x3_1 ++ ((((rd_T81 l0_1 x4_1).f0) ++ (⟨#[32]⟩ : ByteArray)) ++ (rdOf ByteArray.empty t110 ((rd_T81 l0_1 x4_1).f1)))).size + 5 ≤ 9223372036854775807 then (spec_l09Text.l0 k1 ((x3_1 ++ ((((rd_T81 l0_1 x4_1).f0) ++ (⟨#[32]⟩ : ByteArray)) ++ (rdOf ByteArray.empty t110 ((rd_T81 l0_1 x4_1).f1)))) ++ (⟨#[32, 110, 117, 108, 108]⟩ : ByteArray)) (wrap64 (x4_1 + 1)) a0_0 l0_1 a0_2 l0_3) else (none)) = some r := by rw [if_pos rfl] at H; exact H
                        clear H
                        have H := H1
                        clear H1
                        by_cases c37 : (x3_1 ++ ((((rd_T81 l0_1 x4_1).f0) ++ (⟨#[32]⟩ : ByteArray)) ++ (rdOf ByteArray.empty t110 ((rd_T81 l0_1 x4_1).f1)))).size + 5 ≤ 9223372036854775807
                        · rw [if_pos c37] at H
                          have c37b0 := eq_true c37
                          have c37b1 := decide_eq_true c37
                          try have c37b2 : (9223372036854775807 < (x3_1 ++ ((((rd_T81 l0_1 x4_1).f0) ++ (⟨#[32]⟩ : ByteArray)) ++ (rdOf ByteArray.empty t110 ((rd_T81 l0_1 x4_1).f1)))).size + 5) = False := eq_false (Nat.not_lt.2 c37)
                          try have c37b3 : (9223372036854775807 < x3_1.size + (((rd_T81 l0_1 x4_1).f0).size + 1 + (rdOf ByteArray.empty t110 ((rd_T81 l0_1 x4_1).f1)).size) + 5) = False := eq_false (by have z_ := c37; simp only [ByteArray.size_append] at z_; exact Nat.not_lt.2 z_)
                          have H' := ak_ H
                          clear H
                          obtain ⟨hcz38_0, hcz38_1, hcz38_2, hcz38_3, hfz38_0, hfz38_1, hfz38_2, hfz38_3⟩ := bcf4 BK101.out
                          try go_wp2
                          have n_ := a2_ (blk_drew BK101.out) (below_drew1 HB.out)
                          clear BK101 HB
                          obtain ⟨BK101, HB⟩ := n_
                          have p109 : 0 ≤ (x4_1 : Int) := of_decide_eq_true z4_
                          have q109 : x4_1 < (l0_1.length : Int) := of_decide_eq_true z4_
                          obtain ⟨ad109, e109, hx109_0, hx109_1, hx109_2⟩ := at_T81 HR0_1.out x4_1 p109 q109
                          have hw109_2 := hx109_2
                          have hw109_1 := hx109_1
                          have hw109_0 := hx109_0
                          (try rw [← Nbq35.out] at hx109_2)
                          cases e109
                          replace hx109_0 := oc_ HB.out hx109_0
                          replace hx109_1 := oc_ HB.out hx109_1
                          replace hx109_2 := oc_ HB.out hx109_2
                          replace p109 := eq_true p109
                          replace q109 := eq_true q109
                          have p113 : 0 ≤ (x4_1 : Int) := of_decide_eq_true z4_
                          have q113 : x4_1 < (l0_1.length : Int) := of_decide_eq_true z4_
                          obtain ⟨ad113, e113, hx113_0, hx113_1, hx113_2⟩ := at_T81 HR0_1.out x4_1 p113 q113
                          have hw113_2 := hx113_2
                          have hw113_1 := hx113_1
                          have hw113_0 := hx113_0
                          (try rw [← Nbq35.out] at hx113_2)
                          obtain rfl : ad109 = ad113 := (by injection e113)
                          replace hx113_0 := oc_ HB.out hx113_0
                          replace hx113_1 := oc_ HB.out hx113_1
                          replace hx113_2 := oc_ HB.out hx113_2
                          replace p113 := eq_true p113
                          replace q113 := eq_true q113
                          refine start_ (n := 20) (S := fun w' => w'.cell? ⟨gb101, 0, none⟩ = some (.string a0_0) ∧ w'.cell? ⟨gb101, 1, none⟩ = some (.slice (some ad109) l0_1.length c0_1) ∧ w'.cell? ⟨gb101, 2, none⟩ = some (.int .i64 a0_2) ∧ w'.cell? ⟨gb101, 3, none⟩ = some (.slice A0_3 l0_3.length c0_3) ∧ w'.cell? (ad109.add ((x4_1).toNat * 3)) = some (.string ((rd_T81 l0_1 x4_1).f0)) ∧ w'.cell? ⟨(ad109.add ((x4_1).toNat * 3)).block, (ad109.add ((x4_1).toNat * 3)).off + 1, none⟩ = some (.int .i64 ((rd_T81 l0_1 x4_1).f1)) ∧ w'.cell? ⟨(ad109.add ((x4_1).toNat * 3)).block, (ad109.add ((x4_1).toNat * 3)).off + 2, none⟩ = some (.bool true) ∧ w'.cell? (ad109.add ((x4_1).toNat * 3)) = some (.string ((rd_T81 l0_1 x4_1).f0)) ∧ w'.cell? ⟨(ad109.add ((x4_1).toNat * 3)).block, (ad109.add ((x4_1).toNat * 3)).off + 1, none⟩ = some (.int .i64 ((rd_T81 l0_1 x4_1).f1)) ∧ w'.cell? ⟨(ad109.add ((x4_1).toNat * 3)).block, (ad109.add ((x4_1).toNat * 3)).off + 2, none⟩ = some (.bool true)) (ds := []) #[false, false, false, false, false, false, false, false, false, false, false, false, false, false, false, false, false, false, false, false] (by kernel_rfl) rfl rfl ⟨(blk_cell BK101.out 0).trans rfl, (blk_cell BK101.out 1).trans rfl, (blk_cell BK101.out 2).trans rfl, (blk_cell BK101.out 3).trans rfl, (oc_ HB.out hw109_0 :), (oc_ HB.out hw109_1 :), z29_, (oc_ HB.out hw113_0 :), (oc_ HB.out hw113_1 :), z30_⟩ (fun hHeld => ?_); refine with_tabW spec_l09Text.tab7 spec_l09Text.bits7 (fun HT_ HW_ => ?_)
                          generalize wr.drew = w39 at BK101 HB hx109_0 hx109_1 hx109_2 hx113_0 hx113_1 hx113_2 hHeld ⊢
                          refine pu_ 0 (N := some 21) #[true, false, false, false, false, false, false, false, false, false, false, false, false, false, false, false, false, false, false, false] HT_.out (h_ := ?_)
                          refine pu_ 1 (N := some 22) #[true, true, false, false, false, false, false, false, false, false, false, false, false, false, false, false, false, false, false, false] HT_.out (h_ := ?_)
                          refine pu_ 3 (N := some 24) #[true, true, false, true, false, false, false, false, false, false, false, false, false, false, false, false, false, false, false, false] HT_.out (h_ := ?_)
                          refine pu_ 9 (N := some 30) #[true, true, false, true, false, false, false, false, false, true, false, false, false, false, false, false, false, false, false, false] HT_.out (h_ := ?_)
                          refine pu_ 11 (N := some 32) #[true, true, false, true, false, false, false, false, false, true, false, true, false, false, false, false, false, false, false, false] HT_.out (h_ := ?_)
                          refine tk_ 2 (N := some 23) #[true, true, true, true, false, false, false, false, false, true, false, true, false, false, false, false, false, false, false, false] HT_.out HW_.out hHeld (hy := by rintro w' ⟨s0, s1, s2, s3, s4, s5, s6, s7, s8, s9⟩; go_simp; with_reducible rfl) (h_ := ?_)
                          refine pu_ 4 (N := some 25) #[true, true, true, true, true, false, false, false, false, true, false, true, false, false, false, false, false, false, false, false] HT_.out (h_ := ?_)
                          refine pu_ 5 (N := some 26) #[true, true, true, true, true, true, false, false, false, true, false, true, false, false, false, false, false, false, false, false] HT_.out (h_ := ?_)
                          refine tk_ 6 (N := some 27) #[true, true, true, true, true, true, true, false, false, true, false, true, false, false, false, false, false, false, false, false] HT_.out HW_.out hHeld (hy := by rintro w' ⟨s0, s1, s2, s3, s4, s5, s6, s7, s8, s9⟩; go_simp; with_reducible rfl) (h_ := ?_)
                          refine pu_ 7 (N := some 28) #[true, true, true, true, true, true, true, true, false, true, false, true, false, false, false, false, false, false, false, false] HT_.out (h_ := ?_)
                          refine tk_ 10 (N := some 31) #[true, true, true, true, true, true, true, true, false, true, true, true, false, false, false, false, false, false, false, false] HT_.out HW_.out hHeld (hy := by rintro w' ⟨s0, s1, s2, s3, s4, s5, s6, s7, s8, s9⟩; go_simp; with_reducible rfl) (h_ := ?_)
                          refine pu_ 12 (N := some 33) #[true, true, true, true, true, true, true, true, false, true, true, true, true, false, false, false, false, false, false, false] HT_.out (h_ := ?_)
                          refine pu_ 13 (N := some 34) #[true, true, true, true, true, true, true, true, false, true, true, true, true, true, false, false, false, false, false, false] HT_.out (h_ := ?_)
                          refine tk_ 14 (N := some 35) #[true, true, true, true, true, true, true, true, false, true, true, true, true, true, true, false, false, false, false, false] HT_.out HW_.out hHeld (hy := by rintro w' ⟨s0, s1, s2, s3, s4, s5, s6, s7, s8, s9⟩; go_simp; with_reducible rfl) (h_ := ?_)
                          refine one_ (i := 8) (N := some 29) #[true, true, true, true, true, true, true, true, true, true, true, true, true, true, true, false, false, false, false, false] rfl rfl (one_of HT_.out (by kernel_rfl)) (by decide) (fun K hK => ?_)
                          refine goes_ Tryz.func44 (by kernel_rfl) rfl #[] (by rfl) rfl rfl z3_ ?_
                          with_reducible refine (spec_l09Types.calls  t110 _ A30.out).mono ?_
                          rintro e w40 ⟨v111, rfl, ho0, hb⟩
                          refine ⟨_, rfl, ?_⟩
                          have n_ := a3_ (Kd.R_lower ho0 (below_size z0_)) (blk_below (g := gb101) (o := .cells #[.string a0_0, .slice (some ad109) l0_1.length c0_1, .int .i64 a0_2, .slice A0_3 l0_3.length c0_3] 32 (0, 0)) z2_ hb) (below_step z0_ hb)
                          clear BK101 HB
                          obtain ⟨HO112, BK101, HB⟩ := n_
                          (try clear hb)
                          (try clear hb2)
                          (try clear hk)
                          (try clear hi)
                          (try clear ho0)
                          obtain ⟨Ao41, co41, eo41⟩ := Kd.R_slice HO112.out
                          (first | subst eo41 | (injection eo41 with f1_ f2_ f3_; have f4_ := f1_.symm; have f5_ := f3_.symm; clear f1_ f2_ f3_; subst f4_; subst f5_))
                          have p114 : 0 ≤ (((rd_T81 l0_1 x4_1).f1) : Int) := of_decide_eq_true z4_
                          have q114 : ((rd_T81 l0_1 x4_1).f1) < (t110.length : Int) := of_decide_eq_true z4_
                          obtain ⟨ad114, e114, hx114_0⟩ := Kd.at_string (Kd.R_reads' HO112.out).2.2 ((rd_T81 l0_1 x4_1).f1) p114 q114
                          cases e114
                          replace p114 := eq_true p114
                          replace q114 := eq_true q114
                          refine hK.out _ _ ⟨(blk_cell BK101.out 0).trans rfl, (blk_cell BK101.out 1).trans rfl, (blk_cell BK101.out 2).trans rfl, (blk_cell BK101.out 3).trans rfl, (oc_ HB.out hw109_0 :), (oc_ HB.out hw109_1 :), z29_, (oc_ HB.out hw113_0 :), (oc_ HB.out hw113_1 :), z30_⟩ (fun hHeld => ?_)
                          clear hK K
                          refine norm_ (a' := ?_) ?_ ?_
                          rotate_left
                          · show Act.put _ (some 29) _ = _
                            simp only [Act.put, List.setIfInBounds_toArray, List.set_cons_zero, List.set_cons_succ, i64_w, i32_w]
                            rfl
                          refine pu_ 15 (N := some 36) #[true, true, true, true, true, true, true, true, true, true, true, true, true, true, true, true, false, false, false, false] HT_.out (h_ := ?_)
                          refine onv_ 16 (N := some 37) #[true, true, true, true, true, true, true, true, true, true, true, true, true, true, true, true, true, false, false, false] HT_.out hHeld (hy := by obtain ⟨s0, s1, s2, s3, s4, s5, s6, s7, s8, s9⟩ := hHeld; go_simp; with_reducible rfl) (h_ := ?_)
                          refine pu_ 17 (N := some 38) #[true, true, true, true, true, true, true, true, true, true, true, true, true, true, true, true, true, true, false, false] HT_.out (h_ := ?_)
                          refine pu_ 18 (N := some 39) #[true, true, true, true, true, true, true, true, true, true, true, true, true, true, true, true, true, true, true, false] HT_.out (h_ := ?_)
                          refine pu_ 19 (N := some 3) #[true, true, true, true, true, true, true, true, true, true, true, true, true, true, true, true, true, true, true, true] HT_.out (h_ := ?_)
                          refine done_ (done_of HT_.out (by kernel_rfl)) ?_
                          obtain ⟨hcz42_0, hcz42_1, hcz42_2, hcz42_3, hfz42_0, hfz42_1, hfz42_2, hfz42_3⟩ := bcf4 BK101.out
                          have p115 : 0 ≤ (x4_1 : Int) := of_decide_eq_true z4_
                          have q115 : x4_1 < (l0_1.length : Int) := of_decide_eq_true z4_
                          obtain ⟨ad115, e115, hx115_0, hx115_1, hx115_2⟩ := at_T81 HR0_1.out x4_1 p115 q115
                          (try rw [← Nbq35.out] at hx115_2)
                          obtain rfl : ad109 = ad115 := (by injection e115)
                          replace hx115_0 := oc_ HB.out hx115_0
                          replace hx115_1 := oc_ HB.out hx115_1
                          replace hx115_2 := oc_ HB.out hx115_2
                          replace p115 := eq_true p115
                          replace q115 := eq_true q115
                          try go_wp2
                          go_roundg k1
                          case measure => have := HK1.out; omega
                          case rel => exact ⟨((x3_1 ++ ((((rd_T81 l0_1 x4_1).f0) ++ (⟨#[32]⟩ : ByteArray)) ++ (rdOf ByteArray.empty t110 ((rd_T81 l0_1 x4_1).f1)))) ++ (⟨#[32, 110, 117, 108, 108]⟩ : ByteArray)), (wrap64 (x4_1 + 1)), z9_, z9_, H', ⟨by have := HK1.out; omega⟩, ⟨z2_⟩, ⟨z0_⟩⟩
                        · rw [if_neg c37] at H
                          exact absurd H (by simp)
                      · replace c36 := Bool.eq_false_iff.mpr c36
                        subst c36
                        have H1 : (spec_l09Text.l0 k1 (x3_1 ++ ((((rd_T81 l0_1 x4_1).f0) ++ (⟨#[32]⟩ : ByteArray)) ++ (rdOf ByteArray.empty t110 ((rd_T81 l0_1 x4_1).f1)))) (wrap64 (x4_1 + 1)) a0_0 l0_1 a0_2 l0_3) = some r := by rw [if_neg (show ¬ (false = true) by decide)] at H; exact H
                        clear H
                        have H := H1
                        clear H1
                        have H' := ak_ H
                        clear H
                        obtain ⟨hcz43_0, hcz43_1, hcz43_2, hcz43_3, hfz43_0, hfz43_1, hfz43_2, hfz43_3⟩ := bcf4 BK101.out
                        try go_wp2
                        have n_ := a2_ (blk_drew BK101.out) (below_drew1 HB.out)
                        clear BK101 HB
                        obtain ⟨BK101, HB⟩ := n_
                        have p109 : 0 ≤ (x4_1 : Int) := of_decide_eq_true z4_
                        have q109 : x4_1 < (l0_1.length : Int) := of_decide_eq_true z4_
                        obtain ⟨ad109, e109, hx109_0, hx109_1, hx109_2⟩ := at_T81 HR0_1.out x4_1 p109 q109
                        have hw109_2 := hx109_2
                        have hw109_1 := hx109_1
                        have hw109_0 := hx109_0
                        (try rw [← Nbq35.out] at hx109_2)
                        cases e109
                        replace hx109_0 := oc_ HB.out hx109_0
                        replace hx109_1 := oc_ HB.out hx109_1
                        replace hx109_2 := oc_ HB.out hx109_2
                        replace p109 := eq_true p109
                        replace q109 := eq_true q109
                        have p113 : 0 ≤ (x4_1 : Int) := of_decide_eq_true z4_
                        have q113 : x4_1 < (l0_1.length : Int) := of_decide_eq_true z4_
                        obtain ⟨ad113, e113, hx113_0, hx113_1, hx113_2⟩ := at_T81 HR0_1.out x4_1 p113 q113
                        have hw113_2 := hx113_2
                        have hw113_1 := hx113_1
                        have hw113_0 := hx113_0
                        (try rw [← Nbq35.out] at hx113_2)
                        obtain rfl : ad109 = ad113 := (by injection e113)
                        replace hx113_0 := oc_ HB.out hx113_0
                        replace hx113_1 := oc_ HB.out hx113_1
                        replace hx113_2 := oc_ HB.out hx113_2
                        replace p113 := eq_true p113
                        replace q113 := eq_true q113
                        refine start_ (n := 20) (S := fun w' => w'.cell? ⟨gb101, 0, none⟩ = some (.string a0_0) ∧ w'.cell? ⟨gb101, 1, none⟩ = some (.slice (some ad109) l0_1.length c0_1) ∧ w'.cell? ⟨gb101, 2, none⟩ = some (.int .i64 a0_2) ∧ w'.cell? ⟨gb101, 3, none⟩ = some (.slice A0_3 l0_3.length c0_3) ∧ w'.cell? (ad109.add ((x4_1).toNat * 3)) = some (.string ((rd_T81 l0_1 x4_1).f0)) ∧ w'.cell? ⟨(ad109.add ((x4_1).toNat * 3)).block, (ad109.add ((x4_1).toNat * 3)).off + 1, none⟩ = some (.int .i64 ((rd_T81 l0_1 x4_1).f1)) ∧ w'.cell? ⟨(ad109.add ((x4_1).toNat * 3)).block, (ad109.add ((x4_1).toNat * 3)).off + 2, none⟩ = some (.bool false) ∧ w'.cell? (ad109.add ((x4_1).toNat * 3)) = some (.string ((rd_T81 l0_1 x4_1).f0)) ∧ w'.cell? ⟨(ad109.add ((x4_1).toNat * 3)).block, (ad109.add ((x4_1).toNat * 3)).off + 1, none⟩ = some (.int .i64 ((rd_T81 l0_1 x4_1).f1)) ∧ w'.cell? ⟨(ad109.add ((x4_1).toNat * 3)).block, (ad109.add ((x4_1).toNat * 3)).off + 2, none⟩ = some (.bool false)) (ds := []) #[false, false, false, false, false, false, false, false, false, false, false, false, false, false, false, false, false, false, false, false] (by kernel_rfl) rfl rfl ⟨(blk_cell BK101.out 0).trans rfl, (blk_cell BK101.out 1).trans rfl, (blk_cell BK101.out 2).trans rfl, (blk_cell BK101.out 3).trans rfl, (oc_ HB.out hw109_0 :), (oc_ HB.out hw109_1 :), z29_, (oc_ HB.out hw113_0 :), (oc_ HB.out hw113_1 :), z30_⟩ (fun hHeld => ?_); refine with_tabW spec_l09Text.tab7 spec_l09Text.bits7 (fun HT_ HW_ => ?_)
                        generalize wr.drew = w44 at BK101 HB hx109_0 hx109_1 hx109_2 hx113_0 hx113_1 hx113_2 hHeld ⊢
                        refine pu_ 0 (N := some 21) #[true, false, false, false, false, false, false, false, false, false, false, false, false, false, false, false, false, false, false, false] HT_.out (h_ := ?_)
                        refine pu_ 1 (N := some 22) #[true, true, false, false, false, false, false, false, false, false, false, false, false, false, false, false, false, false, false, false] HT_.out (h_ := ?_)
                        refine pu_ 3 (N := some 24) #[true, true, false, true, false, false, false, false, false, false, false, false, false, false, false, false, false, false, false, false] HT_.out (h_ := ?_)
                        refine pu_ 9 (N := some 30) #[true, true, false, true, false, false, false, false, false, true, false, false, false, false, false, false, false, false, false, false] HT_.out (h_ := ?_)
                        refine pu_ 11 (N := some 32) #[true, true, false, true, false, false, false, false, false, true, false, true, false, false, false, false, false, false, false, false] HT_.out (h_ := ?_)
                        refine tk_ 2 (N := some 23) #[true, true, true, true, false, false, false, false, false, true, false, true, false, false, false, false, false, false, false, false] HT_.out HW_.out hHeld (hy := by rintro w' ⟨s0, s1, s2, s3, s4, s5, s6, s7, s8, s9⟩; go_simp; with_reducible rfl) (h_ := ?_)
                        refine pu_ 4 (N := some 25) #[true, true, true, true, true, false, false, false, false, true, false, true, false, false, false, false, false, false, false, false] HT_.out (h_ := ?_)
                        refine pu_ 5 (N := some 26) #[true, true, true, true, true, true, false, false, false, true, false, true, false, false, false, false, false, false, false, false] HT_.out (h_ := ?_)
                        refine tk_ 6 (N := some 27) #[true, true, true, true, true, true, true, false, false, true, false, true, false, false, false, false, false, false, false, false] HT_.out HW_.out hHeld (hy := by rintro w' ⟨s0, s1, s2, s3, s4, s5, s6, s7, s8, s9⟩; go_simp; with_reducible rfl) (h_ := ?_)
                        refine pu_ 7 (N := some 28) #[true, true, true, true, true, true, true, true, false, true, false, true, false, false, false, false, false, false, false, false] HT_.out (h_ := ?_)
                        refine tk_ 10 (N := some 31) #[true, true, true, true, true, true, true, true, false, true, true, true, false, false, false, false, false, false, false, false] HT_.out HW_.out hHeld (hy := by rintro w' ⟨s0, s1, s2, s3, s4, s5, s6, s7, s8, s9⟩; go_simp; with_reducible rfl) (h_ := ?_)
                        refine pu_ 12 (N := some 33) #[true, true, true, true, true, true, true, true, false, true, true, true, true, false, false, false, false, false, false, false] HT_.out (h_ := ?_)
                        refine pu_ 13 (N := some 34) #[true, true, true, true, true, true, true, true, false, true, true, true, true, true, false, false, false, false, false, false] HT_.out (h_ := ?_)
                        refine tk_ 14 (N := some 35) #[true, true, true, true, true, true, true, true, false, true, true, true, true, true, true, false, false, false, false, false] HT_.out HW_.out hHeld (hy := by rintro w' ⟨s0, s1, s2, s3, s4, s5, s6, s7, s8, s9⟩; go_simp; with_reducible rfl) (h_ := ?_)
                        refine one_ (i := 8) (N := some 29) #[true, true, true, true, true, true, true, true, true, true, true, true, true, true, true, false, false, false, false, false] rfl rfl (one_of HT_.out (by kernel_rfl)) (by decide) (fun K hK => ?_)
                        refine goes_ Tryz.func44 (by kernel_rfl) rfl #[] (by rfl) rfl rfl z3_ ?_
                        with_reducible refine (spec_l09Types.calls  t110 _ A30.out).mono ?_
                        rintro e w45 ⟨v111, rfl, ho0, hb⟩
                        refine ⟨_, rfl, ?_⟩
                        have n_ := a3_ (Kd.R_lower ho0 (below_size z0_)) (blk_below (g := gb101) (o := .cells #[.string a0_0, .slice (some ad109) l0_1.length c0_1, .int .i64 a0_2, .slice A0_3 l0_3.length c0_3] 32 (0, 0)) z2_ hb) (below_step z0_ hb)
                        clear BK101 HB
                        obtain ⟨HO112, BK101, HB⟩ := n_
                        (try clear hb)
                        (try clear hb2)
                        (try clear hk)
                        (try clear hi)
                        (try clear ho0)
                        obtain ⟨Ao46, co46, eo46⟩ := Kd.R_slice HO112.out
                        (first | subst eo46 | (injection eo46 with f1_ f2_ f3_; have f4_ := f1_.symm; have f5_ := f3_.symm; clear f1_ f2_ f3_; subst f4_; subst f5_))
                        have p114 : 0 ≤ (((rd_T81 l0_1 x4_1).f1) : Int) := of_decide_eq_true z4_
                        have q114 : ((rd_T81 l0_1 x4_1).f1) < (t110.length : Int) := of_decide_eq_true z4_
                        obtain ⟨ad114, e114, hx114_0⟩ := Kd.at_string (Kd.R_reads' HO112.out).2.2 ((rd_T81 l0_1 x4_1).f1) p114 q114
                        cases e114
                        replace p114 := eq_true p114
                        replace q114 := eq_true q114
                        refine hK.out _ _ ⟨(blk_cell BK101.out 0).trans rfl, (blk_cell BK101.out 1).trans rfl, (blk_cell BK101.out 2).trans rfl, (blk_cell BK101.out 3).trans rfl, (oc_ HB.out hw109_0 :), (oc_ HB.out hw109_1 :), z29_, (oc_ HB.out hw113_0 :), (oc_ HB.out hw113_1 :), z30_⟩ (fun hHeld => ?_)
                        clear hK K
                        refine norm_ (a' := ?_) ?_ ?_
                        rotate_left
                        · show Act.put _ (some 29) _ = _
                          simp only [Act.put, List.setIfInBounds_toArray, List.set_cons_zero, List.set_cons_succ, i64_w, i32_w]
                          rfl
                        refine pu_ 15 (N := some 36) #[true, true, true, true, true, true, true, true, true, true, true, true, true, true, true, true, false, false, false, false] HT_.out (h_ := ?_)
                        refine onv_ 16 (N := some 37) #[true, true, true, true, true, true, true, true, true, true, true, true, true, true, true, true, true, false, false, false] HT_.out hHeld (hy := by obtain ⟨s0, s1, s2, s3, s4, s5, s6, s7, s8, s9⟩ := hHeld; go_simp; with_reducible rfl) (h_ := ?_)
                        refine pu_ 17 (N := some 38) #[true, true, true, true, true, true, true, true, true, true, true, true, true, true, true, true, true, true, false, false] HT_.out (h_ := ?_)
                        refine pu_ 18 (N := some 39) #[true, true, true, true, true, true, true, true, true, true, true, true, true, true, true, true, true, true, true, false] HT_.out (h_ := ?_)
                        refine pu_ 19 (N := some 3) #[true, true, true, true, true, true, true, true, true, true, true, true, true, true, true, true, true, true, true, true] HT_.out (h_ := ?_)
                        refine done_ (done_of HT_.out (by kernel_rfl)) ?_
                        obtain ⟨hcz47_0, hcz47_1, hcz47_2, hcz47_3, hfz47_0, hfz47_1, hfz47_2, hfz47_3⟩ := bcf4 BK101.out
                        have p115 : 0 ≤ (x4_1 : Int) := of_decide_eq_true z4_
                        have q115 : x4_1 < (l0_1.length : Int) := of_decide_eq_true z4_
                        obtain ⟨ad115, e115, hx115_0, hx115_1, hx115_2⟩ := at_T81 HR0_1.out x4_1 p115 q115
                        (try rw [← Nbq35.out] at hx115_2)
                        obtain rfl : ad109 = ad115 := (by injection e115)
                        replace hx115_0 := oc_ HB.out hx115_0
                        replace hx115_1 := oc_ HB.out hx115_1
                        replace hx115_2 := oc_ HB.out hx115_2
                        replace p115 := eq_true p115
                        replace q115 := eq_true q115
                        try go_wp2
                        go_roundg k1
                        case measure => have := HK1.out; omega
                        case rel => exact ⟨(x3_1 ++ ((((rd_T81 l0_1 x4_1).f0) ++ (⟨#[32]⟩ : ByteArray)) ++ (rdOf ByteArray.empty t110 ((rd_T81 l0_1 x4_1).f1)))), (wrap64 (x4_1 + 1)), z9_, z9_, H', ⟨by have := HK1.out; omega⟩, ⟨z2_⟩, ⟨z0_⟩⟩
                    · rw [if_neg c34] at H
                      exact absurd H (by simp)
                  · rw [if_neg c33] at H
                    exact absurd H (by simp)
                · rw [if_neg c32] at H
                  exact absurd H (by simp)
              · rw [if_neg c31] at H
                exact absurd H (by simp)
            · rw [if_neg c29] at H
              exact absurd H (by simp)
          · rw [if_neg c28] at H
            exact absurd H (by simp)
      rw [if_neg c5] at H
      have c5b0 := decide_eq_false c5
      clear c5
      replace H := Option.bind_eq_some_iff.mp H
      obtain ⟨t116, A480, H⟩ := H
      have A48 := ak_ A480
      clear A480
      by_cases c49 : 6 + t116.size ≤ 9223372036854775807
      rotate_left
      · rw [if_neg c49] at H
        exact absurd H (by simp)
      rw [if_pos c49] at H
      have c49b0 := eq_true c49
      have c49b1 := decide_eq_true c49
      try have c49b2 : (9223372036854775807 < 6 + t116.size) = False := eq_false (Nat.not_lt.2 c49)
      by_cases c50 : x3_1.size + ((⟨#[41, 32, 107, 101, 121, 32]⟩ : ByteArray) ++ t116).size ≤ 9223372036854775807
      rotate_left
      · rw [if_neg c50] at H
        exact absurd H (by simp)
      rw [if_pos c50] at H
      have c50b0 := eq_true c50
      have c50b1 := decide_eq_true c50
      try have c50b2 : (9223372036854775807 < x3_1.size + ((⟨#[41, 32, 107, 101, 121, 32]⟩ : ByteArray) ++ t116).size) = False := eq_false (Nat.not_lt.2 c50)
      try have c50b3 : (9223372036854775807 < x3_1.size + (6 + t116.size)) = False := eq_false (by have z_ := c50; simp only [ByteArray.size_append] at z_; exact Nat.not_lt.2 z_)
      have H' := ak_ H
      clear H
      obtain ⟨hcz51_0, hcz51_1, hcz51_2, hcz51_3, hfz51_0, hfz51_1, hfz51_2, hfz51_3⟩ := bcf4 BK101.out
      go_wp2_with (first | ((with_reducible refine gate_callee (f := 45) rfl ?_); refine goesL_ (some 51) rfl rfl Tryz.func45 (by kernel_rfl) rfl #[.int .i64 a0_2] rfl z3_ ?_; (with_reducible refine (spec_l00Digits.calls k1 a0_2 t116 _ (by first | (with_reducible exact A48.out) | (have a_ := A48.out; rw [← Nbq15.out] at a_; exact a_) | (have a_ := A48.out; rw [← Nbq35.out] at a_; exact a_))).mono ?_); rintro e w52 ⟨rfl, hb⟩; refine ⟨_, rfl, ?_⟩; have n_ := a2_ (blk_below (g := gb101) (o := .cells #[.string a0_0, .slice A0_1 l0_1.length c0_1, .int .i64 a0_2, .slice A0_3 l0_3.length c0_3] 32 (0, 0)) z2_ hb) (below_step z0_ hb); clear BK101 HB; obtain ⟨BK101, HB⟩ := n_; (try clear hb); (try clear hb2); (try clear hk); (try clear hi)))
      go_loopg [3, 5] k1 (fun kq v3 v5 w' => ∃ (x3_2 : ByteArray) (x5_2 : Int), v3 = .string x3_2 ∧ v5 = .int .i64 x5_2 ∧ Aside0 (spec_l09Text.l1 kq x3_2 x5_2 a0_0 l0_1 a0_2 l0_3 = some r) ∧ Aside0 (kq ≤ k1) ∧ Aside0 (w'.heap[gb101]? = some (.cells #[.string a0_0, (.slice A0_1 l0_1.length c0_1), .int .i64 a0_2, (.slice A0_3 l0_3.length c0_3)] 32 (0, 0))) ∧ Aside0 (Below w.heap.size w w'))
      case atStart => exact ⟨(x3_1 ++ ((⟨#[41, 32, 107, 101, 121, 32]⟩ : ByteArray) ++ t116)), (0), z9_, z9_, H', ⟨Nat.le_refl _⟩, ⟨z2_⟩, ⟨z0_⟩⟩
      case round =>
        clear H'
        try clear p1
        try clear q1
        try clear hx1
        try clear c2
        try clear p2
        try clear c3
        try clear q3
        try clear c4
        try clear c5
        try clear c5b0
        try clear p6
        try clear p10
        try clear q10
        try clear hx10
        try clear p11
        try clear q11
        try clear hx11
        try clear c28
        try clear c29
        try clear c31
        try clear c31b0
        try clear c32
        try clear c32b0
        try clear c33
        try clear c33b0
        try clear c33b1
        try clear c33b2
        try clear c34
        try clear c34b0
        try clear c34b1
        try clear c34b2
        try clear q35
        try clear c36
        try clear c37
        try clear c37b0
        try clear c37b1
        try clear c37b2
        try clear c44
        try clear c45
        try clear c49
        try clear c49b0
        try clear c49b1
        try clear c49b2
        try clear c50
        try clear c50b0
        try clear c50b1
        try clear c50b2
        try clear hcz38_0
        try clear hcz38_1
        try clear hcz38_2
        try clear hcz38_3
        try clear hcz42_0
        try clear hcz42_1
        try clear hcz42_2
        try clear hcz42_3
        try clear hcz43_0
        try clear hcz43_1
        try clear hcz43_2
        try clear hcz43_3
        try clear hcz47_0
        try clear hcz47_1
        try clear hcz47_2
        try clear hcz47_3
        try clear hcz51_0
        try clear hcz51_1
        try clear hcz51_2
        try clear hcz51_3
        try clear hfz38_0
        try clear hfz38_1
        try clear hfz38_2
        try clear hfz38_3
        try clear hfz42_0
        try clear hfz42_1
        try clear hfz42_2
        try clear hfz42_3
        try clear hfz43_0
        try clear hfz43_1
        try clear hfz43_2
        try clear hfz43_3
        try clear hfz47_0
        try clear hfz47_1
        try clear hfz47_2
        try clear hfz47_3
        try clear hfz51_0
        try clear hfz51_1
        try clear hfz51_2
        try clear hfz51_3
        try clear hx109_0
        try clear hx109_1
        try clear hx109_2
        try clear hx113_0
        try clear hx113_1
        try clear hx113_2
        try clear hx114_0
        try clear hx115_0
        try clear hx115_1
        try clear hx115_2
        try clear p109
        try clear p113
        try clear p114
        try clear p115
        try clear q109
        try clear q113
        try clear q114
        try clear q115
        obtain ⟨x3_2, x5_2, rfl, rfl, HA, HK2, BK101, HB⟩ := hrel
        cases gk with
        | zero => exact absurd HA.out (by simp [spec_l09Text.l1])
        | succ k2 =>
          have H := HA.out
          clear HA
          simp only [spec_l09Text.l1] at H
          by_cases c53 : x5_2 < (l0_3.length : Int)
          rotate_left
          · rw [if_neg c53] at H
            have c53b0 := decide_eq_false c53
            clear c53
            obtain rfl := Option.some.inj H
            obtain ⟨hcz78_0, hcz78_1, hcz78_2, hcz78_3, hfz78_0, hfz78_1, hfz78_2, hfz78_3⟩ := bcf4 BK101.out
            go_wp2
            go_ret
            exact ⟨z7_, z0_⟩
          rw [if_pos c53] at H
          have c53b0 := decide_eq_true c53
          clear c53
          by_cases c54 : 0 ≤ x5_2
          rotate_left
          · rw [if_neg c54] at H
            exact absurd H (by simp)
          rw [if_pos c54] at H
          have c54b0 := decide_eq_true c54
          clear c54
          by_cases c55 : 7 + ((rd_T84 l0_3 x5_2).f0).size ≤ 9223372036854775807
          rotate_left
          · rw [if_neg c55] at H
            exact absurd H (by simp)
          rw [if_pos c55] at H
          have c55b0 := eq_true c55
          have c55b1 := decide_eq_true c55
          try have c55b2 : (9223372036854775807 < 7 + ((rd_T84 l0_3 x5_2).f0).size) = False := eq_false (Nat.not_lt.2 c55)
          by_cases c56 : ((⟨#[32, 105, 110, 100, 101, 120, 32]⟩ : ByteArray) ++ ((rd_T84 l0_3 x5_2).f0)).size + 1 ≤ 9223372036854775807
          rotate_left
          · rw [if_neg c56] at H
            exact absurd H (by simp)
          rw [if_pos c56] at H
          have c56b0 := eq_true c56
          have c56b1 := decide_eq_true c56
          try have c56b2 : (9223372036854775807 < ((⟨#[32, 105, 110, 100, 101, 120, 32]⟩ : ByteArray) ++ ((rd_T84 l0_3 x5_2).f0)).size + 1) = False := eq_false (Nat.not_lt.2 c56)
          try have c56b3 : (9223372036854775807 < 7 + ((rd_T84 l0_3 x5_2).f0).size + 1) = False := eq_false (by have z_ := c56; simp only [ByteArray.size_append] at z_; exact Nat.not_lt.2 z_)
          by_cases c57 : x3_2.size + (((⟨#[32, 105, 110, 100, 101, 120, 32]⟩ : ByteArray) ++ ((rd_T84 l0_3 x5_2).f0)) ++ (⟨#[40]⟩ : ByteArray)).size ≤ 9223372036854775807
          rotate_left
          · rw [if_neg c57] at H
            exact absurd H (by simp)
          rw [if_pos c57] at H
          have c57b0 := eq_true c57
          have c57b1 := decide_eq_true c57
          try have c57b2 : (9223372036854775807 < x3_2.size + (((⟨#[32, 105, 110, 100, 101, 120, 32]⟩ : ByteArray) ++ ((rd_T84 l0_3 x5_2).f0)) ++ (⟨#[40]⟩ : ByteArray)).size) = False := eq_false (Nat.not_lt.2 c57)
          try have c57b3 : (9223372036854775807 < x3_2.size + (7 + ((rd_T84 l0_3 x5_2).f0).size + 1)) = False := eq_false (by have z_ := c57; simp only [ByteArray.size_append] at z_; exact Nat.not_lt.2 z_)
          have H' := ak_ H
          clear H
          obtain ⟨hcz58_0, hcz58_1, hcz58_2, hcz58_3, hfz58_0, hfz58_1, hfz58_2, hfz58_3⟩ := bcf4 BK101.out
          have p117 : 0 ≤ (x5_2 : Int) := of_decide_eq_true z4_
          have q117 : x5_2 < (l0_3.length : Int) := of_decide_eq_true z4_
          obtain ⟨ad117, A117_1, c117_1, e117, hx117_0, hx117_1, hl117_1, hi117_1⟩ := at_T84 HR0_3.out x5_2 p117 q117
          cases e117
          replace hx117_0 := oc_ HB.out hx117_0
          replace hx117_1 := oc_ HB.out hx117_1
          have HR117_1 := ak_ hi117_1
          have HC117_1 := ak_ hl117_1
          clear hi117_1 hl117_1
          replace p117 := eq_true p117
          replace q117 := eq_true q117
          go_wp2
          go_loopg [3, 6] k2 (fun kq v3 v6 w' => ∃ (x3_3 : ByteArray) (x6_3 : Int), v3 = .string x3_3 ∧ v6 = .int .i64 x6_3 ∧ Aside0 (spec_l09Text.l2 kq x3_3 x5_2 x6_3 a0_0 l0_1 a0_2 l0_3 = some r) ∧ Aside0 (kq ≤ k2) ∧ Aside0 (w'.heap[gb101]? = some (.cells #[.string a0_0, (.slice A0_1 l0_1.length c0_1), .int .i64 a0_2, (.slice (some ad117) l0_3.length c0_3)] 32 (0, 0))) ∧ Aside0 (Below w.heap.size w w'))
          case atStart => exact ⟨(x3_2 ++ (((⟨#[32, 105, 110, 100, 101, 120, 32]⟩ : ByteArray) ++ ((rd_T84 l0_3 x5_2).f0)) ++ (⟨#[40]⟩ : ByteArray))), (0), z9_, z9_, H', ⟨Nat.le_refl _⟩, ⟨z2_⟩, ⟨z0_⟩⟩
          case round =>
            clear H'
            try clear c1
            try clear p1
            try clear q1
            try clear hx1
            try clear c2
            try clear p2
            try clear c3
            try clear q3
            try clear c4
            try clear c5
            try clear c5b0
            try clear p6
            try clear p10
            try clear q10
            try clear hx10
            try clear c11
            try clear p11
            try clear q11
            try clear hx11
            try clear c28
            try clear c29
            try clear c31
            try clear c31b0
            try clear c32
            try clear c32b0
            try clear c33
            try clear c33b0
            try clear c33b1
            try clear c33b2
            try clear c34
            try clear c34b0
            try clear c34b1
            try clear c34b2
            try clear q35
            try clear c36
            try clear c37
            try clear c37b0
            try clear c37b1
            try clear c37b2
            try clear c44
            try clear c45
            try clear c49
            try clear c49b0
            try clear c49b1
            try clear c49b2
            try clear c50
            try clear c50b0
            try clear c50b1
            try clear c50b2
            try clear c53
            try clear c53b0
            try clear c54
            try clear c54b0
            try clear c55
            try clear c55b0
            try clear c55b1
            try clear c55b2
            try clear c56
            try clear c56b0
            try clear c56b1
            try clear c56b2
            try clear c57
            try clear c57b0
            try clear c57b1
            try clear c57b2
            try clear hcz38_0
            try clear hcz38_1
            try clear hcz38_2
            try clear hcz38_3
            try clear hcz42_0
            try clear hcz42_1
            try clear hcz42_2
            try clear hcz42_3
            try clear hcz43_0
            try clear hcz43_1
            try clear hcz43_2
            try clear hcz43_3
            try clear hcz47_0
            try clear hcz47_1
            try clear hcz47_2
            try clear hcz47_3
            try clear hcz51_0
            try clear hcz51_1
            try clear hcz51_2
            try clear hcz51_3
            try clear hcz58_0
            try clear hcz58_1
            try clear hcz58_2
            try clear hcz58_3
            try clear hfz38_0
            try clear hfz38_1
            try clear hfz38_2
            try clear hfz38_3
            try clear hfz42_0
            try clear hfz42_1
            try clear hfz42_2
            try clear hfz42_3
            try clear hfz43_0
            try clear hfz43_1
            try clear hfz43_2
            try clear hfz43_3
            try clear hfz47_0
            try clear hfz47_1
            try clear hfz47_2
            try clear hfz47_3
            try clear hfz51_0
            try clear hfz51_1
            try clear hfz51_2
            try clear hfz51_3
            try clear hfz58_0
            try clear hfz58_1
            try clear hfz58_2
            try clear hfz58_3
            try clear hx109_0
            try clear hx109_1
            try clear hx109_2
            try clear hx113_0
            try clear hx113_1
            try clear hx113_2
            try clear hx114_0
            try clear hx115_0
            try clear hx115_1
            try clear hx115_2
            try clear hx117_0
            try clear hx117_1
            try clear p1
            try clear p10
            try clear p109
            try clear p11
            try clear p113
            try clear p114
            try clear p115
            try clear p117
            try clear p2
            try clear p6
            try clear q1
            try clear q10
            try clear q109
            try clear q11
            try clear q113
            try clear q114
            try clear q115
            try clear q117
            try clear q3
            try clear q35
            obtain ⟨x3_3, x6_3, rfl, rfl, HA, HK3, BK101, HB⟩ := hrel
            cases gk with
            | zero => exact absurd HA.out (by simp [spec_l09Text.l2])
            | succ k3 =>
              have H := HA.out
              clear HA
              simp only [spec_l09Text.l2] at H
              by_cases c59 : 0 ≤ x5_2
              rotate_left
              · rw [if_neg c59] at H
                exact absurd H (by simp)
              rw [if_pos c59] at H
              have c59b0 := decide_eq_true c59
              clear c59
              by_cases c60 : x5_2 < (l0_3.length : Int)
              rotate_left
              · rw [if_neg c60] at H
                exact absurd H (by simp)
              rw [if_pos c60] at H
              have c60b0 := decide_eq_true c60
              clear c60
              by_cases c61 : x6_3 < (((rd_T84 l0_3 x5_2).f1).length : Int)
              rotate_left
              · rw [if_neg c61] at H
                have c61b0 := decide_eq_false c61
                clear c61
                by_cases c76 : x3_3.size + 1 ≤ 9223372036854775807
                · rw [if_pos c76] at H
                  have c76b0 := eq_true c76
                  have c76b1 := decide_eq_true c76
                  try have c76b2 : (9223372036854775807 < x3_3.size + 1) = False := eq_false (Nat.not_lt.2 c76)
                  have H' := ak_ H
                  clear H
                  obtain ⟨hcz77_0, hcz77_1, hcz77_2, hcz77_3, hfz77_0, hfz77_1, hfz77_2, hfz77_3⟩ := bcf4 BK101.out
                  have p118 : 0 ≤ (x5_2 : Int) := of_decide_eq_true z4_
                  have q118 : x5_2 < (l0_3.length : Int) := of_decide_eq_true z4_
                  obtain ⟨ad118, A118_1, c118_1, e118, hx118_0, hx118_1, hl118_1, hi118_1⟩ := at_T84 HR0_3.out x5_2 p118 q118
                  obtain rfl : ad117 = ad118 := (by injection e118)
                  replace hx118_0 := oc_ HB.out hx118_0
                  replace hx118_1 := oc_ HB.out hx118_1
                  have HR118_1 := ak_ hi118_1
                  have HC118_1 := ak_ hl118_1
                  clear hi118_1 hl118_1
                  replace p118 := eq_true p118
                  replace q118 := eq_true q118
                  go_wp2
                  go_roundg k3
                  case measure => have := HK1.out; have := HK2.out; have := HK3.out; omega
                  case rel => exact ⟨(x3_3 ++ (⟨#[41]⟩ : ByteArray)), (wrap64 (x5_2 + 1)), z9_, z9_, H', ⟨by have := HK1.out; have := HK2.out; have := HK3.out; omega⟩, ⟨z2_⟩, ⟨z0_⟩⟩
                · rw [if_neg c76] at H
                  exact absurd H (by simp)
              rw [if_pos c61] at H
              have c61b0 := decide_eq_true c61
              clear c61
              by_cases c62 : x6_3 > 0
              rotate_left
              · rw [if_neg c62] at H
                have c62b0 : decide (0 < x6_3) = false := decide_eq_false c62
                clear c62
                by_cases c70 : 0 ≤ x6_3
                · rw [if_pos c70] at H
                  have c70b0 := decide_eq_true c70
                  clear c70
                  by_cases c71 : 0 ≤ (rd ((rd_T84 l0_3 x5_2).f1) x6_3)
                  · rw [if_pos c71] at H
                    have c71b0 := decide_eq_true c71
                    clear c71
                    by_cases c72 : (rd ((rd_T84 l0_3 x5_2).f1) x6_3) < (l0_1.length : Int)
                    · rw [if_pos c72] at H
                      have c72b0 := decide_eq_true c72
                      clear c72
                      by_cases c73 : x3_3.size + ((rd_T81 l0_1 (rd ((rd_T84 l0_3 x5_2).f1) x6_3)).f0).size ≤ 9223372036854775807
                      · rw [if_pos c73] at H
                        have c73b0 := eq_true c73
                        have c73b1 := decide_eq_true c73
                        try have c73b2 : (9223372036854775807 < x3_3.size + ((rd_T81 l0_1 (rd ((rd_T84 l0_3 x5_2).f1) x6_3)).f0).size) = False := eq_false (Nat.not_lt.2 c73)
                        have H' := ak_ H
                        clear H
                        obtain ⟨hcz74_0, hcz74_1, hcz74_2, hcz74_3, hfz74_0, hfz74_1, hfz74_2, hfz74_3⟩ := bcf4 BK101.out
                        have p118 : 0 ≤ (x5_2 : Int) := of_decide_eq_true z4_
                        have q118 : x5_2 < (l0_3.length : Int) := of_decide_eq_true z4_
                        obtain ⟨ad118, A118_1, c118_1, e118, hx118_0, hx118_1, hl118_1, hi118_1⟩ := at_T84 HR0_3.out x5_2 p118 q118
                        obtain rfl : ad117 = ad118 := (by injection e118)
                        replace hx118_0 := oc_ HB.out hx118_0
                        replace hx118_1 := oc_ HB.out hx118_1
                        have HR118_1 := ak_ hi118_1
                        have HC118_1 := ak_ hl118_1
                        clear hi118_1 hl118_1
                        replace p118 := eq_true p118
                        replace q118 := eq_true q118
                        try go_wp2
                        have n_ := a2_ (blk_drew BK101.out) (below_drew1 HB.out)
                        clear BK101 HB
                        obtain ⟨BK101, HB⟩ := n_
                        have p122 : 0 ≤ (x5_2 : Int) := of_decide_eq_true z4_
                        have q122 : x5_2 < (l0_3.length : Int) := of_decide_eq_true z4_
                        obtain ⟨ad122, A122_1, c122_1, e122, hx122_0, hx122_1, hl122_1, hi122_1⟩ := at_T84 HR0_3.out x5_2 p122 q122
                        have hw122_1 := hx122_1
                        have hw122_0 := hx122_0
                        obtain rfl : ad117 = ad122 := (by injection e122)
                        replace hx122_0 := oc_ HB.out hx122_0
                        replace hx122_1 := oc_ HB.out hx122_1
                        have HR122_1 := ak_ hi122_1
                        have HC122_1 := ak_ hl122_1
                        clear hi122_1 hl122_1
                        replace p122 := eq_true p122
                        replace q122 := eq_true q122
                        have p123 : 0 ≤ (x6_3 : Int) := of_decide_eq_true z4_
                        have q123 : x6_3 < (((rd_T84 l0_3 x5_2).f1).length : Int) := of_decide_eq_true z4_
                        obtain ⟨ad123, e123, hx123_0⟩ := Kd.at_int HR122_1.out x6_3 p123 q123
                        have hw123_0 := hx123_0
                        cases e123
                        replace hx123_0 := oc_ HB.out hx123_0
                        replace p123 := eq_true p123
                        replace q123 := eq_true q123
                        have p124 : 0 ≤ ((rd ((rd_T84 l0_3 x5_2).f1) x6_3) : Int) := of_decide_eq_true z4_
                        have q124 : (rd ((rd_T84 l0_3 x5_2).f1) x6_3) < (l0_1.length : Int) := of_decide_eq_true z4_
                        obtain ⟨ad124, e124, hx124_0, hx124_1, hx124_2⟩ := at_T81 HR0_1.out (rd ((rd_T84 l0_3 x5_2).f1) x6_3) p124 q124
                        have hw124_2 := hx124_2
                        have hw124_1 := hx124_1
                        have hw124_0 := hx124_0
                        cases e124
                        replace hx124_0 := oc_ HB.out hx124_0
                        replace hx124_1 := oc_ HB.out hx124_1
                        replace hx124_2 := oc_ HB.out hx124_2
                        replace p124 := eq_true p124
                        replace q124 := eq_true q124
                        refine start_ (n := 17) (S := fun w' => w'.cell? ⟨gb101, 0, none⟩ = some (.string a0_0) ∧ w'.cell? ⟨gb101, 1, none⟩ = some (.slice (some ad124) l0_1.length c0_1) ∧ w'.cell? ⟨gb101, 2, none⟩ = some (.int .i64 a0_2) ∧ w'.cell? ⟨gb101, 3, none⟩ = some (.slice (some ad117) l0_3.length c0_3) ∧ w'.cell? (ad117.add ((x5_2).toNat * 2)) = some (.string ((rd_T84 l0_3 x5_2).f0)) ∧ w'.cell? ⟨(ad117.add ((x5_2).toNat * 2)).block, (ad117.add ((x5_2).toNat * 2)).off + 1, none⟩ = some (.slice (some ad123) ((rd_T84 l0_3 x5_2).f1).length c122_1) ∧ w'.cell? (ad123.add (x6_3).toNat) = some (.int .i64 (rd ((rd_T84 l0_3 x5_2).f1) x6_3)) ∧ w'.cell? (ad124.add (((rd ((rd_T84 l0_3 x5_2).f1) x6_3)).toNat * 3)) = some (.string ((rd_T81 l0_1 (rd ((rd_T84 l0_3 x5_2).f1) x6_3)).f0)) ∧ w'.cell? ⟨(ad124.add (((rd ((rd_T84 l0_3 x5_2).f1) x6_3)).toNat * 3)).block, (ad124.add (((rd ((rd_T84 l0_3 x5_2).f1) x6_3)).toNat * 3)).off + 1, none⟩ = some (.int .i64 ((rd_T81 l0_1 (rd ((rd_T84 l0_3 x5_2).f1) x6_3)).f1)) ∧ w'.cell? ⟨(ad124.add (((rd ((rd_T84 l0_3 x5_2).f1) x6_3)).toNat * 3)).block, (ad124.add (((rd ((rd_T84 l0_3 x5_2).f1) x6_3)).toNat * 3)).off + 2, none⟩ = some (.bool ((rd_T81 l0_1 (rd ((rd_T84 l0_3 x5_2).f1) x6_3)).f2))) (ds := []) #[false, false, false, false, false, false, false, false, false, false, false, false, false, false, false, false, false] (by kernel_rfl) rfl rfl ⟨(blk_cell BK101.out 0).trans rfl, (blk_cell BK101.out 1).trans rfl, (blk_cell BK101.out 2).trans rfl, (blk_cell BK101.out 3).trans rfl, (oc_ HB.out hw122_0 :), (oc_ HB.out hw122_1 :), (oc_ HB.out hw123_0 :), (oc_ HB.out hw124_0 :), (oc_ HB.out hw124_1 :), (oc_ HB.out hw124_2 :)⟩ (fun hHeld => ?_); refine with_tabW spec_l09Text.tab20 spec_l09Text.bits20 (fun HT_ HW_ => ?_)
                        generalize wr.drew = w75 at BK101 HB HR122_1 hx122_0 hx122_1 hx123_0 hx124_0 hx124_1 hx124_2 hHeld ⊢
                        refine pu_ 0 (N := some 86) #[true, false, false, false, false, false, false, false, false, false, false, false, false, false, false, false, false] HT_.out (h_ := ?_)
                        refine pu_ 1 (N := some 87) #[true, true, false, false, false, false, false, false, false, false, false, false, false, false, false, false, false] HT_.out (h_ := ?_)
                        refine pu_ 3 (N := some 89) #[true, true, false, true, false, false, false, false, false, false, false, false, false, false, false, false, false] HT_.out (h_ := ?_)
                        refine pu_ 5 (N := some 91) #[true, true, false, true, false, true, false, false, false, false, false, false, false, false, false, false, false] HT_.out (h_ := ?_)
                        refine pu_ 9 (N := some 95) #[true, true, false, true, false, true, false, false, false, true, false, false, false, false, false, false, false] HT_.out (h_ := ?_)
                        refine tk_ 2 (N := some 88) #[true, true, true, true, false, true, false, false, false, true, false, false, false, false, false, false, false] HT_.out HW_.out hHeld (hy := by rintro w' ⟨s0, s1, s2, s3, s4, s5, s6, s7, s8, s9⟩; go_simp; with_reducible rfl) (h_ := ?_)
                        refine tk_ 4 (N := some 90) #[true, true, true, true, true, true, false, false, false, true, false, false, false, false, false, false, false] HT_.out HW_.out hHeld (hy := by rintro w' ⟨s0, s1, s2, s3, s4, s5, s6, s7, s8, s9⟩; go_simp; with_reducible rfl) (h_ := ?_)
                        refine pu_ 6 (N := some 92) #[true, true, true, true, true, true, true, false, false, true, false, false, false, false, false, false, false] HT_.out (h_ := ?_)
                        refine pu_ 7 (N := some 93) #[true, true, true, true, true, true, true, true, false, true, false, false, false, false, false, false, false] HT_.out (h_ := ?_)
                        refine tk_ 8 (N := some 94) #[true, true, true, true, true, true, true, true, true, true, false, false, false, false, false, false, false] HT_.out HW_.out hHeld (hy := by rintro w' ⟨s0, s1, s2, s3, s4, s5, s6, s7, s8, s9⟩; go_simp; with_reducible rfl) (h_ := ?_)
                        refine pu_ 10 (N := some 96) #[true, true, true, true, true, true, true, true, true, true, true, false, false, false, false, false, false] HT_.out (h_ := ?_)
                        refine tk_ 11 (N := some 97) #[true, true, true, true, true, true, true, true, true, true, true, true, false, false, false, false, false] HT_.out HW_.out hHeld (hy := by rintro w' ⟨s0, s1, s2, s3, s4, s5, s6, s7, s8, s9⟩; go_simp; with_reducible rfl) (h_ := ?_)
                        refine pu_ 12 (N := some 98) #[true, true, true, true, true, true, true, true, true, true, true, true, true, false, false, false, false] HT_.out (h_ := ?_)
                        refine pu_ 13 (N := some 99) #[true, true, true, true, true, true, true, true, true, true, true, true, true, true, false, false, false] HT_.out (h_ := ?_)
                        refine tk_ 14 (N := some 100) #[true, true, true, true, true, true, true, true, true, true, true, true, true, true, true, false, false] HT_.out HW_.out hHeld (hy := by rintro w' ⟨s0, s1, s2, s3, s4, s5, s6, s7, s8, s9⟩; go_simp; with_reducible rfl) (h_ := ?_)
                        refine pu_ 15 (N := some 101) #[true, true, true, true, true, true, true, true, true, true, true, true, true, true, true, true, false] HT_.out (h_ := ?_)
                        refine pu_ 16 (N := some 3) #[true, true, true, true, true, true, true, true, true, true, true, true, true, true, true, true, true] HT_.out (h_ := ?_)
                        refine done_ (done_of HT_.out (by kernel_rfl)) ?_
                        try go_wp2
                        go_roundg k3
                        case measure => have := HK1.out; have := HK2.out; have := HK3.out; omega
                        case rel => exact ⟨(x3_3 ++ ((rd_T81 l0_1 (rd ((rd_T84 l0_3 x5_2).f1) x6_3)).f0)), (wrap64 (x6_3 + 1)), z9_, z9_, H', ⟨by have := HK1.out; have := HK2.out; have := HK3.out; omega⟩, ⟨z2_⟩, ⟨z0_⟩⟩
                      · rw [if_neg c73] at H
                        exact absurd H (by simp)
                    · rw [if_neg c72] at H
                      exact absurd H (by simp)
                  · rw [if_neg c71] at H
                    exact absurd H (by simp)
                · rw [if_neg c70] at H
                  exact absurd H (by simp)
              rw [if_pos c62] at H
              have c62b0 : decide (0 < x6_3) = true := decide_eq_true c62
              clear c62
              by_cases c63 : x3_3.size + 2 ≤ 9223372036854775807
              rotate_left
              · rw [if_neg c63] at H
                exact absurd H (by simp)
              rw [if_pos c63] at H
              have c63b0 := eq_true c63
              have c63b1 := decide_eq_true c63
              try have c63b2 : (9223372036854775807 < x3_3.size + 2) = False := eq_false (Nat.not_lt.2 c63)
              by_cases c64 : 0 ≤ x6_3
              rotate_left
              · rw [if_neg c64] at H
                exact absurd H (by simp)
              rw [if_pos c64] at H
              have c64b0 := decide_eq_true c64
              clear c64
              by_cases c65 : 0 ≤ (rd ((rd_T84 l0_3 x5_2).f1) x6_3)
              rotate_left
              · rw [if_neg c65] at H
                exact absurd H (by simp)
              rw [if_pos c65] at H
              have c65b0 := decide_eq_true c65
              clear c65
              by_cases c66 : (rd ((rd_T84 l0_3 x5_2).f1) x6_3) < (l0_1.length : Int)
              rotate_left
              · rw [if_neg c66] at H
                exact absurd H (by simp)
              rw [if_pos c66] at H
              have c66b0 := decide_eq_true c66
              clear c66
              by_cases c67 : (x3_3 ++ (⟨#[44, 32]⟩ : ByteArray)).size + ((rd_T81 l0_1 (rd ((rd_T84 l0_3 x5_2).f1) x6_3)).f0).size ≤ 9223372036854775807
              rotate_left
              · rw [if_neg c67] at H
                exact absurd H (by simp)
              rw [if_pos c67] at H
              have c67b0 := eq_true c67
              have c67b1 := decide_eq_true c67
              try have c67b2 : (9223372036854775807 < (x3_3 ++ (⟨#[44, 32]⟩ : ByteArray)).size + ((rd_T81 l0_1 (rd ((rd_T84 l0_3 x5_2).f1) x6_3)).f0).size) = False := eq_false (Nat.not_lt.2 c67)
              try have c67b3 : (9223372036854775807 < x3_3.size + 2 + ((rd_T81 l0_1 (rd ((rd_T84 l0_3 x5_2).f1) x6_3)).f0).size) = False := eq_false (by have z_ := c67; simp only [ByteArray.size_append] at z_; exact Nat.not_lt.2 z_)
              have H' := ak_ H
              clear H
              obtain ⟨hcz68_0, hcz68_1, hcz68_2, hcz68_3, hfz68_0, hfz68_1, hfz68_2, hfz68_3⟩ := bcf4 BK101.out
              have p118 : 0 ≤ (x5_2 : Int) := of_decide_eq_true z4_
              have q118 : x5_2 < (l0_3.length : Int) := of_decide_eq_true z4_
              obtain ⟨ad118, A118_1, c118_1, e118, hx118_0, hx118_1, hl118_1, hi118_1⟩ := at_T84 HR0_3.out x5_2 p118 q118
              obtain rfl : ad117 = ad118 := (by injection e118)
              replace hx118_0 := oc_ HB.out hx118_0
              replace hx118_1 := oc_ HB.out hx118_1
              have HR118_1 := ak_ hi118_1
              have HC118_1 := ak_ hl118_1
              clear hi118_1 hl118_1
              replace p118 := eq_true p118
              replace q118 := eq_true q118
              try go_wp2
              have n_ := a2_ (blk_drew BK101.out) (below_drew1 HB.out)
              clear BK101 HB
              obtain ⟨BK101, HB⟩ := n_
              have p119 : 0 ≤ (x5_2 : Int) := of_decide_eq_true z4_
              have q119 : x5_2 < (l0_3.length : Int) := of_decide_eq_true z4_
              obtain ⟨ad119, A119_1, c119_1, e119, hx119_0, hx119_1, hl119_1, hi119_1⟩ := at_T84 HR0_3.out x5_2 p119 q119
              have hw119_1 := hx119_1
              have hw119_0 := hx119_0
              obtain rfl : ad117 = ad119 := (by injection e119)
              replace hx119_0 := oc_ HB.out hx119_0
              replace hx119_1 := oc_ HB.out hx119_1
              have HR119_1 := ak_ hi119_1
              have HC119_1 := ak_ hl119_1
              clear hi119_1 hl119_1
              replace p119 := eq_true p119
              replace q119 := eq_true q119
              have p120 : 0 ≤ (x6_3 : Int) := of_decide_eq_true z4_
              have q120 : x6_3 < (((rd_T84 l0_3 x5_2).f1).length : Int) := of_decide_eq_true z4_
              obtain ⟨ad120, e120, hx120_0⟩ := Kd.at_int HR119_1.out x6_3 p120 q120
              have hw120_0 := hx120_0
              cases e120
              replace hx120_0 := oc_ HB.out hx120_0
              replace p120 := eq_true p120
              replace q120 := eq_true q120
              have p121 : 0 ≤ ((rd ((rd_T84 l0_3 x5_2).f1) x6_3) : Int) := of_decide_eq_true z4_
              have q121 : (rd ((rd_T84 l0_3 x5_2).f1) x6_3) < (l0_1.length : Int) := of_decide_eq_true z4_
              obtain ⟨ad121, e121, hx121_0, hx121_1, hx121_2⟩ := at_T81 HR0_1.out (rd ((rd_T84 l0_3 x5_2).f1) x6_3) p121 q121
              have hw121_2 := hx121_2
              have hw121_1 := hx121_1
              have hw121_0 := hx121_0
              cases e121
              replace hx121_0 := oc_ HB.out hx121_0
              replace hx121_1 := oc_ HB.out hx121_1
              replace hx121_2 := oc_ HB.out hx121_2
              replace p121 := eq_true p121
              replace q121 := eq_true q121
              refine start_ (n := 17) (S := fun w' => w'.cell? ⟨gb101, 0, none⟩ = some (.string a0_0) ∧ w'.cell? ⟨gb101, 1, none⟩ = some (.slice (some ad121) l0_1.length c0_1) ∧ w'.cell? ⟨gb101, 2, none⟩ = some (.int .i64 a0_2) ∧ w'.cell? ⟨gb101, 3, none⟩ = some (.slice (some ad117) l0_3.length c0_3) ∧ w'.cell? (ad117.add ((x5_2).toNat * 2)) = some (.string ((rd_T84 l0_3 x5_2).f0)) ∧ w'.cell? ⟨(ad117.add ((x5_2).toNat * 2)).block, (ad117.add ((x5_2).toNat * 2)).off + 1, none⟩ = some (.slice (some ad120) ((rd_T84 l0_3 x5_2).f1).length c119_1) ∧ w'.cell? (ad120.add (x6_3).toNat) = some (.int .i64 (rd ((rd_T84 l0_3 x5_2).f1) x6_3)) ∧ w'.cell? (ad121.add (((rd ((rd_T84 l0_3 x5_2).f1) x6_3)).toNat * 3)) = some (.string ((rd_T81 l0_1 (rd ((rd_T84 l0_3 x5_2).f1) x6_3)).f0)) ∧ w'.cell? ⟨(ad121.add (((rd ((rd_T84 l0_3 x5_2).f1) x6_3)).toNat * 3)).block, (ad121.add (((rd ((rd_T84 l0_3 x5_2).f1) x6_3)).toNat * 3)).off + 1, none⟩ = some (.int .i64 ((rd_T81 l0_1 (rd ((rd_T84 l0_3 x5_2).f1) x6_3)).f1)) ∧ w'.cell? ⟨(ad121.add (((rd ((rd_T84 l0_3 x5_2).f1) x6_3)).toNat * 3)).block, (ad121.add (((rd ((rd_T84 l0_3 x5_2).f1) x6_3)).toNat * 3)).off + 2, none⟩ = some (.bool ((rd_T81 l0_1 (rd ((rd_T84 l0_3 x5_2).f1) x6_3)).f2))) (ds := []) #[false, false, false, false, false, false, false, false, false, false, false, false, false, false, false, false, false] (by kernel_rfl) rfl rfl ⟨(blk_cell BK101.out 0).trans rfl, (blk_cell BK101.out 1).trans rfl, (blk_cell BK101.out 2).trans rfl, (blk_cell BK101.out 3).trans rfl, (oc_ HB.out hw119_0 :), (oc_ HB.out hw119_1 :), (oc_ HB.out hw120_0 :), (oc_ HB.out hw121_0 :), (oc_ HB.out hw121_1 :), (oc_ HB.out hw121_2 :)⟩ (fun hHeld => ?_); refine with_tabW spec_l09Text.tab20 spec_l09Text.bits20 (fun HT_ HW_ => ?_)
              generalize wr.drew = w69 at BK101 HB HR119_1 hx119_0 hx119_1 hx120_0 hx121_0 hx121_1 hx121_2 hHeld ⊢
              refine pu_ 0 (N := some 86) #[true, false, false, false, false, false, false, false, false, false, false, false, false, false, false, false, false] HT_.out (h_ := ?_)
              refine pu_ 1 (N := some 87) #[true, true, false, false, false, false, false, false, false, false, false, false, false, false, false, false, false] HT_.out (h_ := ?_)
              refine pu_ 3 (N := some 89) #[true, true, false, true, false, false, false, false, false, false, false, false, false, false, false, false, false] HT_.out (h_ := ?_)
              refine pu_ 5 (N := some 91) #[true, true, false, true, false, true, false, false, false, false, false, false, false, false, false, false, false] HT_.out (h_ := ?_)
              refine pu_ 9 (N := some 95) #[true, true, false, true, false, true, false, false, false, true, false, false, false, false, false, false, false] HT_.out (h_ := ?_)
              refine tk_ 2 (N := some 88) #[true, true, true, true, false, true, false, false, false, true, false, false, false, false, false, false, false] HT_.out HW_.out hHeld (hy := by rintro w' ⟨s0, s1, s2, s3, s4, s5, s6, s7, s8, s9⟩; go_simp; with_reducible rfl) (h_ := ?_)
              refine tk_ 4 (N := some 90) #[true, true, true, true, true, true, false, false, false, true, false, false, false, false, false, false, false] HT_.out HW_.out hHeld (hy := by rintro w' ⟨s0, s1, s2, s3, s4, s5, s6, s7, s8, s9⟩; go_simp; with_reducible rfl) (h_ := ?_)
              refine pu_ 6 (N := some 92) #[true, true, true, true, true, true, true, false, false, true, false, false, false, false, false, false, false] HT_.out (h_ := ?_)
              refine pu_ 7 (N := some 93) #[true, true, true, true, true, true, true, true, false, true, false, false, false, false, false, false, false] HT_.out (h_ := ?_)
              refine tk_ 8 (N := some 94) #[true, true, true, true, true, true, true, true, true, true, false, false, false, false, false, false, false] HT_.out HW_.out hHeld (hy := by rintro w' ⟨s0, s1, s2, s3, s4, s5, s6, s7, s8, s9⟩; go_simp; with_reducible rfl) (h_ := ?_)
              refine pu_ 10 (N := some 96) #[true, true, true, true, true, true, true, true, true, true, true, false, false, false, false, false, false] HT_.out (h_ := ?_)
              refine tk_ 11 (N := some 97) #[true, true, true, true, true, true, true, true, true, true, true, true, false, false, false, false, false] HT_.out HW_.out hHeld (hy := by rintro w' ⟨s0, s1, s2, s3, s4, s5, s6, s7, s8, s9⟩; go_simp; with_reducible rfl) (h_ := ?_)
              refine pu_ 12 (N := some 98) #[true, true, true, true, true, true, true, true, true, true, true, true, true, false, false, false, false] HT_.out (h_ := ?_)
              refine pu_ 13 (N := some 99) #[true, true, true, true, true, true, true, true, true, true, true, true, true, true, false, false, false] HT_.out (h_ := ?_)
              refine tk_ 14 (N := some 100) #[true, true, true, true, true, true, true, true, true, true, true, true, true, true, true, false, false] HT_.out HW_.out hHeld (hy := by rintro w' ⟨s0, s1, s2, s3, s4, s5, s6, s7, s8, s9⟩; go_simp; with_reducible rfl) (h_ := ?_)
              refine pu_ 15 (N := some 101) #[true, true, true, true, true, true, true, true, true, true, true, true, true, true, true, true, false] HT_.out (h_ := ?_)
              refine pu_ 16 (N := some 3) #[true, true, true, true, true, true, true, true, true, true, true, true, true, true, true, true, true] HT_.out (h_ := ?_)
              refine done_ (done_of HT_.out (by kernel_rfl)) ?_
              try go_wp2
              go_roundg k3
              case measure => have := HK1.out; have := HK2.out; have := HK3.out; omega
              case rel => exact ⟨((x3_3 ++ (⟨#[44, 32]⟩ : ByteArray)) ++ ((rd_T81 l0_1 (rd ((rd_T84 l0_3 x5_2).f1) x6_3)).f0)), (wrap64 (x6_3 + 1)), z9_, z9_, H', ⟨by have := HK1.out; have := HK2.out; have := HK3.out; omega⟩, ⟨z2_⟩, ⟨z0_⟩⟩
end Go.Proofs.YtjknmljdnolilaaGreatDoor.X
