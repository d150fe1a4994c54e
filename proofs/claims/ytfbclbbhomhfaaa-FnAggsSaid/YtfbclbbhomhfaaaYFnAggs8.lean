/- Contracts of functions, and what is told of them. -/
import Derived.Test.YtfbclbbhomhfaaaYFnAggs7
set_option maxHeartbeats 8000000
set_option maxRecDepth 100000
-- WRITTEN BY xprint.py, a program of this session, over the translation of the seat. Lean checks it.
namespace Go.Proofs.Ytfbclbbhomhfaaa.X
open Go.RowKit Go.Proofs.YtfbclbbhomhfaaaW.PrintWords Go.Proofs.YtfbclbbhomhfaaaW.PrintLast Go.Proofs.YtfbclbbhomhfaaaW.PrintMore
attribute [local go_sem] max2_int min2_int max_two min_two max_three min_three max_four min_four
set_option linter.unusedVariables false
set_option linter.unusedSimpArgs false

attribute [local go_sem high] eqA24
/-! ### laws_FnAggs: function 4 -/
mutual
def laws_FnAggs.j0 : Nat → List Int → List Int → Bool → Option (Bool)
 | 0, _, _, _ => none
 | k + 1, x0, x1, x32 => if x32 = true then (some true) else ((spec_RowsOf.f k x0).bind fun t101 => (laws_FnAggs.l0 k x1 t101 (([] : List (S24))) (([] : List (S24))) 0))
def laws_FnAggs.l0 : Nat → List Int → List (List (S24)) → List (S24) → List (S24) → Int → Option (Bool)
 | 0, _, _, _, _, _ => none
 | k + 1, x1, x5, x6, x7, x8 => if x8 < (x5.length : Int) then (if 0 ≤ x8 then (if 0 < ((rd_L4 x5 x8).length : Int) then (if ((rd_T24 (rd_L4 x5 x8) 0).f0) = 2 then (if ((rd_T24 (rd_L4 x5 x8) 0).f1) > 1000000 then (if x6.length < 4398046511104 then ((some (([(⟨0, 0, (⟨#[]⟩ : ByteArray)⟩ : S24)] : List (S24)) : List (S24))).bind fun y116 => (if y116.length + x7.length < 4398046511104 then (laws_FnAggs.l0 k x1 x5 (x6 ++ [(⟨0, 0, (⟨#[]⟩ : ByteArray)⟩ : S24)]) (y116 ++ x7) (wrap64 (x8 + 1))) else (none))) else (none)) else (if ((rd_T24 (rd_L4 x5 x8) 0).f1) < (-1000000) then (if x6.length < 4398046511104 then ((some (([(⟨0, 0, (⟨#[]⟩ : ByteArray)⟩ : S24)] : List (S24)) : List (S24))).bind fun y125 => (if y125.length + x7.length < 4398046511104 then (laws_FnAggs.l0 k x1 x5 (x6 ++ [(⟨0, 0, (⟨#[]⟩ : ByteArray)⟩ : S24)]) (y125 ++ x7) (wrap64 (x8 + 1))) else (none))) else (none)) else (if x6.length < 4398046511104 then ((some (([(⟨(rd_T24 (rd_L4 x5 x8) 0).f0, (rd_T24 (rd_L4 x5 x8) 0).f1, (rd_T24 (rd_L4 x5 x8) 0).f2⟩ : S24)] : List (S24)) : List (S24))).bind fun y134 => (if y134.length + x7.length < 4398046511104 then (laws_FnAggs.l0 k x1 x5 (x6 ++ [(⟨(rd_T24 (rd_L4 x5 x8) 0).f0, (rd_T24 (rd_L4 x5 x8) 0).f1, (rd_T24 (rd_L4 x5 x8) 0).f2⟩ : S24)]) (y134 ++ x7) (wrap64 (x8 + 1))) else (none))) else (none)))) else (if ((rd_T24 (rd_L4 x5 x8) 0).f0) = 0 then (if ((rd_T24 (rd_L4 x5 x8) 0).f1) > 1000000 then (if x6.length < 4398046511104 then ((some (([(⟨0, 0, (⟨#[]⟩ : ByteArray)⟩ : S24)] : List (S24)) : List (S24))).bind fun y143 => (if y143.length + x7.length < 4398046511104 then (laws_FnAggs.l0 k x1 x5 (x6 ++ [(⟨0, 0, (⟨#[]⟩ : ByteArray)⟩ : S24)]) (y143 ++ x7) (wrap64 (x8 + 1))) else (none))) else (none)) else (if ((rd_T24 (rd_L4 x5 x8) 0).f1) < (-1000000) then (if x6.length < 4398046511104 then ((some (([(⟨0, 0, (⟨#[]⟩ : ByteArray)⟩ : S24)] : List (S24)) : List (S24))).bind fun y152 => (if y152.length + x7.length < 4398046511104 then (laws_FnAggs.l0 k x1 x5 (x6 ++ [(⟨0, 0, (⟨#[]⟩ : ByteArray)⟩ : S24)]) (y152 ++ x7) (wrap64 (x8 + 1))) else (none))) else (none)) else (if x6.length < 4398046511104 then ((some (([(⟨(rd_T24 (rd_L4 x5 x8) 0).f0, (rd_T24 (rd_L4 x5 x8) 0).f1, (rd_T24 (rd_L4 x5 x8) 0).f2⟩ : S24)] : List (S24)) : List (S24))).bind fun y161 => (if y161.length + x7.length < 4398046511104 then (laws_FnAggs.l0 k x1 x5 (x6 ++ [(⟨(rd_T24 (rd_L4 x5 x8) 0).f0, (rd_T24 (rd_L4 x5 x8) 0).f1, (rd_T24 (rd_L4 x5 x8) 0).f2⟩ : S24)]) (y161 ++ x7) (wrap64 (x8 + 1))) else (none))) else (none)))) else (if x6.length < 4398046511104 then ((some (([(⟨0, 0, (⟨#[]⟩ : ByteArray)⟩ : S24)] : List (S24)) : List (S24))).bind fun y170 => (if y170.length + x7.length < 4398046511104 then (laws_FnAggs.l0 k x1 x5 (x6 ++ [(⟨0, 0, (⟨#[]⟩ : ByteArray)⟩ : S24)]) (y170 ++ x7) (wrap64 (x8 + 1))) else (none))) else (none)))) else (none)) else (none)) else (laws_FnAggs.l1 k x1 x6 x7 (([(⟨#[99, 111, 117, 110, 116]⟩ : ByteArray), (⟨#[115, 117, 109]⟩ : ByteArray), (⟨#[109, 105, 110]⟩ : ByteArray), (⟨#[109, 97, 120]⟩ : ByteArray)] : List ByteArray)) 0)
def laws_FnAggs.l1 : Nat → List Int → List (S24) → List (S24) → List ByteArray → Int → Option (Bool)
 | 0, _, _, _, _, _ => none
 | k + 1, x1, x6, x7, x10, x11 => if x11 < (x10.length : Int) then (if 0 ≤ x11 then ((impl_AggValue.f k (rdOf ByteArray.empty x10 x11) x6).bind fun bt180 => ((impl_AggValue.f k (rdOf ByteArray.empty x10 x11) x7).bind fun bt186 => ((spec_AggValue.f k (rdOf ByteArray.empty x10 x11) x6).bind fun bt192 => (if bt180.2.2.2 = 0 then (if bt186.2.2.2 = 0 then (if (!(bt180.1 == bt186.1) || (!(bt180.2.1 == bt186.2.1) || (!(bt180.2.2.1.toList == bt186.2.2.1.toList)))) = true then (none) else (if (!(bt180.1 == bt192.1) || (!(bt180.2.1 == bt192.2.1) || (!(bt180.2.2.1.toList == bt192.2.2.1.toList)))) = true then (none) else (laws_FnAggs.l1 k x1 x6 x7 x10 (wrap64 (x11 + 1))))) else (none)) else (none))))) else (none)) else ((laws_at.f x1 0 (wrap64 ((x6.length : Int) + 1))).bind fun t197 => (if 0 ≤ t197 then (if t197 ≤ (x6.length : Int) then ((impl_AggValue.f k (⟨#[99, 111, 117, 110, 116]⟩ : ByteArray) (x6.take (t197 : Int).toNat)).bind fun bt202 => ((impl_AggValue.f k (⟨#[99, 111, 117, 110, 116]⟩ : ByteArray) (x6.drop (t197 : Int).toNat)).bind fun bt211 => ((impl_AggValue.f k (⟨#[99, 111, 117, 110, 116]⟩ : ByteArray) x6).bind fun bt216 => (if bt202.2.2.2 = 0 then (if bt211.2.2.2 = 0 then (if bt216.2.2.2 = 0 then (some ((wrap64 (bt202.2.1 + bt211.2.1)) == bt216.2.1)) else (none)) else (none)) else (none))))) else (none)) else (none)))
end
def laws_FnAggs.f (k : Nat) (l0 : List Int) (l1 : List Int) : Option (Bool) := if (l0.length : Int) > 1048576 then (laws_FnAggs.j0 k l0 l1 true) else (laws_FnAggs.j0 k l0 l1 (decide ((l1.length : Int) > 1048576)))
theorem laws_FnAggs.mono_l : ∀ k, (∀ y0 y1 y2, LeO (laws_FnAggs.j0 k y0 y1 y2) (laws_FnAggs.j0 (k + 1) y0 y1 y2)) ∧ (∀ y0 y1 y2 y3 y4, LeO (laws_FnAggs.l0 k y0 y1 y2 y3 y4) (laws_FnAggs.l0 (k + 1) y0 y1 y2 y3 y4)) ∧ (∀ y0 y1 y2 y3 y4, LeO (laws_FnAggs.l1 k y0 y1 y2 y3 y4) (laws_FnAggs.l1 (k + 1) y0 y1 y2 y3 y4))
 | 0 => ⟨fun _ _ _ r h => by simp [laws_FnAggs.j0] at h, fun _ _ _ _ _ r h => by simp [laws_FnAggs.l0] at h, fun _ _ _ _ _ r h => by simp [laws_FnAggs.l1] at h⟩
 | k + 1 => by
  obtain ⟨ih0, ih1, ih2⟩ := laws_FnAggs.mono_l k
  refine ⟨?_, ?_, ?_⟩
  rotate_left
  ·intro y0 y1 y2 y3 y4
   unfold laws_FnAggs.l0
   repeat' first | with_reducible (first | exact ih0 _ _ _ | exact ih1 _ _ _ _ _ | exact ih2 _ _ _ _ _ | exact impl_AggValue.mono _ _ _ | exact spec_AggValue.mono _ _ _ | exact spec_RowsOf.mono _ _ | exact LeO.refl _ | exact LeO.none _ | refine LeO.ite ?_ ?_ | refine LeO.bind ?_ (fun _ => ?_)) | exact ih0 _ _ _ | exact ih1 _ _ _ _ _ | exact ih2 _ _ _ _ _ | exact impl_AggValue.mono _ _ _ | exact spec_AggValue.mono _ _ _ | exact spec_RowsOf.mono _ _ | exact LeO.none _ | refine LeO.ite ?_ ?_ | refine LeO.bind ?_ (fun _ => ?_)
  ·intro y0 y1 y2 y3 y4
   unfold laws_FnAggs.l1
   repeat' first | with_reducible (first | exact ih0 _ _ _ | exact ih1 _ _ _ _ _ | exact ih2 _ _ _ _ _ | exact impl_AggValue.mono _ _ _ | exact spec_AggValue.mono _ _ _ | exact spec_RowsOf.mono _ _ | exact LeO.refl _ | exact LeO.none _ | refine LeO.ite ?_ ?_ | refine LeO.bind ?_ (fun _ => ?_)) | exact ih0 _ _ _ | exact ih1 _ _ _ _ _ | exact ih2 _ _ _ _ _ | exact impl_AggValue.mono _ _ _ | exact spec_AggValue.mono _ _ _ | exact spec_RowsOf.mono _ _ | exact LeO.none _ | refine LeO.ite ?_ ?_ | refine LeO.bind ?_ (fun _ => ?_)
  intro y0 y1 y2
  unfold laws_FnAggs.j0
  repeat' first | with_reducible (first | exact ih0 _ _ _ | exact ih1 _ _ _ _ _ | exact ih2 _ _ _ _ _ | exact impl_AggValue.mono _ _ _ | exact spec_AggValue.mono _ _ _ | exact spec_RowsOf.mono _ _ | exact LeO.refl _ | exact LeO.none _ | refine LeO.ite ?_ ?_ | refine LeO.bind ?_ (fun _ => ?_)) | exact ih0 _ _ _ | exact ih1 _ _ _ _ _ | exact ih2 _ _ _ _ _ | exact impl_AggValue.mono _ _ _ | exact spec_AggValue.mono _ _ _ | exact spec_RowsOf.mono _ _ | exact LeO.none _ | refine LeO.ite ?_ ?_ | refine LeO.bind ?_ (fun _ => ?_)
theorem laws_FnAggs.mono : ∀ a0 a1 k, LeO (laws_FnAggs.f k a0 a1) (laws_FnAggs.f (k + 1) a0 a1) := by
 intro a0 a1 k
 obtain ⟨ih0, ih1, ih2⟩ := laws_FnAggs.mono_l k
 unfold laws_FnAggs.f
 repeat' first
   | (with_reducible exact ih0 _ _ _)
   | (with_reducible exact ih1 _ _ _ _ _)
   | (with_reducible exact ih2 _ _ _ _ _)
   | (with_reducible exact impl_AggValue.mono _ _ _)
   | (with_reducible exact spec_AggValue.mono _ _ _)
   | (with_reducible exact spec_RowsOf.mono _ _)
   | (with_reducible exact LeO.refl _)
   | (with_reducible exact LeO.none _)
   | (with_reducible refine LeO.ite ?_ ?_)
   | (with_reducible refine LeO.bind ?_ (fun _ => ?_))
   | exact ih0 _ _ _
   | exact ih1 _ _ _ _ _
   | exact ih2 _ _ _ _ _
   | exact impl_AggValue.mono _ _ _
   | exact spec_AggValue.mono _ _ _
   | exact spec_RowsOf.mono _ _
   | exact LeO.none _
   | refine LeO.ite ?_ ?_
   | refine LeO.bind ?_ (fun _ => ?_)
theorem laws_FnAggs.calls (k : Nat) (A0 : Option Addr) (c0 : Nat) (l0 : List Int) (A1 : Option Addr) (c1 : Nat) (l1 : List Int) (r : Bool) (w : World) (hr0 : Kd.C (Kd.int .u8) w A0 l0.length l0) (hc0 : l0.length ≤ c0) (hr1 : Kd.C (Kd.int .u8) w A1 l1.length l1) (hc1 : l1.length ≤ c1) (h : laws_FnAggs.f k l0 l1 = some r) :
  Calls Try.prog 4 #[.slice A0 l0.length c0, .slice A1 l1.length c1] w fun e w' => e = .returned (.bool r) ∧ Below w.heap.size w w' := by
 have hu24 := Try.underlying24
 have HR0 := ak_ hr0
 have HC0 := ak_ hc0
 clear hr0 hc0
 have HR1 := ak_ hr1
 have HC1 := ak_ hc1
 clear hr1 hc1
 have HB := ak_ (Below.refl w.heap.size w)
 have H := h
 unfold laws_FnAggs.f at H
 clear h
 have HC3 := ak_ H
 clear H
 go_enter Try.func4, Try.ntmps4
 go_upto_region 1 with (fail)
 go_cut [32] (fun v32 wc => ∃ (kq : Nat) (x32_2 : Bool), v32 = .bool x32_2 ∧ Aside0 (laws_FnAggs.j0 kq l0 l1 x32_2 = some r) ∧ Aside0 (kq ≤ k) ∧ Aside0 (Below w.heap.size w wc))
 case first =>
  have H := HC3.out
  clear HC3
  by_cases c4 : (l0.length : Int) > 1048576
  rotate_left
  ·rw [if_neg c4] at H
   have c4b0 : decide (1048576 < (l0.length : Int)) = false := decide_eq_false c4
   have c4b1 : decide (1048576 < l0.length) = false := decide_eq_false (by omega)
   clear c4
   (first | rw [c4b0] | (simp only [i64_w, i32_w]; rw [c4b0]) | skip)
   have H' := ak_ H
   clear H
   go_wp2
   go_meet
   case rel => exact ⟨_, (decide ((l1.length : Int) > 1048576)), z12_, H', ⟨by first | omega | exact Nat.le_refl _⟩, ⟨z0_⟩⟩
  rw [if_pos c4] at H
  have c4b0 : decide (1048576 < (l0.length : Int)) = true := decide_eq_true c4
  have c4b1 : decide (1048576 < l0.length) = true := decide_eq_true (by omega)
  clear c4
  (first | rw [c4b0] | (simp only [i64_w, i32_w]; rw [c4b0]) | skip)
  have H' := ak_ H
  clear H
  go_wp2
  go_meet
  case rel => exact ⟨_, (true), z12_, H', ⟨by first | omega | exact Nat.le_refl _⟩, ⟨z0_⟩⟩
 case rest =>
  clear HC3
  try clear c1
  try clear p2
  try clear c4
  try clear c4b0
  try clear c4b1
  obtain ⟨kq, x32_2, rfl, HA, HJ2, HB⟩ := hcut
  cases kq with
  | zero => exact absurd HA.out (by simp [laws_FnAggs.j0])
  | succ kj2 =>
   have H := HA.out
   clear HA
   simp only [laws_FnAggs.j0] at H
   by_cases c5 : x32_2 = true
   ·subst c5
    have H1 : (some true) = some r := by rw [if_pos rfl] at H; exact H
    clear H
    have H := H1
    clear H1
    obtain rfl := Option.some.inj H
    go_wp2
    go_ret
    exact ⟨z10_, z0_⟩
   replace c5 := Bool.eq_false_iff.mpr c5
   subst c5
   have H1 : ((spec_RowsOf.f kj2 l0).bind fun t101 => (laws_FnAggs.l0 kj2 l1 t101 (([] : List (S24))) (([] : List (S24))) 0)) = some r := by rw [if_neg (show ¬ (false = true) by decide)] at H; exact H
   clear H
   have H := H1
   clear H1
   replace H := Option.bind_eq_some_iff.mp H
   obtain ⟨t101, A60, H⟩ := H
   have A6 := ak_ A60
   clear A60
   obtain ⟨y104, hy104⟩ : ∃ y_ : List (S24), y_ = (([] : List (S24))) := ⟨_, rfl⟩
   replace H : (laws_FnAggs.l0 kj2 l1 t101 y104 (([] : List (S24))) 0) = some r := by first | (rw [hy104]; with_reducible exact H) | (have H2_ := (Option.bind_some _ _).symm.trans H; rw [hy104]; with_reducible exact H2_) | (have H2_ := (Option.bind_some _ _).symm.trans H; with_reducible exact H2_) | with_reducible exact H | (rw [hy104]; exact H) | exact H
   have Ny104 := ak_ hy104
   clear hy104
   obtain ⟨y107, hy107⟩ : ∃ y_ : List (S24), y_ = (([] : List (S24))) := ⟨_, rfl⟩
   replace H : (laws_FnAggs.l0 kj2 l1 t101 y104 y107 0) = some r := by first | (rw [hy107]; with_reducible exact H) | (have H2_ := (Option.bind_some _ _).symm.trans H; rw [hy107]; with_reducible exact H2_) | (have H2_ := (Option.bind_some _ _).symm.trans H; with_reducible exact H2_) | with_reducible exact H | (rw [hy107]; exact H) | exact H
   have Ny107 := ak_ hy107
   clear hy107
   have H' := ak_ H
   clear H
   go_wp2_with (first | ((with_reducible refine gate_callee (f := 10) rfl ?_); refine goesL_ (some 34) rfl rfl Try.func10 (by kernel_rfl) rfl #[.slice A0 l0.length c0] rfl z3_ ?_; (with_reducible refine (spec_RowsOf.calls kj2 _ _ l0 t101 _ ?side1 ?side2 A6.out).mono ?_); (case side1 => exact cz_ ((Kd.C_below HR0.out HB.out))); (case side2 => exact HC0.out); rintro e w7 ⟨v102, rfl, ho0, hb⟩; refine ⟨_, rfl, ?_⟩; have n_ := a2_ (Kd.S_lower ho0 (below_size z0_)) (below_step z0_ hb); clear HB; obtain ⟨HO103, HB⟩ := n_; (try clear hb); (try clear hb2); (try clear hk); (try clear hi); (try clear ho0)) | ((with_reducible refine gate_dst (N := 35) rfl ?_); (try (refine gate_guard (by rfl) ?_; dsimp only)); refine Kd.R_lit k24 _ 24 ?hg (N := 35) ?hd (xs := ([] : List (S24))) (inner := []) (ok := fun _ => True) (okp := fun _ => True) ?hr ?hp (fun _ hk => hk) trivial (Below.refl _ _) (Nat.le_refl _) (by simp) ?_; (case hd => rfl); (case hg => rfl); (case hr => first | (go_simp; done) | (go_simp; rfl)); (case hp => exact (Reps.none _ _)); intro v105 w8 ho9 hb hg_ hnew_; clear hg_ hnew_; (first | rw [← Ny104.out] at ho9 | (simp only [Int.reduceToNat] at ho9; rw [← Ny104.out] at ho9)); have n_ := a3_ (Kd.S_elder' z68_ (Kd.R_base ho9) hb) (Kd.R_lower ho9 (below_size z0_)) (below_step z0_ hb); clear HO103 HB; obtain ⟨HO103, HO106, HB⟩ := n_; clear hb ho9) | ((with_reducible refine gate_dst (N := 36) rfl ?_); (try (refine gate_guard (by rfl) ?_; dsimp only)); refine Kd.R_lit k24 _ 24 ?hg (N := 36) ?hd (xs := ([] : List (S24))) (inner := []) (ok := fun _ => True) (okp := fun _ => True) ?hr ?hp (fun _ hk => hk) trivial (Below.refl _ _) (Nat.le_refl _) (by simp) ?_; (case hd => rfl); (case hg => rfl); (case hr => first | (go_simp; done) | (go_simp; rfl)); (case hp => exact (Reps.none _ _)); intro v108 w10 ho11 hb hg_ hnew_; clear hg_ hnew_; (first | rw [← Ny107.out] at ho11 | (simp only [Int.reduceToNat] at ho11; rw [← Ny107.out] at ho11)); have n_ := a4_ (Kd.S_elder' z68_ (Kd.R_base ho11) hb) (Kd.R_elder' (by (with_reducible repeat (first | apply Kd.R_alloc | apply Kd.R_drewN | apply Kd.R_drew)); exact HO106.out) (Kd.R_base ho11) hb) (Kd.R_lower (Kd.R_new' ho11 (Kd.R_lt (by (with_reducible repeat (first | apply Kd.R_alloc | apply Kd.R_drewN | apply Kd.R_drew)); exact HO106.out))) (below_size z0_)) (below_step z0_ hb); clear HO103 HO106 HB; obtain ⟨HO103, HO106, HO109, HB⟩ := n_; clear hb ho11))
   go_loopg [6, 7, 8] kj2 (fun kq v6 v7 v8 w' => ∃ (x6_2 : List (S24)) (x7_2 : List (S24)) (x8_2 : Int), v8 = .int .i64 x8_2 ∧ Aside0 (laws_FnAggs.l0 kq l1 t101 x6_2 x7_2 x8_2 = some r) ∧ Aside0 (kq ≤ kj2) ∧ Aside0 (Kd.S (Kd.slice 24 k24) 25 w' w.heap.size (fun k_ => some k_ ≠ (v6 : Value).ownBlock ∧ some k_ ≠ (v7 : Value).ownBlock) v102 t101) ∧ Aside0 (Kd.R k24 24 w' w.heap.size (fun k_ => some k_ ≠ (v7 : Value).ownBlock) v6 x6_2) ∧ Aside0 (Kd.R k24 24 w' w.heap.size (fun k_ => some k_ ≠ (v6 : Value).ownBlock) v7 x7_2) ∧ Aside0 (Below w.heap.size w w'))
   case atStart => exact ⟨(y104), (y107), (0), z12_, H', ⟨Nat.le_refl _⟩, ⟨by (with_reducible repeat (first | apply Kd.S_alloc | apply Kd.S_drewN | apply Kd.S_drew)); exact Kd.S_mono HO103.out (fun _ hk => ⟨hk.1.2, hk.2⟩)⟩, ⟨by (with_reducible repeat (first | apply Kd.R_alloc | apply Kd.R_drewN | apply Kd.R_drew)); exact Kd.R_mono HO106.out (fun _ hk => hk.2)⟩, ⟨by (with_reducible repeat (first | apply Kd.R_alloc | apply Kd.R_drewN | apply Kd.R_drew)); exact Kd.R_mono HO109.out (fun _ hk => hk.2)⟩, ⟨z0_⟩⟩
   case round =>
    clear H'
    try clear c1
    try clear p2
    try clear c4
    try clear c4b0
    try clear c4b1
    try clear c5
    try clear c10
    try clear p2
    obtain ⟨x6_2, x7_2, x8_2, rfl, HA, HK2, HO_5, HO_6, HO_7, HB⟩ := hrel
    cases gk with
    | zero => exact absurd HA.out (by simp [laws_FnAggs.l0])
    | succ k2 =>
     have H := HA.out
     clear HA
     simp only [laws_FnAggs.l0] at H
     by_cases c12 : x8_2 < (t101.length : Int)
     rotate_left
     ·rw [if_neg c12] at H
      have c12b0 := decide_eq_false c12
      clear c12
      obtain ⟨y176, hy176⟩ : ∃ y_ : List ByteArray, y_ = (([(⟨#[99, 111, 117, 110, 116]⟩ : ByteArray), (⟨#[115, 117, 109]⟩ : ByteArray), (⟨#[109, 105, 110]⟩ : ByteArray), (⟨#[109, 97, 120]⟩ : ByteArray)] : List ByteArray)) := ⟨_, rfl⟩
      replace H : (laws_FnAggs.l1 k2 l1 x6_2 x7_2 y176 0) = some r := by first | (rw [hy176]; with_reducible exact H) | (have H2_ := (Option.bind_some _ _).symm.trans H; rw [hy176]; with_reducible exact H2_) | (have H2_ := (Option.bind_some _ _).symm.trans H; with_reducible exact H2_) | with_reducible exact H | (rw [hy176]; exact H) | exact H
      have Ny176 := ak_ hy176
      clear hy176
      have H' := ak_ H
      clear H
      obtain ⟨Ao108, co108, eo108⟩ := Kd.S_slice HO_5.out
      subst eo108
      go_wp2_with (first | ((with_reducible refine gate_dst (N := 76) rfl ?_); (try (refine gate_guard (by rfl) ?_; dsimp only)); refine Kd.R_lit Kd.string _ 9 ?hg (N := 76) ?hd (xs := ([(⟨#[99, 111, 117, 110, 116]⟩ : ByteArray), (⟨#[115, 117, 109]⟩ : ByteArray), (⟨#[109, 105, 110]⟩ : ByteArray), (⟨#[109, 97, 120]⟩ : ByteArray)] : List ByteArray)) (inner := [.string (⟨#[99, 111, 117, 110, 116]⟩ : ByteArray), .string (⟨#[115, 117, 109]⟩ : ByteArray), .string (⟨#[109, 105, 110]⟩ : ByteArray), .string (⟨#[109, 97, 120]⟩ : ByteArray)]) (ok := fun _ => True) (okp := fun _ => True) ?hr ?hp (fun _ hk => hk) trivial (Below.refl _ _) (Nat.le_refl _) (by simp) ?_; (case hd => rfl); (case hg => rfl); (case hr => first | (go_simp; done) | (go_simp; rfl)); (case hp => exact (Reps.one (show Kd.M Kd.string _ _ _ (⟨#[99, 111, 117, 110, 116]⟩ : ByteArray) [.string (⟨#[99, 111, 117, 110, 116]⟩ : ByteArray)] from rfl) (Reps.one (show Kd.M Kd.string _ _ _ (⟨#[115, 117, 109]⟩ : ByteArray) [.string (⟨#[115, 117, 109]⟩ : ByteArray)] from rfl) (Reps.one (show Kd.M Kd.string _ _ _ (⟨#[109, 105, 110]⟩ : ByteArray) [.string (⟨#[109, 105, 110]⟩ : ByteArray)] from rfl) (Reps.one (show Kd.M Kd.string _ _ _ (⟨#[109, 97, 120]⟩ : ByteArray) [.string (⟨#[109, 97, 120]⟩ : ByteArray)] from rfl) (Reps.none _ _)))))); intro v177 w109 ho110 hb hg_ hnew_; clear hg_ hnew_; (first | rw [← Ny176.out] at ho110 | (simp only [Int.reduceToNat] at ho110; rw [← Ny176.out] at ho110)); have n_ := a5_ (Kd.S_below z40_ hb) (Kd.R_below z22_ hb) (Kd.R_below z14_ hb) (Kd.R_lower ho110 (below_size z0_)) (below_step z0_ hb); clear HO_5 HO_6 HO_7 HB; obtain ⟨HO_5, HO_6, HO_7, HO178, HB⟩ := n_; clear hb ho110))
      go_loopg [11] k2 (fun kq v11 w' => ∃ (x11_3 : Int), v11 = .int .i64 x11_3 ∧ Aside0 (laws_FnAggs.l1 kq l1 x6_2 x7_2 y176 x11_3 = some r) ∧ Aside0 (kq ≤ k2) ∧ Aside0 (Kd.R k24 24 w' w.heap.size (fun k_ => some k_ ≠ (u7 : Value).ownBlock) u6 x6_2) ∧ Aside0 (Kd.R k24 24 w' w.heap.size (fun k_ => some k_ ≠ (u6 : Value).ownBlock) u7 x7_2) ∧ Aside0 (Kd.R Kd.string 9 w' w.heap.size (fun _ => True) v177 y176) ∧ Aside0 (Below w.heap.size w w'))
      case atStart => exact ⟨(0), z12_, H', ⟨Nat.le_refl _⟩, ⟨z22_⟩, ⟨z14_⟩, ⟨by (with_reducible repeat (first | apply Kd.R_alloc | apply Kd.R_drewN | apply Kd.R_drew)); exact HO178.out⟩, ⟨z0_⟩⟩
      case round =>
       clear H'
       try clear c1
       try clear p1
       try clear q1
       try clear hx1
       try clear qi1
       try clear p2
       try clear c3
       try clear c4
       try clear c4b0
       try clear c4b1
       try clear c5
       try clear p6
       try clear c7
       try clear c8
       try clear c9
       try clear c10
       try clear c11
       try clear p11
       try clear q11
       try clear hx11
       try clear qi11
       try clear c12
       try clear c12b0
       try clear c13
       try clear c13b0
       try clear c14
       try clear c14b0
       try clear c14b1
       try clear c15
       try clear c15b0
       try clear c15b1
       try clear c16
       try clear c16b0
       try clear c17
       try clear c18
       try clear c30
       try clear c30b0
       try clear c31
       try clear c32
       try clear c44
       try clear c45
       try clear c55
       try clear c55b0
       try clear c55b1
       try clear c56
       try clear c56b0
       try clear c57
       try clear c58
       try clear p64
       try clear c70
       try clear c70b0
       try clear c71
       try clear c72
       try clear c84
       try clear c85
       try clear c95
       try clear c96
       try clear c110
       try clear p110
       try clear q110
       try clear hx110
       try clear hcz101_0
       try clear hcz101_1
       try clear hcz101_2
       try clear hcz103_0
       try clear hcz103_1
       try clear hcz103_2
       try clear hcz21_0
       try clear hcz21_1
       try clear hcz21_2
       try clear hcz23_0
       try clear hcz23_1
       try clear hcz23_2
       try clear hcz25_0
       try clear hcz25_1
       try clear hcz25_2
       try clear hcz35_0
       try clear hcz35_1
       try clear hcz35_2
       try clear hcz37_0
       try clear hcz37_1
       try clear hcz37_2
       try clear hcz39_0
       try clear hcz39_1
       try clear hcz39_2
       try clear hcz48_0
       try clear hcz48_1
       try clear hcz48_2
       try clear hcz50_0
       try clear hcz50_1
       try clear hcz50_2
       try clear hcz61_0
       try clear hcz61_1
       try clear hcz61_2
       try clear hcz63_0
       try clear hcz63_1
       try clear hcz63_2
       try clear hcz65_0
       try clear hcz65_1
       try clear hcz65_2
       try clear hcz75_0
       try clear hcz75_1
       try clear hcz75_2
       try clear hcz77_0
       try clear hcz77_1
       try clear hcz77_2
       try clear hcz79_0
       try clear hcz79_1
       try clear hcz79_2
       try clear hcz88_0
       try clear hcz88_1
       try clear hcz88_2
       try clear hcz90_0
       try clear hcz90_1
       try clear hcz90_2
       try clear hcz99_0
       try clear hcz99_1
       try clear hcz99_2
       try clear hfz101_0
       try clear hfz101_1
       try clear hfz101_2
       try clear hfz103_0
       try clear hfz103_1
       try clear hfz103_2
       try clear hfz21_0
       try clear hfz21_1
       try clear hfz21_2
       try clear hfz23_0
       try clear hfz23_1
       try clear hfz23_2
       try clear hfz25_0
       try clear hfz25_1
       try clear hfz25_2
       try clear hfz35_0
       try clear hfz35_1
       try clear hfz35_2
       try clear hfz37_0
       try clear hfz37_1
       try clear hfz37_2
       try clear hfz39_0
       try clear hfz39_1
       try clear hfz39_2
       try clear hfz48_0
       try clear hfz48_1
       try clear hfz48_2
       try clear hfz50_0
       try clear hfz50_1
       try clear hfz50_2
       try clear hfz61_0
       try clear hfz61_1
       try clear hfz61_2
       try clear hfz63_0
       try clear hfz63_1
       try clear hfz63_2
       try clear hfz65_0
       try clear hfz65_1
       try clear hfz65_2
       try clear hfz75_0
       try clear hfz75_1
       try clear hfz75_2
       try clear hfz77_0
       try clear hfz77_1
       try clear hfz77_2
       try clear hfz79_0
       try clear hfz79_1
       try clear hfz79_2
       try clear hfz88_0
       try clear hfz88_1
       try clear hfz88_2
       try clear hfz90_0
       try clear hfz90_1
       try clear hfz90_2
       try clear hfz99_0
       try clear hfz99_1
       try clear hfz99_2
       try clear hx110_0
       try clear hx111_0
       try clear hx111_1
       try clear hx111_2
       try clear p110
       try clear p111
       try clear p2
       try clear q110
       try clear q111
       obtain ⟨x11_3, rfl, HA, HK3, HO_6, HO_7, HO_10, HB⟩ := hrel
       cases gk with
       | zero => exact absurd HA.out (by simp [laws_FnAggs.l1])
       | succ k3 =>
        have H := HA.out
        clear HA
        simp only [laws_FnAggs.l1] at H
        by_cases c111 : x11_3 < (y176.length : Int)
        ·rw [if_pos c111] at H
         have c111b0 := decide_eq_true c111
         clear c111
         by_cases c112 : 0 ≤ x11_3
         ·rw [if_pos c112] at H
          have c112b0 := decide_eq_true c112
          clear c112
          replace H := Option.bind_eq_some_iff.mp H
          obtain ⟨⟨t180, t181, t182, t183⟩, A1130, H⟩ := H
          replace H : ((impl_AggValue.f k3 (rdOf ByteArray.empty y176 x11_3) x7_2).bind fun bt186 => ((spec_AggValue.f k3 (rdOf ByteArray.empty y176 x11_3) x6_2).bind fun bt192 => (if t183 = 0 then (if bt186.2.2.2 = 0 then (if (!(t180 == bt186.1) || (!(t181 == bt186.2.1) || (!(t182.toList == bt186.2.2.1.toList)))) = true then (none) else (if (!(t180 == bt192.1) || (!(t181 == bt192.2.1) || (!(t182.toList == bt192.2.2.1.toList)))) = true then (none) else (laws_FnAggs.l1 k3 l1 x6_2 x7_2 y176 (wrap64 (x11_3 + 1))))) else (none)) else (none)))) = some r := H
          have A113 := ak_ A1130
          clear A1130
          replace H := Option.bind_eq_some_iff.mp H
          obtain ⟨⟨t186, t187, t188, t189⟩, A1140, H⟩ := H
          replace H : ((spec_AggValue.f k3 (rdOf ByteArray.empty y176 x11_3) x6_2).bind fun bt192 => (if t183 = 0 then (if t189 = 0 then (if (!(t180 == t186) || (!(t181 == t187) || (!(t182.toList == t188.toList)))) = true then (none) else (if (!(t180 == bt192.1) || (!(t181 == bt192.2.1) || (!(t182.toList == bt192.2.2.1.toList)))) = true then (none) else (laws_FnAggs.l1 k3 l1 x6_2 x7_2 y176 (wrap64 (x11_3 + 1))))) else (none)) else (none))) = some r := H
          have A114 := ak_ A1140
          clear A1140
          replace H := Option.bind_eq_some_iff.mp H
          obtain ⟨⟨t192, t193, t194, t195⟩, A1150, H⟩ := H
          replace H : (if t183 = 0 then (if t189 = 0 then (if (!(t180 == t186) || (!(t181 == t187) || (!(t182.toList == t188.toList)))) = true then (none) else (if (!(t180 == t192) || (!(t181 == t193) || (!(t182.toList == t194.toList)))) = true then (none) else (laws_FnAggs.l1 k3 l1 x6_2 x7_2 y176 (wrap64 (x11_3 + 1))))) else (none)) else (none)) = some r := H
          have A115 := ak_ A1150
          clear A1150
          by_cases c116 : t183 = 0
          ·rw [if_pos c116] at H
           have c116b0 : (t183 == 0) = true := beq_iff_eq.mpr c116
           have c116b1 : (t183 != 0) = false := bne_eq_false_iff_eq.mpr c116
           clear c116
           by_cases c117 : t189 = 0
           ·rw [if_pos c117] at H
            have c117b0 : (t189 == 0) = true := beq_iff_eq.mpr c117
            have c117b1 : (t189 != 0) = false := bne_eq_false_iff_eq.mpr c117
            clear c117
            by_cases c118 : (!(t180 == t186) || (!(t181 == t187) || (!(t182.toList == t188.toList)))) = true
            ·rw [if_pos c118] at H
             exact absurd H (by simp)
            ·rw [if_neg c118] at H
             have c118b0 : (!(t180 == t186) || (!(t181 == t187) || (!(t182.toList == t188.toList)))) = false := by simpa using c118
             clear c118
             by_cases c119 : (!(t180 == t192) || (!(t181 == t193) || (!(t182.toList == t194.toList)))) = true
             ·rw [if_pos c119] at H
              exact absurd H (by simp)
             ·rw [if_neg c119] at H
              have c119b0 : (!(t180 == t192) || (!(t181 == t193) || (!(t182.toList == t194.toList)))) = false := by simpa using c119
              clear c119
              have H' := ak_ H
              clear H
              obtain ⟨Ao120, co120, eo120⟩ := Kd.R_slice HO_10.out
              subst eo120
              have p179 : 0 ≤ (x11_3 : Int) := of_decide_eq_true z11_
              have q179 : x11_3 < (y176.length : Int) := of_decide_eq_true z11_
              obtain ⟨ad179, e179, hx179_0⟩ := Kd.at_string (Kd.R_reads' HO_10.out).2.2 x11_3 p179 q179
              cases e179
              replace p179 := eq_true p179
              replace q179 := eq_true q179
              obtain ⟨Ao121, co121, eo121⟩ := Kd.R_slice HO_6.out
              subst eo121
              go_wp2_with (first | ((with_reducible refine gate_callee (f := 11) rfl ?_); refine goesL_ (some 89) rfl rfl Try.func11 (by kernel_rfl) rfl #[.string (rdOf ByteArray.empty y176 x11_3), .slice Ao121 x6_2.length co121] rfl z3_ ?_; (with_reducible refine (impl_AggValue.calls k3 (rdOf ByteArray.empty y176 x11_3) _ _ x6_2 t180 t181 t182 t183 _ ?side1 ?side2 A113.out).mono ?_); (case side1 => exact cz_ ((Kd.R_reads' HO_6.out).2.2)); (case side2 => exact (Kd.R_reads' HO_6.out).2.1); rintro e w122 ⟨rfl, hb⟩; refine ⟨_, rfl, ?_⟩; have n_ := a4_ (Kd.R_below z22_ hb) (Kd.R_below z14_ hb) (Kd.R_below z50_ hb) (below_step z0_ hb); clear HO_6 HO_7 HO_10 HB; obtain ⟨HO_6, HO_7, HO_10, HB⟩ := n_; (try clear hb); (try clear hb2); (try clear hk); (try clear hi)) | ((with_reducible refine gate_dst (N := 12) rfl ?_); (try (refine gate_guard (by rfl) ?_; dsimp only)); refine bx_ 12 (cs := #[.int .i64 0, .int .i64 0, .string (⟨#[]⟩ : ByteArray)]) (t := 24) (h_ := ?_); intro gb184 hg w123 hbox hb; have n_ := a7_ (Kd.R_below (Kd.R_elderB z22_ gb184 (Nat.le_of_eq hg.symm)) hb) (Kd.R_below (Kd.R_elderB z14_ gb184 (Nat.le_of_eq hg.symm)) hb) (Kd.R_below z50_ hb) (below_step z0_ hb) (hbox) ((gs_ w hg (below_size z0_))) ((gs_ w hg (below_size z0_))); clear HO_6 HO_7 HO_10 HB; obtain ⟨HO_6, HO_7, HO_10, HB, BK184, GW184, GE184⟩ := n_; clear hb hbox hg; obtain ⟨hcz124_0, hcz124_1, hcz124_2, hfz124_0, hfz124_1, hfz124_2⟩ := bcf3 BK184.out; have p185 : 0 ≤ (x11_3 : Int) := of_decide_eq_true z11_; have q185 : x11_3 < (y176.length : Int) := of_decide_eq_true z11_; obtain ⟨ad185, e185, hx185_0⟩ := Kd.at_string (Kd.R_reads' HO_10.out).2.2 x11_3 p185 q185; obtain rfl : ad179 = ad185 := (by injection e185); have hn185_0 : ad179.block ≠ gb184 := Kd.own_blk z85_; have hn185_1 : ad179.block ≠ gb184 := Kd.own_blk z85_; have hn185_2 : ad179.block ≠ gb184 := Kd.own_blk z85_; replace hx185_0 := (cell_far (p := ⟨gb184, 0, none⟩) (by first | (rw [add_block]; exact hn185_0) | (show (Addr.add _ _).block ≠ _; rw [add_block]; exact hn185_0) | exact hn185_0) (.int .i64 t180)).trans hx185_0; replace hx185_0 := (cell_far (p := ⟨gb184, 1, none⟩) (by first | (rw [add_block]; exact hn185_1) | (show (Addr.add _ _).block ≠ _; rw [add_block]; exact hn185_1) | exact hn185_1) (.int .i64 t181)).trans hx185_0; replace hx185_0 := (cell_far (p := ⟨gb184, 2, none⟩) (by first | (rw [add_block]; exact hn185_2) | (show (Addr.add _ _).block ≠ _; rw [add_block]; exact hn185_2) | exact hn185_2) (.string t182)).trans hx185_0; clear hn185_0; clear hn185_1; clear hn185_2; replace p185 := eq_true p185; replace q185 := eq_true q185; obtain ⟨Ao125, co125, eo125⟩ := Kd.R_slice HO_7.out; subst eo125) | ((with_reducible refine gate_callee (f := 11) rfl ?_); refine goesL_ (some 98) rfl rfl Try.func11 (by kernel_rfl) rfl #[.string (rdOf ByteArray.empty y176 x11_3), .slice Ao125 x7_2.length co125] rfl z3_ ?_; (with_reducible refine (impl_AggValue.calls k3 (rdOf ByteArray.empty y176 x11_3) _ _ x7_2 t186 t187 t188 t189 _ ?side1 ?side2 A114.out).mono ?_); (case side1 => refine (Kd.R_reads' (e := 24) (base := w.heap.size) (ok := fun k_ => (some k_ ≠ (.slice Ao121 x6_2.length co121 : Value).ownBlock ∧ k_ ≠ gb184)) (n := x7_2.length) (c := co125) ?_).2.2; exact z69_); (case side2 => exact (Kd.R_reads' HO_7.out).2.1); rintro e w126 ⟨rfl, hb⟩; refine ⟨_, rfl, ?_⟩; have n_ := a5_ (Kd.R_below (by (with_reducible repeat (first | apply Kd.R_alloc | apply Kd.R_drewN | apply Kd.R_drew)); exact (Kd.R_mono (Kd.R_far (p := ⟨gb184, 2, none⟩) (Kd.R_far (p := ⟨gb184, 1, none⟩) (Kd.R_far (p := ⟨gb184, 0, none⟩) (Kd.R_mono HO_6.out (fun k_ hk => (⟨hk, hk.2⟩ : _ ∧ k_ ≠ gb184))) (fun _ hk => hk.2) (.int .i64 t180)) (fun _ hk => hk.2) (.int .i64 t181)) (fun _ hk => hk.2) (.string t182)) (fun _ h_ => h_.1))) hb) (Kd.R_below z69_ hb) (Kd.R_below (by (with_reducible repeat (first | apply Kd.R_alloc | apply Kd.R_drewN | apply Kd.R_drew)); exact (Kd.R_mono (Kd.R_far (p := ⟨gb184, 2, none⟩) (Kd.R_far (p := ⟨gb184, 1, none⟩) (Kd.R_far (p := ⟨gb184, 0, none⟩) (Kd.R_types HO_10.out BK184.out (by decide)) (fun _ hk => hk.2) (.int .i64 t180)) (fun _ hk => hk.2) (.int .i64 t181)) (fun _ hk => hk.2) (.string t182)) (fun _ h_ => h_.1))) hb) (blk_below (g := gb184) (o := .cells #[.int .i64 t180, .int .i64 t181, .string t182] 24 (0, 0)) (by (with_reducible repeat (first | refine blk_drewN ?_ _ | refine blk_drew ?_ | refine blk_alloc ?_ _)); refine blk_put (cs := #[.int .i64 t180, .int .i64 t181, .string (⟨#[]⟩ : ByteArray)]) ?_ 2 _ rfl; (with_reducible repeat (first | refine blk_drewN ?_ _ | refine blk_drew ?_ | refine blk_alloc ?_ _)); refine blk_put (cs := #[.int .i64 t180, .int .i64 0, .string (⟨#[]⟩ : ByteArray)]) ?_ 1 _ rfl; (with_reducible repeat (first | refine blk_drewN ?_ _ | refine blk_drew ?_ | refine blk_alloc ?_ _)); refine blk_put (cs := #[.int .i64 0, .int .i64 0, .string (⟨#[]⟩ : ByteArray)]) ?_ 0 _ rfl; (with_reducible repeat (first | refine blk_drewN ?_ _ | refine blk_drew ?_ | refine blk_alloc ?_ _)); exact BK184.out) hb) (below_step z66_ hb); clear HO_6 HO_7 HO_10 BK184 HB; obtain ⟨HO_6, HO_7, HO_10, BK184, HB⟩ := n_; (try clear hb); (try clear hb2); (try clear hk); (try clear hi)) | ((with_reducible refine gate_dst (N := 14) rfl ?_); (try (refine gate_guard (by rfl) ?_; dsimp only)); refine bx_ 14 (cs := #[.int .i64 0, .int .i64 0, .string (⟨#[]⟩ : ByteArray)]) (t := 24) (h_ := ?_); intro gb190 hg w127 hbox hb; have n_ := a10_ (Kd.R_below (Kd.R_elderB z22_ gb190 (Nat.le_of_eq hg.symm)) hb) (Kd.R_below (Kd.R_elderB z14_ gb190 (Nat.le_of_eq hg.symm)) hb) (Kd.R_below z50_ hb) (blk_below (g := gb184) (o := .cells #[.int .i64 t180, .int .i64 t181, .string t182] 24 (0, 0)) z58_ hb) (below_step z66_ hb) (hbox) ((gs_ w hg (below_size z66_))) ((gs_ w hg (below_size z66_))) ((by rw [hg]; exact Nat.ne_of_lt (blk_lt (g := gb184) (o := .cells #[.int .i64 t180, .int .i64 t181, .string t182] 24 (0, 0)) z58_) : gb184 ≠ gb190)) ((by rw [hg]; exact Nat.ne_of_gt (blk_lt (g := gb184) (o := .cells #[.int .i64 t180, .int .i64 t181, .string t182] 24 (0, 0)) z58_) : gb190 ≠ gb184)); clear HO_6 HO_7 HO_10 BK184 HB; obtain ⟨HO_6, HO_7, HO_10, BK184, HB, BK190, GW190, GE190, NB184_190, NB190_184⟩ := n_; clear hb hbox hg; have hnb128 := NB190_184.out; have hnc128 := NB184_190.out; obtain ⟨hcz129_0, hcz129_1, hcz129_2, hfz129_0, hfz129_1, hfz129_2⟩ := bcf3 BK190.out; have p191 : 0 ≤ (x11_3 : Int) := of_decide_eq_true z11_; have q191 : x11_3 < (y176.length : Int) := of_decide_eq_true z11_; obtain ⟨ad191, e191, hx191_0⟩ := Kd.at_string (Kd.R_reads' HO_10.out).2.2 x11_3 p191 q191; obtain rfl : ad179 = ad191 := (by injection e191); have hn191_0 : ad179.block ≠ gb190 := Kd.own_blk z86_; have hn191_1 : ad179.block ≠ gb190 := Kd.own_blk z86_; have hn191_2 : ad179.block ≠ gb190 := Kd.own_blk z86_; replace hx191_0 := (cell_far (p := ⟨gb190, 0, none⟩) (by first | (rw [add_block]; exact hn191_0) | (show (Addr.add _ _).block ≠ _; rw [add_block]; exact hn191_0) | exact hn191_0) (.int .i64 t186)).trans hx191_0; replace hx191_0 := (cell_far (p := ⟨gb190, 1, none⟩) (by first | (rw [add_block]; exact hn191_1) | (show (Addr.add _ _).block ≠ _; rw [add_block]; exact hn191_1) | exact hn191_1) (.int .i64 t187)).trans hx191_0; replace hx191_0 := (cell_far (p := ⟨gb190, 2, none⟩) (by first | (rw [add_block]; exact hn191_2) | (show (Addr.add _ _).block ≠ _; rw [add_block]; exact hn191_2) | exact hn191_2) (.string t188)).trans hx191_0; clear hn191_0; clear hn191_1; clear hn191_2; replace p191 := eq_true p191; replace q191 := eq_true q191) | ((with_reducible refine gate_callee (f := 12) rfl ?_); refine goesL_ (some 107) rfl rfl Try.func12 (by kernel_rfl) rfl #[.string (rdOf ByteArray.empty y176 x11_3), .slice Ao121 x6_2.length co121] rfl z3_ ?_; (with_reducible refine (spec_AggValue.calls k3 (rdOf ByteArray.empty y176 x11_3) _ _ x6_2 t192 t193 t194 t195 _ ?side1 ?side2 A115.out).mono ?_); (case side1 => refine (Kd.R_reads' (e := 24) (base := w.heap.size) (ok := fun k_ => ((some k_ ≠ (.slice Ao125 x7_2.length co125 : Value).ownBlock ∧ k_ ≠ gb184) ∧ k_ ≠ gb190)) (n := x6_2.length) (c := co121) ?_).2.2; exact z70_); (case side2 => exact (Kd.R_reads' HO_6.out).2.1); rintro e w130 ⟨rfl, hb⟩; refine ⟨_, rfl, ?_⟩; have n_ := a6_ (Kd.R_below z70_ hb) (Kd.R_below (by (with_reducible repeat (first | apply Kd.R_alloc | apply Kd.R_drewN | apply Kd.R_drew)); exact (Kd.R_mono (Kd.R_far (p := ⟨gb190, 2, none⟩) (Kd.R_far (p := ⟨gb190, 1, none⟩) (Kd.R_far (p := ⟨gb190, 0, none⟩) (Kd.R_mono HO_7.out (fun k_ hk => (⟨hk, hk.2⟩ : _ ∧ k_ ≠ gb190))) (fun _ hk => hk.2) (.int .i64 t186)) (fun _ hk => hk.2) (.int .i64 t187)) (fun _ hk => hk.2) (.string t188)) (fun _ h_ => h_.1))) hb) (Kd.R_below (by (with_reducible repeat (first | apply Kd.R_alloc | apply Kd.R_drewN | apply Kd.R_drew)); exact (Kd.R_mono (Kd.R_far (p := ⟨gb190, 2, none⟩) (Kd.R_far (p := ⟨gb190, 1, none⟩) (Kd.R_far (p := ⟨gb190, 0, none⟩) (Kd.R_types HO_10.out BK190.out (by decide)) (fun _ hk => hk.2) (.int .i64 t186)) (fun _ hk => hk.2) (.int .i64 t187)) (fun _ hk => hk.2) (.string t188)) (fun _ h_ => h_.1))) hb) (blk_below (g := gb184) (o := .cells #[.int .i64 t180, .int .i64 t181, .string t182] 24 (0, 0)) (by (with_reducible repeat (first | refine blk_drewN ?_ _ | refine blk_drew ?_ | refine blk_alloc ?_ _)); refine blk_far ?_ NB184_190.out _; (with_reducible repeat (first | refine blk_drewN ?_ _ | refine blk_drew ?_ | refine blk_alloc ?_ _)); refine blk_far ?_ NB184_190.out _; (with_reducible repeat (first | refine blk_drewN ?_ _ | refine blk_drew ?_ | refine blk_alloc ?_ _)); refine blk_far ?_ NB184_190.out _; (with_reducible repeat (first | refine blk_drewN ?_ _ | refine blk_drew ?_ | refine blk_alloc ?_ _)); exact BK184.out) hb) (blk_below (g := gb190) (o := .cells #[.int .i64 t186, .int .i64 t187, .string t188] 24 (0, 0)) (by (with_reducible repeat (first | refine blk_drewN ?_ _ | refine blk_drew ?_ | refine blk_alloc ?_ _)); refine blk_put (cs := #[.int .i64 t186, .int .i64 t187, .string (⟨#[]⟩ : ByteArray)]) ?_ 2 _ rfl; (with_reducible repeat (first | refine blk_drewN ?_ _ | refine blk_drew ?_ | refine blk_alloc ?_ _)); refine blk_put (cs := #[.int .i64 t186, .int .i64 0, .string (⟨#[]⟩ : ByteArray)]) ?_ 1 _ rfl; (with_reducible repeat (first | refine blk_drewN ?_ _ | refine blk_drew ?_ | refine blk_alloc ?_ _)); refine blk_put (cs := #[.int .i64 0, .int .i64 0, .string (⟨#[]⟩ : ByteArray)]) ?_ 0 _ rfl; (with_reducible repeat (first | refine blk_drewN ?_ _ | refine blk_drew ?_ | refine blk_alloc ?_ _)); exact BK190.out) hb) (below_step z56_ hb); clear HO_6 HO_7 HO_10 BK184 BK190 HB; obtain ⟨HO_6, HO_7, HO_10, BK184, BK190, HB⟩ := n_; (try clear hb); (try clear hb2); (try clear hk); (try clear hi)) | ((with_reducible refine gate_dst (N := 16) rfl ?_); (try (refine gate_guard (by rfl) ?_; dsimp only)); refine bx_ 16 (cs := #[.int .i64 0, .int .i64 0, .string (⟨#[]⟩ : ByteArray)]) (t := 24) (h_ := ?_); intro gb196 hg w131 hbox hb; have n_ := a13_ (Kd.R_below (Kd.R_elderB z22_ gb196 (Nat.le_of_eq hg.symm)) hb) (Kd.R_below (Kd.R_elderB z14_ gb196 (Nat.le_of_eq hg.symm)) hb) (Kd.R_below z50_ hb) (blk_below (g := gb184) (o := .cells #[.int .i64 t180, .int .i64 t181, .string t182] 24 (0, 0)) z58_ hb) (blk_below (g := gb190) (o := .cells #[.int .i64 t186, .int .i64 t187, .string t188] 24 (0, 0)) z87_ hb) (below_step z56_ hb) (hbox) ((gs_ w hg (below_size z56_))) ((gs_ w hg (below_size z56_))) ((by rw [hg]; exact Nat.ne_of_lt (blk_lt (g := gb184) (o := .cells #[.int .i64 t180, .int .i64 t181, .string t182] 24 (0, 0)) z58_) : gb184 ≠ gb196)) ((by rw [hg]; exact Nat.ne_of_gt (blk_lt (g := gb184) (o := .cells #[.int .i64 t180, .int .i64 t181, .string t182] 24 (0, 0)) z58_) : gb196 ≠ gb184)) ((by rw [hg]; exact Nat.ne_of_lt (blk_lt (g := gb190) (o := .cells #[.int .i64 t186, .int .i64 t187, .string t188] 24 (0, 0)) z87_) : gb190 ≠ gb196)) ((by rw [hg]; exact Nat.ne_of_gt (blk_lt (g := gb190) (o := .cells #[.int .i64 t186, .int .i64 t187, .string t188] 24 (0, 0)) z87_) : gb196 ≠ gb190)); clear HO_6 HO_7 HO_10 BK184 BK190 HB; obtain ⟨HO_6, HO_7, HO_10, BK184, BK190, HB, BK196, GW196, GE196, NB184_196, NB196_184, NB190_196, NB196_190⟩ := n_; clear hb hbox hg; have hnb132 := NB196_184.out; have hnc132 := NB184_196.out; have hnb133 := NB196_190.out; have hnc133 := NB190_196.out; obtain ⟨hcz134_0, hcz134_1, hcz134_2, hfz134_0, hfz134_1, hfz134_2⟩ := bcf3 BK196.out; obtain ⟨hcz135_0, hcz135_1, hcz135_2, hfz135_0, hfz135_1, hfz135_2⟩ := bcf3 BK184.out; obtain ⟨hcz136_0, hcz136_1, hcz136_2, hfz136_0, hfz136_1, hfz136_2⟩ := bcf3 BK190.out))
              go_roundg k3
              case measure => have := HJ2.out; have := HK2.out; have := HK3.out; omega
              case rel => exact ⟨(wrap64 (x11_3 + 1)), z12_, H', ⟨by have := HJ2.out; have := HK2.out; have := HK3.out; omega⟩, ⟨by (with_reducible repeat (first | apply Kd.R_alloc | apply Kd.R_drewN | apply Kd.R_drew)); exact Kd.R_mono (Kd.R_far (p := ⟨gb196, 2, none⟩) (Kd.R_far (p := ⟨gb196, 1, none⟩) (Kd.R_far (p := ⟨gb196, 0, none⟩) (Kd.R_mono HO_6.out (fun k_ hk => (⟨hk, hk.2⟩ : _ ∧ k_ ≠ gb196))) (fun _ hk => hk.2) (.int .i64 t192)) (fun _ hk => hk.2) (.int .i64 t193)) (fun _ hk => hk.2) (.string t194)) (fun _ hk => hk.1.1.1.1)⟩, ⟨by (with_reducible repeat (first | apply Kd.R_alloc | apply Kd.R_drewN | apply Kd.R_drew)); exact Kd.R_mono (Kd.R_far (p := ⟨gb196, 2, none⟩) (Kd.R_far (p := ⟨gb196, 1, none⟩) (Kd.R_far (p := ⟨gb196, 0, none⟩) (Kd.R_mono HO_7.out (fun k_ hk => (⟨hk, hk.2⟩ : _ ∧ k_ ≠ gb196))) (fun _ hk => hk.2) (.int .i64 t192)) (fun _ hk => hk.2) (.int .i64 t193)) (fun _ hk => hk.2) (.string t194)) (fun _ hk => hk.1.1.1.1)⟩, ⟨by (with_reducible repeat (first | apply Kd.R_alloc | apply Kd.R_drewN | apply Kd.R_drew)); exact Kd.R_mono (Kd.R_far (p := ⟨gb196, 2, none⟩) (Kd.R_far (p := ⟨gb196, 1, none⟩) (Kd.R_far (p := ⟨gb196, 0, none⟩) (Kd.R_types HO_10.out BK196.out (by decide)) (fun _ hk => hk.2) (.int .i64 t192)) (fun _ hk => hk.2) (.int .i64 t193)) (fun _ hk => hk.2) (.string t194)) (fun _ hk => trivial)⟩, ⟨by repeat (first | (with_reducible first | exact HB.out | apply below_alloc | apply pw_below_drewN | apply below_drew1 | refine below_set ?_ GE184.out | refine below_set ?_ GE190.out | refine below_set ?_ GE196.out) | exact HB.out)⟩⟩
           ·rw [if_neg c117] at H
            exact absurd H (by simp)
          ·rw [if_neg c116] at H
           exact absurd H (by simp)
         ·rw [if_neg c112] at H
          exact absurd H (by simp)
        ·rw [if_neg c111] at H
         have c111b0 := decide_eq_false c111
         clear c111
         replace H := Option.bind_eq_some_iff.mp H
         obtain ⟨t197, A1370, H⟩ := H
         have A137 := ak_ A1370
         clear A1370
         by_cases c138 : 0 ≤ t197
         ·rw [if_pos c138] at H
          have c138b0 := eq_true c138
          have c138b1 := decide_eq_true c138
          clear c138
          by_cases c139 : t197 ≤ (x6_2.length : Int)
          ·rw [if_pos c139] at H
           have c139b0 := eq_true c139
           have c139b1 := decide_eq_true c139
           clear c139
           obtain ⟨y198, hy198⟩ : ∃ y_ : List (S24), y_ = (x6_2.take (t197 : Int).toNat) := ⟨_, rfl⟩
           replace H : ((impl_AggValue.f k3 (⟨#[99, 111, 117, 110, 116]⟩ : ByteArray) y198).bind fun bt202 => ((impl_AggValue.f k3 (⟨#[99, 111, 117, 110, 116]⟩ : ByteArray) (x6_2.drop (t197 : Int).toNat)).bind fun bt211 => ((impl_AggValue.f k3 (⟨#[99, 111, 117, 110, 116]⟩ : ByteArray) x6_2).bind fun bt216 => (if bt202.2.2.2 = 0 then (if bt211.2.2.2 = 0 then (if bt216.2.2.2 = 0 then (some ((wrap64 (bt202.2.1 + bt211.2.1)) == bt216.2.1)) else (none)) else (none)) else (none))))) = some r := by first | (rw [hy198]; with_reducible exact H) | (have H2_ := (Option.bind_some _ _).symm.trans H; rw [hy198]; with_reducible exact H2_) | (have H2_ := (Option.bind_some _ _).symm.trans H; with_reducible exact H2_) | with_reducible exact H | (rw [hy198]; exact H) | exact H
           have Ny198 := ak_ hy198
           clear hy198
           replace H := Option.bind_eq_some_iff.mp H
           obtain ⟨⟨t202, t203, t204, t205⟩, A1400, H⟩ := H
           replace H : ((impl_AggValue.f k3 (⟨#[99, 111, 117, 110, 116]⟩ : ByteArray) (x6_2.drop (t197 : Int).toNat)).bind fun bt211 => ((impl_AggValue.f k3 (⟨#[99, 111, 117, 110, 116]⟩ : ByteArray) x6_2).bind fun bt216 => (if t205 = 0 then (if bt211.2.2.2 = 0 then (if bt216.2.2.2 = 0 then (some ((wrap64 (t203 + bt211.2.1)) == bt216.2.1)) else (none)) else (none)) else (none)))) = some r := H
           have A140 := ak_ A1400
           clear A1400
           have c141b0 := eq_true (of_decide_eq_true z11_ : 0 ≤ t197)
           have c142b0 := eq_true (of_decide_eq_true z11_ : t197 ≤ (x6_2.length : Int))
           obtain ⟨y207, hy207⟩ : ∃ y_ : List (S24), y_ = (x6_2.drop (t197 : Int).toNat) := ⟨_, rfl⟩
           replace H : ((impl_AggValue.f k3 (⟨#[99, 111, 117, 110, 116]⟩ : ByteArray) y207).bind fun bt211 => ((impl_AggValue.f k3 (⟨#[99, 111, 117, 110, 116]⟩ : ByteArray) x6_2).bind fun bt216 => (if t205 = 0 then (if bt211.2.2.2 = 0 then (if bt216.2.2.2 = 0 then (some ((wrap64 (t203 + bt211.2.1)) == bt216.2.1)) else (none)) else (none)) else (none)))) = some r := by first | (rw [hy207]; with_reducible exact H) | (have H2_ := (Option.bind_some _ _).symm.trans H; rw [hy207]; with_reducible exact H2_) | (have H2_ := (Option.bind_some _ _).symm.trans H; with_reducible exact H2_) | with_reducible exact H | (rw [hy207]; exact H) | exact H
           have Ny207 := ak_ hy207
           clear hy207
           replace H := Option.bind_eq_some_iff.mp H
           obtain ⟨⟨t211, t212, t213, t214⟩, A1430, H⟩ := H
           replace H : ((impl_AggValue.f k3 (⟨#[99, 111, 117, 110, 116]⟩ : ByteArray) x6_2).bind fun bt216 => (if t205 = 0 then (if t214 = 0 then (if bt216.2.2.2 = 0 then (some ((wrap64 (t203 + t212)) == bt216.2.1)) else (none)) else (none)) else (none))) = some r := H
           have A143 := ak_ A1430
           clear A1430
           replace H := Option.bind_eq_some_iff.mp H
           obtain ⟨⟨t216, t217, t218, t219⟩, A1440, H⟩ := H
           replace H : (if t205 = 0 then (if t214 = 0 then (if t219 = 0 then (some ((wrap64 (t203 + t212)) == t217)) else (none)) else (none)) else (none)) = some r := H
           have A144 := ak_ A1440
           clear A1440
           by_cases c145 : t205 = 0
           ·rw [if_pos c145] at H
            have c145b0 : (t205 == 0) = true := beq_iff_eq.mpr c145
            have c145b1 : (t205 != 0) = false := bne_eq_false_iff_eq.mpr c145
            clear c145
            by_cases c146 : t214 = 0
            ·rw [if_pos c146] at H
             have c146b0 : (t214 == 0) = true := beq_iff_eq.mpr c146
             have c146b1 : (t214 != 0) = false := bne_eq_false_iff_eq.mpr c146
             clear c146
             by_cases c147 : t219 = 0
             ·rw [if_pos c147] at H
              have c147b0 : (t219 == 0) = true := beq_iff_eq.mpr c147
              have c147b1 : (t219 != 0) = false := bne_eq_false_iff_eq.mpr c147
              clear c147
              obtain rfl := Option.some.inj H
              obtain ⟨Ao148, co148, eo148⟩ := Kd.R_slice HO_10.out
              subst eo148
              obtain ⟨Ao149, co149, eo149⟩ := Kd.R_slice HO_6.out
              subst eo149
              go_wp2_with (first | ((with_reducible refine gate_callee (f := 5) rfl ?_); refine goesL_ (some 130) rfl rfl Try.func5 (by kernel_rfl) rfl #[.slice A1 l1.length c1, .int .i64 0, .int .i64 (wrap64 ((x6_2.length : Int) + 1))] rfl z3_ ?_; (with_reducible refine (laws_at.calls _ _ l1 0 (wrap64 ((x6_2.length : Int) + 1)) t197 _ ?side1 ?side2 A137.out).mono ?_); (case side1 => exact cz_ ((Kd.C_below HR1.out HB.out))); (case side2 => exact HC1.out); rintro e w' ⟨rfl, ⟨nd, rfl⟩⟩; refine ⟨_, rfl, ?_⟩; (try (rw [drewN_self wr]; generalize hq_ : World.drewN wr _ = wr; have n0_ : Aside0 (Kd.R Kd.string 9 wr w.heap.size (fun _ => True) (.slice Ao148 y176.length co148) y176) := ⟨by rw [← hq_]; exact z50_⟩; have n1_ : Aside0 (Kd.R k24 24 wr w.heap.size (fun k_ => some k_ ≠ (u7 : Value).ownBlock) (.slice Ao149 x6_2.length co149) x6_2) := ⟨by rw [← hq_]; exact z22_⟩; have n2_ : Aside0 (Kd.R k24 24 wr w.heap.size (fun k_ => some k_ ≠ (.slice Ao149 x6_2.length co149 : Value).ownBlock) u7 x7_2) := ⟨by rw [← hq_]; exact z14_⟩; have n3_ : Aside0 (Below w.heap.size w wr) := ⟨by rw [← hq_]; exact z0_⟩; clear HO_10 HO_6 HO_7 HB hq_; have HO_10 := n0_; have HO_6 := n1_; have HO_7 := n2_; have HB := n3_; clear n0_ n1_ n2_ n3_)); have q150 : (t197 : Int) ≤ ((x6_2.length : Int) : Int) := of_decide_eq_true z11_; obtain ⟨i0150, hi0150, _, hsz150, _⟩ := info_parts info24; have hroom150 : x6_2.length ≤ co149 := (Kd.R_reads' HO_6.out).2.1; have hC150 : Kd.C k24 _ Ao149 x6_2.length x6_2 := (Kd.R_reads' HO_6.out).2.2; have hcut150 := cut_to (P := Try.prog) 25 24 .i64 Try.underlying25 hi0150 Ao149 x6_2.length co149 t197 (of_decide_eq_true z11_) q150 hroom150; have hr150 := Kd.C_take (m := (t197 : Int).toNat) hC150 (by omega); have hy150 : y198.length = (t197 : Int).toNat := (by rw [Ny198.out, List.length_take]; omega); rw [← Ny198.out] at hr150; rw [← hy150] at hcut150; have HR201 := ak_ hr150; have HC201 := ak_ (show y198.length ≤ co149 from by omega); clear hr150 hC150 hroom150 hi0150 hsz150; have KY150 := ak_ hy150; clear hy150; have KL150 := ak_ (show (t197 : Int).toNat ≤ x6_2.length from by omega); replace q150 := eq_true q150) | ((with_reducible refine gate_callee (f := 11) rfl ?_); refine goesL_ (some 135) rfl rfl Try.func11 (by kernel_rfl) rfl #[.string (⟨#[99, 111, 117, 110, 116]⟩ : ByteArray), .slice Ao149 y198.length co149] rfl z3_ ?_; (with_reducible refine (impl_AggValue.calls k3 (⟨#[99, 111, 117, 110, 116]⟩ : ByteArray) _ _ y198 t202 t203 t204 t205 _ ?side1 ?side2 A140.out).mono ?_); (case side1 => repeat (first | exact z53_ | (with_reducible refine Kd.C_alloc ?_ _) | (with_reducible refine Kd.C_drewN ?_ _) | (with_reducible refine Kd.C_drew ?_))); (case side2 => exact HC201.out); rintro e w151 ⟨rfl, hb⟩; refine ⟨_, rfl, ?_⟩; have n_ := a5_ (Kd.R_below z22_ hb) (Kd.R_below z14_ hb) (Kd.R_below z50_ hb) (Kd.C_below z53_ hb) (below_step z0_ hb); clear HO_6 HO_7 HO_10 HR201 HB; obtain ⟨HO_6, HO_7, HO_10, HR201, HB⟩ := n_; (try clear hb); (try clear hb2); (try clear hk); (try clear hi)) | ((with_reducible refine gate_dst (N := 19) rfl ?_); (try (refine gate_guard (by rfl) ?_; dsimp only)); refine bx_ 19 (cs := #[.int .i64 0, .int .i64 0, .string (⟨#[]⟩ : ByteArray)]) (t := 24) (h_ := ?_); intro gb206 hg w152 hbox hb; have n_ := a8_ (Kd.R_below (Kd.R_elderB z22_ gb206 (Nat.le_of_eq hg.symm)) hb) (Kd.R_below (Kd.R_elderB z14_ gb206 (Nat.le_of_eq hg.symm)) hb) (Kd.R_below z50_ hb) (Kd.C_below z53_ hb) (below_step z0_ hb) (hbox) ((gs_ w hg (below_size z0_))) ((gs_ w hg (below_size z0_))); clear HO_6 HO_7 HO_10 HR201 HB; obtain ⟨HO_6, HO_7, HO_10, HR201, HB, BK206, GW206, GE206⟩ := n_; clear hb hbox hg; obtain ⟨hcz153_0, hcz153_1, hcz153_2, hfz153_0, hfz153_1, hfz153_2⟩ := bcf3 BK206.out; have q154 : (t197 : Int) ≤ ((x6_2.length : Int) : Int) := of_decide_eq_true z11_; obtain ⟨i0154, hi0154, _, hsz154, _⟩ := info_parts info24; have hroom154 : x6_2.length ≤ co149 := (Kd.R_reads' HO_6.out).2.1; have hC154 : Kd.C k24 _ Ao149 x6_2.length x6_2 := (Kd.R_reads' HO_6.out).2.2; have q0154 : (0 : Int) ≤ (t197 : Int) := of_decide_eq_true z11_; have hcut154 := cut_from (P := Try.prog) 25 24 .i64 Try.underlying25 hi0154 3 hsz154 Ao149 x6_2.length co149 t197 q0154 q154; have hr154 := Kd.C_drop (m := (t197 : Int).toNat) (c := co149) hC154 (by omega) hroom154; obtain ⟨A154, hA154⟩ : ∃ A1, A1 = (if co149 = (t197 : Int).toNat then Ao149 else (Ao149 : Option Addr).map (·.add ((t197 : Int).toNat * 3))) := ⟨_, rfl⟩; obtain ⟨c154, hc154⟩ : ∃ c1, c1 = co149 - (t197 : Int).toNat := ⟨_, rfl⟩; have hy154 : y207.length = x6_2.length - (t197 : Int).toNat := (by rw [Ny207.out, List.length_drop] <;> omega); rw [show (x6_2).drop (t197 : Int).toNat = y207 from Ny207.out.symm] at hr154; replace hr154 : Kd.C k24 _ A154 y207.length y207 := (by rw [hA154]; exact hr154); rw [← hy154, ← hA154, ← hc154] at hcut154; have HR210 := ak_ hr154; have HC210 := ak_ (show y207.length ≤ c154 from by rw [hy154, hc154]; exact Nat.sub_le_sub_right hroom154 _); clear hr154 hC154 hroom154 hi0154 hsz154 hc154; have KY154 := ak_ hy154; have KA154 := ak_ hA154; clear hy154 hA154; have KL154 := ak_ (show (t197 : Int).toNat ≤ x6_2.length from by omega); replace q154 := eq_true q154) | ((with_reducible refine gate_callee (f := 11) rfl ?_); refine goesL_ (some 142) rfl rfl Try.func11 (by kernel_rfl) rfl #[.string (⟨#[99, 111, 117, 110, 116]⟩ : ByteArray), .slice A154 y207.length c154] rfl z3_ ?_; (with_reducible refine (impl_AggValue.calls k3 (⟨#[99, 111, 117, 110, 116]⟩ : ByteArray) _ _ y207 t211 t212 t213 t214 _ ?side1 ?side2 A143.out).mono ?_); (case side1 => exact cz_ ((show Kd.C k24 _ A154 y207.length y207 from by rw [Ny207.out, KA154.out]; exact Kd.C_drop (m := (t197 : Int).toNat) (c := co149) ((Kd.R_reads' ((Kd.R_mono (Kd.R_far (p := ⟨gb206, 2, none⟩) (Kd.R_far (p := ⟨gb206, 1, none⟩) (Kd.R_far (p := ⟨gb206, 0, none⟩) (Kd.R_mono HO_6.out (fun k_ hk => (⟨hk, hk.2⟩ : _ ∧ k_ ≠ gb206))) (fun _ hk => hk.2) (.int .i64 t202)) (fun _ hk => hk.2) (.int .i64 t203)) (fun _ hk => hk.2) (.string t204)) (fun _ h_ => h_.1)))).2.2) KL154.out ((Kd.R_reads' ((Kd.R_mono (Kd.R_far (p := ⟨gb206, 2, none⟩) (Kd.R_far (p := ⟨gb206, 1, none⟩) (Kd.R_far (p := ⟨gb206, 0, none⟩) (Kd.R_mono HO_6.out (fun k_ hk => (⟨hk, hk.2⟩ : _ ∧ k_ ≠ gb206))) (fun _ hk => hk.2) (.int .i64 t202)) (fun _ hk => hk.2) (.int .i64 t203)) (fun _ hk => hk.2) (.string t204)) (fun _ h_ => h_.1)))).2.1)))); (case side2 => exact HC210.out); rintro e w155 ⟨rfl, hb⟩; refine ⟨_, rfl, ?_⟩; have n_ := a7_ (Kd.R_below (by (with_reducible repeat (first | apply Kd.R_alloc | apply Kd.R_drewN | apply Kd.R_drew)); exact (Kd.R_mono (Kd.R_far (p := ⟨gb206, 2, none⟩) (Kd.R_far (p := ⟨gb206, 1, none⟩) (Kd.R_far (p := ⟨gb206, 0, none⟩) (Kd.R_mono HO_6.out (fun k_ hk => (⟨hk, hk.2⟩ : _ ∧ k_ ≠ gb206))) (fun _ hk => hk.2) (.int .i64 t202)) (fun _ hk => hk.2) (.int .i64 t203)) (fun _ hk => hk.2) (.string t204)) (fun _ h_ => h_.1))) hb) (Kd.R_below (by (with_reducible repeat (first | apply Kd.R_alloc | apply Kd.R_drewN | apply Kd.R_drew)); exact (Kd.R_mono (Kd.R_far (p := ⟨gb206, 2, none⟩) (Kd.R_far (p := ⟨gb206, 1, none⟩) (Kd.R_far (p := ⟨gb206, 0, none⟩) (Kd.R_mono HO_7.out (fun k_ hk => (⟨hk, hk.2⟩ : _ ∧ k_ ≠ gb206))) (fun _ hk => hk.2) (.int .i64 t202)) (fun _ hk => hk.2) (.int .i64 t203)) (fun _ hk => hk.2) (.string t204)) (fun _ h_ => h_.1))) hb) (Kd.R_below (by (with_reducible repeat (first | apply Kd.R_alloc | apply Kd.R_drewN | apply Kd.R_drew)); exact (Kd.R_mono (Kd.R_far (p := ⟨gb206, 2, none⟩) (Kd.R_far (p := ⟨gb206, 1, none⟩) (Kd.R_far (p := ⟨gb206, 0, none⟩) (Kd.R_types HO_10.out BK206.out (by decide)) (fun _ hk => hk.2) (.int .i64 t202)) (fun _ hk => hk.2) (.int .i64 t203)) (fun _ hk => hk.2) (.string t204)) (fun _ h_ => h_.1))) hb) (Kd.C_below (show Kd.C k24 _ Ao149 y198.length y198 from by rw [Ny198.out]; exact Kd.C_take (m := (t197 : Int).toNat) ((Kd.R_reads' ((Kd.R_mono (Kd.R_far (p := ⟨gb206, 2, none⟩) (Kd.R_far (p := ⟨gb206, 1, none⟩) (Kd.R_far (p := ⟨gb206, 0, none⟩) (Kd.R_mono HO_6.out (fun k_ hk => (⟨hk, hk.2⟩ : _ ∧ k_ ≠ gb206))) (fun _ hk => hk.2) (.int .i64 t202)) (fun _ hk => hk.2) (.int .i64 t203)) (fun _ hk => hk.2) (.string t204)) (fun _ h_ => h_.1)))).2.2) KL150.out) hb) (blk_below (g := gb206) (o := .cells #[.int .i64 t202, .int .i64 t203, .string t204] 24 (0, 0)) (by (with_reducible repeat (first | refine blk_drewN ?_ _ | refine blk_drew ?_ | refine blk_alloc ?_ _)); refine blk_put (cs := #[.int .i64 t202, .int .i64 t203, .string (⟨#[]⟩ : ByteArray)]) ?_ 2 _ rfl; (with_reducible repeat (first | refine blk_drewN ?_ _ | refine blk_drew ?_ | refine blk_alloc ?_ _)); refine blk_put (cs := #[.int .i64 t202, .int .i64 0, .string (⟨#[]⟩ : ByteArray)]) ?_ 1 _ rfl; (with_reducible repeat (first | refine blk_drewN ?_ _ | refine blk_drew ?_ | refine blk_alloc ?_ _)); refine blk_put (cs := #[.int .i64 0, .int .i64 0, .string (⟨#[]⟩ : ByteArray)]) ?_ 0 _ rfl; (with_reducible repeat (first | refine blk_drewN ?_ _ | refine blk_drew ?_ | refine blk_alloc ?_ _)); exact BK206.out) hb) (Kd.C_below (show Kd.C k24 _ A154 y207.length y207 from by rw [Ny207.out, KA154.out]; exact Kd.C_drop (m := (t197 : Int).toNat) (c := co149) ((Kd.R_reads' ((Kd.R_mono (Kd.R_far (p := ⟨gb206, 2, none⟩) (Kd.R_far (p := ⟨gb206, 1, none⟩) (Kd.R_far (p := ⟨gb206, 0, none⟩) (Kd.R_mono HO_6.out (fun k_ hk => (⟨hk, hk.2⟩ : _ ∧ k_ ≠ gb206))) (fun _ hk => hk.2) (.int .i64 t202)) (fun _ hk => hk.2) (.int .i64 t203)) (fun _ hk => hk.2) (.string t204)) (fun _ h_ => h_.1)))).2.2) KL154.out ((Kd.R_reads' ((Kd.R_mono (Kd.R_far (p := ⟨gb206, 2, none⟩) (Kd.R_far (p := ⟨gb206, 1, none⟩) (Kd.R_far (p := ⟨gb206, 0, none⟩) (Kd.R_mono HO_6.out (fun k_ hk => (⟨hk, hk.2⟩ : _ ∧ k_ ≠ gb206))) (fun _ hk => hk.2) (.int .i64 t202)) (fun _ hk => hk.2) (.int .i64 t203)) (fun _ hk => hk.2) (.string t204)) (fun _ h_ => h_.1)))).2.1)) hb) (below_step z67_ hb); clear HO_6 HO_7 HO_10 HR201 BK206 HR210 HB; obtain ⟨HO_6, HO_7, HO_10, HR201, BK206, HR210, HB⟩ := n_; (try clear hb); (try clear hb2); (try clear hk); (try clear hi)) | ((with_reducible refine gate_dst (N := 21) rfl ?_); (try (refine gate_guard (by rfl) ?_; dsimp only)); refine bx_ 21 (cs := #[.int .i64 0, .int .i64 0, .string (⟨#[]⟩ : ByteArray)]) (t := 24) (h_ := ?_); intro gb215 hg w156 hbox hb; have n_ := a12_ (Kd.R_below (Kd.R_elderB z22_ gb215 (Nat.le_of_eq hg.symm)) hb) (Kd.R_below (Kd.R_elderB z14_ gb215 (Nat.le_of_eq hg.symm)) hb) (Kd.R_below z50_ hb) (Kd.C_below z53_ hb) (blk_below (g := gb206) (o := .cells #[.int .i64 t202, .int .i64 t203, .string t204] 24 (0, 0)) z59_ hb) (Kd.C_below z92_ hb) (below_step z67_ hb) (hbox) ((gs_ w hg (below_size z67_))) ((gs_ w hg (below_size z67_))) ((by rw [hg]; exact Nat.ne_of_lt (blk_lt (g := gb206) (o := .cells #[.int .i64 t202, .int .i64 t203, .string t204] 24 (0, 0)) z59_) : gb206 ≠ gb215)) ((by rw [hg]; exact Nat.ne_of_gt (blk_lt (g := gb206) (o := .cells #[.int .i64 t202, .int .i64 t203, .string t204] 24 (0, 0)) z59_) : gb215 ≠ gb206)); clear HO_6 HO_7 HO_10 HR201 BK206 HR210 HB; obtain ⟨HO_6, HO_7, HO_10, HR201, BK206, HR210, HB, BK215, GW215, GE215, NB206_215, NB215_206⟩ := n_; clear hb hbox hg; have hnb157 := NB215_206.out; have hnc157 := NB206_215.out; obtain ⟨hcz158_0, hcz158_1, hcz158_2, hfz158_0, hfz158_1, hfz158_2⟩ := bcf3 BK215.out) | ((with_reducible refine gate_callee (f := 11) rfl ?_); refine goesL_ (some 147) rfl rfl Try.func11 (by kernel_rfl) rfl #[.string (⟨#[99, 111, 117, 110, 116]⟩ : ByteArray), .slice Ao149 x6_2.length co149] rfl z3_ ?_; (with_reducible refine (impl_AggValue.calls k3 (⟨#[99, 111, 117, 110, 116]⟩ : ByteArray) _ _ x6_2 t216 t217 t218 t219 _ ?side1 ?side2 A144.out).mono ?_); (case side1 => refine (Kd.R_reads' (e := 24) (base := w.heap.size) (ok := fun k_ => ((some k_ ≠ (u7 : Value).ownBlock ∧ k_ ≠ gb206) ∧ k_ ≠ gb215)) (n := x6_2.length) (c := co149) ?_).2.2; exact z71_); (case side2 => exact (Kd.R_reads' HO_6.out).2.1); rintro e w159 ⟨rfl, hb⟩; refine ⟨_, rfl, ?_⟩; have n_ := a8_ (Kd.R_below z71_ hb) (Kd.R_below (by (with_reducible repeat (first | apply Kd.R_alloc | apply Kd.R_drewN | apply Kd.R_drew)); exact (Kd.R_mono (Kd.R_far (p := ⟨gb215, 2, none⟩) (Kd.R_far (p := ⟨gb215, 1, none⟩) (Kd.R_far (p := ⟨gb215, 0, none⟩) (Kd.R_mono HO_7.out (fun k_ hk => (⟨hk, hk.2⟩ : _ ∧ k_ ≠ gb215))) (fun _ hk => hk.2) (.int .i64 t211)) (fun _ hk => hk.2) (.int .i64 t212)) (fun _ hk => hk.2) (.string t213)) (fun _ h_ => h_.1))) hb) (Kd.R_below (by (with_reducible repeat (first | apply Kd.R_alloc | apply Kd.R_drewN | apply Kd.R_drew)); exact (Kd.R_mono (Kd.R_far (p := ⟨gb215, 2, none⟩) (Kd.R_far (p := ⟨gb215, 1, none⟩) (Kd.R_far (p := ⟨gb215, 0, none⟩) (Kd.R_types HO_10.out BK215.out (by decide)) (fun _ hk => hk.2) (.int .i64 t211)) (fun _ hk => hk.2) (.int .i64 t212)) (fun _ hk => hk.2) (.string t213)) (fun _ h_ => h_.1))) hb) (Kd.C_below (show Kd.C k24 _ Ao149 y198.length y198 from by rw [Ny198.out]; exact Kd.C_take (m := (t197 : Int).toNat) ((Kd.R_reads' ((Kd.R_mono (Kd.R_far (p := ⟨gb215, 2, none⟩) (Kd.R_far (p := ⟨gb215, 1, none⟩) (Kd.R_far (p := ⟨gb215, 0, none⟩) (Kd.R_mono HO_6.out (fun k_ hk => (⟨hk, hk.2⟩ : _ ∧ k_ ≠ gb215))) (fun _ hk => hk.2) (.int .i64 t211)) (fun _ hk => hk.2) (.int .i64 t212)) (fun _ hk => hk.2) (.string t213)) (fun _ h_ => h_.1)))).2.2) KL150.out) hb) (blk_below (g := gb206) (o := .cells #[.int .i64 t202, .int .i64 t203, .string t204] 24 (0, 0)) (by (with_reducible repeat (first | refine blk_drewN ?_ _ | refine blk_drew ?_ | refine blk_alloc ?_ _)); refine blk_far ?_ NB206_215.out _; (with_reducible repeat (first | refine blk_drewN ?_ _ | refine blk_drew ?_ | refine blk_alloc ?_ _)); refine blk_far ?_ NB206_215.out _; (with_reducible repeat (first | refine blk_drewN ?_ _ | refine blk_drew ?_ | refine blk_alloc ?_ _)); refine blk_far ?_ NB206_215.out _; (with_reducible repeat (first | refine blk_drewN ?_ _ | refine blk_drew ?_ | refine blk_alloc ?_ _)); exact BK206.out) hb) (Kd.C_below (show Kd.C k24 _ A154 y207.length y207 from by rw [Ny207.out, KA154.out]; exact Kd.C_drop (m := (t197 : Int).toNat) (c := co149) ((Kd.R_reads' ((Kd.R_mono (Kd.R_far (p := ⟨gb215, 2, none⟩) (Kd.R_far (p := ⟨gb215, 1, none⟩) (Kd.R_far (p := ⟨gb215, 0, none⟩) (Kd.R_mono HO_6.out (fun k_ hk => (⟨hk, hk.2⟩ : _ ∧ k_ ≠ gb215))) (fun _ hk => hk.2) (.int .i64 t211)) (fun _ hk => hk.2) (.int .i64 t212)) (fun _ hk => hk.2) (.string t213)) (fun _ h_ => h_.1)))).2.2) KL154.out ((Kd.R_reads' ((Kd.R_mono (Kd.R_far (p := ⟨gb215, 2, none⟩) (Kd.R_far (p := ⟨gb215, 1, none⟩) (Kd.R_far (p := ⟨gb215, 0, none⟩) (Kd.R_mono HO_6.out (fun k_ hk => (⟨hk, hk.2⟩ : _ ∧ k_ ≠ gb215))) (fun _ hk => hk.2) (.int .i64 t211)) (fun _ hk => hk.2) (.int .i64 t212)) (fun _ hk => hk.2) (.string t213)) (fun _ h_ => h_.1)))).2.1)) hb) (blk_below (g := gb215) (o := .cells #[.int .i64 t211, .int .i64 t212, .string t213] 24 (0, 0)) (by (with_reducible repeat (first | refine blk_drewN ?_ _ | refine blk_drew ?_ | refine blk_alloc ?_ _)); refine blk_put (cs := #[.int .i64 t211, .int .i64 t212, .string (⟨#[]⟩ : ByteArray)]) ?_ 2 _ rfl; (with_reducible repeat (first | refine blk_drewN ?_ _ | refine blk_drew ?_ | refine blk_alloc ?_ _)); refine blk_put (cs := #[.int .i64 t211, .int .i64 0, .string (⟨#[]⟩ : ByteArray)]) ?_ 1 _ rfl; (with_reducible repeat (first | refine blk_drewN ?_ _ | refine blk_drew ?_ | refine blk_alloc ?_ _)); refine blk_put (cs := #[.int .i64 0, .int .i64 0, .string (⟨#[]⟩ : ByteArray)]) ?_ 0 _ rfl; (with_reducible repeat (first | refine blk_drewN ?_ _ | refine blk_drew ?_ | refine blk_alloc ?_ _)); exact BK215.out) hb) (below_step z57_ hb); clear HO_6 HO_7 HO_10 HR201 BK206 HR210 BK215 HB; obtain ⟨HO_6, HO_7, HO_10, HR201, BK206, HR210, BK215, HB⟩ := n_; (try clear hb); (try clear hb2); (try clear hk); (try clear hi)) | ((with_reducible refine gate_dst (N := 23) rfl ?_); (try (refine gate_guard (by rfl) ?_; dsimp only)); refine bx_ 23 (cs := #[.int .i64 0, .int .i64 0, .string (⟨#[]⟩ : ByteArray)]) (t := 24) (h_ := ?_); intro gb220 hg w160 hbox hb; have n0_ := ak_ (Kd.R_below (Kd.R_elderB z22_ gb220 (Nat.le_of_eq hg.symm)) hb); have n1_ := ak_ (Kd.R_below (Kd.R_elderB z14_ gb220 (Nat.le_of_eq hg.symm)) hb); have n2_ := ak_ (Kd.R_below z50_ hb); have n3_ := ak_ (Kd.C_below z53_ hb); have n4_ := ak_ (blk_below (g := gb206) (o := .cells #[.int .i64 t202, .int .i64 t203, .string t204] 24 (0, 0)) z59_ hb); have n5_ := ak_ (Kd.C_below z92_ hb); have n6_ := ak_ (blk_below (g := gb215) (o := .cells #[.int .i64 t211, .int .i64 t212, .string t213] 24 (0, 0)) z88_ hb); have n7_ := ak_ (below_step z57_ hb); have n8_ := ak_ (hbox); have n9_ := ak_ ((gs_ w hg (below_size z57_))); have n10_ := ak_ ((gs_ w hg (below_size z57_))); have n11_ := ak_ ((by rw [hg]; exact Nat.ne_of_lt (blk_lt (g := gb206) (o := .cells #[.int .i64 t202, .int .i64 t203, .string t204] 24 (0, 0)) z59_) : gb206 ≠ gb220)); have n12_ := ak_ ((by rw [hg]; exact Nat.ne_of_gt (blk_lt (g := gb206) (o := .cells #[.int .i64 t202, .int .i64 t203, .string t204] 24 (0, 0)) z59_) : gb220 ≠ gb206)); have n13_ := ak_ ((by rw [hg]; exact Nat.ne_of_lt (blk_lt (g := gb215) (o := .cells #[.int .i64 t211, .int .i64 t212, .string t213] 24 (0, 0)) z88_) : gb215 ≠ gb220)); have n14_ := ak_ ((by rw [hg]; exact Nat.ne_of_gt (blk_lt (g := gb215) (o := .cells #[.int .i64 t211, .int .i64 t212, .string t213] 24 (0, 0)) z88_) : gb220 ≠ gb215)); clear HO_6; clear HO_7; clear HO_10; clear HR201; clear BK206; clear HR210; clear BK215; clear HB; have HO_6 := n0_; have HO_7 := n1_; have HO_10 := n2_; have HR201 := n3_; have BK206 := n4_; have HR210 := n5_; have BK215 := n6_; have HB := n7_; have BK220 := n8_; have GW220 := n9_; have GE220 := n10_; have NB206_220 := n11_; have NB220_206 := n12_; have NB215_220 := n13_; have NB220_215 := n14_; clear n0_ n1_ n2_ n3_ n4_ n5_ n6_ n7_ n8_ n9_ n10_ n11_ n12_ n13_ n14_; clear hb hbox hg; have hnb161 := NB220_206.out; have hnc161 := NB206_220.out; have hnb162 := NB220_215.out; have hnc162 := NB215_220.out; obtain ⟨hcz163_0, hcz163_1, hcz163_2, hfz163_0, hfz163_1, hfz163_2⟩ := bcf3 BK220.out; obtain ⟨hcz164_0, hcz164_1, hcz164_2, hfz164_0, hfz164_1, hfz164_2⟩ := bcf3 BK206.out; obtain ⟨hcz165_0, hcz165_1, hcz165_2, hfz165_0, hfz165_1, hfz165_2⟩ := bcf3 BK215.out))
              go_ret
              exact ⟨z10_, by repeat (first | (with_reducible first | exact HB.out | apply below_alloc | apply pw_below_drewN | apply below_drew1 | refine below_set ?_ GE206.out | refine below_set ?_ GE215.out | refine below_set ?_ GE220.out) | exact HB.out)⟩
             ·rw [if_neg c147] at H
              exact absurd H (by simp)
            ·rw [if_neg c146] at H
             exact absurd H (by simp)
           ·rw [if_neg c145] at H
            exact absurd H (by simp)
          ·rw [if_neg c139] at H
           exact absurd H (by simp)
         ·rw [if_neg c138] at H
          exact absurd H (by simp)

     rw [if_pos c12] at H
     have c12b0 := decide_eq_true c12
     clear c12
     by_cases c13 : 0 ≤ x8_2
     rotate_left
     ·rw [if_neg c13] at H
      exact absurd H (by simp)
     rw [if_pos c13] at H
     have c13b0 := decide_eq_true c13
     clear c13
     by_cases c14 : 0 < ((rd_L4 t101 x8_2).length : Int)
     rotate_left
     ·rw [if_neg c14] at H
      exact absurd H (by simp)
     rw [if_pos c14] at H
     have c14b0 := decide_eq_true c14
     have c14b1 : decide (0 < (rd_L4 t101 x8_2).length) = true := decide_eq_true (by omega)
     clear c14
     by_cases c15 : ((rd_T24 (rd_L4 t101 x8_2) 0).f0) = 2
     ·rw [if_pos c15] at H
      have c15b0 : (((rd_T24 (rd_L4 t101 x8_2) 0).f0) == 2) = true := beq_iff_eq.mpr c15
      have c15b1 : (((rd_T24 (rd_L4 t101 x8_2) 0).f0) != 2) = false := bne_eq_false_iff_eq.mpr c15
      clear c15
      by_cases c16 : ((rd_T24 (rd_L4 t101 x8_2) 0).f1) > 1000000
      ·rw [if_pos c16] at H
       have c16b0 : decide (1000000 < ((rd_T24 (rd_L4 t101 x8_2) 0).f1)) = true := decide_eq_true c16
       clear c16
       by_cases c17 : x6_2.length < 4398046511104
       ·rw [if_pos c17] at H
        have LMc17 := ak_ c17
        clear c17
        obtain ⟨y113, hy113⟩ : ∃ y_ : List (S24), y_ = (x6_2 ++ [(⟨0, 0, (⟨#[]⟩ : ByteArray)⟩ : S24)]) := ⟨_, rfl⟩
        replace H : ((some (([(⟨0, 0, (⟨#[]⟩ : ByteArray)⟩ : S24)] : List (S24)) : List (S24))).bind fun y116 => (if y116.length + x7_2.length < 4398046511104 then (laws_FnAggs.l0 k2 l1 t101 y113 (y116 ++ x7_2) (wrap64 (x8_2 + 1))) else (none))) = some r := by first | (rw [hy113]; with_reducible exact H) | (have H2_ := (Option.bind_some _ _).symm.trans H; rw [hy113]; with_reducible exact H2_) | (have H2_ := (Option.bind_some _ _).symm.trans H; with_reducible exact H2_) | with_reducible exact H | (rw [hy113]; exact H) | exact H
        have Ny113 := ak_ hy113
        clear hy113
        obtain ⟨y116, hy116⟩ : ∃ y_ : List (S24), y_ = (([(⟨0, 0, (⟨#[]⟩ : ByteArray)⟩ : S24)] : List (S24))) := ⟨_, rfl⟩
        replace H : (if y116.length + x7_2.length < 4398046511104 then (laws_FnAggs.l0 k2 l1 t101 y113 (y116 ++ x7_2) (wrap64 (x8_2 + 1))) else (none)) = some r := by first | (rw [hy116]; with_reducible exact H) | (have H2_ := (Option.bind_some _ _).symm.trans H; rw [hy116]; with_reducible exact H2_) | (have H2_ := (Option.bind_some _ _).symm.trans H; with_reducible exact H2_) | with_reducible exact H | (rw [hy116]; exact H) | exact H
        have Ny116 := ak_ hy116
        clear hy116
        by_cases c18 : y116.length + x7_2.length < 4398046511104
        ·rw [if_pos c18] at H
         have LMc18 := ak_ c18
         clear c18
         obtain ⟨y119, hy119⟩ : ∃ y_ : List (S24), y_ = (y116 ++ x7_2) := ⟨_, rfl⟩
         replace H : (laws_FnAggs.l0 k2 l1 t101 y113 y119 (wrap64 (x8_2 + 1))) = some r := by first | (rw [hy119]; with_reducible exact H) | (have H2_ := (Option.bind_some _ _).symm.trans H; rw [hy119]; with_reducible exact H2_) | (have H2_ := (Option.bind_some _ _).symm.trans H; with_reducible exact H2_) | with_reducible exact H | (rw [hy119]; exact H) | exact H
         have Ny119 := ak_ hy119
         clear hy119
         have H' := ak_ H
         clear H
         obtain ⟨Ao19, co19, eo19⟩ := Kd.S_slice HO_5.out
         subst eo19
         have p110 : 0 ≤ (x8_2 : Int) := of_decide_eq_true z11_
         have q110 : x8_2 < (t101.length : Int) := of_decide_eq_true z11_
         obtain ⟨ad110, A110_0, c110_0, e110, hx110_0, hl110_0, hi110_0⟩ := at_L4 (Kd.S_reads' HO_5.out).2.2 x8_2 p110 q110
         cases e110
         obtain ⟨ce110, hce110, hMe110, hcc110⟩ := Kd.S_get HO_5.out [] x8_2 p110 z60_
         obtain ⟨ve110_0, rfl, ge110_0⟩ := hMe110
         have hv110_0 := hcc110 0 _ rfl
         rw [Nat.add_zero, show ((Kd.slice 24 k24)).sz = 1 from rfl, Nat.mul_one] at hv110_0
         replace hv110_0 := Option.some.inj (hv110_0.symm.trans hx110_0)
         rw [hv110_0] at ge110_0
         have HL110_0 := ak_ (show Kd.R k24 24 _ _ _ _ (rd_L4 t101 x8_2) from ge110_0)
         clear hv110_0 ge110_0
         clear hcc110 hce110
         have HR110_0 := ak_ hi110_0
         have HC110_0 := ak_ hl110_0
         clear hi110_0 hl110_0
         replace p110 := eq_true p110
         replace q110 := eq_true q110
         have p111 : 0 ≤ (0 : Int) := (by omega)
         have q111 : 0 < ((rd_L4 t101 x8_2).length : Int) := of_decide_eq_true z11_
         obtain ⟨ad111, e111, hx111_0, hx111_1, hx111_2⟩ := at_T24 z25_ 0 p111 q111
         cases e111
         have qi111 : (0 < (rd_L4 t101 x8_2).length) = True := eq_true (by omega)
         (try rw [show ((0 : Int)).toNat = 0 from rfl] at hx111_0)
         (try rw [show 0 * 3 = 0 from rfl] at hx111_0)
         (try rw [Addr.add_zero'] at hx111_0)
         (try rw [show ((0 : Int)).toNat = 0 from rfl] at hx111_1)
         (try rw [show 0 * 3 = 0 from rfl] at hx111_1)
         (try rw [Addr.add_zero'] at hx111_1)
         (try rw [show ((0 : Int)).toNat = 0 from rfl] at hx111_2)
         (try rw [show 0 * 3 = 0 from rfl] at hx111_2)
         (try rw [Addr.add_zero'] at hx111_2)
         replace p111 := eq_true p111
         replace q111 := eq_true q111
         go_wp2_with (first | ((with_reducible refine gate_dst (N := 9) rfl ?_); (try (refine gate_guard (by rfl) ?_; dsimp only)); refine bx_ 9 (cs := #[.int .i64 0, .int .i64 0, .string (⟨#[]⟩ : ByteArray)]) (t := 24) (h_ := ?_); intro gb112 hg w20 hbox hb; have n_ := a9_ (Kd.S_below (Kd.S_elderB z40_ gb112 (Nat.le_of_eq hg.symm)) hb) (Kd.R_below (Kd.R_elderB z22_ gb112 (Nat.le_of_eq hg.symm)) hb) (Kd.R_below (Kd.R_elderB z14_ gb112 (Nat.le_of_eq hg.symm)) hb) (Kd.R_below (Kd.R_elderB z21_ gb112 (Nat.le_of_eq hg.symm)) hb) (Kd.C_below z25_ hb) (below_step z0_ hb) (hbox) ((gs_ w hg (below_size z0_))) ((gs_ w hg (below_size z0_))); clear HO_5 HO_6 HO_7 HL110_0 HR110_0 HB; obtain ⟨HO_5, HO_6, HO_7, HL110_0, HR110_0, HB, BK112, GW112, GE112⟩ := n_; clear hb hbox hg; obtain ⟨hcz21_0, hcz21_1, hcz21_2, hfz21_0, hfz21_1, hfz21_2⟩ := bcf3 BK112.out) | ((with_reducible refine gate_store (t := 24) (p := 9) rfl ?_); refine store_event (t := 24) (p := 9) (v := ?vo_w22) (w1 := (((w20.setCell ⟨gb112, 0, none⟩ (.int .i64 ((rd_T24 (rd_L4 t101 x8_2) 0).f0))).setCell ⟨gb112, 1, none⟩ (.int .i64 ((rd_T24 (rd_L4 t101 x8_2) 0).f1))).setCell ⟨gb112, 2, none⟩ (.string ((rd_T24 (rd_L4 t101 x8_2) 0).f2)))) ?hg ?ho ?hn ?hr ?_; (case ho => rfl); (case hg => rfl); (case hn => rfl); (case hr => first | (go_simp; done) | (go_simp; rfl)); intro w22 hw; have n0_ : Aside0 (Kd.S (Kd.slice 24 k24) 25 w22 w.heap.size (fun k_ => some k_ ≠ (u6 : Value).ownBlock ∧ some k_ ≠ (u7 : Value).ownBlock ∧ k_ ≠ gb112) (.slice (some ad110) t101.length co19) t101) := ⟨z30_⟩; have n1_ : Aside0 (Kd.R k24 24 w22 w.heap.size (fun k_ => some k_ ≠ (u7 : Value).ownBlock ∧ k_ ≠ gb112) u6 x6_2) := ⟨(by rw [hw]; exact z20_)⟩; have n2_ : Aside0 (Kd.R k24 24 w22 w.heap.size (fun k_ => some k_ ≠ (u6 : Value).ownBlock ∧ k_ ≠ gb112) u7 x7_2) := ⟨z31_⟩; have n3_ : Aside0 (Kd.R k24 24 w22 w.heap.size (fun k_ => some k_ ≠ (.slice (some ad110) t101.length co19 : Value).ownBlock ∧ some k_ ≠ (u6 : Value).ownBlock ∧ some k_ ≠ (u7 : Value).ownBlock ∧ k_ ≠ gb112) (.slice (some ad111) (rd_L4 t101 x8_2).length c110_0) (rd_L4 t101 x8_2)) := ⟨z29_⟩; have n4_ : Aside0 (w22.heap[gb112]? = some (.cells #[.int .i64 ((rd_T24 (rd_L4 t101 x8_2) 0).f0), .int .i64 ((rd_T24 (rd_L4 t101 x8_2) 0).f1), .string ((rd_T24 (rd_L4 t101 x8_2) 0).f2)] 24 (0, 0))) := ⟨(by rw [hw]; exact z7_)⟩; have n5_ : Aside0 (Below w.heap.size w w22) := ⟨(by rw [hw]; exact z4_)⟩; clear hw; clear HO_5; clear HO_6; clear HO_7; clear HL110_0; clear BK112; clear HB; have HO_5 := n0_; have HO_6 := n1_; have HO_7 := n2_; have HL110_0 := n3_; have BK112 := n4_; have HB := n5_; clear n0_ n1_ n2_ n3_ n4_ n5_; obtain ⟨hcz23_0, hcz23_1, hcz23_2, hfz23_0, hfz23_1, hfz23_2⟩ := bcf3 BK112.out) | ((with_reducible refine gate_builtin (b := .append) (xs := #[.tmp 68, .tmp 70]) rfl ?_); (try (refine gate_guard (by rfl) ?_; dsimp only)); at_builtin; refine Kd.R_append k24 (w0 := w) w.heap.size rfl (.tmp 68) (.tmp 70) 25 24 (.agg #[(.int .i64 0), (.int .i64 0), (.string ⟨#[]⟩)]) 32 rfl Try.underlying25 info24 rfl (by decide) (by omega) u6 x6_2 (⟨0, 0, (⟨#[]⟩ : ByteArray)⟩ : S24) [.int .i64 0, .int .i64 0, .string (⟨#[]⟩ : ByteArray)] (fun k_ => some k_ ≠ (u7 : Value).ownBlock ∧ k_ ≠ gb112) (fun _ => False) rfl z84_ ?aP (fun _ hk => hk.elim) ?aF ?aO ?aB ?aS ?aL ?_; (case aP => exact k24_mkM _ _ _ (⟨0, 0, (⟨#[]⟩ : ByteArray)⟩ : S24)); (case aB => exact z4_); (case aF => exact (fun k_ hk => ⟨Kd.fresh' (Kd.R_lt z37_) k_ hk, Kd.freshB (g := gb112) (o := .cells #[.int .i64 0, .int .i64 0, .string (⟨#[]⟩ : ByteArray)] 24 (0, 0)) z6_ k_ hk⟩)); (case aO => exact z35_); (case aS => exact (below_size z4_)); (case aL => have := LMc17.out; omega); intro v114 w24 ho hb hg hat; rw [← Ny113.out] at ho; have n_ := a6_ (Kd.S_after (ok := (fun k_ => some k_ ≠ (u7 : Value).ownBlock ∧ k_ ≠ gb112)) z34_ hg hat) (Kd.R_after (ok := (fun k_ => k_ ≠ gb112)) z36_ hg hat) (Kd.R_after (ok := (fun k_ => some k_ ≠ (.slice (some ad110) t101.length co19 : Value).ownBlock ∧ some k_ ≠ (u7 : Value).ownBlock ∧ k_ ≠ gb112)) z33_ hg hat) (blk_grown (g := gb112) (o := .cells #[.int .i64 0, .int .i64 0, .string (⟨#[]⟩ : ByteArray)] 24 (0, 0)) z6_ hg (Kd.R_away HO_6.out (fun _ hk => hk.2))) (hb) (ho); clear HO_5 HO_7 HL110_0 BK112 HB HO_6; obtain ⟨HO_5, HO_7, HL110_0, BK112, HB, HO115⟩ := n_; clear ho hb hg hat; obtain ⟨hcz25_0, hcz25_1, hcz25_2, hfz25_0, hfz25_1, hfz25_2⟩ := bcf3 BK112.out) | ((with_reducible refine gate_dst (N := 73) rfl ?_); (try (refine gate_guard (by rfl) ?_; dsimp only)); refine Kd.R_lit k24 _ 24 ?hg (N := 73) ?hd (xs := ([(⟨0, 0, (⟨#[]⟩ : ByteArray)⟩ : S24)] : List (S24))) (inner := [.int .i64 0, .int .i64 0, .string (⟨#[]⟩ : ByteArray)]) (ok := fun _ => True) (okp := fun _ => True) ?hr ?hp (fun _ hk => hk) trivial (Below.refl _ _) (Nat.le_refl _) (by simp) ?_; (case hd => rfl); (case hg => rfl); (case hr => first | (go_simp; done) | (go_simp; rfl)); (case hp => exact (Reps.c3 (show Kd.M k24 _ _ _ (⟨0, 0, (⟨#[]⟩ : ByteArray)⟩ : S24) [.int .i64 0, .int .i64 0, .string (⟨#[]⟩ : ByteArray)] from (k24_mkM _ _ _ (⟨0, 0, (⟨#[]⟩ : ByteArray)⟩ : S24) )) (Reps.none _ _))); intro v117 w26 ho27 hb hg_ hnew_; clear hg_ hnew_; (first | rw [← Ny116.out] at ho27 | (simp only [Int.reduceToNat] at ho27; rw [← Ny116.out] at ho27)); have n_ := a7_ (Kd.S_elder' z40_ (Kd.R_base ho27) hb) (Kd.R_elder' z14_ (Kd.R_base ho27) hb) (Kd.R_elder' z21_ (Kd.R_base ho27) hb) (Kd.R_elder' z74_ (Kd.R_base ho27) hb) (Kd.R_lower (Kd.R_newB (Kd.R_new' (Kd.R_new' (Kd.R_new' ho27 (Kd.R_lt z14_)) (Kd.R_lt z21_)) (Kd.R_lt z74_)) (g := gb112) (o := .cells #[.int .i64 0, .int .i64 0, .string (⟨#[]⟩ : ByteArray)] 24 (0, 0)) z19_) (below_size z4_)) (blk_below (g := gb112) (o := .cells #[.int .i64 0, .int .i64 0, .string (⟨#[]⟩ : ByteArray)] 24 (0, 0)) z19_ hb) (below_step z4_ hb); clear HO_5 HO_7 HL110_0 HO115 BK112 HB; obtain ⟨HO_5, HO_7, HL110_0, HO115, HO118, BK112, HB⟩ := n_; clear hb ho27; obtain ⟨Ao29, co29, eo29⟩ := Kd.R_slice HO_7.out; subst eo29) | ((with_reducible refine gate_builtin (b := .append) (xs := #[.tmp 73, .tmp 74]) rfl ?_); (try (refine gate_guard (by rfl) ?_; dsimp only)); at_builtin; refine Kd.R_append_rows k24 (w0 := w) w.heap.size rfl (.tmp 73) (.tmp 74) 25 24 (.agg #[(.int .i64 0), (.int .i64 0), (.string ⟨#[]⟩)]) 32 rfl Try.underlying25 info24 rfl (by decide) (by omega) v117 y116 x7_2 _ _ _ (fun k_ => some k_ ≠ (.slice Ao29 x7_2.length co29 : Value).ownBlock ∧ some k_ ≠ (.slice (some ad111) (rd_L4 t101 x8_2).length c110_0 : Value).ownBlock ∧ some k_ ≠ (v114 : Value).ownBlock ∧ k_ ≠ gb112) (fun _ => False) rfl rfl ?aO ?aR (fun _ _ h => h) (fun _ h => h.elim) ?aF ?aB ?aS ?aL ?_; (case aR => exact cz_ ((Kd.R_reads' HO_7.out).2.2)); (case aB => exact z4_); (case aF => exact (fun k_ hk => ⟨Kd.fresh' (Kd.R_lt z14_) k_ hk, Kd.fresh' (Kd.R_lt z21_) k_ hk, Kd.fresh' (Kd.R_lt z74_) k_ hk, Kd.freshB (g := gb112) (o := .cells #[.int .i64 0, .int .i64 0, .string (⟨#[]⟩ : ByteArray)] 24 (0, 0)) z19_ k_ hk⟩)); (case aO => exact (by (with_reducible repeat (first | apply Kd.R_alloc | apply Kd.R_drewN | apply Kd.R_drew)); exact Kd.R_mono HO118.out (fun _ hk => ⟨hk.1.1.1.2, ⟨hk.1.1.2, ⟨hk.1.2, hk.2⟩⟩⟩))); (case aS => exact (below_size z4_)); (case aL => have := LMc18.out; omega); intro v120 w28 ho hb hg hat; rw [← Ny119.out] at ho; have n_ := a7_ (Kd.S_after (ok := (fun k_ => some k_ ≠ (.slice Ao29 x7_2.length co29 : Value).ownBlock ∧ some k_ ≠ (v114 : Value).ownBlock ∧ k_ ≠ gb112)) z48_ hg hat) (Kd.R_after (ok := (fun k_ => some k_ ≠ (v114 : Value).ownBlock ∧ k_ ≠ gb112)) z49_ hg hat) (Kd.R_after (ok := (fun k_ => some k_ ≠ (.slice (some ad110) t101.length co19 : Value).ownBlock ∧ some k_ ≠ (.slice Ao29 x7_2.length co29 : Value).ownBlock ∧ some k_ ≠ (v114 : Value).ownBlock ∧ k_ ≠ gb112)) z45_ hg hat) (blk_grown (g := gb112) (o := .cells #[.int .i64 0, .int .i64 0, .string (⟨#[]⟩ : ByteArray)] 24 (0, 0)) z19_ hg (Kd.R_away HO118.out (fun _ hk => hk.2))) (Kd.R_after (ok := (fun k_ => some k_ ≠ (.slice Ao29 x7_2.length co29 : Value).ownBlock ∧ k_ ≠ gb112)) z74_ hg hat) (hb) (ho); clear HO_5 HO_7 HL110_0 BK112 HO115 HB HO118; obtain ⟨HO_5, HO_7, HL110_0, BK112, HO115, HB, HO121⟩ := n_; clear ho hb hg hat))
         go_roundg k2
         case measure => have := HJ2.out; have := HK2.out; omega
         case rel => exact ⟨(y113), (y119), (wrap64 (x8_2 + 1)), z12_, H', ⟨by have := HJ2.out; have := HK2.out; omega⟩, ⟨by (with_reducible repeat (first | apply Kd.S_alloc | apply Kd.S_drewN | apply Kd.S_drew)); exact Kd.S_mono HO_5.out (fun _ hk => ⟨hk.1.2.1, hk.2⟩)⟩, ⟨by (with_reducible repeat (first | apply Kd.R_alloc | apply Kd.R_drewN | apply Kd.R_drew)); exact Kd.R_mono HO115.out (fun _ hk => hk.2)⟩, ⟨by (with_reducible repeat (first | apply Kd.R_alloc | apply Kd.R_drewN | apply Kd.R_drew)); exact Kd.R_mono HO121.out (fun _ hk => hk.2.2.1)⟩, ⟨z4_⟩⟩
        ·rw [if_neg c18] at H
         exact absurd H (by simp)
       ·rw [if_neg c17] at H
        exact absurd H (by simp)
      ·rw [if_neg c16] at H
       have c16b0 : decide (1000000 < ((rd_T24 (rd_L4 t101 x8_2) 0).f1)) = false := decide_eq_false c16
       clear c16
       by_cases c30 : ((rd_T24 (rd_L4 t101 x8_2) 0).f1) < (-1000000)
       ·rw [if_pos c30] at H
        have c30b0 := decide_eq_true c30
        clear c30
        by_cases c31 : x6_2.length < 4398046511104
        ·rw [if_pos c31] at H
         have LMc31 := ak_ c31
         clear c31
         obtain ⟨y122, hy122⟩ : ∃ y_ : List (S24), y_ = (x6_2 ++ [(⟨0, 0, (⟨#[]⟩ : ByteArray)⟩ : S24)]) := ⟨_, rfl⟩
         replace H : ((some (([(⟨0, 0, (⟨#[]⟩ : ByteArray)⟩ : S24)] : List (S24)) : List (S24))).bind fun y125 => (if y125.length + x7_2.length < 4398046511104 then (laws_FnAggs.l0 k2 l1 t101 y122 (y125 ++ x7_2) (wrap64 (x8_2 + 1))) else (none))) = some r := by first | (rw [hy122]; with_reducible exact H) | (have H2_ := (Option.bind_some _ _).symm.trans H; rw [hy122]; with_reducible exact H2_) | (have H2_ := (Option.bind_some _ _).symm.trans H; with_reducible exact H2_) | with_reducible exact H | (rw [hy122]; exact H) | exact H
         have Ny122 := ak_ hy122
         clear hy122
         obtain ⟨y125, hy125⟩ : ∃ y_ : List (S24), y_ = (([(⟨0, 0, (⟨#[]⟩ : ByteArray)⟩ : S24)] : List (S24))) := ⟨_, rfl⟩
         replace H : (if y125.length + x7_2.length < 4398046511104 then (laws_FnAggs.l0 k2 l1 t101 y122 (y125 ++ x7_2) (wrap64 (x8_2 + 1))) else (none)) = some r := by first | (rw [hy125]; with_reducible exact H) | (have H2_ := (Option.bind_some _ _).symm.trans H; rw [hy125]; with_reducible exact H2_) | (have H2_ := (Option.bind_some _ _).symm.trans H; with_reducible exact H2_) | with_reducible exact H | (rw [hy125]; exact H) | exact H
         have Ny125 := ak_ hy125
         clear hy125
         by_cases c32 : y125.length + x7_2.length < 4398046511104
         ·rw [if_pos c32] at H
          have LMc32 := ak_ c32
          clear c32
          obtain ⟨y128, hy128⟩ : ∃ y_ : List (S24), y_ = (y125 ++ x7_2) := ⟨_, rfl⟩
          replace H : (laws_FnAggs.l0 k2 l1 t101 y122 y128 (wrap64 (x8_2 + 1))) = some r := by first | (rw [hy128]; with_reducible exact H) | (have H2_ := (Option.bind_some _ _).symm.trans H; rw [hy128]; with_reducible exact H2_) | (have H2_ := (Option.bind_some _ _).symm.trans H; with_reducible exact H2_) | with_reducible exact H | (rw [hy128]; exact H) | exact H
          have Ny128 := ak_ hy128
          clear hy128
          have H' := ak_ H
          clear H
          obtain ⟨Ao33, co33, eo33⟩ := Kd.S_slice HO_5.out
          subst eo33
          have p110 : 0 ≤ (x8_2 : Int) := of_decide_eq_true z11_
          have q110 : x8_2 < (t101.length : Int) := of_decide_eq_true z11_
          obtain ⟨ad110, A110_0, c110_0, e110, hx110_0, hl110_0, hi110_0⟩ := at_L4 (Kd.S_reads' HO_5.out).2.2 x8_2 p110 q110
          cases e110
          obtain ⟨ce110, hce110, hMe110, hcc110⟩ := Kd.S_get HO_5.out [] x8_2 p110 z60_
          obtain ⟨ve110_0, rfl, ge110_0⟩ := hMe110
          have hv110_0 := hcc110 0 _ rfl
          rw [Nat.add_zero, show ((Kd.slice 24 k24)).sz = 1 from rfl, Nat.mul_one] at hv110_0
          replace hv110_0 := Option.some.inj (hv110_0.symm.trans hx110_0)
          rw [hv110_0] at ge110_0
          have HL110_0 := ak_ (show Kd.R k24 24 _ _ _ _ (rd_L4 t101 x8_2) from ge110_0)
          clear hv110_0 ge110_0
          clear hcc110 hce110
          have HR110_0 := ak_ hi110_0
          have HC110_0 := ak_ hl110_0
          clear hi110_0 hl110_0
          replace p110 := eq_true p110
          replace q110 := eq_true q110
          have p111 : 0 ≤ (0 : Int) := (by omega)
          have q111 : 0 < ((rd_L4 t101 x8_2).length : Int) := of_decide_eq_true z11_
          obtain ⟨ad111, e111, hx111_0, hx111_1, hx111_2⟩ := at_T24 z25_ 0 p111 q111
          cases e111
          have qi111 : (0 < (rd_L4 t101 x8_2).length) = True := eq_true (by omega)
          (try rw [show ((0 : Int)).toNat = 0 from rfl] at hx111_0)
          (try rw [show 0 * 3 = 0 from rfl] at hx111_0)
          (try rw [Addr.add_zero'] at hx111_0)
          (try rw [show ((0 : Int)).toNat = 0 from rfl] at hx111_1)
          (try rw [show 0 * 3 = 0 from rfl] at hx111_1)
          (try rw [Addr.add_zero'] at hx111_1)
          (try rw [show ((0 : Int)).toNat = 0 from rfl] at hx111_2)
          (try rw [show 0 * 3 = 0 from rfl] at hx111_2)
          (try rw [Addr.add_zero'] at hx111_2)
          replace p111 := eq_true p111
          replace q111 := eq_true q111
          go_wp2_with (first | ((with_reducible refine gate_dst (N := 9) rfl ?_); (try (refine gate_guard (by rfl) ?_; dsimp only)); refine bx_ 9 (cs := #[.int .i64 0, .int .i64 0, .string (⟨#[]⟩ : ByteArray)]) (t := 24) (h_ := ?_); intro gb112 hg w34 hbox hb; have n_ := a9_ (Kd.S_below (Kd.S_elderB z40_ gb112 (Nat.le_of_eq hg.symm)) hb) (Kd.R_below (Kd.R_elderB z22_ gb112 (Nat.le_of_eq hg.symm)) hb) (Kd.R_below (Kd.R_elderB z14_ gb112 (Nat.le_of_eq hg.symm)) hb) (Kd.R_below (Kd.R_elderB z21_ gb112 (Nat.le_of_eq hg.symm)) hb) (Kd.C_below z25_ hb) (below_step z0_ hb) (hbox) ((gs_ w hg (below_size z0_))) ((gs_ w hg (below_size z0_))); clear HO_5 HO_6 HO_7 HL110_0 HR110_0 HB; obtain ⟨HO_5, HO_6, HO_7, HL110_0, HR110_0, HB, BK112, GW112, GE112⟩ := n_; clear hb hbox hg; obtain ⟨hcz35_0, hcz35_1, hcz35_2, hfz35_0, hfz35_1, hfz35_2⟩ := bcf3 BK112.out) | ((with_reducible refine gate_store (t := 24) (p := 9) rfl ?_); refine store_event (t := 24) (p := 9) (v := ?vo_w36) (w1 := (((w34.setCell ⟨gb112, 0, none⟩ (.int .i64 ((rd_T24 (rd_L4 t101 x8_2) 0).f0))).setCell ⟨gb112, 1, none⟩ (.int .i64 ((rd_T24 (rd_L4 t101 x8_2) 0).f1))).setCell ⟨gb112, 2, none⟩ (.string ((rd_T24 (rd_L4 t101 x8_2) 0).f2)))) ?hg ?ho ?hn ?hr ?_; (case ho => rfl); (case hg => rfl); (case hn => rfl); (case hr => first | (go_simp; done) | (go_simp; rfl)); intro w36 hw; have n0_ : Aside0 (Kd.S (Kd.slice 24 k24) 25 w36 w.heap.size (fun k_ => some k_ ≠ (u6 : Value).ownBlock ∧ some k_ ≠ (u7 : Value).ownBlock ∧ k_ ≠ gb112) (.slice (some ad110) t101.length co33) t101) := ⟨z30_⟩; have n1_ : Aside0 (Kd.R k24 24 w36 w.heap.size (fun k_ => some k_ ≠ (u7 : Value).ownBlock ∧ k_ ≠ gb112) u6 x6_2) := ⟨(by rw [hw]; exact z20_)⟩; have n2_ : Aside0 (Kd.R k24 24 w36 w.heap.size (fun k_ => some k_ ≠ (u6 : Value).ownBlock ∧ k_ ≠ gb112) u7 x7_2) := ⟨z31_⟩; have n3_ : Aside0 (Kd.R k24 24 w36 w.heap.size (fun k_ => some k_ ≠ (.slice (some ad110) t101.length co33 : Value).ownBlock ∧ some k_ ≠ (u6 : Value).ownBlock ∧ some k_ ≠ (u7 : Value).ownBlock ∧ k_ ≠ gb112) (.slice (some ad111) (rd_L4 t101 x8_2).length c110_0) (rd_L4 t101 x8_2)) := ⟨z29_⟩; have n4_ : Aside0 (w36.heap[gb112]? = some (.cells #[.int .i64 ((rd_T24 (rd_L4 t101 x8_2) 0).f0), .int .i64 ((rd_T24 (rd_L4 t101 x8_2) 0).f1), .string ((rd_T24 (rd_L4 t101 x8_2) 0).f2)] 24 (0, 0))) := ⟨(by rw [hw]; exact z7_)⟩; have n5_ : Aside0 (Below w.heap.size w w36) := ⟨(by rw [hw]; exact z4_)⟩; clear hw; clear HO_5; clear HO_6; clear HO_7; clear HL110_0; clear BK112; clear HB; have HO_5 := n0_; have HO_6 := n1_; have HO_7 := n2_; have HL110_0 := n3_; have BK112 := n4_; have HB := n5_; clear n0_ n1_ n2_ n3_ n4_ n5_; obtain ⟨hcz37_0, hcz37_1, hcz37_2, hfz37_0, hfz37_1, hfz37_2⟩ := bcf3 BK112.out) | ((with_reducible refine gate_builtin (b := .append) (xs := #[.tmp 68, .tmp 70]) rfl ?_); (try (refine gate_guard (by rfl) ?_; dsimp only)); at_builtin; refine Kd.R_append k24 (w0 := w) w.heap.size rfl (.tmp 68) (.tmp 70) 25 24 (.agg #[(.int .i64 0), (.int .i64 0), (.string ⟨#[]⟩)]) 32 rfl Try.underlying25 info24 rfl (by decide) (by omega) u6 x6_2 (⟨0, 0, (⟨#[]⟩ : ByteArray)⟩ : S24) [.int .i64 0, .int .i64 0, .string (⟨#[]⟩ : ByteArray)] (fun k_ => some k_ ≠ (u7 : Value).ownBlock ∧ k_ ≠ gb112) (fun _ => False) rfl z84_ ?aP (fun _ hk => hk.elim) ?aF ?aO ?aB ?aS ?aL ?_; (case aP => exact k24_mkM _ _ _ (⟨0, 0, (⟨#[]⟩ : ByteArray)⟩ : S24)); (case aB => exact z4_); (case aF => exact (fun k_ hk => ⟨Kd.fresh' (Kd.R_lt z37_) k_ hk, Kd.freshB (g := gb112) (o := .cells #[.int .i64 0, .int .i64 0, .string (⟨#[]⟩ : ByteArray)] 24 (0, 0)) z6_ k_ hk⟩)); (case aO => exact z35_); (case aS => exact (below_size z4_)); (case aL => have := LMc31.out; omega); intro v123 w38 ho hb hg hat; rw [← Ny122.out] at ho; have n_ := a6_ (Kd.S_after (ok := (fun k_ => some k_ ≠ (u7 : Value).ownBlock ∧ k_ ≠ gb112)) z34_ hg hat) (Kd.R_after (ok := (fun k_ => k_ ≠ gb112)) z36_ hg hat) (Kd.R_after (ok := (fun k_ => some k_ ≠ (.slice (some ad110) t101.length co33 : Value).ownBlock ∧ some k_ ≠ (u7 : Value).ownBlock ∧ k_ ≠ gb112)) z33_ hg hat) (blk_grown (g := gb112) (o := .cells #[.int .i64 0, .int .i64 0, .string (⟨#[]⟩ : ByteArray)] 24 (0, 0)) z6_ hg (Kd.R_away HO_6.out (fun _ hk => hk.2))) (hb) (ho); clear HO_5 HO_7 HL110_0 BK112 HB HO_6; obtain ⟨HO_5, HO_7, HL110_0, BK112, HB, HO124⟩ := n_; clear ho hb hg hat; obtain ⟨hcz39_0, hcz39_1, hcz39_2, hfz39_0, hfz39_1, hfz39_2⟩ := bcf3 BK112.out) | ((with_reducible refine gate_dst (N := 73) rfl ?_); (try (refine gate_guard (by rfl) ?_; dsimp only)); refine Kd.R_lit k24 _ 24 ?hg (N := 73) ?hd (xs := ([(⟨0, 0, (⟨#[]⟩ : ByteArray)⟩ : S24)] : List (S24))) (inner := [.int .i64 0, .int .i64 0, .string (⟨#[]⟩ : ByteArray)]) (ok := fun _ => True) (okp := fun _ => True) ?hr ?hp (fun _ hk => hk) trivial (Below.refl _ _) (Nat.le_refl _) (by simp) ?_; (case hd => rfl); (case hg => rfl); (case hr => first | (go_simp; done) | (go_simp; rfl)); (case hp => exact (Reps.c3 (show Kd.M k24 _ _ _ (⟨0, 0, (⟨#[]⟩ : ByteArray)⟩ : S24) [.int .i64 0, .int .i64 0, .string (⟨#[]⟩ : ByteArray)] from (k24_mkM _ _ _ (⟨0, 0, (⟨#[]⟩ : ByteArray)⟩ : S24) )) (Reps.none _ _))); intro v126 w40 ho41 hb hg_ hnew_; clear hg_ hnew_; (first | rw [← Ny125.out] at ho41 | (simp only [Int.reduceToNat] at ho41; rw [← Ny125.out] at ho41)); have n_ := a7_ (Kd.S_elder' z40_ (Kd.R_base ho41) hb) (Kd.R_elder' z14_ (Kd.R_base ho41) hb) (Kd.R_elder' z21_ (Kd.R_base ho41) hb) (Kd.R_elder' z75_ (Kd.R_base ho41) hb) (Kd.R_lower (Kd.R_newB (Kd.R_new' (Kd.R_new' (Kd.R_new' ho41 (Kd.R_lt z14_)) (Kd.R_lt z21_)) (Kd.R_lt z75_)) (g := gb112) (o := .cells #[.int .i64 0, .int .i64 0, .string (⟨#[]⟩ : ByteArray)] 24 (0, 0)) z19_) (below_size z4_)) (blk_below (g := gb112) (o := .cells #[.int .i64 0, .int .i64 0, .string (⟨#[]⟩ : ByteArray)] 24 (0, 0)) z19_ hb) (below_step z4_ hb); clear HO_5 HO_7 HL110_0 HO124 BK112 HB; obtain ⟨HO_5, HO_7, HL110_0, HO124, HO127, BK112, HB⟩ := n_; clear hb ho41; obtain ⟨Ao43, co43, eo43⟩ := Kd.R_slice HO_7.out; subst eo43) | ((with_reducible refine gate_builtin (b := .append) (xs := #[.tmp 73, .tmp 74]) rfl ?_); (try (refine gate_guard (by rfl) ?_; dsimp only)); at_builtin; refine Kd.R_append_rows k24 (w0 := w) w.heap.size rfl (.tmp 73) (.tmp 74) 25 24 (.agg #[(.int .i64 0), (.int .i64 0), (.string ⟨#[]⟩)]) 32 rfl Try.underlying25 info24 rfl (by decide) (by omega) v126 y125 x7_2 _ _ _ (fun k_ => some k_ ≠ (.slice Ao43 x7_2.length co43 : Value).ownBlock ∧ some k_ ≠ (.slice (some ad111) (rd_L4 t101 x8_2).length c110_0 : Value).ownBlock ∧ some k_ ≠ (v123 : Value).ownBlock ∧ k_ ≠ gb112) (fun _ => False) rfl rfl ?aO ?aR (fun _ _ h => h) (fun _ h => h.elim) ?aF ?aB ?aS ?aL ?_; (case aR => exact cz_ ((Kd.R_reads' HO_7.out).2.2)); (case aB => exact z4_); (case aF => exact (fun k_ hk => ⟨Kd.fresh' (Kd.R_lt z14_) k_ hk, Kd.fresh' (Kd.R_lt z21_) k_ hk, Kd.fresh' (Kd.R_lt z75_) k_ hk, Kd.freshB (g := gb112) (o := .cells #[.int .i64 0, .int .i64 0, .string (⟨#[]⟩ : ByteArray)] 24 (0, 0)) z19_ k_ hk⟩)); (case aO => exact (by (with_reducible repeat (first | apply Kd.R_alloc | apply Kd.R_drewN | apply Kd.R_drew)); exact Kd.R_mono HO127.out (fun _ hk => ⟨hk.1.1.1.2, ⟨hk.1.1.2, ⟨hk.1.2, hk.2⟩⟩⟩))); (case aS => exact (below_size z4_)); (case aL => have := LMc32.out; omega); intro v129 w42 ho hb hg hat; rw [← Ny128.out] at ho; have n_ := a7_ (Kd.S_after (ok := (fun k_ => some k_ ≠ (.slice Ao43 x7_2.length co43 : Value).ownBlock ∧ some k_ ≠ (v123 : Value).ownBlock ∧ k_ ≠ gb112)) z48_ hg hat) (Kd.R_after (ok := (fun k_ => some k_ ≠ (v123 : Value).ownBlock ∧ k_ ≠ gb112)) z49_ hg hat) (Kd.R_after (ok := (fun k_ => some k_ ≠ (.slice (some ad110) t101.length co33 : Value).ownBlock ∧ some k_ ≠ (.slice Ao43 x7_2.length co43 : Value).ownBlock ∧ some k_ ≠ (v123 : Value).ownBlock ∧ k_ ≠ gb112)) z45_ hg hat) (blk_grown (g := gb112) (o := .cells #[.int .i64 0, .int .i64 0, .string (⟨#[]⟩ : ByteArray)] 24 (0, 0)) z19_ hg (Kd.R_away HO127.out (fun _ hk => hk.2))) (Kd.R_after (ok := (fun k_ => some k_ ≠ (.slice Ao43 x7_2.length co43 : Value).ownBlock ∧ k_ ≠ gb112)) z75_ hg hat) (hb) (ho); clear HO_5 HO_7 HL110_0 BK112 HO124 HB HO127; obtain ⟨HO_5, HO_7, HL110_0, BK112, HO124, HB, HO130⟩ := n_; clear ho hb hg hat))
          go_roundg k2
          case measure => have := HJ2.out; have := HK2.out; omega
          case rel => exact ⟨(y122), (y128), (wrap64 (x8_2 + 1)), z12_, H', ⟨by have := HJ2.out; have := HK2.out; omega⟩, ⟨by (with_reducible repeat (first | apply Kd.S_alloc | apply Kd.S_drewN | apply Kd.S_drew)); exact Kd.S_mono HO_5.out (fun _ hk => ⟨hk.1.2.1, hk.2⟩)⟩, ⟨by (with_reducible repeat (first | apply Kd.R_alloc | apply Kd.R_drewN | apply Kd.R_drew)); exact Kd.R_mono HO124.out (fun _ hk => hk.2)⟩, ⟨by (with_reducible repeat (first | apply Kd.R_alloc | apply Kd.R_drewN | apply Kd.R_drew)); exact Kd.R_mono HO130.out (fun _ hk => hk.2.2.1)⟩, ⟨z4_⟩⟩
         ·rw [if_neg c32] at H
          exact absurd H (by simp)
        ·rw [if_neg c31] at H
         exact absurd H (by simp)
       ·rw [if_neg c30] at H
        have c30b0 := decide_eq_false c30
        clear c30
        by_cases c44 : x6_2.length < 4398046511104
        ·rw [if_pos c44] at H
         have LMc44 := ak_ c44
         clear c44
         obtain ⟨y131, hy131⟩ : ∃ y_ : List (S24), y_ = (x6_2 ++ [(⟨(rd_T24 (rd_L4 t101 x8_2) 0).f0, (rd_T24 (rd_L4 t101 x8_2) 0).f1, (rd_T24 (rd_L4 t101 x8_2) 0).f2⟩ : S24)]) := ⟨_, rfl⟩
         replace H : ((some (([(⟨(rd_T24 (rd_L4 t101 x8_2) 0).f0, (rd_T24 (rd_L4 t101 x8_2) 0).f1, (rd_T24 (rd_L4 t101 x8_2) 0).f2⟩ : S24)] : List (S24)) : List (S24))).bind fun y134 => (if y134.length + x7_2.length < 4398046511104 then (laws_FnAggs.l0 k2 l1 t101 y131 (y134 ++ x7_2) (wrap64 (x8_2 + 1))) else (none))) = some r := by first | (rw [hy131]; with_reducible exact H) | (have H2_ := (Option.bind_some _ _).symm.trans H; rw [hy131]; with_reducible exact H2_) | (have H2_ := (Option.bind_some _ _).symm.trans H; with_reducible exact H2_) | with_reducible exact H | (rw [hy131]; exact H) | exact H
         have Ny131 := ak_ hy131
         clear hy131
         obtain ⟨y134, hy134⟩ : ∃ y_ : List (S24), y_ = (([(⟨(rd_T24 (rd_L4 t101 x8_2) 0).f0, (rd_T24 (rd_L4 t101 x8_2) 0).f1, (rd_T24 (rd_L4 t101 x8_2) 0).f2⟩ : S24)] : List (S24))) := ⟨_, rfl⟩
         replace H : (if y134.length + x7_2.length < 4398046511104 then (laws_FnAggs.l0 k2 l1 t101 y131 (y134 ++ x7_2) (wrap64 (x8_2 + 1))) else (none)) = some r := by first | (rw [hy134]; with_reducible exact H) | (have H2_ := (Option.bind_some _ _).symm.trans H; rw [hy134]; with_reducible exact H2_) | (have H2_ := (Option.bind_some _ _).symm.trans H; with_reducible exact H2_) | with_reducible exact H | (rw [hy134]; exact H) | exact H
         have Ny134 := ak_ hy134
         clear hy134
         by_cases c45 : y134.length + x7_2.length < 4398046511104
         ·rw [if_pos c45] at H
          have LMc45 := ak_ c45
          clear c45
          obtain ⟨y137, hy137⟩ : ∃ y_ : List (S24), y_ = (y134 ++ x7_2) := ⟨_, rfl⟩
          replace H : (laws_FnAggs.l0 k2 l1 t101 y131 y137 (wrap64 (x8_2 + 1))) = some r := by first | (rw [hy137]; with_reducible exact H) | (have H2_ := (Option.bind_some _ _).symm.trans H; rw [hy137]; with_reducible exact H2_) | (have H2_ := (Option.bind_some _ _).symm.trans H; with_reducible exact H2_) | with_reducible exact H | (rw [hy137]; exact H) | exact H
          have Ny137 := ak_ hy137
          clear hy137
          have H' := ak_ H
          clear H
          obtain ⟨Ao46, co46, eo46⟩ := Kd.S_slice HO_5.out
          subst eo46
          have p110 : 0 ≤ (x8_2 : Int) := of_decide_eq_true z11_
          have q110 : x8_2 < (t101.length : Int) := of_decide_eq_true z11_
          obtain ⟨ad110, A110_0, c110_0, e110, hx110_0, hl110_0, hi110_0⟩ := at_L4 (Kd.S_reads' HO_5.out).2.2 x8_2 p110 q110
          cases e110
          obtain ⟨ce110, hce110, hMe110, hcc110⟩ := Kd.S_get HO_5.out [] x8_2 p110 z60_
          obtain ⟨ve110_0, rfl, ge110_0⟩ := hMe110
          have hv110_0 := hcc110 0 _ rfl
          rw [Nat.add_zero, show ((Kd.slice 24 k24)).sz = 1 from rfl, Nat.mul_one] at hv110_0
          replace hv110_0 := Option.some.inj (hv110_0.symm.trans hx110_0)
          rw [hv110_0] at ge110_0
          have HL110_0 := ak_ (show Kd.R k24 24 _ _ _ _ (rd_L4 t101 x8_2) from ge110_0)
          clear hv110_0 ge110_0
          clear hcc110 hce110
          have HR110_0 := ak_ hi110_0
          have HC110_0 := ak_ hl110_0
          clear hi110_0 hl110_0
          replace p110 := eq_true p110
          replace q110 := eq_true q110
          have p111 : 0 ≤ (0 : Int) := (by omega)
          have q111 : 0 < ((rd_L4 t101 x8_2).length : Int) := of_decide_eq_true z11_
          obtain ⟨ad111, e111, hx111_0, hx111_1, hx111_2⟩ := at_T24 z25_ 0 p111 q111
          cases e111
          have qi111 : (0 < (rd_L4 t101 x8_2).length) = True := eq_true (by omega)
          (try rw [show ((0 : Int)).toNat = 0 from rfl] at hx111_0)
          (try rw [show 0 * 3 = 0 from rfl] at hx111_0)
          (try rw [Addr.add_zero'] at hx111_0)
          (try rw [show ((0 : Int)).toNat = 0 from rfl] at hx111_1)
          (try rw [show 0 * 3 = 0 from rfl] at hx111_1)
          (try rw [Addr.add_zero'] at hx111_1)
          (try rw [show ((0 : Int)).toNat = 0 from rfl] at hx111_2)
          (try rw [show 0 * 3 = 0 from rfl] at hx111_2)
          (try rw [Addr.add_zero'] at hx111_2)
          replace p111 := eq_true p111
          replace q111 := eq_true q111
          go_wp2_with (first | ((with_reducible refine gate_dst (N := 9) rfl ?_); (try (refine gate_guard (by rfl) ?_; dsimp only)); refine bx_ 9 (cs := #[.int .i64 0, .int .i64 0, .string (⟨#[]⟩ : ByteArray)]) (t := 24) (h_ := ?_); intro gb112 hg w47 hbox hb; have n_ := a9_ (Kd.S_below (Kd.S_elderB z40_ gb112 (Nat.le_of_eq hg.symm)) hb) (Kd.R_below (Kd.R_elderB z22_ gb112 (Nat.le_of_eq hg.symm)) hb) (Kd.R_below (Kd.R_elderB z14_ gb112 (Nat.le_of_eq hg.symm)) hb) (Kd.R_below (Kd.R_elderB z21_ gb112 (Nat.le_of_eq hg.symm)) hb) (Kd.C_below z25_ hb) (below_step z0_ hb) (hbox) ((gs_ w hg (below_size z0_))) ((gs_ w hg (below_size z0_))); clear HO_5 HO_6 HO_7 HL110_0 HR110_0 HB; obtain ⟨HO_5, HO_6, HO_7, HL110_0, HR110_0, HB, BK112, GW112, GE112⟩ := n_; clear hb hbox hg; obtain ⟨hcz48_0, hcz48_1, hcz48_2, hfz48_0, hfz48_1, hfz48_2⟩ := bcf3 BK112.out) | ((with_reducible refine gate_builtin (b := .append) (xs := #[.tmp 68, .tmp 70]) rfl ?_); (try (refine gate_guard (by rfl) ?_; dsimp only)); at_builtin; refine Kd.R_append k24 (w0 := w) w.heap.size rfl (.tmp 68) (.tmp 70) 25 24 (.agg #[(.int .i64 0), (.int .i64 0), (.string ⟨#[]⟩)]) 32 rfl Try.underlying25 info24 rfl (by decide) (by omega) u6 x6_2 (⟨(rd_T24 (rd_L4 t101 x8_2) 0).f0, (rd_T24 (rd_L4 t101 x8_2) 0).f1, (rd_T24 (rd_L4 t101 x8_2) 0).f2⟩ : S24) [.int .i64 ((rd_T24 (rd_L4 t101 x8_2) 0).f0), .int .i64 ((rd_T24 (rd_L4 t101 x8_2) 0).f1), .string ((rd_T24 (rd_L4 t101 x8_2) 0).f2)] (fun k_ => some k_ ≠ (u7 : Value).ownBlock ∧ k_ ≠ gb112) (fun _ => False) rfl z84_ ?aP (fun _ hk => hk.elim) ?aF ?aO ?aB ?aS ?aL ?_; (case aP => exact k24_mkM _ _ _ (⟨(rd_T24 (rd_L4 t101 x8_2) 0).f0, (rd_T24 (rd_L4 t101 x8_2) 0).f1, (rd_T24 (rd_L4 t101 x8_2) 0).f2⟩ : S24)); (case aB => exact z4_); (case aF => exact (fun k_ hk => ⟨Kd.fresh' (Kd.R_lt z65_) k_ hk, Kd.freshB (g := gb112) (o := .cells #[.int .i64 ((rd_T24 (rd_L4 t101 x8_2) 0).f0), .int .i64 ((rd_T24 (rd_L4 t101 x8_2) 0).f1), .string ((rd_T24 (rd_L4 t101 x8_2) 0).f2)] 24 (0, 0)) z7_ k_ hk⟩)); (case aO => exact z20_); (case aS => exact (below_size z4_)); (case aL => have := LMc44.out; omega); intro v132 w49 ho hb hg hat; rw [← Ny131.out] at ho; have n_ := a6_ (Kd.S_after (ok := (fun k_ => some k_ ≠ (u7 : Value).ownBlock ∧ k_ ≠ gb112)) z62_ hg hat) (Kd.R_after (ok := (fun k_ => k_ ≠ gb112)) z64_ hg hat) (Kd.R_after (ok := (fun k_ => some k_ ≠ (.slice (some ad110) t101.length co46 : Value).ownBlock ∧ some k_ ≠ (u7 : Value).ownBlock ∧ k_ ≠ gb112)) z61_ hg hat) (blk_grown (g := gb112) (o := .cells #[.int .i64 ((rd_T24 (rd_L4 t101 x8_2) 0).f0), .int .i64 ((rd_T24 (rd_L4 t101 x8_2) 0).f1), .string ((rd_T24 (rd_L4 t101 x8_2) 0).f2)] 24 (0, 0)) z7_ hg (Kd.R_away HO_6.out (fun _ hk => hk.2))) (hb) (ho); clear HO_5 HO_7 HL110_0 BK112 HB HO_6; obtain ⟨HO_5, HO_7, HL110_0, BK112, HB, HO133⟩ := n_; clear ho hb hg hat; obtain ⟨hcz50_0, hcz50_1, hcz50_2, hfz50_0, hfz50_1, hfz50_2⟩ := bcf3 BK112.out) | ((with_reducible refine gate_dst (N := 73) rfl ?_); (try (refine gate_guard (by rfl) ?_; dsimp only)); refine Kd.R_lit k24 _ 24 ?hg (N := 73) ?hd (xs := ([(⟨(rd_T24 (rd_L4 t101 x8_2) 0).f0, (rd_T24 (rd_L4 t101 x8_2) 0).f1, (rd_T24 (rd_L4 t101 x8_2) 0).f2⟩ : S24)] : List (S24))) (inner := [.int .i64 ((rd_T24 (rd_L4 t101 x8_2) 0).f0), .int .i64 ((rd_T24 (rd_L4 t101 x8_2) 0).f1), .string ((rd_T24 (rd_L4 t101 x8_2) 0).f2)]) (ok := fun _ => True) (okp := fun _ => True) ?hr ?hp (fun _ hk => hk) trivial (Below.refl _ _) (Nat.le_refl _) (by simp) ?_; (case hd => rfl); (case hg => rfl); (case hr => first | (go_simp; done) | (go_simp; rfl)); (case hp => exact (Reps.c3 (show Kd.M k24 _ _ _ (⟨(rd_T24 (rd_L4 t101 x8_2) 0).f0, (rd_T24 (rd_L4 t101 x8_2) 0).f1, (rd_T24 (rd_L4 t101 x8_2) 0).f2⟩ : S24) [.int .i64 ((rd_T24 (rd_L4 t101 x8_2) 0).f0), .int .i64 ((rd_T24 (rd_L4 t101 x8_2) 0).f1), .string ((rd_T24 (rd_L4 t101 x8_2) 0).f2)] from (k24_mkM _ _ _ (⟨(rd_T24 (rd_L4 t101 x8_2) 0).f0, (rd_T24 (rd_L4 t101 x8_2) 0).f1, (rd_T24 (rd_L4 t101 x8_2) 0).f2⟩ : S24) )) (Reps.none _ _))); intro v135 w51 ho52 hb hg_ hnew_; clear hg_ hnew_; (first | rw [← Ny134.out] at ho52 | (simp only [Int.reduceToNat] at ho52; rw [← Ny134.out] at ho52)); have n_ := a7_ (Kd.S_elder' z40_ (Kd.R_base ho52) hb) (Kd.R_elder' z14_ (Kd.R_base ho52) hb) (Kd.R_elder' z21_ (Kd.R_base ho52) hb) (Kd.R_elder' z76_ (Kd.R_base ho52) hb) (Kd.R_lower (Kd.R_newB (Kd.R_new' (Kd.R_new' (Kd.R_new' ho52 (Kd.R_lt z14_)) (Kd.R_lt z21_)) (Kd.R_lt z76_)) (g := gb112) (o := .cells #[.int .i64 ((rd_T24 (rd_L4 t101 x8_2) 0).f0), .int .i64 ((rd_T24 (rd_L4 t101 x8_2) 0).f1), .string ((rd_T24 (rd_L4 t101 x8_2) 0).f2)] 24 (0, 0)) z19_) (below_size z4_)) (blk_below (g := gb112) (o := .cells #[.int .i64 ((rd_T24 (rd_L4 t101 x8_2) 0).f0), .int .i64 ((rd_T24 (rd_L4 t101 x8_2) 0).f1), .string ((rd_T24 (rd_L4 t101 x8_2) 0).f2)] 24 (0, 0)) z19_ hb) (below_step z4_ hb); clear HO_5 HO_7 HL110_0 HO133 BK112 HB; obtain ⟨HO_5, HO_7, HL110_0, HO133, HO136, BK112, HB⟩ := n_; clear hb ho52; obtain ⟨Ao54, co54, eo54⟩ := Kd.R_slice HO_7.out; subst eo54) | ((with_reducible refine gate_builtin (b := .append) (xs := #[.tmp 73, .tmp 74]) rfl ?_); (try (refine gate_guard (by rfl) ?_; dsimp only)); at_builtin; refine Kd.R_append_rows k24 (w0 := w) w.heap.size rfl (.tmp 73) (.tmp 74) 25 24 (.agg #[(.int .i64 0), (.int .i64 0), (.string ⟨#[]⟩)]) 32 rfl Try.underlying25 info24 rfl (by decide) (by omega) v135 y134 x7_2 _ _ _ (fun k_ => some k_ ≠ (.slice Ao54 x7_2.length co54 : Value).ownBlock ∧ some k_ ≠ (.slice (some ad111) (rd_L4 t101 x8_2).length c110_0 : Value).ownBlock ∧ some k_ ≠ (v132 : Value).ownBlock ∧ k_ ≠ gb112) (fun _ => False) rfl rfl ?aO ?aR (fun _ _ h => h) (fun _ h => h.elim) ?aF ?aB ?aS ?aL ?_; (case aR => exact cz_ ((Kd.R_reads' HO_7.out).2.2)); (case aB => exact z4_); (case aF => exact (fun k_ hk => ⟨Kd.fresh' (Kd.R_lt z14_) k_ hk, Kd.fresh' (Kd.R_lt z21_) k_ hk, Kd.fresh' (Kd.R_lt z76_) k_ hk, Kd.freshB (g := gb112) (o := .cells #[.int .i64 ((rd_T24 (rd_L4 t101 x8_2) 0).f0), .int .i64 ((rd_T24 (rd_L4 t101 x8_2) 0).f1), .string ((rd_T24 (rd_L4 t101 x8_2) 0).f2)] 24 (0, 0)) z19_ k_ hk⟩)); (case aO => exact (by (with_reducible repeat (first | apply Kd.R_alloc | apply Kd.R_drewN | apply Kd.R_drew)); exact Kd.R_mono HO136.out (fun _ hk => ⟨hk.1.1.1.2, ⟨hk.1.1.2, ⟨hk.1.2, hk.2⟩⟩⟩))); (case aS => exact (below_size z4_)); (case aL => have := LMc45.out; omega); intro v138 w53 ho hb hg hat; rw [← Ny137.out] at ho; have n_ := a7_ (Kd.S_after (ok := (fun k_ => some k_ ≠ (.slice Ao54 x7_2.length co54 : Value).ownBlock ∧ some k_ ≠ (v132 : Value).ownBlock ∧ k_ ≠ gb112)) z48_ hg hat) (Kd.R_after (ok := (fun k_ => some k_ ≠ (v132 : Value).ownBlock ∧ k_ ≠ gb112)) z49_ hg hat) (Kd.R_after (ok := (fun k_ => some k_ ≠ (.slice (some ad110) t101.length co46 : Value).ownBlock ∧ some k_ ≠ (.slice Ao54 x7_2.length co54 : Value).ownBlock ∧ some k_ ≠ (v132 : Value).ownBlock ∧ k_ ≠ gb112)) z45_ hg hat) (blk_grown (g := gb112) (o := .cells #[.int .i64 ((rd_T24 (rd_L4 t101 x8_2) 0).f0), .int .i64 ((rd_T24 (rd_L4 t101 x8_2) 0).f1), .string ((rd_T24 (rd_L4 t101 x8_2) 0).f2)] 24 (0, 0)) z19_ hg (Kd.R_away HO136.out (fun _ hk => hk.2))) (Kd.R_after (ok := (fun k_ => some k_ ≠ (.slice Ao54 x7_2.length co54 : Value).ownBlock ∧ k_ ≠ gb112)) z76_ hg hat) (hb) (ho); clear HO_5 HO_7 HL110_0 BK112 HO133 HB HO136; obtain ⟨HO_5, HO_7, HL110_0, BK112, HO133, HB, HO139⟩ := n_; clear ho hb hg hat))
          go_roundg k2
          case measure => have := HJ2.out; have := HK2.out; omega
          case rel => exact ⟨(y131), (y137), (wrap64 (x8_2 + 1)), z12_, H', ⟨by have := HJ2.out; have := HK2.out; omega⟩, ⟨by (with_reducible repeat (first | apply Kd.S_alloc | apply Kd.S_drewN | apply Kd.S_drew)); exact Kd.S_mono HO_5.out (fun _ hk => ⟨hk.1.2.1, hk.2⟩)⟩, ⟨by (with_reducible repeat (first | apply Kd.R_alloc | apply Kd.R_drewN | apply Kd.R_drew)); exact Kd.R_mono HO133.out (fun _ hk => hk.2)⟩, ⟨by (with_reducible repeat (first | apply Kd.R_alloc | apply Kd.R_drewN | apply Kd.R_drew)); exact Kd.R_mono HO139.out (fun _ hk => hk.2.2.1)⟩, ⟨z4_⟩⟩
         ·rw [if_neg c45] at H
          exact absurd H (by simp)
        ·rw [if_neg c44] at H
         exact absurd H (by simp)
     rw [if_neg c15] at H
     have c15b0 : (((rd_T24 (rd_L4 t101 x8_2) 0).f0) == 2) = false := beq_eq_false_iff_ne.mpr c15
     have c15b1 : (((rd_T24 (rd_L4 t101 x8_2) 0).f0) != 2) = true := bne_iff_ne.mpr c15
     by_cases c55 : ((rd_T24 (rd_L4 t101 x8_2) 0).f0) = 0
     rotate_left
     ·rw [if_neg c55] at H
      have c55b0 : (((rd_T24 (rd_L4 t101 x8_2) 0).f0) == 0) = false := beq_eq_false_iff_ne.mpr c55
      have c55b1 : (((rd_T24 (rd_L4 t101 x8_2) 0).f0) != 0) = true := bne_iff_ne.mpr c55
      by_cases c95 : x6_2.length < 4398046511104
      ·rw [if_pos c95] at H
       have LMc95 := ak_ c95
       clear c95
       obtain ⟨y167, hy167⟩ : ∃ y_ : List (S24), y_ = (x6_2 ++ [(⟨0, 0, (⟨#[]⟩ : ByteArray)⟩ : S24)]) := ⟨_, rfl⟩
       replace H : ((some (([(⟨0, 0, (⟨#[]⟩ : ByteArray)⟩ : S24)] : List (S24)) : List (S24))).bind fun y170 => (if y170.length + x7_2.length < 4398046511104 then (laws_FnAggs.l0 k2 l1 t101 y167 (y170 ++ x7_2) (wrap64 (x8_2 + 1))) else (none))) = some r := by first | (rw [hy167]; with_reducible exact H) | (have H2_ := (Option.bind_some _ _).symm.trans H; rw [hy167]; with_reducible exact H2_) | (have H2_ := (Option.bind_some _ _).symm.trans H; with_reducible exact H2_) | with_reducible exact H | (rw [hy167]; exact H) | exact H
       have Ny167 := ak_ hy167
       clear hy167
       obtain ⟨y170, hy170⟩ : ∃ y_ : List (S24), y_ = (([(⟨0, 0, (⟨#[]⟩ : ByteArray)⟩ : S24)] : List (S24))) := ⟨_, rfl⟩
       replace H : (if y170.length + x7_2.length < 4398046511104 then (laws_FnAggs.l0 k2 l1 t101 y167 (y170 ++ x7_2) (wrap64 (x8_2 + 1))) else (none)) = some r := by first | (rw [hy170]; with_reducible exact H) | (have H2_ := (Option.bind_some _ _).symm.trans H; rw [hy170]; with_reducible exact H2_) | (have H2_ := (Option.bind_some _ _).symm.trans H; with_reducible exact H2_) | with_reducible exact H | (rw [hy170]; exact H) | exact H
       have Ny170 := ak_ hy170
       clear hy170
       by_cases c96 : y170.length + x7_2.length < 4398046511104
       ·rw [if_pos c96] at H
        have LMc96 := ak_ c96
        clear c96
        obtain ⟨y173, hy173⟩ : ∃ y_ : List (S24), y_ = (y170 ++ x7_2) := ⟨_, rfl⟩
        replace H : (laws_FnAggs.l0 k2 l1 t101 y167 y173 (wrap64 (x8_2 + 1))) = some r := by first | (rw [hy173]; with_reducible exact H) | (have H2_ := (Option.bind_some _ _).symm.trans H; rw [hy173]; with_reducible exact H2_) | (have H2_ := (Option.bind_some _ _).symm.trans H; with_reducible exact H2_) | with_reducible exact H | (rw [hy173]; exact H) | exact H
        have Ny173 := ak_ hy173
        clear hy173
        have H' := ak_ H
        clear H
        obtain ⟨Ao97, co97, eo97⟩ := Kd.S_slice HO_5.out
        subst eo97
        have p110 : 0 ≤ (x8_2 : Int) := of_decide_eq_true z11_
        have q110 : x8_2 < (t101.length : Int) := of_decide_eq_true z11_
        obtain ⟨ad110, A110_0, c110_0, e110, hx110_0, hl110_0, hi110_0⟩ := at_L4 (Kd.S_reads' HO_5.out).2.2 x8_2 p110 q110
        cases e110
        obtain ⟨ce110, hce110, hMe110, hcc110⟩ := Kd.S_get HO_5.out [] x8_2 p110 z60_
        obtain ⟨ve110_0, rfl, ge110_0⟩ := hMe110
        have hv110_0 := hcc110 0 _ rfl
        rw [Nat.add_zero, show ((Kd.slice 24 k24)).sz = 1 from rfl, Nat.mul_one] at hv110_0
        replace hv110_0 := Option.some.inj (hv110_0.symm.trans hx110_0)
        rw [hv110_0] at ge110_0
        have HL110_0 := ak_ (show Kd.R k24 24 _ _ _ _ (rd_L4 t101 x8_2) from ge110_0)
        clear hv110_0 ge110_0
        clear hcc110 hce110
        have HR110_0 := ak_ hi110_0
        have HC110_0 := ak_ hl110_0
        clear hi110_0 hl110_0
        replace p110 := eq_true p110
        replace q110 := eq_true q110
        have p111 : 0 ≤ (0 : Int) := (by omega)
        have q111 : 0 < ((rd_L4 t101 x8_2).length : Int) := of_decide_eq_true z11_
        obtain ⟨ad111, e111, hx111_0, hx111_1, hx111_2⟩ := at_T24 z25_ 0 p111 q111
        cases e111
        have qi111 : (0 < (rd_L4 t101 x8_2).length) = True := eq_true (by omega)
        (try rw [show ((0 : Int)).toNat = 0 from rfl] at hx111_0)
        (try rw [show 0 * 3 = 0 from rfl] at hx111_0)
        (try rw [Addr.add_zero'] at hx111_0)
        (try rw [show ((0 : Int)).toNat = 0 from rfl] at hx111_1)
        (try rw [show 0 * 3 = 0 from rfl] at hx111_1)
        (try rw [Addr.add_zero'] at hx111_1)
        (try rw [show ((0 : Int)).toNat = 0 from rfl] at hx111_2)
        (try rw [show 0 * 3 = 0 from rfl] at hx111_2)
        (try rw [Addr.add_zero'] at hx111_2)
        replace p111 := eq_true p111
        replace q111 := eq_true q111
        go_wp2_with (first | ((with_reducible refine gate_dst (N := 9) rfl ?_); (try (refine gate_guard (by rfl) ?_; dsimp only)); refine bx_ 9 (cs := #[.int .i64 0, .int .i64 0, .string (⟨#[]⟩ : ByteArray)]) (t := 24) (h_ := ?_); intro gb112 hg w98 hbox hb; have n_ := a9_ (Kd.S_below (Kd.S_elderB z40_ gb112 (Nat.le_of_eq hg.symm)) hb) (Kd.R_below (Kd.R_elderB z22_ gb112 (Nat.le_of_eq hg.symm)) hb) (Kd.R_below (Kd.R_elderB z14_ gb112 (Nat.le_of_eq hg.symm)) hb) (Kd.R_below (Kd.R_elderB z21_ gb112 (Nat.le_of_eq hg.symm)) hb) (Kd.C_below z25_ hb) (below_step z0_ hb) (hbox) ((gs_ w hg (below_size z0_))) ((gs_ w hg (below_size z0_))); clear HO_5 HO_6 HO_7 HL110_0 HR110_0 HB; obtain ⟨HO_5, HO_6, HO_7, HL110_0, HR110_0, HB, BK112, GW112, GE112⟩ := n_; clear hb hbox hg; obtain ⟨hcz99_0, hcz99_1, hcz99_2, hfz99_0, hfz99_1, hfz99_2⟩ := bcf3 BK112.out) | ((with_reducible refine gate_store (t := 24) (p := 9) rfl ?_); refine store_event (t := 24) (p := 9) (v := ?vo_w100) (w1 := (((w98.setCell ⟨gb112, 0, none⟩ (.int .i64 ((rd_T24 (rd_L4 t101 x8_2) 0).f0))).setCell ⟨gb112, 1, none⟩ (.int .i64 ((rd_T24 (rd_L4 t101 x8_2) 0).f1))).setCell ⟨gb112, 2, none⟩ (.string ((rd_T24 (rd_L4 t101 x8_2) 0).f2)))) ?hg ?ho ?hn ?hr ?_; (case ho => rfl); (case hg => rfl); (case hn => rfl); (case hr => first | (go_simp; done) | (go_simp; rfl)); intro w100 hw; have n0_ : Aside0 (Kd.S (Kd.slice 24 k24) 25 w100 w.heap.size (fun k_ => some k_ ≠ (u6 : Value).ownBlock ∧ some k_ ≠ (u7 : Value).ownBlock ∧ k_ ≠ gb112) (.slice (some ad110) t101.length co97) t101) := ⟨z30_⟩; have n1_ : Aside0 (Kd.R k24 24 w100 w.heap.size (fun k_ => some k_ ≠ (u7 : Value).ownBlock ∧ k_ ≠ gb112) u6 x6_2) := ⟨(by rw [hw]; exact z20_)⟩; have n2_ : Aside0 (Kd.R k24 24 w100 w.heap.size (fun k_ => some k_ ≠ (u6 : Value).ownBlock ∧ k_ ≠ gb112) u7 x7_2) := ⟨z31_⟩; have n3_ : Aside0 (Kd.R k24 24 w100 w.heap.size (fun k_ => some k_ ≠ (.slice (some ad110) t101.length co97 : Value).ownBlock ∧ some k_ ≠ (u6 : Value).ownBlock ∧ some k_ ≠ (u7 : Value).ownBlock ∧ k_ ≠ gb112) (.slice (some ad111) (rd_L4 t101 x8_2).length c110_0) (rd_L4 t101 x8_2)) := ⟨z29_⟩; have n4_ : Aside0 (w100.heap[gb112]? = some (.cells #[.int .i64 ((rd_T24 (rd_L4 t101 x8_2) 0).f0), .int .i64 ((rd_T24 (rd_L4 t101 x8_2) 0).f1), .string ((rd_T24 (rd_L4 t101 x8_2) 0).f2)] 24 (0, 0))) := ⟨(by rw [hw]; exact z7_)⟩; have n5_ : Aside0 (Below w.heap.size w w100) := ⟨(by rw [hw]; exact z4_)⟩; clear hw; clear HO_5; clear HO_6; clear HO_7; clear HL110_0; clear BK112; clear HB; have HO_5 := n0_; have HO_6 := n1_; have HO_7 := n2_; have HL110_0 := n3_; have BK112 := n4_; have HB := n5_; clear n0_ n1_ n2_ n3_ n4_ n5_; obtain ⟨hcz101_0, hcz101_1, hcz101_2, hfz101_0, hfz101_1, hfz101_2⟩ := bcf3 BK112.out) | ((with_reducible refine gate_builtin (b := .append) (xs := #[.tmp 68, .tmp 70]) rfl ?_); (try (refine gate_guard (by rfl) ?_; dsimp only)); at_builtin; refine Kd.R_append k24 (w0 := w) w.heap.size rfl (.tmp 68) (.tmp 70) 25 24 (.agg #[(.int .i64 0), (.int .i64 0), (.string ⟨#[]⟩)]) 32 rfl Try.underlying25 info24 rfl (by decide) (by omega) u6 x6_2 (⟨0, 0, (⟨#[]⟩ : ByteArray)⟩ : S24) [.int .i64 0, .int .i64 0, .string (⟨#[]⟩ : ByteArray)] (fun k_ => some k_ ≠ (u7 : Value).ownBlock ∧ k_ ≠ gb112) (fun _ => False) rfl z84_ ?aP (fun _ hk => hk.elim) ?aF ?aO ?aB ?aS ?aL ?_; (case aP => exact k24_mkM _ _ _ (⟨0, 0, (⟨#[]⟩ : ByteArray)⟩ : S24)); (case aB => exact z4_); (case aF => exact (fun k_ hk => ⟨Kd.fresh' (Kd.R_lt z37_) k_ hk, Kd.freshB (g := gb112) (o := .cells #[.int .i64 0, .int .i64 0, .string (⟨#[]⟩ : ByteArray)] 24 (0, 0)) z6_ k_ hk⟩)); (case aO => exact z35_); (case aS => exact (below_size z4_)); (case aL => have := LMc95.out; omega); intro v168 w102 ho hb hg hat; rw [← Ny167.out] at ho; have n_ := a6_ (Kd.S_after (ok := (fun k_ => some k_ ≠ (u7 : Value).ownBlock ∧ k_ ≠ gb112)) z34_ hg hat) (Kd.R_after (ok := (fun k_ => k_ ≠ gb112)) z36_ hg hat) (Kd.R_after (ok := (fun k_ => some k_ ≠ (.slice (some ad110) t101.length co97 : Value).ownBlock ∧ some k_ ≠ (u7 : Value).ownBlock ∧ k_ ≠ gb112)) z33_ hg hat) (blk_grown (g := gb112) (o := .cells #[.int .i64 0, .int .i64 0, .string (⟨#[]⟩ : ByteArray)] 24 (0, 0)) z6_ hg (Kd.R_away HO_6.out (fun _ hk => hk.2))) (hb) (ho); clear HO_5 HO_7 HL110_0 BK112 HB HO_6; obtain ⟨HO_5, HO_7, HL110_0, BK112, HB, HO169⟩ := n_; clear ho hb hg hat; obtain ⟨hcz103_0, hcz103_1, hcz103_2, hfz103_0, hfz103_1, hfz103_2⟩ := bcf3 BK112.out) | ((with_reducible refine gate_dst (N := 73) rfl ?_); (try (refine gate_guard (by rfl) ?_; dsimp only)); refine Kd.R_lit k24 _ 24 ?hg (N := 73) ?hd (xs := ([(⟨0, 0, (⟨#[]⟩ : ByteArray)⟩ : S24)] : List (S24))) (inner := [.int .i64 0, .int .i64 0, .string (⟨#[]⟩ : ByteArray)]) (ok := fun _ => True) (okp := fun _ => True) ?hr ?hp (fun _ hk => hk) trivial (Below.refl _ _) (Nat.le_refl _) (by simp) ?_; (case hd => rfl); (case hg => rfl); (case hr => first | (go_simp; done) | (go_simp; rfl)); (case hp => exact (Reps.c3 (show Kd.M k24 _ _ _ (⟨0, 0, (⟨#[]⟩ : ByteArray)⟩ : S24) [.int .i64 0, .int .i64 0, .string (⟨#[]⟩ : ByteArray)] from (k24_mkM _ _ _ (⟨0, 0, (⟨#[]⟩ : ByteArray)⟩ : S24) )) (Reps.none _ _))); intro v171 w104 ho105 hb hg_ hnew_; clear hg_ hnew_; (first | rw [← Ny170.out] at ho105 | (simp only [Int.reduceToNat] at ho105; rw [← Ny170.out] at ho105)); have n_ := a7_ (Kd.S_elder' z40_ (Kd.R_base ho105) hb) (Kd.R_elder' z14_ (Kd.R_base ho105) hb) (Kd.R_elder' z21_ (Kd.R_base ho105) hb) (Kd.R_elder' z77_ (Kd.R_base ho105) hb) (Kd.R_lower (Kd.R_newB (Kd.R_new' (Kd.R_new' (Kd.R_new' ho105 (Kd.R_lt z14_)) (Kd.R_lt z21_)) (Kd.R_lt z77_)) (g := gb112) (o := .cells #[.int .i64 0, .int .i64 0, .string (⟨#[]⟩ : ByteArray)] 24 (0, 0)) z19_) (below_size z4_)) (blk_below (g := gb112) (o := .cells #[.int .i64 0, .int .i64 0, .string (⟨#[]⟩ : ByteArray)] 24 (0, 0)) z19_ hb) (below_step z4_ hb); clear HO_5 HO_7 HL110_0 HO169 BK112 HB; obtain ⟨HO_5, HO_7, HL110_0, HO169, HO172, BK112, HB⟩ := n_; clear hb ho105; obtain ⟨Ao107, co107, eo107⟩ := Kd.R_slice HO_7.out; subst eo107) | ((with_reducible refine gate_builtin (b := .append) (xs := #[.tmp 73, .tmp 74]) rfl ?_); (try (refine gate_guard (by rfl) ?_; dsimp only)); at_builtin; refine Kd.R_append_rows k24 (w0 := w) w.heap.size rfl (.tmp 73) (.tmp 74) 25 24 (.agg #[(.int .i64 0), (.int .i64 0), (.string ⟨#[]⟩)]) 32 rfl Try.underlying25 info24 rfl (by decide) (by omega) v171 y170 x7_2 _ _ _ (fun k_ => some k_ ≠ (.slice Ao107 x7_2.length co107 : Value).ownBlock ∧ some k_ ≠ (.slice (some ad111) (rd_L4 t101 x8_2).length c110_0 : Value).ownBlock ∧ some k_ ≠ (v168 : Value).ownBlock ∧ k_ ≠ gb112) (fun _ => False) rfl rfl ?aO ?aR (fun _ _ h => h) (fun _ h => h.elim) ?aF ?aB ?aS ?aL ?_; (case aR => exact cz_ ((Kd.R_reads' HO_7.out).2.2)); (case aB => exact z4_); (case aF => exact (fun k_ hk => ⟨Kd.fresh' (Kd.R_lt z14_) k_ hk, Kd.fresh' (Kd.R_lt z21_) k_ hk, Kd.fresh' (Kd.R_lt z77_) k_ hk, Kd.freshB (g := gb112) (o := .cells #[.int .i64 0, .int .i64 0, .string (⟨#[]⟩ : ByteArray)] 24 (0, 0)) z19_ k_ hk⟩)); (case aO => exact (by (with_reducible repeat (first | apply Kd.R_alloc | apply Kd.R_drewN | apply Kd.R_drew)); exact Kd.R_mono HO172.out (fun _ hk => ⟨hk.1.1.1.2, ⟨hk.1.1.2, ⟨hk.1.2, hk.2⟩⟩⟩))); (case aS => exact (below_size z4_)); (case aL => have := LMc96.out; omega); intro v174 w106 ho hb hg hat; rw [← Ny173.out] at ho; have n_ := a7_ (Kd.S_after (ok := (fun k_ => some k_ ≠ (.slice Ao107 x7_2.length co107 : Value).ownBlock ∧ some k_ ≠ (v168 : Value).ownBlock ∧ k_ ≠ gb112)) z48_ hg hat) (Kd.R_after (ok := (fun k_ => some k_ ≠ (v168 : Value).ownBlock ∧ k_ ≠ gb112)) z49_ hg hat) (Kd.R_after (ok := (fun k_ => some k_ ≠ (.slice (some ad110) t101.length co97 : Value).ownBlock ∧ some k_ ≠ (.slice Ao107 x7_2.length co107 : Value).ownBlock ∧ some k_ ≠ (v168 : Value).ownBlock ∧ k_ ≠ gb112)) z45_ hg hat) (blk_grown (g := gb112) (o := .cells #[.int .i64 0, .int .i64 0, .string (⟨#[]⟩ : ByteArray)] 24 (0, 0)) z19_ hg (Kd.R_away HO172.out (fun _ hk => hk.2))) (Kd.R_after (ok := (fun k_ => some k_ ≠ (.slice Ao107 x7_2.length co107 : Value).ownBlock ∧ k_ ≠ gb112)) z77_ hg hat) (hb) (ho); clear HO_5 HO_7 HL110_0 BK112 HO169 HB HO172; obtain ⟨HO_5, HO_7, HL110_0, BK112, HO169, HB, HO175⟩ := n_; clear ho hb hg hat))
        go_roundg k2
        case measure => have := HJ2.out; have := HK2.out; omega
        case rel => exact ⟨(y167), (y173), (wrap64 (x8_2 + 1)), z12_, H', ⟨by have := HJ2.out; have := HK2.out; omega⟩, ⟨by (with_reducible repeat (first | apply Kd.S_alloc | apply Kd.S_drewN | apply Kd.S_drew)); exact Kd.S_mono HO_5.out (fun _ hk => ⟨hk.1.2.1, hk.2⟩)⟩, ⟨by (with_reducible repeat (first | apply Kd.R_alloc | apply Kd.R_drewN | apply Kd.R_drew)); exact Kd.R_mono HO169.out (fun _ hk => hk.2)⟩, ⟨by (with_reducible repeat (first | apply Kd.R_alloc | apply Kd.R_drewN | apply Kd.R_drew)); exact Kd.R_mono HO175.out (fun _ hk => hk.2.2.1)⟩, ⟨z4_⟩⟩
       ·rw [if_neg c96] at H
        exact absurd H (by simp)
      ·rw [if_neg c95] at H
       exact absurd H (by simp)
     rw [if_pos c55] at H
     have c55b0 : (((rd_T24 (rd_L4 t101 x8_2) 0).f0) == 0) = true := beq_iff_eq.mpr c55
     have c55b1 : (((rd_T24 (rd_L4 t101 x8_2) 0).f0) != 0) = false := bne_eq_false_iff_eq.mpr c55
     clear c55
     by_cases c56 : ((rd_T24 (rd_L4 t101 x8_2) 0).f1) > 1000000
     ·rw [if_pos c56] at H
      have c56b0 : decide (1000000 < ((rd_T24 (rd_L4 t101 x8_2) 0).f1)) = true := decide_eq_true c56
      clear c56
      by_cases c57 : x6_2.length < 4398046511104
      ·rw [if_pos c57] at H
       have LMc57 := ak_ c57
       clear c57
       obtain ⟨y140, hy140⟩ : ∃ y_ : List (S24), y_ = (x6_2 ++ [(⟨0, 0, (⟨#[]⟩ : ByteArray)⟩ : S24)]) := ⟨_, rfl⟩
       replace H : ((some (([(⟨0, 0, (⟨#[]⟩ : ByteArray)⟩ : S24)] : List (S24)) : List (S24))).bind fun y143 => (if y143.length + x7_2.length < 4398046511104 then (laws_FnAggs.l0 k2 l1 t101 y140 (y143 ++ x7_2) (wrap64 (x8_2 + 1))) else (none))) = some r := by first | (rw [hy140]; with_reducible exact H) | (have H2_ := (Option.bind_some _ _).symm.trans H; rw [hy140]; with_reducible exact H2_) | (have H2_ := (Option.bind_some _ _).symm.trans H; with_reducible exact H2_) | with_reducible exact H | (rw [hy140]; exact H) | exact H
       have Ny140 := ak_ hy140
       clear hy140
       obtain ⟨y143, hy143⟩ : ∃ y_ : List (S24), y_ = (([(⟨0, 0, (⟨#[]⟩ : ByteArray)⟩ : S24)] : List (S24))) := ⟨_, rfl⟩
       replace H : (if y143.length + x7_2.length < 4398046511104 then (laws_FnAggs.l0 k2 l1 t101 y140 (y143 ++ x7_2) (wrap64 (x8_2 + 1))) else (none)) = some r := by first | (rw [hy143]; with_reducible exact H) | (have H2_ := (Option.bind_some _ _).symm.trans H; rw [hy143]; with_reducible exact H2_) | (have H2_ := (Option.bind_some _ _).symm.trans H; with_reducible exact H2_) | with_reducible exact H | (rw [hy143]; exact H) | exact H
       have Ny143 := ak_ hy143
       clear hy143
       by_cases c58 : y143.length + x7_2.length < 4398046511104
       ·rw [if_pos c58] at H
        have LMc58 := ak_ c58
        clear c58
        obtain ⟨y146, hy146⟩ : ∃ y_ : List (S24), y_ = (y143 ++ x7_2) := ⟨_, rfl⟩
        replace H : (laws_FnAggs.l0 k2 l1 t101 y140 y146 (wrap64 (x8_2 + 1))) = some r := by first | (rw [hy146]; with_reducible exact H) | (have H2_ := (Option.bind_some _ _).symm.trans H; rw [hy146]; with_reducible exact H2_) | (have H2_ := (Option.bind_some _ _).symm.trans H; with_reducible exact H2_) | with_reducible exact H | (rw [hy146]; exact H) | exact H
        have Ny146 := ak_ hy146
        clear hy146
        have H' := ak_ H
        clear H
        obtain ⟨Ao59, co59, eo59⟩ := Kd.S_slice HO_5.out
        subst eo59
        have p110 : 0 ≤ (x8_2 : Int) := of_decide_eq_true z11_
        have q110 : x8_2 < (t101.length : Int) := of_decide_eq_true z11_
        obtain ⟨ad110, A110_0, c110_0, e110, hx110_0, hl110_0, hi110_0⟩ := at_L4 (Kd.S_reads' HO_5.out).2.2 x8_2 p110 q110
        cases e110
        obtain ⟨ce110, hce110, hMe110, hcc110⟩ := Kd.S_get HO_5.out [] x8_2 p110 z60_
        obtain ⟨ve110_0, rfl, ge110_0⟩ := hMe110
        have hv110_0 := hcc110 0 _ rfl
        rw [Nat.add_zero, show ((Kd.slice 24 k24)).sz = 1 from rfl, Nat.mul_one] at hv110_0
        replace hv110_0 := Option.some.inj (hv110_0.symm.trans hx110_0)
        rw [hv110_0] at ge110_0
        have HL110_0 := ak_ (show Kd.R k24 24 _ _ _ _ (rd_L4 t101 x8_2) from ge110_0)
        clear hv110_0 ge110_0
        clear hcc110 hce110
        have HR110_0 := ak_ hi110_0
        have HC110_0 := ak_ hl110_0
        clear hi110_0 hl110_0
        replace p110 := eq_true p110
        replace q110 := eq_true q110
        have p111 : 0 ≤ (0 : Int) := (by omega)
        have q111 : 0 < ((rd_L4 t101 x8_2).length : Int) := of_decide_eq_true z11_
        obtain ⟨ad111, e111, hx111_0, hx111_1, hx111_2⟩ := at_T24 z25_ 0 p111 q111
        cases e111
        have qi111 : (0 < (rd_L4 t101 x8_2).length) = True := eq_true (by omega)
        (try rw [show ((0 : Int)).toNat = 0 from rfl] at hx111_0)
        (try rw [show 0 * 3 = 0 from rfl] at hx111_0)
        (try rw [Addr.add_zero'] at hx111_0)
        (try rw [show ((0 : Int)).toNat = 0 from rfl] at hx111_1)
        (try rw [show 0 * 3 = 0 from rfl] at hx111_1)
        (try rw [Addr.add_zero'] at hx111_1)
        (try rw [show ((0 : Int)).toNat = 0 from rfl] at hx111_2)
        (try rw [show 0 * 3 = 0 from rfl] at hx111_2)
        (try rw [Addr.add_zero'] at hx111_2)
        replace p111 := eq_true p111
        replace q111 := eq_true q111
        go_wp2_with (first | ((with_reducible refine gate_dst (N := 9) rfl ?_); (try (refine gate_guard (by rfl) ?_; dsimp only)); refine bx_ 9 (cs := #[.int .i64 0, .int .i64 0, .string (⟨#[]⟩ : ByteArray)]) (t := 24) (h_ := ?_); intro gb112 hg w60 hbox hb; have n_ := a9_ (Kd.S_below (Kd.S_elderB z40_ gb112 (Nat.le_of_eq hg.symm)) hb) (Kd.R_below (Kd.R_elderB z22_ gb112 (Nat.le_of_eq hg.symm)) hb) (Kd.R_below (Kd.R_elderB z14_ gb112 (Nat.le_of_eq hg.symm)) hb) (Kd.R_below (Kd.R_elderB z21_ gb112 (Nat.le_of_eq hg.symm)) hb) (Kd.C_below z25_ hb) (below_step z0_ hb) (hbox) ((gs_ w hg (below_size z0_))) ((gs_ w hg (below_size z0_))); clear HO_5 HO_6 HO_7 HL110_0 HR110_0 HB; obtain ⟨HO_5, HO_6, HO_7, HL110_0, HR110_0, HB, BK112, GW112, GE112⟩ := n_; clear hb hbox hg; obtain ⟨hcz61_0, hcz61_1, hcz61_2, hfz61_0, hfz61_1, hfz61_2⟩ := bcf3 BK112.out) | ((with_reducible refine gate_store (t := 24) (p := 9) rfl ?_); refine store_event (t := 24) (p := 9) (v := ?vo_w62) (w1 := (((w60.setCell ⟨gb112, 0, none⟩ (.int .i64 ((rd_T24 (rd_L4 t101 x8_2) 0).f0))).setCell ⟨gb112, 1, none⟩ (.int .i64 ((rd_T24 (rd_L4 t101 x8_2) 0).f1))).setCell ⟨gb112, 2, none⟩ (.string ((rd_T24 (rd_L4 t101 x8_2) 0).f2)))) ?hg ?ho ?hn ?hr ?_; (case ho => rfl); (case hg => rfl); (case hn => rfl); (case hr => first | (go_simp; done) | (go_simp; rfl)); intro w62 hw; have n0_ : Aside0 (Kd.S (Kd.slice 24 k24) 25 w62 w.heap.size (fun k_ => some k_ ≠ (u6 : Value).ownBlock ∧ some k_ ≠ (u7 : Value).ownBlock ∧ k_ ≠ gb112) (.slice (some ad110) t101.length co59) t101) := ⟨z30_⟩; have n1_ : Aside0 (Kd.R k24 24 w62 w.heap.size (fun k_ => some k_ ≠ (u7 : Value).ownBlock ∧ k_ ≠ gb112) u6 x6_2) := ⟨(by rw [hw]; exact z20_)⟩; have n2_ : Aside0 (Kd.R k24 24 w62 w.heap.size (fun k_ => some k_ ≠ (u6 : Value).ownBlock ∧ k_ ≠ gb112) u7 x7_2) := ⟨z31_⟩; have n3_ : Aside0 (Kd.R k24 24 w62 w.heap.size (fun k_ => some k_ ≠ (.slice (some ad110) t101.length co59 : Value).ownBlock ∧ some k_ ≠ (u6 : Value).ownBlock ∧ some k_ ≠ (u7 : Value).ownBlock ∧ k_ ≠ gb112) (.slice (some ad111) (rd_L4 t101 x8_2).length c110_0) (rd_L4 t101 x8_2)) := ⟨z29_⟩; have n4_ : Aside0 (w62.heap[gb112]? = some (.cells #[.int .i64 ((rd_T24 (rd_L4 t101 x8_2) 0).f0), .int .i64 ((rd_T24 (rd_L4 t101 x8_2) 0).f1), .string ((rd_T24 (rd_L4 t101 x8_2) 0).f2)] 24 (0, 0))) := ⟨(by rw [hw]; exact z7_)⟩; have n5_ : Aside0 (Below w.heap.size w w62) := ⟨(by rw [hw]; exact z4_)⟩; clear hw; clear HO_5; clear HO_6; clear HO_7; clear HL110_0; clear BK112; clear HB; have HO_5 := n0_; have HO_6 := n1_; have HO_7 := n2_; have HL110_0 := n3_; have BK112 := n4_; have HB := n5_; clear n0_ n1_ n2_ n3_ n4_ n5_; obtain ⟨hcz63_0, hcz63_1, hcz63_2, hfz63_0, hfz63_1, hfz63_2⟩ := bcf3 BK112.out) | ((with_reducible refine gate_builtin (b := .append) (xs := #[.tmp 68, .tmp 70]) rfl ?_); (try (refine gate_guard (by rfl) ?_; dsimp only)); at_builtin; refine Kd.R_append k24 (w0 := w) w.heap.size rfl (.tmp 68) (.tmp 70) 25 24 (.agg #[(.int .i64 0), (.int .i64 0), (.string ⟨#[]⟩)]) 32 rfl Try.underlying25 info24 rfl (by decide) (by omega) u6 x6_2 (⟨0, 0, (⟨#[]⟩ : ByteArray)⟩ : S24) [.int .i64 0, .int .i64 0, .string (⟨#[]⟩ : ByteArray)] (fun k_ => some k_ ≠ (u7 : Value).ownBlock ∧ k_ ≠ gb112) (fun _ => False) rfl z84_ ?aP (fun _ hk => hk.elim) ?aF ?aO ?aB ?aS ?aL ?_; (case aP => exact k24_mkM _ _ _ (⟨0, 0, (⟨#[]⟩ : ByteArray)⟩ : S24)); (case aB => exact z4_); (case aF => exact (fun k_ hk => ⟨Kd.fresh' (Kd.R_lt z37_) k_ hk, Kd.freshB (g := gb112) (o := .cells #[.int .i64 0, .int .i64 0, .string (⟨#[]⟩ : ByteArray)] 24 (0, 0)) z6_ k_ hk⟩)); (case aO => exact z35_); (case aS => exact (below_size z4_)); (case aL => have := LMc57.out; omega); intro v141 w64 ho hb hg hat; rw [← Ny140.out] at ho; have n_ := a6_ (Kd.S_after (ok := (fun k_ => some k_ ≠ (u7 : Value).ownBlock ∧ k_ ≠ gb112)) z34_ hg hat) (Kd.R_after (ok := (fun k_ => k_ ≠ gb112)) z36_ hg hat) (Kd.R_after (ok := (fun k_ => some k_ ≠ (.slice (some ad110) t101.length co59 : Value).ownBlock ∧ some k_ ≠ (u7 : Value).ownBlock ∧ k_ ≠ gb112)) z33_ hg hat) (blk_grown (g := gb112) (o := .cells #[.int .i64 0, .int .i64 0, .string (⟨#[]⟩ : ByteArray)] 24 (0, 0)) z6_ hg (Kd.R_away HO_6.out (fun _ hk => hk.2))) (hb) (ho); clear HO_5 HO_7 HL110_0 BK112 HB HO_6; obtain ⟨HO_5, HO_7, HL110_0, BK112, HB, HO142⟩ := n_; clear ho hb hg hat; obtain ⟨hcz65_0, hcz65_1, hcz65_2, hfz65_0, hfz65_1, hfz65_2⟩ := bcf3 BK112.out) | ((with_reducible refine gate_dst (N := 73) rfl ?_); (try (refine gate_guard (by rfl) ?_; dsimp only)); refine Kd.R_lit k24 _ 24 ?hg (N := 73) ?hd (xs := ([(⟨0, 0, (⟨#[]⟩ : ByteArray)⟩ : S24)] : List (S24))) (inner := [.int .i64 0, .int .i64 0, .string (⟨#[]⟩ : ByteArray)]) (ok := fun _ => True) (okp := fun _ => True) ?hr ?hp (fun _ hk => hk) trivial (Below.refl _ _) (Nat.le_refl _) (by simp) ?_; (case hd => rfl); (case hg => rfl); (case hr => first | (go_simp; done) | (go_simp; rfl)); (case hp => exact (Reps.c3 (show Kd.M k24 _ _ _ (⟨0, 0, (⟨#[]⟩ : ByteArray)⟩ : S24) [.int .i64 0, .int .i64 0, .string (⟨#[]⟩ : ByteArray)] from (k24_mkM _ _ _ (⟨0, 0, (⟨#[]⟩ : ByteArray)⟩ : S24) )) (Reps.none _ _))); intro v144 w66 ho67 hb hg_ hnew_; clear hg_ hnew_; (first | rw [← Ny143.out] at ho67 | (simp only [Int.reduceToNat] at ho67; rw [← Ny143.out] at ho67)); have n_ := a7_ (Kd.S_elder' z40_ (Kd.R_base ho67) hb) (Kd.R_elder' z14_ (Kd.R_base ho67) hb) (Kd.R_elder' z21_ (Kd.R_base ho67) hb) (Kd.R_elder' z78_ (Kd.R_base ho67) hb) (Kd.R_lower (Kd.R_newB (Kd.R_new' (Kd.R_new' (Kd.R_new' ho67 (Kd.R_lt z14_)) (Kd.R_lt z21_)) (Kd.R_lt z78_)) (g := gb112) (o := .cells #[.int .i64 0, .int .i64 0, .string (⟨#[]⟩ : ByteArray)] 24 (0, 0)) z19_) (below_size z4_)) (blk_below (g := gb112) (o := .cells #[.int .i64 0, .int .i64 0, .string (⟨#[]⟩ : ByteArray)] 24 (0, 0)) z19_ hb) (below_step z4_ hb); clear HO_5 HO_7 HL110_0 HO142 BK112 HB; obtain ⟨HO_5, HO_7, HL110_0, HO142, HO145, BK112, HB⟩ := n_; clear hb ho67; obtain ⟨Ao69, co69, eo69⟩ := Kd.R_slice HO_7.out; subst eo69) | ((with_reducible refine gate_builtin (b := .append) (xs := #[.tmp 73, .tmp 74]) rfl ?_); (try (refine gate_guard (by rfl) ?_; dsimp only)); at_builtin; refine Kd.R_append_rows k24 (w0 := w) w.heap.size rfl (.tmp 73) (.tmp 74) 25 24 (.agg #[(.int .i64 0), (.int .i64 0), (.string ⟨#[]⟩)]) 32 rfl Try.underlying25 info24 rfl (by decide) (by omega) v144 y143 x7_2 _ _ _ (fun k_ => some k_ ≠ (.slice Ao69 x7_2.length co69 : Value).ownBlock ∧ some k_ ≠ (.slice (some ad111) (rd_L4 t101 x8_2).length c110_0 : Value).ownBlock ∧ some k_ ≠ (v141 : Value).ownBlock ∧ k_ ≠ gb112) (fun _ => False) rfl rfl ?aO ?aR (fun _ _ h => h) (fun _ h => h.elim) ?aF ?aB ?aS ?aL ?_; (case aR => exact cz_ ((Kd.R_reads' HO_7.out).2.2)); (case aB => exact z4_); (case aF => exact (fun k_ hk => ⟨Kd.fresh' (Kd.R_lt z14_) k_ hk, Kd.fresh' (Kd.R_lt z21_) k_ hk, Kd.fresh' (Kd.R_lt z78_) k_ hk, Kd.freshB (g := gb112) (o := .cells #[.int .i64 0, .int .i64 0, .string (⟨#[]⟩ : ByteArray)] 24 (0, 0)) z19_ k_ hk⟩)); (case aO => exact (by (with_reducible repeat (first | apply Kd.R_alloc | apply Kd.R_drewN | apply Kd.R_drew)); exact Kd.R_mono HO145.out (fun _ hk => ⟨hk.1.1.1.2, ⟨hk.1.1.2, ⟨hk.1.2, hk.2⟩⟩⟩))); (case aS => exact (below_size z4_)); (case aL => have := LMc58.out; omega); intro v147 w68 ho hb hg hat; rw [← Ny146.out] at ho; have n_ := a7_ (Kd.S_after (ok := (fun k_ => some k_ ≠ (.slice Ao69 x7_2.length co69 : Value).ownBlock ∧ some k_ ≠ (v141 : Value).ownBlock ∧ k_ ≠ gb112)) z48_ hg hat) (Kd.R_after (ok := (fun k_ => some k_ ≠ (v141 : Value).ownBlock ∧ k_ ≠ gb112)) z49_ hg hat) (Kd.R_after (ok := (fun k_ => some k_ ≠ (.slice (some ad110) t101.length co59 : Value).ownBlock ∧ some k_ ≠ (.slice Ao69 x7_2.length co69 : Value).ownBlock ∧ some k_ ≠ (v141 : Value).ownBlock ∧ k_ ≠ gb112)) z45_ hg hat) (blk_grown (g := gb112) (o := .cells #[.int .i64 0, .int .i64 0, .string (⟨#[]⟩ : ByteArray)] 24 (0, 0)) z19_ hg (Kd.R_away HO145.out (fun _ hk => hk.2))) (Kd.R_after (ok := (fun k_ => some k_ ≠ (.slice Ao69 x7_2.length co69 : Value).ownBlock ∧ k_ ≠ gb112)) z78_ hg hat) (hb) (ho); clear HO_5 HO_7 HL110_0 BK112 HO142 HB HO145; obtain ⟨HO_5, HO_7, HL110_0, BK112, HO142, HB, HO148⟩ := n_; clear ho hb hg hat))
        go_roundg k2
        case measure => have := HJ2.out; have := HK2.out; omega
        case rel => exact ⟨(y140), (y146), (wrap64 (x8_2 + 1)), z12_, H', ⟨by have := HJ2.out; have := HK2.out; omega⟩, ⟨by (with_reducible repeat (first | apply Kd.S_alloc | apply Kd.S_drewN | apply Kd.S_drew)); exact Kd.S_mono HO_5.out (fun _ hk => ⟨hk.1.2.1, hk.2⟩)⟩, ⟨by (with_reducible repeat (first | apply Kd.R_alloc | apply Kd.R_drewN | apply Kd.R_drew)); exact Kd.R_mono HO142.out (fun _ hk => hk.2)⟩, ⟨by (with_reducible repeat (first | apply Kd.R_alloc | apply Kd.R_drewN | apply Kd.R_drew)); exact Kd.R_mono HO148.out (fun _ hk => hk.2.2.1)⟩, ⟨z4_⟩⟩
       ·rw [if_neg c58] at H
        exact absurd H (by simp)
      ·rw [if_neg c57] at H
       exact absurd H (by simp)
     rw [if_neg c56] at H
     have c56b0 : decide (1000000 < ((rd_T24 (rd_L4 t101 x8_2) 0).f1)) = false := decide_eq_false c56
     clear c56
     by_cases c70 : ((rd_T24 (rd_L4 t101 x8_2) 0).f1) < (-1000000)
     rotate_left
     ·rw [if_neg c70] at H
      have c70b0 := decide_eq_false c70
      clear c70
      by_cases c84 : x6_2.length < 4398046511104
      ·rw [if_pos c84] at H
       have LMc84 := ak_ c84
       clear c84
       obtain ⟨y158, hy158⟩ : ∃ y_ : List (S24), y_ = (x6_2 ++ [(⟨(rd_T24 (rd_L4 t101 x8_2) 0).f0, (rd_T24 (rd_L4 t101 x8_2) 0).f1, (rd_T24 (rd_L4 t101 x8_2) 0).f2⟩ : S24)]) := ⟨_, rfl⟩
       replace H : ((some (([(⟨(rd_T24 (rd_L4 t101 x8_2) 0).f0, (rd_T24 (rd_L4 t101 x8_2) 0).f1, (rd_T24 (rd_L4 t101 x8_2) 0).f2⟩ : S24)] : List (S24)) : List (S24))).bind fun y161 => (if y161.length + x7_2.length < 4398046511104 then (laws_FnAggs.l0 k2 l1 t101 y158 (y161 ++ x7_2) (wrap64 (x8_2 + 1))) else (none))) = some r := by first | (rw [hy158]; with_reducible exact H) | (have H2_ := (Option.bind_some _ _).symm.trans H; rw [hy158]; with_reducible exact H2_) | (have H2_ := (Option.bind_some _ _).symm.trans H; with_reducible exact H2_) | with_reducible exact H | (rw [hy158]; exact H) | exact H
       have Ny158 := ak_ hy158
       clear hy158
       obtain ⟨y161, hy161⟩ : ∃ y_ : List (S24), y_ = (([(⟨(rd_T24 (rd_L4 t101 x8_2) 0).f0, (rd_T24 (rd_L4 t101 x8_2) 0).f1, (rd_T24 (rd_L4 t101 x8_2) 0).f2⟩ : S24)] : List (S24))) := ⟨_, rfl⟩
       replace H : (if y161.length + x7_2.length < 4398046511104 then (laws_FnAggs.l0 k2 l1 t101 y158 (y161 ++ x7_2) (wrap64 (x8_2 + 1))) else (none)) = some r := by first | (rw [hy161]; with_reducible exact H) | (have H2_ := (Option.bind_some _ _).symm.trans H; rw [hy161]; with_reducible exact H2_) | (have H2_ := (Option.bind_some _ _).symm.trans H; with_reducible exact H2_) | with_reducible exact H | (rw [hy161]; exact H) | exact H
       have Ny161 := ak_ hy161
       clear hy161
       by_cases c85 : y161.length + x7_2.length < 4398046511104
       ·rw [if_pos c85] at H
        have LMc85 := ak_ c85
        clear c85
        obtain ⟨y164, hy164⟩ : ∃ y_ : List (S24), y_ = (y161 ++ x7_2) := ⟨_, rfl⟩
        replace H : (laws_FnAggs.l0 k2 l1 t101 y158 y164 (wrap64 (x8_2 + 1))) = some r := by first | (rw [hy164]; with_reducible exact H) | (have H2_ := (Option.bind_some _ _).symm.trans H; rw [hy164]; with_reducible exact H2_) | (have H2_ := (Option.bind_some _ _).symm.trans H; with_reducible exact H2_) | with_reducible exact H | (rw [hy164]; exact H) | exact H
        have Ny164 := ak_ hy164
        clear hy164
        have H' := ak_ H
        clear H
        obtain ⟨Ao86, co86, eo86⟩ := Kd.S_slice HO_5.out
        subst eo86
        have p110 : 0 ≤ (x8_2 : Int) := of_decide_eq_true z11_
        have q110 : x8_2 < (t101.length : Int) := of_decide_eq_true z11_
        obtain ⟨ad110, A110_0, c110_0, e110, hx110_0, hl110_0, hi110_0⟩ := at_L4 (Kd.S_reads' HO_5.out).2.2 x8_2 p110 q110
        cases e110
        obtain ⟨ce110, hce110, hMe110, hcc110⟩ := Kd.S_get HO_5.out [] x8_2 p110 z60_
        obtain ⟨ve110_0, rfl, ge110_0⟩ := hMe110
        have hv110_0 := hcc110 0 _ rfl
        rw [Nat.add_zero, show ((Kd.slice 24 k24)).sz = 1 from rfl, Nat.mul_one] at hv110_0
        replace hv110_0 := Option.some.inj (hv110_0.symm.trans hx110_0)
        rw [hv110_0] at ge110_0
        have HL110_0 := ak_ (show Kd.R k24 24 _ _ _ _ (rd_L4 t101 x8_2) from ge110_0)
        clear hv110_0 ge110_0
        clear hcc110 hce110
        have HR110_0 := ak_ hi110_0
        have HC110_0 := ak_ hl110_0
        clear hi110_0 hl110_0
        replace p110 := eq_true p110
        replace q110 := eq_true q110
        have p111 : 0 ≤ (0 : Int) := (by omega)
        have q111 : 0 < ((rd_L4 t101 x8_2).length : Int) := of_decide_eq_true z11_
        obtain ⟨ad111, e111, hx111_0, hx111_1, hx111_2⟩ := at_T24 z25_ 0 p111 q111
        cases e111
        have qi111 : (0 < (rd_L4 t101 x8_2).length) = True := eq_true (by omega)
        (try rw [show ((0 : Int)).toNat = 0 from rfl] at hx111_0)
        (try rw [show 0 * 3 = 0 from rfl] at hx111_0)
        (try rw [Addr.add_zero'] at hx111_0)
        (try rw [show ((0 : Int)).toNat = 0 from rfl] at hx111_1)
        (try rw [show 0 * 3 = 0 from rfl] at hx111_1)
        (try rw [Addr.add_zero'] at hx111_1)
        (try rw [show ((0 : Int)).toNat = 0 from rfl] at hx111_2)
        (try rw [show 0 * 3 = 0 from rfl] at hx111_2)
        (try rw [Addr.add_zero'] at hx111_2)
        replace p111 := eq_true p111
        replace q111 := eq_true q111
        go_wp2_with (first | ((with_reducible refine gate_dst (N := 9) rfl ?_); (try (refine gate_guard (by rfl) ?_; dsimp only)); refine bx_ 9 (cs := #[.int .i64 0, .int .i64 0, .string (⟨#[]⟩ : ByteArray)]) (t := 24) (h_ := ?_); intro gb112 hg w87 hbox hb; have n_ := a9_ (Kd.S_below (Kd.S_elderB z40_ gb112 (Nat.le_of_eq hg.symm)) hb) (Kd.R_below (Kd.R_elderB z22_ gb112 (Nat.le_of_eq hg.symm)) hb) (Kd.R_below (Kd.R_elderB z14_ gb112 (Nat.le_of_eq hg.symm)) hb) (Kd.R_below (Kd.R_elderB z21_ gb112 (Nat.le_of_eq hg.symm)) hb) (Kd.C_below z25_ hb) (below_step z0_ hb) (hbox) ((gs_ w hg (below_size z0_))) ((gs_ w hg (below_size z0_))); clear HO_5 HO_6 HO_7 HL110_0 HR110_0 HB; obtain ⟨HO_5, HO_6, HO_7, HL110_0, HR110_0, HB, BK112, GW112, GE112⟩ := n_; clear hb hbox hg; obtain ⟨hcz88_0, hcz88_1, hcz88_2, hfz88_0, hfz88_1, hfz88_2⟩ := bcf3 BK112.out) | ((with_reducible refine gate_builtin (b := .append) (xs := #[.tmp 68, .tmp 70]) rfl ?_); (try (refine gate_guard (by rfl) ?_; dsimp only)); at_builtin; refine Kd.R_append k24 (w0 := w) w.heap.size rfl (.tmp 68) (.tmp 70) 25 24 (.agg #[(.int .i64 0), (.int .i64 0), (.string ⟨#[]⟩)]) 32 rfl Try.underlying25 info24 rfl (by decide) (by omega) u6 x6_2 (⟨(rd_T24 (rd_L4 t101 x8_2) 0).f0, (rd_T24 (rd_L4 t101 x8_2) 0).f1, (rd_T24 (rd_L4 t101 x8_2) 0).f2⟩ : S24) [.int .i64 ((rd_T24 (rd_L4 t101 x8_2) 0).f0), .int .i64 ((rd_T24 (rd_L4 t101 x8_2) 0).f1), .string ((rd_T24 (rd_L4 t101 x8_2) 0).f2)] (fun k_ => some k_ ≠ (u7 : Value).ownBlock ∧ k_ ≠ gb112) (fun _ => False) rfl z84_ ?aP (fun _ hk => hk.elim) ?aF ?aO ?aB ?aS ?aL ?_; (case aP => exact k24_mkM _ _ _ (⟨(rd_T24 (rd_L4 t101 x8_2) 0).f0, (rd_T24 (rd_L4 t101 x8_2) 0).f1, (rd_T24 (rd_L4 t101 x8_2) 0).f2⟩ : S24)); (case aB => exact z4_); (case aF => exact (fun k_ hk => ⟨Kd.fresh' (Kd.R_lt z65_) k_ hk, Kd.freshB (g := gb112) (o := .cells #[.int .i64 ((rd_T24 (rd_L4 t101 x8_2) 0).f0), .int .i64 ((rd_T24 (rd_L4 t101 x8_2) 0).f1), .string ((rd_T24 (rd_L4 t101 x8_2) 0).f2)] 24 (0, 0)) z7_ k_ hk⟩)); (case aO => exact z20_); (case aS => exact (below_size z4_)); (case aL => have := LMc84.out; omega); intro v159 w89 ho hb hg hat; rw [← Ny158.out] at ho; have n_ := a6_ (Kd.S_after (ok := (fun k_ => some k_ ≠ (u7 : Value).ownBlock ∧ k_ ≠ gb112)) z62_ hg hat) (Kd.R_after (ok := (fun k_ => k_ ≠ gb112)) z64_ hg hat) (Kd.R_after (ok := (fun k_ => some k_ ≠ (.slice (some ad110) t101.length co86 : Value).ownBlock ∧ some k_ ≠ (u7 : Value).ownBlock ∧ k_ ≠ gb112)) z61_ hg hat) (blk_grown (g := gb112) (o := .cells #[.int .i64 ((rd_T24 (rd_L4 t101 x8_2) 0).f0), .int .i64 ((rd_T24 (rd_L4 t101 x8_2) 0).f1), .string ((rd_T24 (rd_L4 t101 x8_2) 0).f2)] 24 (0, 0)) z7_ hg (Kd.R_away HO_6.out (fun _ hk => hk.2))) (hb) (ho); clear HO_5 HO_7 HL110_0 BK112 HB HO_6; obtain ⟨HO_5, HO_7, HL110_0, BK112, HB, HO160⟩ := n_; clear ho hb hg hat; obtain ⟨hcz90_0, hcz90_1, hcz90_2, hfz90_0, hfz90_1, hfz90_2⟩ := bcf3 BK112.out) | ((with_reducible refine gate_dst (N := 73) rfl ?_); (try (refine gate_guard (by rfl) ?_; dsimp only)); refine Kd.R_lit k24 _ 24 ?hg (N := 73) ?hd (xs := ([(⟨(rd_T24 (rd_L4 t101 x8_2) 0).f0, (rd_T24 (rd_L4 t101 x8_2) 0).f1, (rd_T24 (rd_L4 t101 x8_2) 0).f2⟩ : S24)] : List (S24))) (inner := [.int .i64 ((rd_T24 (rd_L4 t101 x8_2) 0).f0), .int .i64 ((rd_T24 (rd_L4 t101 x8_2) 0).f1), .string ((rd_T24 (rd_L4 t101 x8_2) 0).f2)]) (ok := fun _ => True) (okp := fun _ => True) ?hr ?hp (fun _ hk => hk) trivial (Below.refl _ _) (Nat.le_refl _) (by simp) ?_; (case hd => rfl); (case hg => rfl); (case hr => first | (go_simp; done) | (go_simp; rfl)); (case hp => exact (Reps.c3 (show Kd.M k24 _ _ _ (⟨(rd_T24 (rd_L4 t101 x8_2) 0).f0, (rd_T24 (rd_L4 t101 x8_2) 0).f1, (rd_T24 (rd_L4 t101 x8_2) 0).f2⟩ : S24) [.int .i64 ((rd_T24 (rd_L4 t101 x8_2) 0).f0), .int .i64 ((rd_T24 (rd_L4 t101 x8_2) 0).f1), .string ((rd_T24 (rd_L4 t101 x8_2) 0).f2)] from (k24_mkM _ _ _ (⟨(rd_T24 (rd_L4 t101 x8_2) 0).f0, (rd_T24 (rd_L4 t101 x8_2) 0).f1, (rd_T24 (rd_L4 t101 x8_2) 0).f2⟩ : S24) )) (Reps.none _ _))); intro v162 w91 ho92 hb hg_ hnew_; clear hg_ hnew_; (first | rw [← Ny161.out] at ho92 | (simp only [Int.reduceToNat] at ho92; rw [← Ny161.out] at ho92)); have n_ := a7_ (Kd.S_elder' z40_ (Kd.R_base ho92) hb) (Kd.R_elder' z14_ (Kd.R_base ho92) hb) (Kd.R_elder' z21_ (Kd.R_base ho92) hb) (Kd.R_elder' z79_ (Kd.R_base ho92) hb) (Kd.R_lower (Kd.R_newB (Kd.R_new' (Kd.R_new' (Kd.R_new' ho92 (Kd.R_lt z14_)) (Kd.R_lt z21_)) (Kd.R_lt z79_)) (g := gb112) (o := .cells #[.int .i64 ((rd_T24 (rd_L4 t101 x8_2) 0).f0), .int .i64 ((rd_T24 (rd_L4 t101 x8_2) 0).f1), .string ((rd_T24 (rd_L4 t101 x8_2) 0).f2)] 24 (0, 0)) z19_) (below_size z4_)) (blk_below (g := gb112) (o := .cells #[.int .i64 ((rd_T24 (rd_L4 t101 x8_2) 0).f0), .int .i64 ((rd_T24 (rd_L4 t101 x8_2) 0).f1), .string ((rd_T24 (rd_L4 t101 x8_2) 0).f2)] 24 (0, 0)) z19_ hb) (below_step z4_ hb); clear HO_5 HO_7 HL110_0 HO160 BK112 HB; obtain ⟨HO_5, HO_7, HL110_0, HO160, HO163, BK112, HB⟩ := n_; clear hb ho92; obtain ⟨Ao94, co94, eo94⟩ := Kd.R_slice HO_7.out; subst eo94) | ((with_reducible refine gate_builtin (b := .append) (xs := #[.tmp 73, .tmp 74]) rfl ?_); (try (refine gate_guard (by rfl) ?_; dsimp only)); at_builtin; refine Kd.R_append_rows k24 (w0 := w) w.heap.size rfl (.tmp 73) (.tmp 74) 25 24 (.agg #[(.int .i64 0), (.int .i64 0), (.string ⟨#[]⟩)]) 32 rfl Try.underlying25 info24 rfl (by decide) (by omega) v162 y161 x7_2 _ _ _ (fun k_ => some k_ ≠ (.slice Ao94 x7_2.length co94 : Value).ownBlock ∧ some k_ ≠ (.slice (some ad111) (rd_L4 t101 x8_2).length c110_0 : Value).ownBlock ∧ some k_ ≠ (v159 : Value).ownBlock ∧ k_ ≠ gb112) (fun _ => False) rfl rfl ?aO ?aR (fun _ _ h => h) (fun _ h => h.elim) ?aF ?aB ?aS ?aL ?_; (case aR => exact cz_ ((Kd.R_reads' HO_7.out).2.2)); (case aB => exact z4_); (case aF => exact (fun k_ hk => ⟨Kd.fresh' (Kd.R_lt z14_) k_ hk, Kd.fresh' (Kd.R_lt z21_) k_ hk, Kd.fresh' (Kd.R_lt z79_) k_ hk, Kd.freshB (g := gb112) (o := .cells #[.int .i64 ((rd_T24 (rd_L4 t101 x8_2) 0).f0), .int .i64 ((rd_T24 (rd_L4 t101 x8_2) 0).f1), .string ((rd_T24 (rd_L4 t101 x8_2) 0).f2)] 24 (0, 0)) z19_ k_ hk⟩)); (case aO => exact (by (with_reducible repeat (first | apply Kd.R_alloc | apply Kd.R_drewN | apply Kd.R_drew)); exact Kd.R_mono HO163.out (fun _ hk => ⟨hk.1.1.1.2, ⟨hk.1.1.2, ⟨hk.1.2, hk.2⟩⟩⟩))); (case aS => exact (below_size z4_)); (case aL => have := LMc85.out; omega); intro v165 w93 ho hb hg hat; rw [← Ny164.out] at ho; have n_ := a7_ (Kd.S_after (ok := (fun k_ => some k_ ≠ (.slice Ao94 x7_2.length co94 : Value).ownBlock ∧ some k_ ≠ (v159 : Value).ownBlock ∧ k_ ≠ gb112)) z48_ hg hat) (Kd.R_after (ok := (fun k_ => some k_ ≠ (v159 : Value).ownBlock ∧ k_ ≠ gb112)) z49_ hg hat) (Kd.R_after (ok := (fun k_ => some k_ ≠ (.slice (some ad110) t101.length co86 : Value).ownBlock ∧ some k_ ≠ (.slice Ao94 x7_2.length co94 : Value).ownBlock ∧ some k_ ≠ (v159 : Value).ownBlock ∧ k_ ≠ gb112)) z45_ hg hat) (blk_grown (g := gb112) (o := .cells #[.int .i64 ((rd_T24 (rd_L4 t101 x8_2) 0).f0), .int .i64 ((rd_T24 (rd_L4 t101 x8_2) 0).f1), .string ((rd_T24 (rd_L4 t101 x8_2) 0).f2)] 24 (0, 0)) z19_ hg (Kd.R_away HO163.out (fun _ hk => hk.2))) (Kd.R_after (ok := (fun k_ => some k_ ≠ (.slice Ao94 x7_2.length co94 : Value).ownBlock ∧ k_ ≠ gb112)) z79_ hg hat) (hb) (ho); clear HO_5 HO_7 HL110_0 BK112 HO160 HB HO163; obtain ⟨HO_5, HO_7, HL110_0, BK112, HO160, HB, HO166⟩ := n_; clear ho hb hg hat))
        go_roundg k2
        case measure => have := HJ2.out; have := HK2.out; omega
        case rel => exact ⟨(y158), (y164), (wrap64 (x8_2 + 1)), z12_, H', ⟨by have := HJ2.out; have := HK2.out; omega⟩, ⟨by (with_reducible repeat (first | apply Kd.S_alloc | apply Kd.S_drewN | apply Kd.S_drew)); exact Kd.S_mono HO_5.out (fun _ hk => ⟨hk.1.2.1, hk.2⟩)⟩, ⟨by (with_reducible repeat (first | apply Kd.R_alloc | apply Kd.R_drewN | apply Kd.R_drew)); exact Kd.R_mono HO160.out (fun _ hk => hk.2)⟩, ⟨by (with_reducible repeat (first | apply Kd.R_alloc | apply Kd.R_drewN | apply Kd.R_drew)); exact Kd.R_mono HO166.out (fun _ hk => hk.2.2.1)⟩, ⟨z4_⟩⟩
       ·rw [if_neg c85] at H
        exact absurd H (by simp)
      ·rw [if_neg c84] at H
       exact absurd H (by simp)
     rw [if_pos c70] at H
     have c70b0 := decide_eq_true c70
     clear c70
     by_cases c71 : x6_2.length < 4398046511104
     rotate_left
     ·rw [if_neg c71] at H
      exact absurd H (by simp)
     rw [if_pos c71] at H
     have LMc71 := ak_ c71
     clear c71
     obtain ⟨y149, hy149⟩ : ∃ y_ : List (S24), y_ = (x6_2 ++ [(⟨0, 0, (⟨#[]⟩ : ByteArray)⟩ : S24)]) := ⟨_, rfl⟩
     replace H : ((some (([(⟨0, 0, (⟨#[]⟩ : ByteArray)⟩ : S24)] : List (S24)) : List (S24))).bind fun y152 => (if y152.length + x7_2.length < 4398046511104 then (laws_FnAggs.l0 k2 l1 t101 y149 (y152 ++ x7_2) (wrap64 (x8_2 + 1))) else (none))) = some r := by first | (rw [hy149]; with_reducible exact H) | (have H2_ := (Option.bind_some _ _).symm.trans H; rw [hy149]; with_reducible exact H2_) | (have H2_ := (Option.bind_some _ _).symm.trans H; with_reducible exact H2_) | with_reducible exact H | (rw [hy149]; exact H) | exact H
     have Ny149 := ak_ hy149
     clear hy149
     obtain ⟨y152, hy152⟩ : ∃ y_ : List (S24), y_ = (([(⟨0, 0, (⟨#[]⟩ : ByteArray)⟩ : S24)] : List (S24))) := ⟨_, rfl⟩
     replace H : (if y152.length + x7_2.length < 4398046511104 then (laws_FnAggs.l0 k2 l1 t101 y149 (y152 ++ x7_2) (wrap64 (x8_2 + 1))) else (none)) = some r := by first | (rw [hy152]; with_reducible exact H) | (have H2_ := (Option.bind_some _ _).symm.trans H; rw [hy152]; with_reducible exact H2_) | (have H2_ := (Option.bind_some _ _).symm.trans H; with_reducible exact H2_) | with_reducible exact H | (rw [hy152]; exact H) | exact H
     have Ny152 := ak_ hy152
     clear hy152
     by_cases c72 : y152.length + x7_2.length < 4398046511104
     rotate_left
     ·rw [if_neg c72] at H
      exact absurd H (by simp)
     rw [if_pos c72] at H
     have LMc72 := ak_ c72
     clear c72
     obtain ⟨y155, hy155⟩ : ∃ y_ : List (S24), y_ = (y152 ++ x7_2) := ⟨_, rfl⟩
     replace H : (laws_FnAggs.l0 k2 l1 t101 y149 y155 (wrap64 (x8_2 + 1))) = some r := by first | (rw [hy155]; with_reducible exact H) | (have H2_ := (Option.bind_some _ _).symm.trans H; rw [hy155]; with_reducible exact H2_) | (have H2_ := (Option.bind_some _ _).symm.trans H; with_reducible exact H2_) | with_reducible exact H | (rw [hy155]; exact H) | exact H
     have Ny155 := ak_ hy155
     clear hy155
     have H' := ak_ H
     clear H
     obtain ⟨Ao73, co73, eo73⟩ := Kd.S_slice HO_5.out
     subst eo73
     have p110 : 0 ≤ (x8_2 : Int) := of_decide_eq_true z11_
     have q110 : x8_2 < (t101.length : Int) := of_decide_eq_true z11_
     obtain ⟨ad110, A110_0, c110_0, e110, hx110_0, hl110_0, hi110_0⟩ := at_L4 (Kd.S_reads' HO_5.out).2.2 x8_2 p110 q110
     cases e110
     obtain ⟨ce110, hce110, hMe110, hcc110⟩ := Kd.S_get HO_5.out [] x8_2 p110 z60_
     obtain ⟨ve110_0, rfl, ge110_0⟩ := hMe110
     have hv110_0 := hcc110 0 _ rfl
     rw [Nat.add_zero, show ((Kd.slice 24 k24)).sz = 1 from rfl, Nat.mul_one] at hv110_0
     replace hv110_0 := Option.some.inj (hv110_0.symm.trans hx110_0)
     rw [hv110_0] at ge110_0
     have HL110_0 := ak_ (show Kd.R k24 24 _ _ _ _ (rd_L4 t101 x8_2) from ge110_0)
     clear hv110_0 ge110_0
     clear hcc110 hce110
     have HR110_0 := ak_ hi110_0
     have HC110_0 := ak_ hl110_0
     clear hi110_0 hl110_0
     replace p110 := eq_true p110
     replace q110 := eq_true q110
     have p111 : 0 ≤ (0 : Int) := (by omega)
     have q111 : 0 < ((rd_L4 t101 x8_2).length : Int) := of_decide_eq_true z11_
     obtain ⟨ad111, e111, hx111_0, hx111_1, hx111_2⟩ := at_T24 z25_ 0 p111 q111
     cases e111
     have qi111 : (0 < (rd_L4 t101 x8_2).length) = True := eq_true (by omega)
     (try rw [show ((0 : Int)).toNat = 0 from rfl] at hx111_0)
     (try rw [show 0 * 3 = 0 from rfl] at hx111_0)
     (try rw [Addr.add_zero'] at hx111_0)
     (try rw [show ((0 : Int)).toNat = 0 from rfl] at hx111_1)
     (try rw [show 0 * 3 = 0 from rfl] at hx111_1)
     (try rw [Addr.add_zero'] at hx111_1)
     (try rw [show ((0 : Int)).toNat = 0 from rfl] at hx111_2)
     (try rw [show 0 * 3 = 0 from rfl] at hx111_2)
     (try rw [Addr.add_zero'] at hx111_2)
     replace p111 := eq_true p111
     replace q111 := eq_true q111
     go_wp2_with (first | ((with_reducible refine gate_dst (N := 9) rfl ?_); (try (refine gate_guard (by rfl) ?_; dsimp only)); refine bx_ 9 (cs := #[.int .i64 0, .int .i64 0, .string (⟨#[]⟩ : ByteArray)]) (t := 24) (h_ := ?_); intro gb112 hg w74 hbox hb; have n_ := a9_ (Kd.S_below (Kd.S_elderB z40_ gb112 (Nat.le_of_eq hg.symm)) hb) (Kd.R_below (Kd.R_elderB z22_ gb112 (Nat.le_of_eq hg.symm)) hb) (Kd.R_below (Kd.R_elderB z14_ gb112 (Nat.le_of_eq hg.symm)) hb) (Kd.R_below (Kd.R_elderB z21_ gb112 (Nat.le_of_eq hg.symm)) hb) (Kd.C_below z25_ hb) (below_step z0_ hb) (hbox) ((gs_ w hg (below_size z0_))) ((gs_ w hg (below_size z0_))); clear HO_5 HO_6 HO_7 HL110_0 HR110_0 HB; obtain ⟨HO_5, HO_6, HO_7, HL110_0, HR110_0, HB, BK112, GW112, GE112⟩ := n_; clear hb hbox hg; obtain ⟨hcz75_0, hcz75_1, hcz75_2, hfz75_0, hfz75_1, hfz75_2⟩ := bcf3 BK112.out) | ((with_reducible refine gate_store (t := 24) (p := 9) rfl ?_); refine store_event (t := 24) (p := 9) (v := ?vo_w76) (w1 := (((w74.setCell ⟨gb112, 0, none⟩ (.int .i64 ((rd_T24 (rd_L4 t101 x8_2) 0).f0))).setCell ⟨gb112, 1, none⟩ (.int .i64 ((rd_T24 (rd_L4 t101 x8_2) 0).f1))).setCell ⟨gb112, 2, none⟩ (.string ((rd_T24 (rd_L4 t101 x8_2) 0).f2)))) ?hg ?ho ?hn ?hr ?_; (case ho => rfl); (case hg => rfl); (case hn => rfl); (case hr => first | (go_simp; done) | (go_simp; rfl)); intro w76 hw; have n0_ : Aside0 (Kd.S (Kd.slice 24 k24) 25 w76 w.heap.size (fun k_ => some k_ ≠ (u6 : Value).ownBlock ∧ some k_ ≠ (u7 : Value).ownBlock ∧ k_ ≠ gb112) (.slice (some ad110) t101.length co73) t101) := ⟨z30_⟩; have n1_ : Aside0 (Kd.R k24 24 w76 w.heap.size (fun k_ => some k_ ≠ (u7 : Value).ownBlock ∧ k_ ≠ gb112) u6 x6_2) := ⟨(by rw [hw]; exact z20_)⟩; have n2_ : Aside0 (Kd.R k24 24 w76 w.heap.size (fun k_ => some k_ ≠ (u6 : Value).ownBlock ∧ k_ ≠ gb112) u7 x7_2) := ⟨z31_⟩; have n3_ : Aside0 (Kd.R k24 24 w76 w.heap.size (fun k_ => some k_ ≠ (.slice (some ad110) t101.length co73 : Value).ownBlock ∧ some k_ ≠ (u6 : Value).ownBlock ∧ some k_ ≠ (u7 : Value).ownBlock ∧ k_ ≠ gb112) (.slice (some ad111) (rd_L4 t101 x8_2).length c110_0) (rd_L4 t101 x8_2)) := ⟨z29_⟩; have n4_ : Aside0 (w76.heap[gb112]? = some (.cells #[.int .i64 ((rd_T24 (rd_L4 t101 x8_2) 0).f0), .int .i64 ((rd_T24 (rd_L4 t101 x8_2) 0).f1), .string ((rd_T24 (rd_L4 t101 x8_2) 0).f2)] 24 (0, 0))) := ⟨(by rw [hw]; exact z7_)⟩; have n5_ : Aside0 (Below w.heap.size w w76) := ⟨(by rw [hw]; exact z4_)⟩; clear hw; clear HO_5; clear HO_6; clear HO_7; clear HL110_0; clear BK112; clear HB; have HO_5 := n0_; have HO_6 := n1_; have HO_7 := n2_; have HL110_0 := n3_; have BK112 := n4_; have HB := n5_; clear n0_ n1_ n2_ n3_ n4_ n5_; obtain ⟨hcz77_0, hcz77_1, hcz77_2, hfz77_0, hfz77_1, hfz77_2⟩ := bcf3 BK112.out) | ((with_reducible refine gate_builtin (b := .append) (xs := #[.tmp 68, .tmp 70]) rfl ?_); (try (refine gate_guard (by rfl) ?_; dsimp only)); at_builtin; refine Kd.R_append k24 (w0 := w) w.heap.size rfl (.tmp 68) (.tmp 70) 25 24 (.agg #[(.int .i64 0), (.int .i64 0), (.string ⟨#[]⟩)]) 32 rfl Try.underlying25 info24 rfl (by decide) (by omega) u6 x6_2 (⟨0, 0, (⟨#[]⟩ : ByteArray)⟩ : S24) [.int .i64 0, .int .i64 0, .string (⟨#[]⟩ : ByteArray)] (fun k_ => some k_ ≠ (u7 : Value).ownBlock ∧ k_ ≠ gb112) (fun _ => False) rfl z84_ ?aP (fun _ hk => hk.elim) ?aF ?aO ?aB ?aS ?aL ?_; (case aP => exact k24_mkM _ _ _ (⟨0, 0, (⟨#[]⟩ : ByteArray)⟩ : S24)); (case aB => exact z4_); (case aF => exact (fun k_ hk => ⟨Kd.fresh' (Kd.R_lt z37_) k_ hk, Kd.freshB (g := gb112) (o := .cells #[.int .i64 0, .int .i64 0, .string (⟨#[]⟩ : ByteArray)] 24 (0, 0)) z6_ k_ hk⟩)); (case aO => exact z35_); (case aS => exact (below_size z4_)); (case aL => have := LMc71.out; omega); intro v150 w78 ho hb hg hat; rw [← Ny149.out] at ho; have n_ := a6_ (Kd.S_after (ok := (fun k_ => some k_ ≠ (u7 : Value).ownBlock ∧ k_ ≠ gb112)) z34_ hg hat) (Kd.R_after (ok := (fun k_ => k_ ≠ gb112)) z36_ hg hat) (Kd.R_after (ok := (fun k_ => some k_ ≠ (.slice (some ad110) t101.length co73 : Value).ownBlock ∧ some k_ ≠ (u7 : Value).ownBlock ∧ k_ ≠ gb112)) z33_ hg hat) (blk_grown (g := gb112) (o := .cells #[.int .i64 0, .int .i64 0, .string (⟨#[]⟩ : ByteArray)] 24 (0, 0)) z6_ hg (Kd.R_away HO_6.out (fun _ hk => hk.2))) (hb) (ho); clear HO_5 HO_7 HL110_0 BK112 HB HO_6; obtain ⟨HO_5, HO_7, HL110_0, BK112, HB, HO151⟩ := n_; clear ho hb hg hat; obtain ⟨hcz79_0, hcz79_1, hcz79_2, hfz79_0, hfz79_1, hfz79_2⟩ := bcf3 BK112.out) | ((with_reducible refine gate_dst (N := 73) rfl ?_); (try (refine gate_guard (by rfl) ?_; dsimp only)); refine Kd.R_lit k24 _ 24 ?hg (N := 73) ?hd (xs := ([(⟨0, 0, (⟨#[]⟩ : ByteArray)⟩ : S24)] : List (S24))) (inner := [.int .i64 0, .int .i64 0, .string (⟨#[]⟩ : ByteArray)]) (ok := fun _ => True) (okp := fun _ => True) ?hr ?hp (fun _ hk => hk) trivial (Below.refl _ _) (Nat.le_refl _) (by simp) ?_; (case hd => rfl); (case hg => rfl); (case hr => first | (go_simp; done) | (go_simp; rfl)); (case hp => exact (Reps.c3 (show Kd.M k24 _ _ _ (⟨0, 0, (⟨#[]⟩ : ByteArray)⟩ : S24) [.int .i64 0, .int .i64 0, .string (⟨#[]⟩ : ByteArray)] from (k24_mkM _ _ _ (⟨0, 0, (⟨#[]⟩ : ByteArray)⟩ : S24) )) (Reps.none _ _))); intro v153 w80 ho81 hb hg_ hnew_; clear hg_ hnew_; (first | rw [← Ny152.out] at ho81 | (simp only [Int.reduceToNat] at ho81; rw [← Ny152.out] at ho81)); have n_ := a7_ (Kd.S_elder' z40_ (Kd.R_base ho81) hb) (Kd.R_elder' z14_ (Kd.R_base ho81) hb) (Kd.R_elder' z21_ (Kd.R_base ho81) hb) (Kd.R_elder' z80_ (Kd.R_base ho81) hb) (Kd.R_lower (Kd.R_newB (Kd.R_new' (Kd.R_new' (Kd.R_new' ho81 (Kd.R_lt z14_)) (Kd.R_lt z21_)) (Kd.R_lt z80_)) (g := gb112) (o := .cells #[.int .i64 0, .int .i64 0, .string (⟨#[]⟩ : ByteArray)] 24 (0, 0)) z19_) (below_size z4_)) (blk_below (g := gb112) (o := .cells #[.int .i64 0, .int .i64 0, .string (⟨#[]⟩ : ByteArray)] 24 (0, 0)) z19_ hb) (below_step z4_ hb); clear HO_5 HO_7 HL110_0 HO151 BK112 HB; obtain ⟨HO_5, HO_7, HL110_0, HO151, HO154, BK112, HB⟩ := n_; clear hb ho81; obtain ⟨Ao83, co83, eo83⟩ := Kd.R_slice HO_7.out; subst eo83) | ((with_reducible refine gate_builtin (b := .append) (xs := #[.tmp 73, .tmp 74]) rfl ?_); (try (refine gate_guard (by rfl) ?_; dsimp only)); at_builtin; refine Kd.R_append_rows k24 (w0 := w) w.heap.size rfl (.tmp 73) (.tmp 74) 25 24 (.agg #[(.int .i64 0), (.int .i64 0), (.string ⟨#[]⟩)]) 32 rfl Try.underlying25 info24 rfl (by decide) (by omega) v153 y152 x7_2 _ _ _ (fun k_ => some k_ ≠ (.slice Ao83 x7_2.length co83 : Value).ownBlock ∧ some k_ ≠ (.slice (some ad111) (rd_L4 t101 x8_2).length c110_0 : Value).ownBlock ∧ some k_ ≠ (v150 : Value).ownBlock ∧ k_ ≠ gb112) (fun _ => False) rfl rfl ?aO ?aR (fun _ _ h => h) (fun _ h => h.elim) ?aF ?aB ?aS ?aL ?_; (case aR => exact cz_ ((Kd.R_reads' HO_7.out).2.2)); (case aB => exact z4_); (case aF => exact (fun k_ hk => ⟨Kd.fresh' (Kd.R_lt z14_) k_ hk, Kd.fresh' (Kd.R_lt z21_) k_ hk, Kd.fresh' (Kd.R_lt z80_) k_ hk, Kd.freshB (g := gb112) (o := .cells #[.int .i64 0, .int .i64 0, .string (⟨#[]⟩ : ByteArray)] 24 (0, 0)) z19_ k_ hk⟩)); (case aO => exact (by (with_reducible repeat (first | apply Kd.R_alloc | apply Kd.R_drewN | apply Kd.R_drew)); exact Kd.R_mono HO154.out (fun _ hk => ⟨hk.1.1.1.2, ⟨hk.1.1.2, ⟨hk.1.2, hk.2⟩⟩⟩))); (case aS => exact (below_size z4_)); (case aL => have := LMc72.out; omega); intro v156 w82 ho hb hg hat; rw [← Ny155.out] at ho; have n_ := a7_ (Kd.S_after (ok := (fun k_ => some k_ ≠ (.slice Ao83 x7_2.length co83 : Value).ownBlock ∧ some k_ ≠ (v150 : Value).ownBlock ∧ k_ ≠ gb112)) z48_ hg hat) (Kd.R_after (ok := (fun k_ => some k_ ≠ (v150 : Value).ownBlock ∧ k_ ≠ gb112)) z49_ hg hat) (Kd.R_after (ok := (fun k_ => some k_ ≠ (.slice (some ad110) t101.length co73 : Value).ownBlock ∧ some k_ ≠ (.slice Ao83 x7_2.length co83 : Value).ownBlock ∧ some k_ ≠ (v150 : Value).ownBlock ∧ k_ ≠ gb112)) z45_ hg hat) (blk_grown (g := gb112) (o := .cells #[.int .i64 0, .int .i64 0, .string (⟨#[]⟩ : ByteArray)] 24 (0, 0)) z19_ hg (Kd.R_away HO154.out (fun _ hk => hk.2))) (Kd.R_after (ok := (fun k_ => some k_ ≠ (.slice Ao83 x7_2.length co83 : Value).ownBlock ∧ k_ ≠ gb112)) z80_ hg hat) (hb) (ho); clear HO_5 HO_7 HL110_0 BK112 HO151 HB HO154; obtain ⟨HO_5, HO_7, HL110_0, BK112, HO151, HB, HO157⟩ := n_; clear ho hb hg hat))
     go_roundg k2
     case measure => have := HJ2.out; have := HK2.out; omega
     case rel => exact ⟨(y149), (y155), (wrap64 (x8_2 + 1)), z12_, H', ⟨by have := HJ2.out; have := HK2.out; omega⟩, ⟨by (with_reducible repeat (first | apply Kd.S_alloc | apply Kd.S_drewN | apply Kd.S_drew)); exact Kd.S_mono HO_5.out (fun _ hk => ⟨hk.1.2.1, hk.2⟩)⟩, ⟨by (with_reducible repeat (first | apply Kd.R_alloc | apply Kd.R_drewN | apply Kd.R_drew)); exact Kd.R_mono HO151.out (fun _ hk => hk.2)⟩, ⟨by (with_reducible repeat (first | apply Kd.R_alloc | apply Kd.R_drewN | apply Kd.R_drew)); exact Kd.R_mono HO157.out (fun _ hk => hk.2.2.1)⟩, ⟨z4_⟩⟩
/-- THE ONE PURE STATEMENT of laws_FnAggs: yours. -/
def laws_FnAggs.Pure : Prop := ∀ (l0 : List Int) (l1 : List Int), l0.length ≤ maxLen → l0.length * 1 ≤ 140737488351232 → (∀ x ∈ l0, (Lit.int .u8 x).wf = true) → l1.length ≤ maxLen → l1.length * 1 ≤ 140737488351232 → (∀ x ∈ l1, (Lit.int .u8 x).wf = true) → ∃ k, laws_FnAggs.f k l0 l1 = some true
theorem laws_FnAggs.walk (P : laws_FnAggs.Pure) (a0 : Option Addr) (len0 cap0 : Nat) (z0 : List Int) (a1 : Option Addr) (len1 cap1 : Nat) (z1 : List Int) (w : World) (w0 : (a0 = none ∧ len0 = 0 ∧ cap0 = 0 ∧ z0 = []) ∨ ∃ x, a0 = some x ∧ len0 ≤ cap0 ∧ cap0 ≤ maxLen ∧ z0.length = cap0 ∧ (∀ i, i < z0.length → w.cell? (x.add i) = some (.int .u8 (z0.getD i 0))) ∧ ∀ n ∈ z0, (Lit.int .u8 n).wf = true) (y0 : len0 * 1 ≤ 140737488351232) (w1 : (a1 = none ∧ len1 = 0 ∧ cap1 = 0 ∧ z1 = []) ∨ ∃ x, a1 = some x ∧ len1 ≤ cap1 ∧ cap1 ≤ maxLen ∧ z1.length = cap1 ∧ (∀ i, i < z1.length → w.cell? (x.add i) = some (.int .u8 (z1.getD i 0))) ∧ ∀ n ∈ z1, (Lit.int .u8 n).wf = true) (y1 : len1 * 1 ≤ 140737488351232) :
  Calls Try.prog 4 #[.slice a0 len0 cap0, .slice a1 len1 cap1] w fun e w' => e = .returned (.bool true) ∧ Below w.heap.size w w' := by
 obtain ⟨l0, rfl, hr0, hm0, hw0, hc0⟩ := ReadsInt.ofRowC w0
 obtain ⟨l1, rfl, hr1, hm1, hw1, hc1⟩ := ReadsInt.ofRowC w1
 obtain ⟨k, h⟩ := P l0 l1 hm0 y0 hw0 hm1 y1 hw1
 refine (laws_FnAggs.calls k _ _ l0 _ _ l1 true w (Kd.C_of_reads (d := (0 : Int)) (h1 := fun _ => rfl) hr0) hc0 (Kd.C_of_reads (d := (0 : Int)) (h1 := fun _ => rfl) hr1) hc1 h).mono ?_
 rintro e w' ⟨rfl, hd⟩
 exact ⟨rfl, hd⟩

end Go.Proofs.Ytfbclbbhomhfaaa.X
