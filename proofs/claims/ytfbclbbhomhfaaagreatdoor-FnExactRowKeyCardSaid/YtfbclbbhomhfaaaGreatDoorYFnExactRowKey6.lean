/- Contracts of functions, and what is told of them. -/
import Derived.Test.YtfbclbbhomhfaaaGreatDoorYFnExactRowKey3
import Derived.Test.YtfbclbbhomhfaaaGreatDoorYFnExactRowKey5
set_option linter.unusedSimpArgs false
set_option linter.unusedVariables false
section
namespace Go.Proofs.YtfbclbbhomhfaaaGreatDoor.X
open Go.RowKit Go.Proofs.YtfbclbbhomhfaaaGreatDoorW.PrintWords Go.Proofs.YtfbclbbhomhfaaaGreatDoorW.PrintLast Go.Proofs.YtfbclbbhomhfaaaGreatDoorW.PrintMore
attribute [local go_sem] max2_int min2_int max_two min_two max_three min_three max_four min_four   -- for this text's walks alone

section
def laws_markColumnS.l0 : Nat → List (S74) → Int → Int → Option (Int × (List (S74)))
 | 0, _, _, _ => none
 | k + 1, x0, x1, x5 => if x5 < (x0.length : Int) then ((laws_markText.f k x1).bind fun t101 => (if 0 ≤ x5 then ((some (x0.set (x5 : Int).toNat (⟨t101, (rd_T74 x0 x5).f1, (rd_T74 x0 x5).f2⟩ : S74) : List (S74))).bind fun y102 => ((some (y102.set (x5 : Int).toNat (⟨(rd_T74 y102 x5).f0, wrap64 (x1 + 1), (rd_T74 y102 x5).f2⟩ : S74) : List (S74))).bind fun y103 => (laws_markColumnS.l0 k (y103.set (x5 : Int).toNat (⟨(rd_T74 y103 x5).f0, (rd_T74 y103 x5).f1, ((Int.tmod (wrap64 ((wrap64 (x1 + 1)) + 1)) 3) == 0)⟩ : S74)) (wrap64 ((wrap64 ((wrap64 (x1 + 1)) + 1)) + 1)) (wrap64 (x5 + 1))))) else (none))) else (some (x1, x0))
def laws_markColumnS.f (k : Nat) (l0 : List (S74)) (a1 : Int) : Option (Int × (List (S74))) := laws_markColumnS.l0 k l0 a1 0
theorem laws_markColumnS.mono_l : ∀ k, (∀ y0 y1 y2, LeO (laws_markColumnS.l0 k y0 y1 y2) (laws_markColumnS.l0 (k + 1) y0 y1 y2))
 | 0 => fun _ _ _ r h => by simp [laws_markColumnS.l0] at h
 | k + 1 => by
  have ih0 := laws_markColumnS.mono_l k
  intro y0 y1 y2
  unfold laws_markColumnS.l0
  repeat' first
  | (with_reducible exact ih0 _ _ _)
  | (with_reducible exact laws_markText.mono _ _)
  | (with_reducible exact LeO.refl _)
  | (with_reducible exact LeO.none _)
  | (with_reducible refine LeO.ite ?_ ?_)
  | (with_reducible refine LeO.bind ?_ (fun _ => ?_))
  | exact ih0 _ _ _
  | exact laws_markText.mono _ _
  | exact LeO.none _
  | refine LeO.ite ?_ ?_
  | refine LeO.bind ?_ (fun _ => ?_)
theorem laws_markColumnS.mono : ∀ a0 a1 k, LeO (laws_markColumnS.f k a0 a1) (laws_markColumnS.f (k + 1) a0 a1) := by
 intro a0 a1 k
 have ih0 := laws_markColumnS.mono_l k
 unfold laws_markColumnS.f
 repeat' first
   | (with_reducible exact ih0 _ _ _)
   | (with_reducible exact laws_markText.mono _ _)
   | (with_reducible exact LeO.refl _)
   | (with_reducible exact LeO.none _)
   | (with_reducible refine LeO.ite ?_ ?_)
   | (with_reducible refine LeO.bind ?_ (fun _ => ?_))
   | exact ih0 _ _ _
   | exact laws_markText.mono _ _
   | exact LeO.none _
   | refine LeO.ite ?_ ?_
   | refine LeO.bind ?_ (fun _ => ?_)
set_option maxHeartbeats 8000000 in
set_option maxRecDepth 100000 in
theorem laws_markColumnS.calls (k : Nat) (P0_ : Nat → Prop) (u9000_ : Value) (l0 : List (S74)) (a1 : Int) (r1 : Int) (r2 : List (S74)) (w0 w : World) (hB : Below w0.heap.size w0 w) (ho0 : Kd.R k74 74 w w0.heap.size P0_ u9000_ l0) (h : laws_markColumnS.f k l0 a1 = some (r1, r2)) :
  Calls Tryz.prog 30 #[u9000_, .int .i64 a1] w fun e w' => e = .returned (.int .i64 r1) ∧ Kd.R k74 74 w' w0.heap.size (fun k_ => (P0_ k_ ∨ w.heap.size ≤ k_)) u9000_ r2 ∧ Below w0.heap.size w0 w' ∧ Kept w w' (fun k_ => P0_ k_) := by
 have HO0 := ak_ (show Kd.R k74 74 w w0.heap.size (fun k_ => (P0_ k_ ∨ w.heap.size ≤ k_)) u9000_ l0 from Kd.R_mono ho0 (fun k_ hk => (.inl hk)))
 have HK := ak_ (Kept.refl w (fun k_ => P0_ k_))
 have HW0 := ak_ hB.size
 have HB := ak_ hB
 clear hB
 have H : (laws_markColumnS.l0 k l0 a1 0) = some (r1, r2) := h
 clear h
 have H' := ak_ H
 clear H
 go_enter Tryz.func30, Tryz.ntmps30
 go_wp2
 go_loopg [1, 5] k (fun kq v1 v5 w' => ∃ (x0_1 : List (S74)) (x1_1 : Int) (x5_1 : Int), v1 = .int .i64 x1_1 ∧ v5 = .int .i64 x5_1 ∧ Aside0 (laws_markColumnS.l0 kq x0_1 x1_1 x5_1 = some (r1, r2)) ∧ Aside0 (kq ≤ k) ∧ Aside0 (Kd.R k74 74 w' w0.heap.size (fun k_ => (P0_ k_ ∨ w.heap.size ≤ k_)) u9000_ x0_1) ∧ Aside0 (Kept w w' (fun k_ => P0_ k_)) ∧ Aside0 (Below w0.heap.size w0 w'))
 case atStart => exact ⟨(l0), (a1), (0), z8_, z8_, H', ⟨Nat.le_refl _⟩, ⟨z63_⟩, ⟨z19_⟩, ⟨z0_⟩⟩
 case round =>
  clear H'
  try clear p2
  obtain ⟨x0_1, x1_1, x5_1, rfl, rfl, HA, HK1, HO_0, HK, HB⟩ := hrel
  cases gk with
  | zero => exact absurd HA.out (by simp [laws_markColumnS.l0])
  | succ k1 =>
   have H := HA.out
   clear HA
   simp only [laws_markColumnS.l0] at H
   by_cases c3 : x5_1 < (x0_1.length : Int)
   rotate_left
   ·rw [if_neg c3] at H
    have c3b0 := decide_eq_false c3
    clear c3
    simp only [Option.some.injEq, Prod.mk.injEq] at H
    obtain ⟨rfl, rfl⟩ := H
    obtain ⟨Ao17, co17, eo17⟩ := Kd.R_slice HO_0.out
    subst eo17
    go_wp2
    go_ret
    exact ⟨z6_, z25_, z0_, z19_⟩

   rw [if_pos c3] at H
   have c3b0 := decide_eq_true c3
   clear c3
   replace H := Option.bind_eq_some_iff.mp H
   obtain ⟨t101, A40, H⟩ := H
   have A4 := ak_ A40
   clear A40
   by_cases c5 : 0 ≤ x5_1
   rotate_left
   ·rw [if_neg c5] at H
    exact absurd H (by simp)
   rw [if_pos c5] at H
   have c5b0 := decide_eq_true c5
   clear c5
   obtain ⟨y102, hy102⟩ : ∃ y_ : List (S74), y_ = (x0_1.set (x5_1 : Int).toNat (⟨t101, (rd_T74 x0_1 x5_1).f1, (rd_T74 x0_1 x5_1).f2⟩ : S74)) := ⟨_, rfl⟩
   replace H : ((some (y102.set (x5_1 : Int).toNat (⟨(rd_T74 y102 x5_1).f0, wrap64 (x1_1 + 1), (rd_T74 y102 x5_1).f2⟩ : S74) : List (S74))).bind fun y103 => (laws_markColumnS.l0 k1 (y103.set (x5_1 : Int).toNat (⟨(rd_T74 y103 x5_1).f0, (rd_T74 y103 x5_1).f1, ((Int.tmod (wrap64 ((wrap64 (x1_1 + 1)) + 1)) 3) == 0)⟩ : S74)) (wrap64 ((wrap64 ((wrap64 (x1_1 + 1)) + 1)) + 1)) (wrap64 (x5_1 + 1)))) = some (r1, r2) := by first | (rw [hy102]; with_reducible exact H) | (have H2_ := (Option.bind_some _ _).symm.trans H; rw [hy102]; with_reducible exact H2_) | (have H2_ := (Option.bind_some _ _).symm.trans H; with_reducible exact H2_) | with_reducible exact H | (rw [hy102]; exact H) | exact H
   have Ny102 := ak_ hy102
   clear hy102
   obtain ⟨y103, hy103⟩ : ∃ y_ : List (S74), y_ = (y102.set (x5_1 : Int).toNat (⟨(rd_T74 y102 x5_1).f0, wrap64 (x1_1 + 1), (rd_T74 y102 x5_1).f2⟩ : S74)) := ⟨_, rfl⟩
   replace H : (laws_markColumnS.l0 k1 (y103.set (x5_1 : Int).toNat (⟨(rd_T74 y103 x5_1).f0, (rd_T74 y103 x5_1).f1, ((Int.tmod (wrap64 ((wrap64 (x1_1 + 1)) + 1)) 3) == 0)⟩ : S74)) (wrap64 ((wrap64 ((wrap64 (x1_1 + 1)) + 1)) + 1)) (wrap64 (x5_1 + 1))) = some (r1, r2) := by first | (rw [hy103]; with_reducible exact H) | (have H2_ := (Option.bind_some _ _).symm.trans H; rw [hy103]; with_reducible exact H2_) | (have H2_ := (Option.bind_some _ _).symm.trans H; with_reducible exact H2_) | with_reducible exact H | (rw [hy103]; exact H) | exact H
   have Ny103 := ak_ hy103
   clear hy103
   obtain ⟨y104, hy104⟩ : ∃ y_ : List (S74), y_ = (y103.set (x5_1 : Int).toNat (⟨(rd_T74 y103 x5_1).f0, (rd_T74 y103 x5_1).f1, ((Int.tmod (wrap64 ((wrap64 (x1_1 + 1)) + 1)) 3) == 0)⟩ : S74)) := ⟨_, rfl⟩
   replace H : (laws_markColumnS.l0 k1 y104 (wrap64 ((wrap64 ((wrap64 (x1_1 + 1)) + 1)) + 1)) (wrap64 (x5_1 + 1))) = some (r1, r2) := by first | (rw [hy104]; with_reducible exact H) | (have H2_ := (Option.bind_some _ _).symm.trans H; rw [hy104]; with_reducible exact H2_) | (have H2_ := (Option.bind_some _ _).symm.trans H; with_reducible exact H2_) | with_reducible exact H | (rw [hy104]; exact H) | exact H
   have Ny104 := ak_ hy104
   clear hy104
   have H' := ak_ H
   clear H
   obtain ⟨Ao9, co9, eo9⟩ := Kd.R_slice HO_0.out
   subst eo9
   go_wp2_with (first | ((with_reducible refine gate_callee (f := 32) rfl ?_); refine goesL_ (some 15) rfl rfl Tryz.func32 (by kernel_rfl) rfl #[.int .i64 x1_1] rfl z3_ ?_; (with_reducible refine (laws_markText.calls k1 x1_1 t101 _ A4.out).mono ?_); rintro e w10 ⟨rfl, hb⟩; refine ⟨_, rfl, ?_⟩; have n_ := a3_ (Kd.R_below z25_ hb) (Kept.below (S := (fun k_ => P0_ k_)) z19_ hb) (below_step z0_ hb); clear HO_0 HK HB; obtain ⟨HO_0, HK, HB⟩ := n_; (try clear hb); (try clear hb2); (try clear hk); (try clear hi); have p6 : 0 ≤ (x5_1 : Int) := of_decide_eq_true z4_; have q6 : (x5_1 : Int) < ((x0_1.length : Int) : Int) := of_decide_eq_true z4_; obtain ⟨go6, co6, eo6, gb6, gl6, cl6, HG6⟩ := Kd.R_form HO_0.out (by omega); (first | cases eo6 | (injection eo6 with ea_ en_ ec_; (first | subst ea_ | (injection ea_ with ea_; subst ea_)); subst ec_; clear en_)); have GB6 := ak_ gb6; have GG6 := ak_ HG6; clear gb6 gl6 HG6; have HMgo6 := ak_ (show (P0_ go6 ∨ w.heap.size ≤ go6) from (HO_0.out.1 _ rfl)); obtain ⟨ce6, hcl6, hM6, hcc6, hfr6⟩ := Kd.R_elem HO_0.out z74 (x5_1 : Int) p6 q6; obtain rfl := k74_openM hM6; have hx6_0 : w10.cell? ⟨go6, (x5_1 : Int).toNat * 3, none⟩ = some (.string ((rd_T74 x0_1 x5_1).f0)) := hcc6 0 _ rfl; have hx6_1 : w10.cell? ⟨go6, (x5_1 : Int).toNat * 3 + 1, none⟩ = some (.int .i64 ((rd_T74 x0_1 x5_1).f1)) := hcc6 1 _ rfl; have hx6_2 : w10.cell? ⟨go6, (x5_1 : Int).toNat * 3 + 2, none⟩ = some (.bool ((rd_T74 x0_1 x5_1).f2)) := hcc6 2 _ rfl; have hf6_0 : w10.frozen? ⟨go6, (x5_1 : Int).toNat * 3, none⟩ = false := hfr6 0; have hf6_1 : w10.frozen? ⟨go6, (x5_1 : Int).toNat * 3 + 1, none⟩ = false := hfr6 1; have hf6_2 : w10.frozen? ⟨go6, (x5_1 : Int).toNat * 3 + 2, none⟩ = false := hfr6 2; (clear hcl6 hcc6 hfr6; try clear hM6); replace p6 := eq_true p6; replace q6 := eq_true q6; have HX11 := ak_ (show Kd.R k74 74 w10 w0.heap.size (fun k_ => (P0_ k_ ∨ w.heap.size ≤ k_)) (.slice (some ⟨go6, 0, none⟩) x0_1.length co9) x0_1 from z25_); obtain ⟨ce11, hcl11, hM11, hcc11, hfr11⟩ := Kd.R_elem HX11.out z74 (x5_1 : Int) (of_decide_eq_true z4_) (by have h_ : (x5_1 : Int) < ((x0_1.length : Int) : Int) := of_decide_eq_true z4_; first | exact h_ | (have e_ := (Kd.R_reads' HO_0.out).1; omega) | simpa using h_); obtain rfl := k74_openM hM11; have HP11 := Kd.R_seg HX11.out (x5_1 : Int) (of_decide_eq_true z4_) (by have h_ : (x5_1 : Int) < ((x0_1.length : Int) : Int) := of_decide_eq_true z4_; first | exact h_ | (have e_ := (Kd.R_reads' HO_0.out).1; omega) | simpa using h_) (seg := [.string t101]) (j := 0) hcl11 hcc11 (show 1 ≤ 3 from by decide) (x' := (⟨t101, (rd_T74 x0_1 x5_1).f1, (rd_T74 x0_1 x5_1).f2⟩ : S74)) (k74_mkM _ _ _ (⟨t101, (rd_T74 x0_1 x5_1).f1, (rd_T74 x0_1 x5_1).f2⟩ : S74) ) (fun _ hk => hk); have hx11_0 := hcc11 0 _ rfl; (try simp only [show (k74).sz = 3 from rfl, Nat.mul_one, Nat.add_zero] at hx11_0); have hf11_0 := hfr11 0; (try simp only [show (k74).sz = 3 from rfl, Nat.mul_one, Nat.add_zero] at hf11_0); (clear hcl11 hcc11 hfr11; try clear hM11)) | ((with_reducible refine gate_store (t := 9) (p := 17) rfl ?_); refine store_event (t := 9) (p := 17) (v := ?vo_w12) (w1 := (w10.setCell ⟨go6, (x5_1 : Int).toNat * 3, none⟩ (.string t101))) ?hg ?ho ?hn ?hr ?_; (case ho => rfl); (case hg => rfl); (case hn => rfl); (case hr => first | (go_simp; done) | (go_simp; rfl)); intro w12 hw; have hg : w10.grownBy w12 (some go6) := (by rw [hw]; exact HP11.2); have hp_ : Kd.R k74 74 w12 w0.heap.size (fun k_ => (P0_ k_ ∨ w.heap.size ≤ k_)) (.slice (some ⟨go6, 0, none⟩) x0_1.length co9) y102 := (by rw [hw, Ny102.out]; exact HP11.1); clear HP11; have n_ := a3_ (hp_) ((by rw [hw]; exact below_set (HB.out) GB6.out : Below w0.heap.size w0 w12)) (Kept.of_grown (S := (fun k_ => P0_ k_)) hg z19_ (fun k_ e_ => (HO_0.out.1 k_ e_))); clear HO_0 HB HK; obtain ⟨HO_0, HB, HK⟩ := n_; clear hg hw hp_; have p7 : 0 ≤ (x5_1 : Int) := of_decide_eq_true z4_; have q7 : (x5_1 : Int) < ((x0_1.length : Int) : Int) := of_decide_eq_true z4_; obtain ⟨ce7, hcl7, hM7, hcc7, hfr7⟩ := Kd.R_elem HO_0.out z74 (x5_1 : Int) p7 q7; obtain rfl := k74_openM hM7; have hx7_0 : w12.cell? ⟨go6, (x5_1 : Int).toNat * 3, none⟩ = some (.string ((rd_T74 y102 x5_1).f0)) := hcc7 0 _ rfl; have hx7_1 : w12.cell? ⟨go6, (x5_1 : Int).toNat * 3 + 1, none⟩ = some (.int .i64 ((rd_T74 y102 x5_1).f1)) := hcc7 1 _ rfl; have hx7_2 : w12.cell? ⟨go6, (x5_1 : Int).toNat * 3 + 2, none⟩ = some (.bool ((rd_T74 y102 x5_1).f2)) := hcc7 2 _ rfl; have hf7_0 : w12.frozen? ⟨go6, (x5_1 : Int).toNat * 3, none⟩ = false := hfr7 0; have hf7_1 : w12.frozen? ⟨go6, (x5_1 : Int).toNat * 3 + 1, none⟩ = false := hfr7 1; have hf7_2 : w12.frozen? ⟨go6, (x5_1 : Int).toNat * 3 + 2, none⟩ = false := hfr7 2; (clear hcl7 hcc7 hfr7; try clear hM7); replace p7 := eq_true p7; replace q7 := eq_true q7; have HX13 := ak_ (show Kd.R k74 74 w12 w0.heap.size (fun k_ => (P0_ k_ ∨ w.heap.size ≤ k_)) (.slice (some ⟨go6, 0, none⟩) x0_1.length co9) y102 from z25_); obtain ⟨ce13, hcl13, hM13, hcc13, hfr13⟩ := Kd.R_elem HX13.out z74 (x5_1 : Int) (of_decide_eq_true z4_) (by have h_ : (x5_1 : Int) < ((x0_1.length : Int) : Int) := of_decide_eq_true z4_; first | exact h_ | (have e_ := (Kd.R_reads' HO_0.out).1; omega) | simpa using h_); obtain rfl := k74_openM hM13; have HP13 := Kd.R_seg HX13.out (x5_1 : Int) (of_decide_eq_true z4_) (by have h_ : (x5_1 : Int) < ((x0_1.length : Int) : Int) := of_decide_eq_true z4_; first | exact h_ | (have e_ := (Kd.R_reads' HO_0.out).1; omega) | simpa using h_) (seg := [.int .i64 (wrap64 (x1_1 + 1))]) (j := 1) hcl13 hcc13 (show 2 ≤ 3 from by decide) (x' := (⟨(rd_T74 y102 x5_1).f0, wrap64 (x1_1 + 1), (rd_T74 y102 x5_1).f2⟩ : S74)) (k74_mkM _ _ _ (⟨(rd_T74 y102 x5_1).f0, wrap64 (x1_1 + 1), (rd_T74 y102 x5_1).f2⟩ : S74) ) (fun _ hk => hk); have hx13_1 := hcc13 1 _ rfl; (try simp only [show (k74).sz = 3 from rfl, Nat.mul_one, Nat.add_zero] at hx13_1); have hf13_1 := hfr13 1; (try simp only [show (k74).sz = 3 from rfl, Nat.mul_one, Nat.add_zero] at hf13_1); (clear hcl13 hcc13 hfr13; try clear hM13)) | ((with_reducible refine gate_store (t := 3) (p := 24) rfl ?_); refine store_event (t := 3) (p := 24) (v := ?vo_w14) (w1 := (w12.setCell ⟨go6, (x5_1 : Int).toNat * 3 + 1, none⟩ (.int .i64 (wrap64 (x1_1 + 1))))) ?hg ?ho ?hn ?hr ?_; (case ho => rfl); (case hg => rfl); (case hn => rfl); (case hr => first | (go_simp; done) | (go_simp; rfl)); intro w14 hw; have hg : w12.grownBy w14 (some go6) := (by rw [hw]; exact HP13.2); have hp_ : Kd.R k74 74 w14 w0.heap.size (fun k_ => (P0_ k_ ∨ w.heap.size ≤ k_)) (.slice (some ⟨go6, 0, none⟩) x0_1.length co9) y103 := (by rw [hw, Ny103.out]; exact HP13.1); clear HP13; have n_ := a3_ (hp_) ((by rw [hw]; exact below_set (HB.out) GB6.out : Below w0.heap.size w0 w14)) (Kept.of_grown (S := (fun k_ => P0_ k_)) hg z19_ (fun k_ e_ => (HO_0.out.1 k_ e_))); clear HO_0 HB HK; obtain ⟨HO_0, HB, HK⟩ := n_; clear hg hw hp_; have p8 : 0 ≤ (x5_1 : Int) := of_decide_eq_true z4_; have q8 : (x5_1 : Int) < ((x0_1.length : Int) : Int) := of_decide_eq_true z4_; obtain ⟨ce8, hcl8, hM8, hcc8, hfr8⟩ := Kd.R_elem HO_0.out z74 (x5_1 : Int) p8 q8; obtain rfl := k74_openM hM8; have hx8_0 : w14.cell? ⟨go6, (x5_1 : Int).toNat * 3, none⟩ = some (.string ((rd_T74 y103 x5_1).f0)) := hcc8 0 _ rfl; have hx8_1 : w14.cell? ⟨go6, (x5_1 : Int).toNat * 3 + 1, none⟩ = some (.int .i64 ((rd_T74 y103 x5_1).f1)) := hcc8 1 _ rfl; have hx8_2 : w14.cell? ⟨go6, (x5_1 : Int).toNat * 3 + 2, none⟩ = some (.bool ((rd_T74 y103 x5_1).f2)) := hcc8 2 _ rfl; have hf8_0 : w14.frozen? ⟨go6, (x5_1 : Int).toNat * 3, none⟩ = false := hfr8 0; have hf8_1 : w14.frozen? ⟨go6, (x5_1 : Int).toNat * 3 + 1, none⟩ = false := hfr8 1; have hf8_2 : w14.frozen? ⟨go6, (x5_1 : Int).toNat * 3 + 2, none⟩ = false := hfr8 2; (clear hcl8 hcc8 hfr8; try clear hM8); replace p8 := eq_true p8; replace q8 := eq_true q8; have HX15 := ak_ (show Kd.R k74 74 w14 w0.heap.size (fun k_ => (P0_ k_ ∨ w.heap.size ≤ k_)) (.slice (some ⟨go6, 0, none⟩) x0_1.length co9) y103 from z25_); obtain ⟨ce15, hcl15, hM15, hcc15, hfr15⟩ := Kd.R_elem HX15.out z74 (x5_1 : Int) (of_decide_eq_true z4_) (by have h_ : (x5_1 : Int) < ((x0_1.length : Int) : Int) := of_decide_eq_true z4_; first | exact h_ | (have e_ := (Kd.R_reads' HO_0.out).1; omega) | simpa using h_); obtain rfl := k74_openM hM15; have HP15 := Kd.R_seg HX15.out (x5_1 : Int) (of_decide_eq_true z4_) (by have h_ : (x5_1 : Int) < ((x0_1.length : Int) : Int) := of_decide_eq_true z4_; first | exact h_ | (have e_ := (Kd.R_reads' HO_0.out).1; omega) | simpa using h_) (seg := [.bool ((Int.tmod (wrap64 ((wrap64 (x1_1 + 1)) + 1)) 3) == 0)]) (j := 2) hcl15 hcc15 (show 3 ≤ 3 from by decide) (x' := (⟨(rd_T74 y103 x5_1).f0, (rd_T74 y103 x5_1).f1, ((Int.tmod (wrap64 ((wrap64 (x1_1 + 1)) + 1)) 3) == 0)⟩ : S74)) (k74_mkM _ _ _ (⟨(rd_T74 y103 x5_1).f0, (rd_T74 y103 x5_1).f1, ((Int.tmod (wrap64 ((wrap64 (x1_1 + 1)) + 1)) 3) == 0)⟩ : S74) ) (fun _ hk => hk); have hx15_2 := hcc15 2 _ rfl; (try simp only [show (k74).sz = 3 from rfl, Nat.mul_one, Nat.add_zero] at hx15_2); have hf15_2 := hfr15 2; (try simp only [show (k74).sz = 3 from rfl, Nat.mul_one, Nat.add_zero] at hf15_2); (clear hcl15 hcc15 hfr15; try clear hM15)) | ((with_reducible refine gate_store (t := 4) (p := 33) rfl ?_); refine store_event (t := 4) (p := 33) (v := ?vo_w16) (w1 := (w14.setCell ⟨go6, (x5_1 : Int).toNat * 3 + 2, none⟩ (.bool ((Int.tmod (wrap64 ((wrap64 (x1_1 + 1)) + 1)) 3) == 0)))) ?hg ?ho ?hn ?hr ?_; (case ho => rfl); (case hg => rfl); (case hn => rfl); (case hr => first | (go_simp; done) | (go_simp; rfl)); intro w16 hw; have hg : w14.grownBy w16 (some go6) := (by rw [hw]; exact HP15.2); have hp_ : Kd.R k74 74 w16 w0.heap.size (fun k_ => (P0_ k_ ∨ w.heap.size ≤ k_)) (.slice (some ⟨go6, 0, none⟩) x0_1.length co9) y104 := (by rw [hw, Ny104.out]; exact HP15.1); clear HP15; have n_ := a3_ (hp_) ((by rw [hw]; exact below_set (HB.out) GB6.out : Below w0.heap.size w0 w16)) (Kept.of_grown (S := (fun k_ => P0_ k_)) hg z19_ (fun k_ e_ => (HO_0.out.1 k_ e_))); clear HO_0 HB HK; obtain ⟨HO_0, HB, HK⟩ := n_; clear hg hw hp_))
   go_roundg k1
   case measure => have := HK1.out; omega
   case rel => exact ⟨(y104), (wrap64 ((wrap64 ((wrap64 (x1_1 + 1)) + 1)) + 1)), (wrap64 (x5_1 + 1)), z8_, z8_, H', ⟨by have := HK1.out; omega⟩, ⟨z25_⟩, ⟨z19_⟩, ⟨z0_⟩⟩
end

section
theorem slice3_ {v : Value} {n : Nat} (h : ∃ A c, v = .slice A n c) : ∃ A n c, v = Value.slice A n c := by obtain ⟨A, c, h⟩ := h; exact ⟨A, n, c, h⟩
theorem own_addb (a : Addr) (i : Nat) : (a.add i).block = a.block := by unfold Addr.add; split <;> rfl
theorem own_other {w : World} {a b : Addr} {v : Value} (h : a ≠ b) : (w.setCell a v).cell? b = w.cell? b := World.cell?_setCell_other (h := h) ..
theorem own_same {w : World} {a : Addr} {u v : Value} (h : w.cell? a = some u) : (w.setCell a v).cell? a = some v := World.cell?_setCell_same (h := h) ..
def fIdx {α : Type} (p : α → Bool) (l : List α) : Int := match l.findIdx? p with | some i => (i : Int) | none => -1
theorem fIdx_hit {α : Type} (p : α → Bool) (l : List α) (k : Nat) (hk : k < l.length) (h : p l[k] = true) (hb : ∀ j, (hj : j < k) → p (l[j]'(by omega)) = false) : fIdx p l = k := by
 unfold fIdx
 rw [show l.findIdx? p = some k from by
  rw [List.findIdx?_eq_some_iff_getElem]
  exact ⟨hk, h, fun j hj => by rw [hb j hj]; simp⟩]
theorem fIdx_miss {α : Type} (p : α → Bool) (l : List α) (hb : ∀ j, (hj : j < l.length) → p l[j] = false) : fIdx p l = -1 := by
 unfold fIdx
 rw [show l.findIdx? p = none from by
  rw [List.findIdx?_eq_none_iff]
  intro x hx
  obtain ⟨j, hj, rfl⟩ := List.getElem_of_mem hx
  exact hb j hj]
theorem fIdx_any {α : Type} (p : α → Bool) (l : List α) : decide (0 ≤ fIdx p l) = l.any p := by
 unfold fIdx
 cases h : l.findIdx? p with
 | none =>
  rw [List.findIdx?_eq_none_iff] at h
  have : l.any p = false := by rw [List.any_eq_false]; intro x hx; rw [h x hx]; simp
  rw [this]; rfl
 | some i =>
  rw [List.findIdx?_eq_some_iff_getElem] at h
  obtain ⟨hi, hp, _⟩ := h
  have : l.any p = true := List.any_eq_true.2 ⟨_, List.getElem_mem hi, hp⟩
  rw [this]; simp
theorem C_len {α : Type} {d : Kd α} {w : World} {A : Option Addr} {n : Nat} {xs : List α} (h : Kd.C d w A n xs) : n ≤ 9223372036854775807 := by
 exact h.2.1
def anyO {α : Type} (p : α → Option Bool) (l : List α) : Option Bool := if l.all (fun x => (p x).isSome) = true then some (l.any fun x => (p x).getD false) else none
def idxO {α : Type} (p : α → Option Bool) (l : List α) : Option Int := if l.all (fun x => (p x).isSome) = true then some (fIdx (fun x => (p x).getD false) l) else none
theorem anyO_some {α : Type} {p : α → Option Bool} {l : List α} {r : Bool} (h : anyO p l = some r) : (∀ x ∈ l, (p x).isSome = true) ∧ (l.any fun x => (p x).getD false) = r := by
 unfold anyO at h
 split at h
 ·rename_i c; exact ⟨List.all_eq_true.1 c, Option.some.inj h⟩
 ·cases h
theorem idxO_some {α : Type} {p : α → Option Bool} {l : List α} {r : Int} (h : idxO p l = some r) : (∀ x ∈ l, (p x).isSome = true) ∧ fIdx (fun x => (p x).getD false) l = r := by
 unfold idxO at h
 split at h
 ·rename_i c; exact ⟨List.all_eq_true.1 c, Option.some.inj h⟩
 ·cases h
theorem getD_of {o : Option Bool} (h : o.isSome = true) : o = some (o.getD false) := by cases o <;> simp_all
theorem LeO_getD {p q : Option Bool} (h : LeO p q) (hp : p.isSome = true) : q = p := by
 obtain ⟨r, hr⟩ := Option.isSome_iff_exists.1 hp
 rw [hr]; exact h r hr
theorem anyO_mono {α : Type} {p q : α → Option Bool} (h : ∀ x, LeO (p x) (q x)) (l : List α) : LeO (anyO p l) (anyO q l) := by
 intro r hr
 obtain ⟨hall, rfl⟩ := anyO_some hr
 have e : ∀ x ∈ l, q x = p x := fun x hx => LeO_getD (h x) (hall x hx)
 unfold anyO
 rw [if_pos (List.all_eq_true.2 fun x hx => by rw [e x hx]; exact hall x hx)]
 congr 1
 rw [Bool.eq_iff_iff, List.any_eq_true, List.any_eq_true]
 exact ⟨fun ⟨x, hx, hq⟩ => ⟨x, hx, by rw [← e x hx]; exact hq⟩, fun ⟨x, hx, hq⟩ => ⟨x, hx, by rw [e x hx]; exact hq⟩⟩
theorem idxO_mono {α : Type} {p q : α → Option Bool} (h : ∀ x, LeO (p x) (q x)) (l : List α) : LeO (idxO p l) (idxO q l) := by
 intro r hr
 obtain ⟨hall, rfl⟩ := idxO_some hr
 have e : ∀ x ∈ l, q x = p x := fun x hx => LeO_getD (h x) (hall x hx)
 unfold idxO
 rw [if_pos (List.all_eq_true.2 fun x hx => by rw [e x hx]; exact hall x hx)]
 congr 1
 unfold fIdx
 have : ∀ l : List α, (∀ x ∈ l, q x = p x) → l.findIdx? (fun x => (q x).getD false) = l.findIdx? (fun x => (p x).getD false) := by
  intro l
  induction l with
  | nil => intro _; rfl
  | cons a l ih => intro hl; rw [List.findIdx?_cons, List.findIdx?_cons, hl a (by simp), ih (fun x hx => hl x (by simp [hx]))]
 rw [this l e]
end

section
def laws_markIntS.l0 : Nat → List Int → Int → Int → Option (Int × List Int)
 | 0, _, _, _ => none
 | k + 1, x0, x1, x5 => if x5 < (x0.length : Int) then (if 0 ≤ x5 then (laws_markIntS.l0 k (x0.set (x5 : Int).toNat x1) (wrap64 (x1 + 1)) (wrap64 (x5 + 1))) else (none)) else (some (x1, x0))
def laws_markIntS.f (k : Nat) (l0 : List Int) (a1 : Int) : Option (Int × List Int) := laws_markIntS.l0 k l0 a1 0
theorem laws_markIntS.mono_l : ∀ k, (∀ y0 y1 y2, LeO (laws_markIntS.l0 k y0 y1 y2) (laws_markIntS.l0 (k + 1) y0 y1 y2))
 | 0 => fun _ _ _ r h => by simp [laws_markIntS.l0] at h
 | k + 1 => by
  have ih0 := laws_markIntS.mono_l k
  intro y0 y1 y2
  unfold laws_markIntS.l0
  repeat' first
  | (with_reducible exact ih0 _ _ _)
  | (with_reducible exact LeO.refl _)
  | (with_reducible exact LeO.none _)
  | (with_reducible refine LeO.ite ?_ ?_)
  | (with_reducible refine LeO.bind ?_ (fun _ => ?_))
  | exact ih0 _ _ _
  | exact LeO.none _
  | refine LeO.ite ?_ ?_
  | refine LeO.bind ?_ (fun _ => ?_)
theorem laws_markIntS.mono : ∀ a0 a1 k, LeO (laws_markIntS.f k a0 a1) (laws_markIntS.f (k + 1) a0 a1) := by
 intro a0 a1 k
 have ih0 := laws_markIntS.mono_l k
 unfold laws_markIntS.f
 repeat' first
   | (with_reducible exact ih0 _ _ _)
   | (with_reducible exact LeO.refl _)
   | (with_reducible exact LeO.none _)
   | (with_reducible refine LeO.ite ?_ ?_)
   | (with_reducible refine LeO.bind ?_ (fun _ => ?_))
   | exact ih0 _ _ _
   | exact LeO.none _
   | refine LeO.ite ?_ ?_
   | refine LeO.bind ?_ (fun _ => ?_)
set_option maxHeartbeats 8000000 in
set_option maxRecDepth 100000 in
theorem laws_markIntS.calls (k : Nat) (P0_ : Nat → Prop) (u9000_ : Value) (l0 : List Int) (a1 : Int) (r1 : Int) (r2 : List Int) (w0 w : World) (hB : Below w0.heap.size w0 w) (ho0 : Kd.R (Kd.int .i64) 3 w w0.heap.size P0_ u9000_ l0) (h : laws_markIntS.f k l0 a1 = some (r1, r2)) :
  Calls Tryz.prog 47 #[u9000_, .int .i64 a1] w fun e w' => e = .returned (.int .i64 r1) ∧ Kd.R (Kd.int .i64) 3 w' w0.heap.size (fun k_ => (P0_ k_ ∨ w.heap.size ≤ k_)) u9000_ r2 ∧ Below w0.heap.size w0 w' ∧ Kept w w' (fun k_ => P0_ k_) := by
 have HO0 := ak_ (show Kd.R (Kd.int .i64) 3 w w0.heap.size (fun k_ => (P0_ k_ ∨ w.heap.size ≤ k_)) u9000_ l0 from Kd.R_mono ho0 (fun k_ hk => (.inl hk)))
 have HK := ak_ (Kept.refl w (fun k_ => P0_ k_))
 have HW0 := ak_ hB.size
 have HB := ak_ hB
 clear hB
 have H : (laws_markIntS.l0 k l0 a1 0) = some (r1, r2) := h
 clear h
 have H' := ak_ H
 clear H
 go_enter Tryz.func47, Tryz.ntmps47
 go_wp2
 go_loopg [1, 5] k (fun kq v1 v5 w' => ∃ (x0_1 : List Int) (x1_1 : Int) (x5_1 : Int), v1 = .int .i64 x1_1 ∧ v5 = .int .i64 x5_1 ∧ Aside0 (laws_markIntS.l0 kq x0_1 x1_1 x5_1 = some (r1, r2)) ∧ Aside0 (kq ≤ k) ∧ Aside0 (Kd.R (Kd.int .i64) 3 w' w0.heap.size (fun k_ => (P0_ k_ ∨ w.heap.size ≤ k_)) u9000_ x0_1) ∧ Aside0 (Kept w w' (fun k_ => P0_ k_)) ∧ Aside0 (Below w0.heap.size w0 w'))
 case atStart => exact ⟨(l0), (a1), (0), z8_, z8_, H', ⟨Nat.le_refl _⟩, ⟨z63_⟩, ⟨z19_⟩, ⟨z0_⟩⟩
 case round =>
  clear H'
  try clear p2
  obtain ⟨x0_1, x1_1, x5_1, rfl, rfl, HA, HK1, HO_0, HK, HB⟩ := hrel
  cases gk with
  | zero => exact absurd HA.out (by simp [laws_markIntS.l0])
  | succ k1 =>
   have H := HA.out
   clear HA
   simp only [laws_markIntS.l0] at H
   by_cases c3 : x5_1 < (x0_1.length : Int)
   rotate_left
   ·rw [if_neg c3] at H
    have c3b0 := decide_eq_false c3
    clear c3
    simp only [Option.some.injEq, Prod.mk.injEq] at H
    obtain ⟨rfl, rfl⟩ := H
    obtain ⟨Ao9, co9, eo9⟩ := Kd.R_slice HO_0.out
    subst eo9
    go_wp2
    go_ret
    exact ⟨z6_, z25_, z0_, z19_⟩

   rw [if_pos c3] at H
   have c3b0 := decide_eq_true c3
   clear c3
   by_cases c4 : 0 ≤ x5_1
   rotate_left
   ·rw [if_neg c4] at H
    exact absurd H (by simp)
   rw [if_pos c4] at H
   have c4b0 := decide_eq_true c4
   clear c4
   obtain ⟨y101, hy101⟩ : ∃ y_ : List Int, y_ = (x0_1.set (x5_1 : Int).toNat x1_1) := ⟨_, rfl⟩
   replace H : (laws_markIntS.l0 k1 y101 (wrap64 (x1_1 + 1)) (wrap64 (x5_1 + 1))) = some (r1, r2) := by first | (rw [hy101]; with_reducible exact H) | (have H2_ := (Option.bind_some _ _).symm.trans H; rw [hy101]; with_reducible exact H2_) | (have H2_ := (Option.bind_some _ _).symm.trans H; with_reducible exact H2_) | with_reducible exact H | (rw [hy101]; exact H) | exact H
   have Ny101 := ak_ hy101
   clear hy101
   have H' := ak_ H
   clear H
   obtain ⟨Ao6, co6, eo6⟩ := Kd.R_slice HO_0.out
   subst eo6
   have p5 : 0 ≤ (x5_1 : Int) := of_decide_eq_true z4_
   have q5 : (x5_1 : Int) < ((x0_1.length : Int) : Int) := of_decide_eq_true z4_
   obtain ⟨go5, co5, eo5, gb5, gl5, cl5, HG5⟩ := Kd.R_form HO_0.out (by omega)
   (first | cases eo5 | (injection eo5 with ea_ en_ ec_; (first | subst ea_ | (injection ea_ with ea_; subst ea_)); subst ec_; clear en_))
   have GB5 := ak_ gb5
   have GG5 := ak_ HG5
   clear gb5 gl5 HG5
   have HMgo5 := ak_ (show (P0_ go5 ∨ w.heap.size ≤ go5) from (HO_0.out.1 _ rfl))
   obtain ⟨hx5_0, hf5_0⟩ := Kd.R_celln 0 HO_0.out (x5_1 : Int) p5 q5
   replace p5 := eq_true p5
   replace q5 := eq_true q5
   have HP7 := Kd.R_putg HO_0.out (x5_1 : Int) x1_1
   go_wp2_with (first | ((with_reducible refine gate_store (t := 3) (p := 15) rfl ?_); refine store_event (t := 3) (p := 15) (v := ?vo_w8) (w1 := (wr.setCell ⟨go5, (x5_1 : Int).toNat, none⟩ (.int .i64 x1_1))) ?hg ?ho ?hn ?hr ?_; (case ho => rfl); (case hg => rfl); (case hn => rfl); (case hr => first | (go_simp; done) | (go_simp; rfl)); intro w8 hw; have hg : wr.grownBy w8 (some go5) := (by rw [hw]; exact HP7.2); have hp_ : Kd.R (Kd.int .i64) 3 w8 w0.heap.size (fun k_ => (P0_ k_ ∨ w.heap.size ≤ k_)) (.slice (some ⟨go5, 0, none⟩) x0_1.length co6) y101 := (by rw [hw, Ny101.out]; exact HP7.1); clear HP7; have n_ := a3_ (hp_) ((z82_ : Below w0.heap.size w0 w8)) (Kept.of_grown (S := (fun k_ => P0_ k_)) hg z19_ (fun k_ e_ => (HO_0.out.1 k_ e_))); clear HO_0 HB HK; obtain ⟨HO_0, HB, HK⟩ := n_; clear hg hw hp_))
   go_roundg k1
   case measure => have := HK1.out; omega
   case rel => exact ⟨(y101), (wrap64 (x1_1 + 1)), (wrap64 (x5_1 + 1)), z8_, z8_, H', ⟨by have := HK1.out; omega⟩, ⟨z25_⟩, ⟨z19_⟩, ⟨z0_⟩⟩
end

section
def laws_markIndexS.l0 : Nat → List (S76) → Int → Int → Option Int
  | 0, _, _, _ => none
  | k + 1, x0, x1, x5 => if x5 < (x0.length : Int) then (if 0 ≤ x5 then ((laws_markText.f k x1).bind fun _ => ((laws_markIntS.f k (rd_T76 x0 x5).f1 (wrap64 (x1 + 1))).bind fun p => laws_markIndexS.l0 k x0 p.1 (wrap64 (x5 + 1)))) else none) else some x1
def laws_markIndexS.f (k : Nat) (l0 : List (S76)) (a1 : Int) : Option Int := laws_markIndexS.l0 k l0 a1 0
theorem laws_markIndexS.mono_l : ∀ k, (∀ y0 y1 y2, LeO (laws_markIndexS.l0 k y0 y1 y2) (laws_markIndexS.l0 (k + 1) y0 y1 y2))
  | 0 => fun _ _ _ r h => by simp [laws_markIndexS.l0] at h
  | k + 1 => by
    have ih0 := laws_markIndexS.mono_l k
    intro y0 y1 y2
    unfold laws_markIndexS.l0
    exact LeO.ite (LeO.ite (LeO.bind (laws_markText.mono _ _) fun _ => LeO.bind (laws_markIntS.mono _ _ _) fun _ => ih0 _ _ _) (LeO.refl _)) (LeO.refl _)
theorem laws_markIndexS.mono : ∀ a0 a1 k, LeO (laws_markIndexS.f k a0 a1) (laws_markIndexS.f (k + 1) a0 a1) := fun a0 a1 k => laws_markIndexS.mono_l k a0 a1 0
set_option maxHeartbeats 4000000 in
set_option maxRecDepth 100000 in
theorem laws_markIndexS.calls (k : Nat) (P0_ : Nat → Prop) (u : Value) (xs : List (S76)) (a1 r : Int) (w0 w : World) (hB : Below w0.heap.size w0 w) (ho0 : Kd.S k76 76 w w0.heap.size P0_ u xs) (h : laws_markIndexS.f k xs a1 = some r) :
    Calls Tryz.prog 31 #[u, .int .i64 a1] w fun e w' => e = .returned (.int .i64 r) ∧ Below w0.heap.size w0 w' ∧ Kept w w' (fun k_ => P0_ k_) := by
  have HO0 := ak_ (show Kd.S k76 76 w w0.heap.size (fun k_ => P0_ k_ ∨ w.heap.size ≤ k_) u xs from Kd.S_mono ho0 (fun k_ hk => .inl hk))
  have HK := ak_ (Kept.refl w (fun k_ => P0_ k_))
  have HW0 := ak_ hB.size
  have HB := ak_ hB
  have H' := ak_ (show laws_markIndexS.l0 k xs a1 0 = some r from h)
  clear hB h ho0
  go_enter Tryz.func31, Tryz.ntmps31
  go_wp2
  go_loopg [1, 5] k (fun kq v1 v5 w' => ∃ (y : List (S76)) (x1 : Int) (x5 : Int), v1 = .int .i64 x1 ∧ v5 = .int .i64 x5 ∧ Aside0 (laws_markIndexS.l0 kq xs x1 x5 = some r) ∧ Aside0 (kq ≤ k) ∧ Aside0 (Kd.S k76 76 w' w0.heap.size (fun k_ => P0_ k_ ∨ w.heap.size ≤ k_) u y) ∧ Aside0 (y.length = xs.length ∧ ∀ j : Nat, x5 ≤ (j : Int) → y[j]? = xs[j]?) ∧ Aside0 (Kept w w' (fun k_ => P0_ k_)) ∧ Aside0 (Below w0.heap.size w0 w'))
  case atStart => exact ⟨xs, a1, 0, rfl, rfl, H', ⟨Nat.le_refl _⟩, HO0, ⟨rfl, fun _ _ => rfl⟩, HK, HB⟩
  case round =>
    clear H' HO0
    obtain ⟨y, x1, x5, rfl, rfl, HA, HK1, HO, HY, HK, HB⟩ := hrel
    cases gk with
    | zero => exact absurd HA.out (by simp [laws_markIndexS.l0])
    | succ k1 =>
      have H := HA.out
      clear HA
      simp only [laws_markIndexS.l0] at H
      have hlen := HY.out.1
      by_cases c3 : x5 < (xs.length : Int)
      rotate_left
      · rw [if_neg c3] at H
        obtain rfl := Option.some.inj H
        have c3b : decide (x5 < (y.length : Int)) = false := decide_eq_false (by omega)
        obtain ⟨A, c, eu⟩ := Kd.S_slice HO.out
        subst eu
        clear c3 hlen H
        go_wp2
        go_ret
        exact ⟨rfl, HB.out, HK.out⟩

      rw [if_pos c3] at H
      by_cases c5 : 0 ≤ x5
      case neg => rw [if_neg c5] at H; exact absurd H (by simp)
      rw [if_pos c5] at H
      obtain ⟨t101, A4, H⟩ := Option.bind_eq_some_iff.mp H
      obtain ⟨p, A6, H⟩ := Option.bind_eq_some_iff.mp H
      have A4 := ak_ A4
      have A6 := ak_ A6
      have H' := ak_ H
      clear H
      obtain ⟨g, cap, eu, gb, gl, cl, HG⟩ := Kd.S_form HO.out (by omega)
      have eyx := HY.out.2 x5.toNat (by omega)
      have hel : y.getD x5.toNat z76 = rd_T76 xs x5 := by unfold rd_T76; rw [List.getD_eq_getElem?_getD, List.getD_eq_getElem?_getD, eyx]
      have HEL := ak_ hel
      have HLEN := ak_ hlen
      have HC3 := ak_ c3
      have HC5 := ak_ c5
      have HGB := ak_ gb
      subst eu
      have c3b : decide (x5 < (y.length : Int)) = true := decide_eq_true (by omega)
      have c3c : decide (0 ≤ x5) = true := decide_eq_true c5
      have p5 := eq_true c5
      have q5 : (x5 < (y.length : Int)) = True := eq_true (by omega)
      have hyl : y.length ≤ 9223372036854775807 := C_len (Kd.S_reads' HO.out).2.2
      have HT := ak_ (show ∀ e1 e2 : S76, ((y.set x5.toNat e1).set x5.toNat e2).length = xs.length ∧ ∀ j : Nat, wrap64 (x5 + 1) ≤ (j : Int) → ((y.set x5.toNat e1).set x5.toNat e2)[j]? = xs[j]? from fun e1 e2 => ⟨by rw [List.length_set, List.length_set]; exact hlen, fun j hj => by
        have hj2 : x5 + 1 ≤ (j : Int) := by rw [show wrap64 (x5 + 1) = x5 + 1 by unfold wrap64; omega] at hj; exact hj
        rw [List.getElem?_set_ne (by omega), List.getElem?_set_ne (by omega)]; exact HY.out.2 j (by omega)⟩)
      have HGET := ak_ (show ∀ e : S76, (y.set x5.toNat e).getD x5.toNat z76 = e from fun e => by rw [List.getD_eq_getElem?_getD, List.getElem?_set_self (by omega)]; rfl)
      clear hel hlen eyx c3 c5 gl HG gb hyl
      go_wp2_with (first
        | ((with_reducible refine gate_callee (f := 32) rfl ?_); (refine goesL_ (some 15) rfl rfl Tryz.func32 (by kernel_rfl) rfl #[.int .i64 x1] rfl z72_ ?_; (with_reducible refine (laws_markText.calls k1 x1 t101 _ A4.out).mono ?_); rintro e w10 ⟨rfl, hb⟩; refine ⟨_, rfl, ?_⟩; have HO1 := ak_ (Kd.S_below HO.out hb); have HB1 := ak_ (below_then HB.out HB.out.size hb); have HK2 := ak_ (Kept.below HK.out hb); clear HO HB HK hb; obtain ⟨oki, ce, hcl, hM, hcc, hfr, hoki, hH⟩ := Kd.S_elem (Kd.S_mono (ok' := fun k_ => (P0_ k_ ∨ w.heap.size ≤ k_) ∧ ¬ (fun _ => False) k_) HO1.out (fun _ h_ => ⟨h_, fun f_ => f_⟩)) z76 x5 HC5.out (by have := HC3.out; have := HLEN.out; omega); rw [HEL.out] at hM; obtain ⟨v1, rfl, ge⟩ := k76_openM hM; have HP := ak_ (Kd.S_seg (ok := fun k_ => P0_ k_ ∨ w.heap.size ≤ k_) (okg := fun _ => False) (okp := oki) hH HC5.out (by have := HC3.out; have := HLEN.out; omega) (seg := [.string t101]) (j := 0) (show 1 ≤ 2 from by decide) (x' := (⟨t101, (rd_T76 xs x5).f1⟩ : S76)) (k76_mkM _ _ _ (⟨t101, (rd_T76 xs x5).f1⟩ : S76) ge) (fun _ hk => .inl hk) (fun _ f_ => f_.elim)); have hx0 := hcc 0 _ rfl; have hf0 := hfr 0; simp only [show (k76).sz = 2 from rfl, Nat.add_zero] at hx0 hf0; clear hcl hM hcc hfr hoki hH ge))
        | ((with_reducible refine gate_store (t := 9) (p := 17) rfl ?_); refine store_event (t := 9) (p := 17) (v := ?vo) (w1 := (w10.setCell ⟨g, x5.toNat * 2, none⟩ (.string t101))) ?hg ?ho ?hn ?hr ?_; (case ho => rfl); (case hg => rfl); (case hn => rfl); (case hr => first | (go_simp; done) | (go_simp; rfl)); intro w12 hw;
            have hS : Kd.S k76 76 w12 w0.heap.size (fun k_ => P0_ k_ ∨ w.heap.size ≤ k_) (.slice (some ⟨g, 0, none⟩) y.length cap) (y.set x5.toNat (⟨t101, (rd_T76 xs x5).f1⟩ : S76)) := (by rw [hw]; exact HP.out.1); have hg : w10.grownBy w12 (some g) := (by rw [hw]; exact HP.out.2);
            have HB2 := ak_ ((by rw [hw]; exact below_set HB1.out HGB.out : Below w0.heap.size w0 w12)); have HK3 := ak_ (Kept.of_grown (S := fun k_ => P0_ k_) hg HK2.out (fun k_ e_ => (Kd.S_R HO1.out).1 k_ e_));
            clear HO1 HB1 HK2 HP hg hw hx0 hf0;
            obtain ⟨okj, cj, hclj, hMj, hccj, hokj, hHj⟩ := Kd.S_lend hS z76 x5 HC5.out (by have := HC3.out; have := HLEN.out; omega); rw [HGET.out] at hMj;
            obtain ⟨vj, rfl, gej⟩ := k76_openM hMj; have hx1 := hccj 1 _ rfl; simp only [show (k76).sz = 2 from rfl] at hx1;
            have GEJ := ak_ gej; have HHJ := ak_ hHj; have HOKJ := ak_ hokj; clear gej hHj hokj hclj hMj hccj hS)
        | ((with_reducible refine gate_callee (f := 47) rfl ?_); refine goesL_ (some 26) rfl rfl Tryz.func47 (by kernel_rfl) rfl #[vj, .int .i64 (wrap64 (x1 + 1))] rfl z72_ ?_; (with_reducible refine (laws_markIntS.calls k1 okj vj (rd_T76 xs x5).f1 (wrap64 (x1 + 1)) p.1 p.2 w0 _ ?sa ?sb A6.out).mono ?_); (case sa => exact HB2.out); (case sb => exact GEJ.out); rintro e w14 ⟨rfl, hR, hb, hkp⟩; refine ⟨_, rfl, ?_⟩;
            have hle : w.heap.size ≤ w12.heap.size := HK3.out.1;
            have HS2 := ak_ (Kd.H_back (x' := (⟨t101, p.2⟩ : S76)) (Kd.H_step (w1 := w14) (Kd.H_widen HHJ.out) (fun k_ ho hn hlt => hkp.2 k_ hlt (fun h_ => hn (.inl h_)))) (k76_mkM _ _ _ (⟨t101, p.2⟩ : S76) hR) (fun k_ h_ => h_.elim (fun z_ => .inl z_) (fun hn => .inr ⟨.inr (Nat.le_trans hle hn), hn⟩)));
            have HK4 := ak_ (Kept.then_ (S := fun k_ => P0_ k_) HK3.out hkp (fun k_ h_ => (HOKJ.out k_ h_).1)); have HB4 := ak_ hb;
            clear hle hR hb hkp HHJ HOKJ GEJ HB2 HK3 hx1))
      go_roundg k1
      case measure => have := HK1.out; omega
      case rel => exact ⟨_, p.1, wrap64 (x5 + 1), rfl, rfl, H', ⟨by have := HK1.out; omega⟩, HS2, ⟨HT.out _ _⟩, HK4, HB4⟩
end

section
def laws_markTable.f (k : Nat) (a0_0 : ByteArray) (l0_1 : List (S74)) (a0_2 : Int) (l0_3 : List (S76)) (a1 : Int) : Option Int := (laws_markColumnS.f k l0_1 a1).bind fun p => laws_markIndexS.f k l0_3 p.1
theorem laws_markTable.mono : ∀ a0_0 l0_1 a0_2 l0_3 a1 k, LeO (laws_markTable.f k a0_0 l0_1 a0_2 l0_3 a1) (laws_markTable.f (k + 1) a0_0 l0_1 a0_2 l0_3 a1) := fun a0_0 l0_1 a0_2 l0_3 a1 k => by
  unfold laws_markTable.f
  exact LeO.bind (laws_markColumnS.mono _ _ _) fun _ => laws_markIndexS.mono _ _ _
set_option maxHeartbeats 4000000 in
set_option maxRecDepth 100000 in
theorem laws_markTable.calls (k : Nat) (a0_0 : ByteArray) (P1_ : Nat → Prop) (u1 : Value) (l0_1 : List (S74)) (a0_2 : Int) (P3_ : Nat → Prop) (u3 : Value) (l0_3 : List (S76)) (a1 r : Int) (w0 w : World) (hB : Below w0.heap.size w0 w)
    (ho1 : Kd.R k74 74 w w0.heap.size P1_ u1 l0_1) (ho3 : Kd.S k76 76 w w0.heap.size P3_ u3 l0_3) (h : laws_markTable.f k a0_0 l0_1 a0_2 l0_3 a1 = some r) :
    Calls Tryz.prog 13 #[.agg #[.string a0_0, u1, .int .i64 a0_2, u3], .int .i64 a1] w fun e w' => e = .returned (.int .i64 r) ∧ Below w0.heap.size w0 w' ∧ Kept w w' (fun k_ => P1_ k_ ∨ P3_ k_) := by
  have hu := Tryz.underlying35
  obtain ⟨p, hp, h⟩ := Option.bind_eq_some_iff.mp (show ((laws_markColumnS.f k l0_1 a1).bind fun p => laws_markIndexS.f k l0_3 p.1) = some r from h)
  obtain ⟨A1, c1, e1⟩ := Kd.R_slice ho1
  obtain ⟨A3, c3, e3⟩ := Kd.S_slice ho3
  subst e1
  subst e3
  have HO1 := ak_ ho1
  have HO3 := ak_ ho3
  have HB := ak_ hB
  have HK := ak_ (Kept.refl w (fun k_ => P1_ k_ ∨ P3_ k_))
  have HP := ak_ hp
  have HH := ak_ h
  clear ho1 ho3 hB hp h
  go_enter Tryz.func13, Tryz.ntmps13
  go_wp2_with (first
    | ((with_reducible refine gate_dst (N := 2) rfl ?_); refine bx_ 2 (cs := #[.string a0_0, .slice A1 l0_1.length c1, .int .i64 a0_2, .slice A3 l0_3.length c3]) (t := 35) (h_ := ?_); intro gb hg w1 hbox hb;
        have HO11 := ak_ (Kd.R_below HO1.out hb); have HO31 := ak_ (Kd.S_below HO3.out hb); have HB1 := ak_ (below_then HB.out HB.out.size hb); have HK1 := ak_ (Kept.below HK.out hb); have BK := ak_ hbox; clear HO1 HO3 HB HK hbox hb hg;
        have hz1 : w1.cell? ⟨gb, 1, none⟩ = some (.slice A1 l0_1.length c1) := (blk_cell BK.out 1).trans rfl; have hz3 : w1.cell? ⟨gb, 3, none⟩ = some (.slice A3 l0_3.length c3) := (blk_cell BK.out 3).trans rfl)
    | ((with_reducible refine gate_callee (f := 30) rfl ?_); refine goesL_ (some 8) rfl rfl Tryz.func30 (by kernel_rfl) rfl #[.slice A1 l0_1.length c1, .int .i64 a1] rfl z72_ ?_;
        (with_reducible refine (laws_markColumnS.calls k (fun k_ => some k_ = (Value.slice A1 l0_1.length c1).ownBlock) (.slice A1 l0_1.length c1) l0_1 a1 p.1 p.2 w0 _ ?sa ?sb HP.out).mono ?_); (case sa => exact HB1.out); (case sb => exact Kd.R_tight rfl HO11.out); rintro e w2 ⟨rfl, hR, hb, hkp⟩; refine ⟨_, rfl, ?_⟩;
        have HO32 := ak_ (Kd.S_mono (ok' := P3_) (Kd.S_keptB (Kd.S_apart' HO31.out (Kd.R_typed HO11.out) (by decide)) hkp (fun k_ hk_ hs_ => hk_.2 hs_)) (fun k_ h_ => h_.1.1)); have BK2 := ak_ (blk_kept BK.out hkp (fun hs_ => (Kd.R_ne HO11.out BK.out (by decide)) hs_)); have HB2 := ak_ hb;
        have HK2 := ak_ (Kept.then_ (S := fun k_ => P1_ k_ ∨ P3_ k_) HK1.out hkp (fun k_ e_ => .inl (.inl (HO11.out.1 k_ e_.symm)))); clear HO11 HO31 HB1 HK1 BK hR hb hkp hz1 hz3;
        have hz3 : w2.cell? ⟨gb, 3, none⟩ = some (.slice A3 l0_3.length c3) := (blk_cell BK2.out 3).trans rfl)
    | ((with_reducible refine gate_callee (f := 31) rfl ?_); refine goesL_ (some 12) rfl rfl Tryz.func31 (by kernel_rfl) rfl #[.slice A3 l0_3.length c3, .int .i64 p.1] rfl z72_ ?_;
        (with_reducible refine (laws_markIndexS.calls k P3_ (.slice A3 l0_3.length c3) l0_3 p.1 r w0 _ ?sa ?sb HH.out).mono ?_); (case sa => exact HB2.out); (case sb => exact HO32.out); rintro e w3 ⟨rfl, hb, hkp⟩; refine ⟨_, rfl, ?_⟩;
        have HB3 := ak_ hb; have HK3 := ak_ (Kept.then_ (S := fun k_ => P1_ k_ ∨ P3_ k_) HK2.out hkp (fun k_ h_ => .inl (.inr h_))); clear HB2 HK2 hb hkp hz3))
  go_ret
  exact ⟨rfl, HB3.out, HK3.out⟩
end

end Go.Proofs.YtfbclbbhomhfaaaGreatDoor.X
end
