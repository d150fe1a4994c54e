/- Contracts of functions, and what is told of them. -/
import Derived.Test.YtlikagbdhjdggaaGreatDoorYFnExactIndexKey3
set_option linter.unusedSimpArgs false
set_option linter.unusedVariables false
set_option maxHeartbeats 8000000
set_option maxRecDepth 100000
section
namespace Go.Proofs.YtlikagbdhjdggaaGreatDoor.X
open Go.RowKit Go.Proofs.YtlikagbdhjdggaaGreatDoorW.PrintWords Go.Proofs.YtlikagbdhjdggaaGreatDoorW.PrintLast Go.Proofs.YtlikagbdhjdggaaGreatDoorW.PrintMore
attribute [local go_sem] max2_int min2_int max_two min_two max_three min_three max_four min_four

section
def spec_l01Eight.l0 : Nat → Int → List Int → Int → Option (List Int)
 | 0, _, _, _ => none
 | k + 1, x0, x3, x4 => if x4 ≥ 0 then (if 0 ≤ (IntKind.u64.wrap (wrap64 (8 * x4))) then (if x3.length < 140737488355328 then (spec_l01Eight.l0 k x0 (x3 ++ [(shr .i64 x0 (IntKind.u64.wrap (wrap64 (8 * x4)))) % 256]) (wrap64 (x4 - 1))) else (none)) else (none)) else (if 0 < (x3.length : Int) then (some (x3.set (0 : Int).toNat (Go.bits .xor .u8 (rd x3 0) 128))) else (none))
def spec_l01Eight.f (k : Nat) (a0 : Int) : Option (List Int) := spec_l01Eight.l0 k a0 (([] : List Int)) 7
theorem spec_l01Eight.mono_l : ∀ k, (∀ y0 y1 y2, LeO (spec_l01Eight.l0 k y0 y1 y2) (spec_l01Eight.l0 (k + 1) y0 y1 y2))
 | 0 => fun _ _ _ r h => by simp [spec_l01Eight.l0] at h
 | k + 1 => by
  have ih0 := spec_l01Eight.mono_l k
  intro y0 y1 y2
  unfold spec_l01Eight.l0
  repeat' first | with_reducible (first | exact ih0 _ _ _ | exact LeO.refl _ | exact LeO.none _ | refine LeO.ite ?_ ?_ | refine LeO.bind ?_ (fun _ => ?_)) | exact ih0 _ _ _ | exact LeO.none _ | refine LeO.ite ?_ ?_ | refine LeO.bind ?_ (fun _ => ?_)
theorem spec_l01Eight.mono : ∀ a0 k, LeO (spec_l01Eight.f k a0) (spec_l01Eight.f (k + 1) a0) := by
 intro a0 k
 have ih0 := spec_l01Eight.mono_l k
 unfold spec_l01Eight.f
 repeat' first
   | (with_reducible exact ih0 _ _ _)
   | (with_reducible exact LeO.refl _)
   | (with_reducible exact LeO.none _)
   | (with_reducible refine LeO.ite ?_ ?_)
   | (with_reducible refine LeO.bind ?_ (fun _ => ?_))
   | exact ih0 _ _ _
   | exact LeO.none _
   | refine LeO.ite ?_ ?_
   | refine LeO.bind ?_ (fun _ => ?_)
theorem spec_l01Eight.calls (k : Nat) (a0 : Int) (r : List Int) (w : World) (h : spec_l01Eight.f k a0 = some r) :
  Calls Tryz.prog 41 #[.int .i64 a0] w fun e w' => ∃ v0_ : Value, e = .returned (v0_) ∧ Kd.R (Kd.int .u8) 5 w' w.heap.size (fun _ => True) v0_ r ∧ Below w.heap.size w w' := by
 have HB := ak_ (Below.refl w.heap.size w)
 have H : (spec_l01Eight.l0 k a0 (([] : List Int)) 7) = some r := h
 clear h
 obtain ⟨y101, hy101⟩ : ∃ y_ : List Int, y_ = (([] : List Int)) := ⟨_, rfl⟩
 replace H : (spec_l01Eight.l0 k a0 y101 7) = some r := by first | (rw [hy101]; with_reducible exact H) | (have H2_ := (Option.bind_some _ _).symm.trans H; rw [hy101]; with_reducible exact H2_) | (have H2_ := (Option.bind_some _ _).symm.trans H; with_reducible exact H2_) | with_reducible exact H | (rw [hy101]; exact H) | exact H
 have Ny101 := ak_ hy101
 clear hy101
 have H' := ak_ H
 clear H
 go_enter Tryz.func41, Tryz.ntmps41
 go_wp2_with (first | ((with_reducible refine gate_dst (N := 5) rfl ?_); refine Kd.R_lit (Kd.int .u8) _ 5 ?hg (N := 5) ?hd (xs := ([] : List Int)) (inner := []) (ok := fun _ => True) (okp := fun _ => True) ?hr ?hp (fun _ hk => hk) trivial (Below.refl _ _) (Nat.le_refl _) (by simp) ?_; (case hd => rfl); (case hg => rfl); (case hr => first | (go_simp; done) | (go_simp; rfl)); (case hp => exact (Reps.none _ _)); intro v102 w2 ho3 hb hg_ hnew_; clear hg_ hnew_; (first | rw [← Ny101.out] at ho3 | (simp only [Int.reduceToNat] at ho3; rw [← Ny101.out] at ho3)); have n_ := a2_ (Kd.R_lower ho3 (below_size z0_)) (below_step z0_ hb); clear HB; obtain ⟨HO103, HB⟩ := n_; clear hb ho3))
 go_loopg [3, 4] k (fun kq v3 v4 w' => ∃ (x3_1 : List Int) (x4_1 : Int), v4 = .int .i64 x4_1 ∧ Aside0 (spec_l01Eight.l0 kq a0 x3_1 x4_1 = some r) ∧ Aside0 (kq ≤ k) ∧ Aside0 (Kd.R (Kd.int .u8) 5 w' w.heap.size (fun _ => True) v3 x3_1) ∧ Aside0 (Below w.heap.size w w'))
 case atStart => exact ⟨(y101), (7), z8_, H', ⟨Nat.le_refl _⟩, ⟨z37_⟩, ⟨z0_⟩⟩
 case round =>
  clear H'
  try clear p2
  obtain ⟨x3_1, x4_1, rfl, HA, HK1, HO_3, HB⟩ := hrel
  cases gk with
  | zero => exact absurd HA.out (by simp [spec_l01Eight.l0])
  | succ k1 =>
   have H := HA.out
   clear HA
   simp only [spec_l01Eight.l0] at H
   by_cases c4 : x4_1 ≥ 0
   ·rw [if_pos c4] at H
    have c4b0 : decide (0 ≤ x4_1) = true := decide_eq_true c4
    clear c4
    obtain ⟨ji5, hji5⟩ : ∃ j_ : Int, (IntKind.u64.wrap (wrap64 (8 * x4_1))) = j_ := ⟨_, rfl⟩
    replace H : (if 0 ≤ (ji5) then (if x3_1.length < 140737488355328 then (spec_l01Eight.l0 k1 a0 (x3_1 ++ [(shr .i64 a0 (ji5)) % 256]) (wrap64 (x4_1 - 1))) else (none)) else (none)) = some r := by first | (rw [hji5] at H; exact H) | (simp only [hji5] at H ⊢; exact H)
    by_cases c6 : 0 ≤ (ji5)
    ·rw [if_pos c6] at H
     have c6b0 := eq_true c6
     have c6b1 := decide_eq_true c6
     clear c6
     obtain ⟨ji7, hji7⟩ : ∃ j_ : Int, (shr .i64 a0 (ji5)) = j_ := ⟨_, rfl⟩
     replace H : (if x3_1.length < 140737488355328 then (spec_l01Eight.l0 k1 a0 (x3_1 ++ [(ji7) % 256]) (wrap64 (x4_1 - 1))) else (none)) = some r := by first | (rw [hji7] at H; exact H) | (simp only [hji7] at H ⊢; exact H)
     have hji7_ : (a0 / 2 ^ min (ji5).toNat 64) = ji7 := hji7
     have hji7z : (ji5) ≤ 64 → (a0 / 2 ^ (ji5).toNat) = ji7 := shr_small hji7
     by_cases c8 : x3_1.length < 140737488355328
     ·rw [if_pos c8] at H
      have LMc8 := ak_ c8
      clear c8
      obtain ⟨y104, hy104⟩ : ∃ y_ : List Int, y_ = (x3_1 ++ [(ji7) % 256]) := ⟨_, rfl⟩
      replace H : (spec_l01Eight.l0 k1 a0 y104 (wrap64 (x4_1 - 1))) = some r := by first | (rw [hy104]; with_reducible exact H) | (have H2_ := (Option.bind_some _ _).symm.trans H; rw [hy104]; with_reducible exact H2_) | (have H2_ := (Option.bind_some _ _).symm.trans H; with_reducible exact H2_) | with_reducible exact H | (rw [hy104]; exact H) | exact H
      have Ny104 := ak_ hy104
      clear hy104
      have H' := ak_ H
      clear H
      go_wp2_with (first | ((with_reducible refine gate_builtin (b := .append) (xs := #[.tmp 10, .tmp 17]) rfl ?_); at_builtin; refine Kd.R_append (Kd.int .u8) (w0 := w) w.heap.size rfl (.tmp 10) (.tmp 17) 29 5 (.int .u8 0) 1 rfl Tryz.underlying29 info5 rfl (by decide) (by omega) u3 x3_1 ((ji7) % 256) [.int .u8 ((ji7) % 256)] (fun _ => True) (fun _ => False) rfl rfl ?aP (fun _ hk => hk.elim) ?aF ?aO ?aB ?aS ?aL ?_; (case aP => exact rfl); (case aB => exact z0_); (case aF => exact (fun _ _ => trivial)); (case aO => exact z18_); (case aS => exact (below_size z0_)); (case aL => have := LMc8.out; omega); intro v105 w9 ho hb hg hat; rw [← Ny104.out] at ho; have n_ := a2_ (hb) (ho); clear HB HO_3; obtain ⟨HB, HO106⟩ := n_; clear ho hb hg hat))
      go_roundg k1
      case measure => have := HK1.out; omega
      case rel => exact ⟨(y104), (wrap64 (x4_1 - 1)), z8_, H', ⟨by have := HK1.out; omega⟩, ⟨by (with_reducible repeat (first | apply Kd.R_alloc | apply Kd.R_drewN | apply Kd.R_drew)); exact HO106.out⟩, ⟨z0_⟩⟩
     ·rw [if_neg c8] at H
      exact absurd H (by simp)
    ·rw [if_neg c6] at H
     exact absurd H (by simp)
   rw [if_neg c4] at H
   have c4b0 : decide (0 ≤ x4_1) = false := decide_eq_false c4
   clear c4
   by_cases c10 : 0 < (x3_1.length : Int)
   rotate_left
   ·rw [if_neg c10] at H
    exact absurd H (by simp)

   rw [if_pos c10] at H
   have c10b0 := decide_eq_true c10
   have c10b1 : decide (0 < x3_1.length) = true := decide_eq_true (by omega)
   clear c10
   obtain ⟨y108, hy108⟩ : ∃ y_ : List Int, y_ = (x3_1.set (0 : Int).toNat (Go.bits .xor .u8 (rd x3_1 0) 128)) := ⟨_, rfl⟩
   replace H : (some y108) = some r := by first | (rw [hy108]; with_reducible exact H) | (have H2_ := (Option.bind_some _ _).symm.trans H; rw [hy108]; with_reducible exact H2_) | (have H2_ := (Option.bind_some _ _).symm.trans H; with_reducible exact H2_) | with_reducible exact H | (rw [hy108]; exact H) | exact H
   have Ny108 := ak_ hy108
   clear hy108
   obtain rfl := Option.some.inj H
   obtain ⟨Ao12, co12, eo12⟩ := Kd.R_slice HO_3.out
   subst eo12
   have p107 : 0 ≤ (0 : Int) := (by omega)
   have q107 : 0 < (x3_1.length : Int) := of_decide_eq_true z5_
   obtain ⟨ad107, e107, hx107_0⟩ := Kd.at_int (Kd.R_reads' HO_3.out).2.2 0 p107 q107
   cases e107
   have qi107 : (0 < x3_1.length) = True := eq_true (by omega)
   (try rw [show ((0 : Int)).toNat = 0 from rfl] at hx107_0)
   (try rw [Addr.add_zero'] at hx107_0)
   replace p107 := eq_true p107
   replace q107 := eq_true q107
   have p11 : 0 ≤ (0 : Int) := (by omega)
   have q11 : (0 : Int) < ((x3_1.length : Int) : Int) := of_decide_eq_true z5_
   have qi11 : (0 < x3_1.length) = True := eq_true (by omega)
   obtain ⟨go11, co11, eo11, gb11, gl11, cl11, HG11⟩ := Kd.R_form HO_3.out (by omega)
   (first | cases eo11 | (injection eo11 with ea_ en_ ec_; (first | subst ea_ | (injection ea_ with ea_; subst ea_)); subst ec_; clear en_))
   have GB11 := ak_ gb11
   have GG11 := ak_ HG11
   clear gb11 gl11 HG11
   (first | simp only [add_plain] at hx107_0 | skip)
   obtain ⟨hx11_0, hf11_0⟩ := Kd.R_celln 0 HO_3.out (0 : Int) p11 q11
   (try rw [show ((0 : Int)).toNat = 0 from rfl] at hx11_0)
   (try simp only [Nat.reduceMul, Nat.zero_mul, Nat.zero_add, Nat.reduceAdd] at hx11_0)
   (try rw [show ((0 : Int)).toNat = 0 from rfl] at hf11_0)
   (try simp only [Nat.reduceMul, Nat.zero_mul, Nat.zero_add, Nat.reduceAdd] at hf11_0)
   replace p11 := eq_true p11
   replace q11 := eq_true q11
   have HP13 := Kd.R_putg HO_3.out (0 : Int) (Go.bits .xor .u8 (rd x3_1 0) 128)
   go_wp2_with (first | ((with_reducible refine gate_store (t := 5) (p := 23) rfl ?_); refine store_event (t := 5) (p := 23) (v := ?vo_w14) (w1 := (wr.setCell ⟨go11, (0 : Int).toNat, none⟩ (.int .u8 (Go.bits .xor .u8 (rd x3_1 0) 128)))) ?hg ?ho ?hn ?hr ?_; (case ho => rfl); (case hg => rfl); (case hn => rfl); (case hr => first | (go_simp; done) | (go_simp; rfl)); intro w14 hw; have hg : wr.grownBy w14 (some go11) := (by rw [hw]; exact HP13.2); have hp_ : Kd.R (Kd.int .u8) 5 w14 w.heap.size (fun _ => True) (.slice (some ⟨go11, 0, none⟩) x3_1.length co12) y108 := (by rw [hw, Ny108.out]; exact HP13.1); clear HP13; have n_ := a2_ (hp_) ((by rw [hw]; exact below_set (HB.out) GB11.out : Below w.heap.size w w14)); clear HO_3 HB; obtain ⟨HO_3, HB⟩ := n_; clear hg hw hp_))
   go_ret
   exact ⟨_, z6_, z18_, z0_⟩
end

section
mutual
def spec_l01Key.l0 : Nat → List (S61) → List Int → Int → Option (List Int)
 | 0, _, _, _ => none
 | k + 1, x0, x3, x4 => if x4 < (x0.length : Int) then (if 0 ≤ x4 then (if x3.length < 140737488355328 then ((some (x3 ++ [((rd_T61 x0 x4).f0) % 256] : List Int)).bind fun y106 => (if ((rd_T61 x0 x4).f0) = 1 then (if y106.length < 140737488355328 then (spec_l01Key.l0 k x0 (y106 ++ [((rd_T61 x0 x4).f1) % 256]) (wrap64 (x4 + 1))) else (none)) else (if ((rd_T61 x0 x4).f0) = 2 then ((spec_l01Eight.f k ((rd_T61 x0 x4).f1)).bind fun t112 => (if y106.length + t112.length < 140737488355328 then (spec_l01Key.l0 k x0 (y106 ++ t112) (wrap64 (x4 + 1))) else (none))) else (if ((rd_T61 x0 x4).f0) = 3 then (spec_l01Key.j1 k x0 y106 x4 (((rd_T61 x0 x4).f0) == 3) ((rd_T61 x0 x4).f0) ((rd_T61 x0 x4).f1) ((rd_T61 x0 x4).f2)) else (spec_l01Key.j1 k x0 y106 x4 (((rd_T61 x0 x4).f0) == 4) ((rd_T61 x0 x4).f0) ((rd_T61 x0 x4).f1) ((rd_T61 x0 x4).f2)))))) else (none)) else (none)) else (some x3)
def spec_l01Key.j1 : Nat → List (S61) → List Int → Int → Bool → Int → Int → ByteArray → Option (List Int)
 | 0, _, _, _, _, _, _, _ => none
 | k + 1, x0, x3, x4, x41, x106000, x106001, x106002 => if x41 = true then (spec_l01Key.l1 k x0 x3 x4 0 x106000 x106001 x106002) else (spec_l01Key.l0 k x0 x3 (wrap64 (x4 + 1)))
def spec_l01Key.l1 : Nat → List (S61) → List Int → Int → Int → Int → Int → ByteArray → Option (List Int)
 | 0, _, _, _, _, _, _, _ => none
 | k + 1, x0, x3, x4, x6, x106000, x106001, x106002 => if x6 < (x106002.size : Int) then (if 0 ≤ x6 then (if x3.length < 140737488355328 then ((some (x3 ++ [bt x106002 x6] : List Int)).bind fun y118 => (if (bt x106002 x6) = 0 then (if y118.length < 140737488355328 then (spec_l01Key.l1 k x0 (y118 ++ [255]) x4 (wrap64 (x6 + 1)) x106000 x106001 x106002) else (none)) else (spec_l01Key.l1 k x0 y118 x4 (wrap64 (x6 + 1)) x106000 x106001 x106002))) else (none)) else (none)) else ((some (([0, 1] : List Int) : List Int)).bind fun y124 => (if x3.length + y124.length < 140737488355328 then (spec_l01Key.l0 k x0 (x3 ++ y124) (wrap64 (x4 + 1))) else (none)))
end
def spec_l01Key.f (k : Nat) (l0 : List (S61)) : Option (List Int) := spec_l01Key.l0 k l0 (([] : List Int)) 0
theorem spec_l01Key.mono_l : ∀ k, (∀ y0 y1 y2, LeO (spec_l01Key.l0 k y0 y1 y2) (spec_l01Key.l0 (k + 1) y0 y1 y2)) ∧ (∀ y0 y1 y2 y3 y4 y5 y6, LeO (spec_l01Key.j1 k y0 y1 y2 y3 y4 y5 y6) (spec_l01Key.j1 (k + 1) y0 y1 y2 y3 y4 y5 y6)) ∧ (∀ y0 y1 y2 y3 y4 y5 y6, LeO (spec_l01Key.l1 k y0 y1 y2 y3 y4 y5 y6) (spec_l01Key.l1 (k + 1) y0 y1 y2 y3 y4 y5 y6))
 | 0 => ⟨fun _ _ _ r h => by simp [spec_l01Key.l0] at h, fun _ _ _ _ _ _ _ r h => by simp [spec_l01Key.j1] at h, fun _ _ _ _ _ _ _ r h => by simp [spec_l01Key.l1] at h⟩
 | k + 1 => by
  obtain ⟨ih0, ih1, ih2⟩ := spec_l01Key.mono_l k
  refine ⟨?_, ?_, ?_⟩
  rotate_left
  ·intro y0 y1 y2 y3 y4 y5 y6
   unfold spec_l01Key.j1
   repeat' first | with_reducible (first | exact ih0 _ _ _ | exact ih1 _ _ _ _ _ _ _ | exact ih2 _ _ _ _ _ _ _ | exact spec_l01Eight.mono _ _ | exact LeO.refl _ | exact LeO.none _ | refine LeO.ite ?_ ?_ | refine LeO.bind ?_ (fun _ => ?_)) | exact ih0 _ _ _ | exact ih1 _ _ _ _ _ _ _ | exact ih2 _ _ _ _ _ _ _ | exact spec_l01Eight.mono _ _ | exact LeO.none _ | refine LeO.ite ?_ ?_ | refine LeO.bind ?_ (fun _ => ?_)
  ·intro y0 y1 y2 y3 y4 y5 y6
   unfold spec_l01Key.l1
   repeat' first | with_reducible (first | exact ih0 _ _ _ | exact ih1 _ _ _ _ _ _ _ | exact ih2 _ _ _ _ _ _ _ | exact spec_l01Eight.mono _ _ | exact LeO.refl _ | exact LeO.none _ | refine LeO.ite ?_ ?_ | refine LeO.bind ?_ (fun _ => ?_)) | exact ih0 _ _ _ | exact ih1 _ _ _ _ _ _ _ | exact ih2 _ _ _ _ _ _ _ | exact spec_l01Eight.mono _ _ | exact LeO.none _ | refine LeO.ite ?_ ?_ | refine LeO.bind ?_ (fun _ => ?_)
  intro y0 y1 y2
  unfold spec_l01Key.l0
  repeat' first | with_reducible (first | exact ih0 _ _ _ | exact ih1 _ _ _ _ _ _ _ | exact ih2 _ _ _ _ _ _ _ | exact spec_l01Eight.mono _ _ | exact LeO.refl _ | exact LeO.none _ | refine LeO.ite ?_ ?_ | refine LeO.bind ?_ (fun _ => ?_)) | exact ih0 _ _ _ | exact ih1 _ _ _ _ _ _ _ | exact ih2 _ _ _ _ _ _ _ | exact spec_l01Eight.mono _ _ | exact LeO.none _ | refine LeO.ite ?_ ?_ | refine LeO.bind ?_ (fun _ => ?_)
theorem spec_l01Key.mono : ∀ a0 k, LeO (spec_l01Key.f k a0) (spec_l01Key.f (k + 1) a0) := by
 intro a0 k
 obtain ⟨ih0, ih1, ih2⟩ := spec_l01Key.mono_l k
 unfold spec_l01Key.f
 repeat' first
   | (with_reducible exact ih0 _ _ _)
   | (with_reducible exact ih1 _ _ _ _ _ _ _)
   | (with_reducible exact ih2 _ _ _ _ _ _ _)
   | (with_reducible exact spec_l01Eight.mono _ _)
   | (with_reducible exact LeO.refl _)
   | (with_reducible exact LeO.none _)
   | (with_reducible refine LeO.ite ?_ ?_)
   | (with_reducible refine LeO.bind ?_ (fun _ => ?_))
   | exact ih0 _ _ _
   | exact ih1 _ _ _ _ _ _ _
   | exact ih2 _ _ _ _ _ _ _
   | exact spec_l01Eight.mono _ _
   | exact LeO.none _
   | refine LeO.ite ?_ ?_
   | refine LeO.bind ?_ (fun _ => ?_)
theorem spec_l01Key.calls (k : Nat) (A0 : Option Addr) (c0 : Nat) (l0 : List (S61)) (r : List Int) (w : World) (hr0 : Kd.C k61 w A0 l0.length l0) (hc0 : l0.length ≤ c0) (h : spec_l01Key.f k l0 = some r) :
  Calls Tryz.prog 22 #[.slice A0 l0.length c0] w fun e w' => ∃ v0_ : Value, e = .returned (v0_) ∧ Kd.R (Kd.int .u8) 5 w' w.heap.size (fun _ => True) v0_ r ∧ Below w.heap.size w w' := by
 have hu61 := Tryz.underlying61
 have HR0 := ak_ hr0
 have HC0 := ak_ hc0
 clear hr0 hc0
 have HB := ak_ (Below.refl w.heap.size w)
 have H : (spec_l01Key.l0 k l0 (([] : List Int)) 0) = some r := h
 clear h
 obtain ⟨y101, hy101⟩ : ∃ y_ : List Int, y_ = (([] : List Int)) := ⟨_, rfl⟩
 replace H : (spec_l01Key.l0 k l0 y101 0) = some r := by first | (rw [hy101]; with_reducible exact H) | (have H2_ := (Option.bind_some _ _).symm.trans H; rw [hy101]; with_reducible exact H2_) | (have H2_ := (Option.bind_some _ _).symm.trans H; with_reducible exact H2_) | with_reducible exact H | (rw [hy101]; exact H) | exact H
 have Ny101 := ak_ hy101
 clear hy101
 have H' := ak_ H
 clear H
 go_enter Tryz.func22, Tryz.ntmps22
 go_wp2_with (first | ((with_reducible refine gate_dst (N := 7) rfl ?_); refine Kd.R_lit (Kd.int .u8) _ 5 ?hg (N := 7) ?hd (xs := ([] : List Int)) (inner := []) (ok := fun _ => True) (okp := fun _ => True) ?hr ?hp (fun _ hk => hk) trivial (Below.refl _ _) (Nat.le_refl _) (by simp) ?_; (case hd => rfl); (case hg => rfl); (case hr => first | (go_simp; done) | (go_simp; rfl)); (case hp => exact (Reps.none _ _)); intro v102 w2 ho3 hb hg_ hnew_; clear hg_ hnew_; (first | rw [← Ny101.out] at ho3 | (simp only [Int.reduceToNat] at ho3; rw [← Ny101.out] at ho3)); have n_ := a2_ (Kd.R_lower ho3 (below_size z0_)) (below_step z0_ hb); clear HB; obtain ⟨HO103, HB⟩ := n_; clear hb ho3))
 go_loopg [3, 4] k (fun kq v3 v4 w' => ∃ (x3_1 : List Int) (x4_1 : Int), v4 = .int .i64 x4_1 ∧ Aside0 (spec_l01Key.l0 kq l0 x3_1 x4_1 = some r) ∧ Aside0 (kq ≤ k) ∧ Aside0 (Kd.R (Kd.int .u8) 5 w' w.heap.size (fun _ => True) v3 x3_1) ∧ Aside0 (Below w.heap.size w w'))
 case atStart => exact ⟨(y101), (0), z8_, H', ⟨Nat.le_refl _⟩, ⟨z37_⟩, ⟨z0_⟩⟩
 case round =>
  clear H'
  try clear c2
  try clear p2
  obtain ⟨x3_1, x4_1, rfl, HA, HK1, HO_3, HB⟩ := hrel
  cases gk with
  | zero => exact absurd HA.out (by simp [spec_l01Key.l0])
  | succ k1 =>
   have H := HA.out
   clear HA
   simp only [spec_l01Key.l0] at H
   by_cases c4 : x4_1 < (l0.length : Int)
   rotate_left
   ·rw [if_neg c4] at H
    have c4b0 := decide_eq_false c4
    clear c4
    obtain rfl := Option.some.inj H
    go_wp2
    go_ret
    exact ⟨_, z6_, z18_, z0_⟩

   rw [if_pos c4] at H
   have c4b0 := decide_eq_true c4
   clear c4
   by_cases c5 : 0 ≤ x4_1
   rotate_left
   ·rw [if_neg c5] at H
    exact absurd H (by simp)
   rw [if_pos c5] at H
   have c5b0 := decide_eq_true c5
   clear c5
   by_cases c6 : x3_1.length < 140737488355328
   rotate_left
   ·rw [if_neg c6] at H
    exact absurd H (by simp)
   rw [if_pos c6] at H
   have LMc6 := ak_ c6
   clear c6
   obtain ⟨y106, hy106⟩ : ∃ y_ : List Int, y_ = (x3_1 ++ [((rd_T61 l0 x4_1).f0) % 256]) := ⟨_, rfl⟩
   replace H : (if ((rd_T61 l0 x4_1).f0) = 1 then (if y106.length < 140737488355328 then (spec_l01Key.l0 k1 l0 (y106 ++ [((rd_T61 l0 x4_1).f1) % 256]) (wrap64 (x4_1 + 1))) else (none)) else (if ((rd_T61 l0 x4_1).f0) = 2 then ((spec_l01Eight.f k1 ((rd_T61 l0 x4_1).f1)).bind fun t112 => (if y106.length + t112.length < 140737488355328 then (spec_l01Key.l0 k1 l0 (y106 ++ t112) (wrap64 (x4_1 + 1))) else (none))) else (if ((rd_T61 l0 x4_1).f0) = 3 then (spec_l01Key.j1 k1 l0 y106 x4_1 (((rd_T61 l0 x4_1).f0) == 3) ((rd_T61 l0 x4_1).f0) ((rd_T61 l0 x4_1).f1) ((rd_T61 l0 x4_1).f2)) else (spec_l01Key.j1 k1 l0 y106 x4_1 (((rd_T61 l0 x4_1).f0) == 4) ((rd_T61 l0 x4_1).f0) ((rd_T61 l0 x4_1).f1) ((rd_T61 l0 x4_1).f2))))) = some r := by first | (rw [hy106]; with_reducible exact H) | (have H2_ := (Option.bind_some _ _).symm.trans H; rw [hy106]; with_reducible exact H2_) | (have H2_ := (Option.bind_some _ _).symm.trans H; with_reducible exact H2_) | with_reducible exact H | (rw [hy106]; exact H) | exact H
   have Ny106 := ak_ hy106
   clear hy106
   by_cases c7 : ((rd_T61 l0 x4_1).f0) = 1
   ·rw [if_pos c7] at H
    have c7b0 : (((rd_T61 l0 x4_1).f0) == 1) = true := beq_iff_eq.mpr c7
    have c7b1 : (((rd_T61 l0 x4_1).f0) != 1) = false := bne_eq_false_iff_eq.mpr c7
    clear c7
    by_cases c8 : y106.length < 140737488355328
    ·rw [if_pos c8] at H
     have LMc8 := ak_ c8
     clear c8
     obtain ⟨y109, hy109⟩ : ∃ y_ : List Int, y_ = (y106 ++ [((rd_T61 l0 x4_1).f1) % 256]) := ⟨_, rfl⟩
     replace H : (spec_l01Key.l0 k1 l0 y109 (wrap64 (x4_1 + 1))) = some r := by first | (rw [hy109]; with_reducible exact H) | (have H2_ := (Option.bind_some _ _).symm.trans H; rw [hy109]; with_reducible exact H2_) | (have H2_ := (Option.bind_some _ _).symm.trans H; with_reducible exact H2_) | with_reducible exact H | (rw [hy109]; exact H) | exact H
     have Ny109 := ak_ hy109
     clear hy109
     have H' := ak_ H
     clear H
     have p104 : 0 ≤ (x4_1 : Int) := of_decide_eq_true z5_
     have q104 : x4_1 < (l0.length : Int) := of_decide_eq_true z5_
     obtain ⟨ad104, e104, hx104_0, hx104_1, hx104_2⟩ := at_T61 HR0.out x4_1 p104 q104
     cases e104
     replace hx104_0 := oc_ HB.out hx104_0
     replace hx104_1 := oc_ HB.out hx104_1
     replace hx104_2 := oc_ HB.out hx104_2
     replace p104 := eq_true p104
     replace q104 := eq_true q104
     go_wp2_with (first | ((with_reducible refine gate_dst (N := 5) rfl ?_); refine bx_ 5 (cs := #[.int .i64 0, .int .i64 0, .string (⟨#[]⟩ : ByteArray)]) (t := 61) (h_ := ?_); intro gb105 hg w9 hbox hb; have n_ := a5_ (Kd.R_below z18_ hb) (below_step z0_ hb) (hbox) ((gs_ w hg (below_size z0_))) ((gs_ w hg (below_size z0_))); clear HO_3 HB; obtain ⟨HO_3, HB, BK105, GW105, GE105⟩ := n_; clear hb hbox hg; obtain ⟨hcz10_0, hcz10_1, hcz10_2, hfz10_0, hfz10_1, hfz10_2⟩ := bcf3 BK105.out) | ((with_reducible refine gate_builtin (b := .append) (xs := #[.tmp 18, .tmp 22]) rfl ?_); at_builtin; refine Kd.R_append (Kd.int .u8) (w0 := w) w.heap.size rfl (.tmp 18) (.tmp 22) 29 5 (.int .u8 0) 1 rfl Tryz.underlying29 info5 rfl (by decide) (by omega) u3 x3_1 (((rd_T61 l0 x4_1).f0) % 256) [.int .u8 (((rd_T61 l0 x4_1).f0) % 256)] (fun _ => True) (fun _ => False) rfl z74_ ?aP (fun _ hk => hk.elim) ?aF ?aO ?aB ?aS ?aL ?_; (case aP => exact rfl); (case aB => exact z7_); (case aF => exact (fun _ _ => trivial)); (case aO => exact z36_); (case aS => exact (below_size z7_)); (case aL => have := LMc6.out; omega); intro v107 w11 ho hb hg hat; rw [← Ny106.out] at ho; have n_ := a3_ (blk_grown (g := gb105) (o := .cells #[.int .i64 ((rd_T61 l0 x4_1).f0), .int .i64 ((rd_T61 l0 x4_1).f1), .string ((rd_T61 l0 x4_1).f2)] 61 (0, 0)) z24_ hg (Kd.R_ne HO_3.out BK105.out (by decide))) (hb) (ho); clear BK105 HB HO_3; obtain ⟨BK105, HB, HO108⟩ := n_; clear ho hb hg hat; obtain ⟨hcz12_0, hcz12_1, hcz12_2, hfz12_0, hfz12_1, hfz12_2⟩ := bcf3 BK105.out) | ((with_reducible refine gate_builtin (b := .append) (xs := #[.tmp 28, .tmp 32]) rfl ?_); at_builtin; refine Kd.R_append (Kd.int .u8) (w0 := w) w.heap.size rfl (.tmp 28) (.tmp 32) 29 5 (.int .u8 0) 1 rfl Tryz.underlying29 info5 rfl (by decide) (by omega) v107 y106 (((rd_T61 l0 x4_1).f1) % 256) [.int .u8 (((rd_T61 l0 x4_1).f1) % 256)] (fun _ => True) (fun _ => False) rfl rfl ?aP (fun _ hk => hk.elim) ?aF ?aO ?aB ?aS ?aL ?_; (case aP => exact rfl); (case aB => exact z7_); (case aF => exact (fun _ _ => trivial)); (case aO => exact z29_); (case aS => exact (below_size z7_)); (case aL => have := LMc8.out; omega); intro v110 w13 ho hb hg hat; rw [← Ny109.out] at ho; have n_ := a3_ (blk_grown (g := gb105) (o := .cells #[.int .i64 ((rd_T61 l0 x4_1).f0), .int .i64 ((rd_T61 l0 x4_1).f1), .string ((rd_T61 l0 x4_1).f2)] 61 (0, 0)) z21_ hg (Kd.R_ne HO108.out BK105.out (by decide))) (hb) (ho); clear BK105 HB HO108; obtain ⟨BK105, HB, HO111⟩ := n_; clear ho hb hg hat))
     go_roundg k1
     case measure => have := HK1.out; omega
     case rel => exact ⟨(y109), (wrap64 (x4_1 + 1)), z8_, H', ⟨by have := HK1.out; omega⟩, ⟨by (with_reducible repeat (first | apply Kd.R_alloc | apply Kd.R_drewN | apply Kd.R_drew)); exact HO111.out⟩, ⟨z7_⟩⟩
    ·rw [if_neg c8] at H
     exact absurd H (by simp)
   rw [if_neg c7] at H
   have c7b0 : (((rd_T61 l0 x4_1).f0) == 1) = false := beq_eq_false_iff_ne.mpr c7
   have c7b1 : (((rd_T61 l0 x4_1).f0) != 1) = true := bne_iff_ne.mpr c7
   by_cases c14 : ((rd_T61 l0 x4_1).f0) = 2
   ·rw [if_pos c14] at H
    have c14b0 : (((rd_T61 l0 x4_1).f0) == 2) = true := beq_iff_eq.mpr c14
    have c14b1 : (((rd_T61 l0 x4_1).f0) != 2) = false := bne_eq_false_iff_eq.mpr c14
    clear c14
    replace H := Option.bind_eq_some_iff.mp H
    obtain ⟨t112, A150, H⟩ := H
    have A15 := ak_ A150
    clear A150
    by_cases c16 : y106.length + t112.length < 140737488355328
    ·rw [if_pos c16] at H
     have LMc16 := ak_ c16
     clear c16
     obtain ⟨y115, hy115⟩ : ∃ y_ : List Int, y_ = (y106 ++ t112) := ⟨_, rfl⟩
     replace H : (spec_l01Key.l0 k1 l0 y115 (wrap64 (x4_1 + 1))) = some r := by first | (rw [hy115]; with_reducible exact H) | (have H2_ := (Option.bind_some _ _).symm.trans H; rw [hy115]; with_reducible exact H2_) | (have H2_ := (Option.bind_some _ _).symm.trans H; with_reducible exact H2_) | with_reducible exact H | (rw [hy115]; exact H) | exact H
     have Ny115 := ak_ hy115
     clear hy115
     have H' := ak_ H
     clear H
     have p104 : 0 ≤ (x4_1 : Int) := of_decide_eq_true z5_
     have q104 : x4_1 < (l0.length : Int) := of_decide_eq_true z5_
     obtain ⟨ad104, e104, hx104_0, hx104_1, hx104_2⟩ := at_T61 HR0.out x4_1 p104 q104
     cases e104
     replace hx104_0 := oc_ HB.out hx104_0
     replace hx104_1 := oc_ HB.out hx104_1
     replace hx104_2 := oc_ HB.out hx104_2
     replace p104 := eq_true p104
     replace q104 := eq_true q104
     go_wp2_with (first | ((with_reducible refine gate_dst (N := 5) rfl ?_); refine bx_ 5 (cs := #[.int .i64 0, .int .i64 0, .string (⟨#[]⟩ : ByteArray)]) (t := 61) (h_ := ?_); intro gb105 hg w17 hbox hb; have n_ := a5_ (Kd.R_below z18_ hb) (below_step z0_ hb) (hbox) ((gs_ w hg (below_size z0_))) ((gs_ w hg (below_size z0_))); clear HO_3 HB; obtain ⟨HO_3, HB, BK105, GW105, GE105⟩ := n_; clear hb hbox hg; obtain ⟨hcz18_0, hcz18_1, hcz18_2, hfz18_0, hfz18_1, hfz18_2⟩ := bcf3 BK105.out) | ((with_reducible refine gate_builtin (b := .append) (xs := #[.tmp 18, .tmp 22]) rfl ?_); at_builtin; refine Kd.R_append (Kd.int .u8) (w0 := w) w.heap.size rfl (.tmp 18) (.tmp 22) 29 5 (.int .u8 0) 1 rfl Tryz.underlying29 info5 rfl (by decide) (by omega) u3 x3_1 (((rd_T61 l0 x4_1).f0) % 256) [.int .u8 (((rd_T61 l0 x4_1).f0) % 256)] (fun _ => True) (fun _ => False) rfl z74_ ?aP (fun _ hk => hk.elim) ?aF ?aO ?aB ?aS ?aL ?_; (case aP => exact rfl); (case aB => exact z7_); (case aF => exact (fun _ _ => trivial)); (case aO => exact z36_); (case aS => exact (below_size z7_)); (case aL => have := LMc6.out; omega); intro v107 w19 ho hb hg hat; rw [← Ny106.out] at ho; have n_ := a3_ (blk_grown (g := gb105) (o := .cells #[.int .i64 ((rd_T61 l0 x4_1).f0), .int .i64 ((rd_T61 l0 x4_1).f1), .string ((rd_T61 l0 x4_1).f2)] 61 (0, 0)) z24_ hg (Kd.R_ne HO_3.out BK105.out (by decide))) (hb) (ho); clear BK105 HB HO_3; obtain ⟨BK105, HB, HO108⟩ := n_; clear ho hb hg hat; obtain ⟨hcz20_0, hcz20_1, hcz20_2, hfz20_0, hfz20_1, hfz20_2⟩ := bcf3 BK105.out) | ((with_reducible refine gate_callee (f := 41) rfl ?_); refine goesL_ (some 39) rfl rfl Tryz.func41 (by kernel_rfl) rfl #[.int .i64 ((rd_T61 l0 x4_1).f1)] rfl z3_ ?_; (with_reducible refine (spec_l01Eight.calls k1 ((rd_T61 l0 x4_1).f1) t112 _ A15.out).mono ?_); rintro e w21 ⟨v113, rfl, ho0, hb⟩; refine ⟨_, rfl, ?_⟩; have n_ := a4_ (Kd.R_elder' z29_ (Kd.R_base ho0) hb) (Kd.R_lower (Kd.R_new' ho0 (Kd.R_lt z29_)) (below_size z7_)) (blk_below (g := gb105) (o := .cells #[.int .i64 ((rd_T61 l0 x4_1).f0), .int .i64 ((rd_T61 l0 x4_1).f1), .string ((rd_T61 l0 x4_1).f2)] 61 (0, 0)) z21_ hb) (below_step z7_ hb); clear HO108 BK105 HB; obtain ⟨HO108, HO114, BK105, HB⟩ := n_; (try clear hb); (try clear hb2); (try clear hk); (try clear hi); (try clear ho0); obtain ⟨Ao23, co23, eo23⟩ := Kd.R_slice HO114.out; subst eo23) | ((with_reducible refine gate_builtin (b := .append) (xs := #[.tmp 36, .tmp 39]) rfl ?_); at_builtin; refine Kd.R_append_rows (Kd.int .u8) (w0 := w) w.heap.size rfl (.tmp 36) (.tmp 39) 29 5 (.int .u8 0) 1 rfl Tryz.underlying29 info5 rfl (by decide) (by omega) v107 y106 t112 _ _ _ (fun k_ => some k_ ≠ (.slice Ao23 t112.length co23 : Value).ownBlock) (fun _ => False) rfl rfl ?aO ?aR (fun _ _ h => h) (fun _ h => h.elim) ?aF ?aB ?aS ?aL ?_; (case aR => exact cz_ ((Kd.R_reads' HO114.out).2.2)); (case aB => exact z7_); (case aF => exact (fun k_ hk => Kd.fresh' (Kd.R_lt z38_) k_ hk)); (case aO => exact z87_); (case aS => exact (below_size z7_)); (case aL => have := LMc16.out; omega); intro v116 w22 ho hb hg hat; rw [← Ny115.out] at ho; have n_ := a4_ (blk_grown (g := gb105) (o := .cells #[.int .i64 ((rd_T61 l0 x4_1).f0), .int .i64 ((rd_T61 l0 x4_1).f1), .string ((rd_T61 l0 x4_1).f2)] 61 (0, 0)) z21_ hg (Kd.R_ne HO108.out BK105.out (by decide))) (Kd.R_after (ok := (fun _ => True)) z38_ hg hat) (hb) (ho); clear BK105 HO114 HB HO108; obtain ⟨BK105, HO114, HB, HO117⟩ := n_; clear ho hb hg hat))
     go_roundg k1
     case measure => have := HK1.out; omega
     case rel => exact ⟨(y115), (wrap64 (x4_1 + 1)), z8_, H', ⟨by have := HK1.out; omega⟩, ⟨by (with_reducible repeat (first | apply Kd.R_alloc | apply Kd.R_drewN | apply Kd.R_drew)); exact Kd.R_mono HO117.out (fun _ hk => trivial)⟩, ⟨z7_⟩⟩
    ·rw [if_neg c16] at H
     exact absurd H (by simp)
   rw [if_neg c14] at H
   have c14b0 : (((rd_T61 l0 x4_1).f0) == 2) = false := beq_eq_false_iff_ne.mpr c14
   have c14b1 : (((rd_T61 l0 x4_1).f0) != 2) = true := bne_iff_ne.mpr c14
   have HC24 := ak_ H
   clear H
   have p104 : 0 ≤ (x4_1 : Int) := of_decide_eq_true z5_
   have q104 : x4_1 < (l0.length : Int) := of_decide_eq_true z5_
   obtain ⟨ad104, e104, hx104_0, hx104_1, hx104_2⟩ := at_T61 HR0.out x4_1 p104 q104
   cases e104
   replace hx104_0 := oc_ HB.out hx104_0
   replace hx104_1 := oc_ HB.out hx104_1
   replace hx104_2 := oc_ HB.out hx104_2
   replace p104 := eq_true p104
   replace q104 := eq_true q104
   go_upto_if 41 with (first | ((with_reducible refine gate_dst (N := 5) rfl ?_); refine bx_ 5 (cs := #[.int .i64 0, .int .i64 0, .string (⟨#[]⟩ : ByteArray)]) (t := 61) (h_ := ?_); intro gb105 hg w25 hbox hb; have n_ := a5_ (Kd.R_below z18_ hb) (below_step z0_ hb) (hbox) ((gs_ w hg (below_size z0_))) ((gs_ w hg (below_size z0_))); clear HO_3 HB; obtain ⟨HO_3, HB, BK105, GW105, GE105⟩ := n_; clear hb hbox hg; obtain ⟨hcz26_0, hcz26_1, hcz26_2, hfz26_0, hfz26_1, hfz26_2⟩ := bcf3 BK105.out) | ((with_reducible refine gate_builtin (b := .append) (xs := #[.tmp 18, .tmp 22]) rfl ?_); at_builtin; refine Kd.R_append (Kd.int .u8) (w0 := w) w.heap.size rfl (.tmp 18) (.tmp 22) 29 5 (.int .u8 0) 1 rfl Tryz.underlying29 info5 rfl (by decide) (by omega) u3 x3_1 (((rd_T61 l0 x4_1).f0) % 256) [.int .u8 (((rd_T61 l0 x4_1).f0) % 256)] (fun _ => True) (fun _ => False) rfl z74_ ?aP (fun _ hk => hk.elim) ?aF ?aO ?aB ?aS ?aL ?_; (case aP => exact rfl); (case aB => exact z7_); (case aF => exact (fun _ _ => trivial)); (case aO => exact z36_); (case aS => exact (below_size z7_)); (case aL => have := LMc6.out; omega); intro v107 w27 ho hb hg hat; rw [← Ny106.out] at ho; have n_ := a3_ (blk_grown (g := gb105) (o := .cells #[.int .i64 ((rd_T61 l0 x4_1).f0), .int .i64 ((rd_T61 l0 x4_1).f1), .string ((rd_T61 l0 x4_1).f2)] 61 (0, 0)) z24_ hg (Kd.R_ne HO_3.out BK105.out (by decide))) (hb) (ho); clear BK105 HB HO_3; obtain ⟨BK105, HB, HO108⟩ := n_; clear ho hb hg hat; obtain ⟨hcz28_0, hcz28_1, hcz28_2, hfz28_0, hfz28_1, hfz28_2⟩ := bcf3 BK105.out))
   (try simp only [Act.put, sz1_, sz2_, sz3_])
   go_cut [41] (fun v41 wc => ∃ (kq : Nat) (x41_23 : Bool), v41 = .bool x41_23 ∧ Aside0 (spec_l01Key.j1 kq l0 y106 x4_1 x41_23 ((rd_T61 l0 x4_1).f0) ((rd_T61 l0 x4_1).f1) ((rd_T61 l0 x4_1).f2) = some r) ∧ Aside0 (kq ≤ k1) ∧ Aside0 (Kd.R (Kd.int .u8) 5 wc w.heap.size (fun _ => True) v107 y106) ∧ Aside0 (wc.heap[gb105]? = some (.cells #[.int .i64 ((rd_T61 l0 x4_1).f0), .int .i64 ((rd_T61 l0 x4_1).f1), .string ((rd_T61 l0 x4_1).f2)] 61 (0, 0))) ∧ Aside0 (Below w.heap.size w wc))
   case first =>
    have H := HC24.out
    clear HC24
    by_cases c29 : ((rd_T61 l0 x4_1).f0) = 3
    rotate_left
    ·rw [if_neg c29] at H
     have c29b0 : (((rd_T61 l0 x4_1).f0) == 3) = false := beq_eq_false_iff_ne.mpr c29
     have c29b1 : (((rd_T61 l0 x4_1).f0) != 3) = true := bne_iff_ne.mpr c29
     (first | rw [c29b0] | (simp only [i64_w, i32_w]; rw [c29b0]) | skip)
     have H' := ak_ H
     clear H
     go_wp2
     go_meet
     case rel => exact ⟨_, ((((rd_T61 l0 x4_1).f0) == 4)), z8_, H', ⟨by have := HK1.out; first | omega | exact Nat.le_refl _⟩, ⟨z29_⟩, ⟨z21_⟩, ⟨z7_⟩⟩
    rw [if_pos c29] at H
    have c29b0 : (((rd_T61 l0 x4_1).f0) == 3) = true := beq_iff_eq.mpr c29
    have c29b1 : (((rd_T61 l0 x4_1).f0) != 3) = false := bne_eq_false_iff_eq.mpr c29
    clear c29
    (first | rw [c29b0] | (simp only [i64_w, i32_w]; rw [c29b0]) | skip)
    have H' := ak_ H
    clear H
    go_wp2
    go_meet
    case rel => exact ⟨_, ((((rd_T61 l0 x4_1).f0) == 3)), z8_, H', ⟨by have := HK1.out; first | omega | exact Nat.le_refl _⟩, ⟨z29_⟩, ⟨z21_⟩, ⟨z7_⟩⟩
   case rest =>
    clear HC24
    try clear c1
    try clear p1
    try clear q1
    try clear hx1
    try clear c2
    try clear p2
    try clear c4
    try clear c4b0
    try clear c5
    try clear c5b0
    try clear c6
    try clear p6
    try clear c7
    try clear c7b0
    try clear c7b1
    try clear c8
    try clear p10
    try clear q10
    try clear hx10
    try clear c14
    try clear c14b0
    try clear c14b1
    try clear c16
    try clear c22
    try clear c29
    try clear c29b0
    try clear c29b1
    try clear hcz10_0
    try clear hcz10_1
    try clear hcz10_2
    try clear hcz12_0
    try clear hcz12_1
    try clear hcz12_2
    try clear hcz18_0
    try clear hcz18_1
    try clear hcz18_2
    try clear hcz20_0
    try clear hcz20_1
    try clear hcz20_2
    try clear hcz26_0
    try clear hcz26_1
    try clear hcz26_2
    try clear hcz28_0
    try clear hcz28_1
    try clear hcz28_2
    try clear hfz10_0
    try clear hfz10_1
    try clear hfz10_2
    try clear hfz12_0
    try clear hfz12_1
    try clear hfz12_2
    try clear hfz18_0
    try clear hfz18_1
    try clear hfz18_2
    try clear hfz20_0
    try clear hfz20_1
    try clear hfz20_2
    try clear hfz26_0
    try clear hfz26_1
    try clear hfz26_2
    try clear hfz28_0
    try clear hfz28_1
    try clear hfz28_2
    try clear hx104_0
    try clear hx104_1
    try clear hx104_2
    try clear p104
    try clear p2
    try clear q104
    obtain ⟨kq, x41_23, rfl, HA, HJ23, HO_3, BK105, HB⟩ := hcut
    cases kq with
    | zero => exact absurd HA.out (by simp [spec_l01Key.j1])
    | succ kj23 =>
     have H := HA.out
     clear HA
     simp only [spec_l01Key.j1] at H
     by_cases c30 : x41_23 = true
     rotate_left
     ·replace c30 := Bool.eq_false_iff.mpr c30
      subst c30
      have H1 : (spec_l01Key.l0 kj23 l0 y106 (wrap64 (x4_1 + 1))) = some r := by rw [if_neg (show ¬ (false = true) by decide)] at H; exact H
      clear H
      have H := H1
      clear H1
      have H' := ak_ H
      clear H
      go_wp2
      go_roundg kj23
      case measure => have := HK1.out; have := HJ23.out; omega
      case rel => exact ⟨(y106), (wrap64 (x4_1 + 1)), z8_, H', ⟨by have := HK1.out; have := HJ23.out; omega⟩, ⟨z18_⟩, ⟨z7_⟩⟩
     subst c30
     have H1 : (spec_l01Key.l1 kj23 l0 y106 x4_1 0 ((rd_T61 l0 x4_1).f0) ((rd_T61 l0 x4_1).f1) ((rd_T61 l0 x4_1).f2)) = some r := by rw [if_pos rfl] at H; exact H
     clear H
     have H := H1
     clear H1
     have H' := ak_ H
     clear H
     go_wp2
     go_loopg [3, 6] kj23 (fun kq v3 v6 w' => ∃ (x3_3 : List Int) (x6_3 : Int), v6 = .int .i64 x6_3 ∧ Aside0 (spec_l01Key.l1 kq l0 x3_3 x4_1 x6_3 ((rd_T61 l0 x4_1).f0) ((rd_T61 l0 x4_1).f1) ((rd_T61 l0 x4_1).f2) = some r) ∧ Aside0 (kq ≤ kj23) ∧ Aside0 (Kd.R (Kd.int .u8) 5 w' w.heap.size (fun _ => True) v3 x3_3) ∧ Aside0 (w'.heap[gb105]? = some (.cells #[.int .i64 ((rd_T61 l0 x4_1).f0), .int .i64 ((rd_T61 l0 x4_1).f1), .string ((rd_T61 l0 x4_1).f2)] 61 (0, 0))) ∧ Aside0 (Below w.heap.size w w'))
     case atStart => exact ⟨(y106), (0), z8_, H', ⟨Nat.le_refl _⟩, ⟨z18_⟩, ⟨z21_⟩, ⟨z7_⟩⟩
     case round =>
      clear H'
      try clear c1
      try clear p1
      try clear q1
      try clear hx1
      try clear c2
      try clear p2
      try clear c3
      try clear c4
      try clear c4b0
      try clear c5
      try clear c5b0
      try clear c6
      try clear p6
      try clear c7
      try clear c7b0
      try clear c7b1
      try clear c8
      try clear p10
      try clear q10
      try clear hx10
      try clear c14
      try clear c14b0
      try clear c14b1
      try clear c16
      try clear c22
      try clear c29
      try clear c29b0
      try clear c29b1
      try clear c30
      try clear hcz10_0
      try clear hcz10_1
      try clear hcz10_2
      try clear hcz12_0
      try clear hcz12_1
      try clear hcz12_2
      try clear hcz18_0
      try clear hcz18_1
      try clear hcz18_2
      try clear hcz20_0
      try clear hcz20_1
      try clear hcz20_2
      try clear hcz26_0
      try clear hcz26_1
      try clear hcz26_2
      try clear hcz28_0
      try clear hcz28_1
      try clear hcz28_2
      try clear hfz10_0
      try clear hfz10_1
      try clear hfz10_2
      try clear hfz12_0
      try clear hfz12_1
      try clear hfz12_2
      try clear hfz18_0
      try clear hfz18_1
      try clear hfz18_2
      try clear hfz20_0
      try clear hfz20_1
      try clear hfz20_2
      try clear hfz26_0
      try clear hfz26_1
      try clear hfz26_2
      try clear hfz28_0
      try clear hfz28_1
      try clear hfz28_2
      try clear hx104_0
      try clear hx104_1
      try clear hx104_2
      try clear p1
      try clear p10
      try clear p104
      try clear p2
      try clear p6
      try clear q1
      try clear q10
      try clear q104
      obtain ⟨x3_3, x6_3, rfl, HA, HK3, HO_3, BK105, HB⟩ := hrel
      cases gk with
      | zero => exact absurd HA.out (by simp [spec_l01Key.l1])
      | succ k3 =>
       have H := HA.out
       clear HA
       simp only [spec_l01Key.l1] at H
       by_cases c31 : x6_3 < (((rd_T61 l0 x4_1).f2).size : Int)
       rotate_left
       ·rw [if_neg c31] at H
        have c31b0 := decide_eq_false c31
        clear c31
        obtain ⟨y124, hy124⟩ : ∃ y_ : List Int, y_ = (([0, 1] : List Int)) := ⟨_, rfl⟩
        replace H : (if x3_3.length + y124.length < 140737488355328 then (spec_l01Key.l0 k3 l0 (x3_3 ++ y124) (wrap64 (x4_1 + 1))) else (none)) = some r := by first | (rw [hy124]; with_reducible exact H) | (have H2_ := (Option.bind_some _ _).symm.trans H; rw [hy124]; with_reducible exact H2_) | (have H2_ := (Option.bind_some _ _).symm.trans H; with_reducible exact H2_) | with_reducible exact H | (rw [hy124]; exact H) | exact H
        have Ny124 := ak_ hy124
        clear hy124
        by_cases c45 : x3_3.length + y124.length < 140737488355328
        ·rw [if_pos c45] at H
         have LMc45 := ak_ c45
         clear c45
         obtain ⟨y127, hy127⟩ : ∃ y_ : List Int, y_ = (x3_3 ++ y124) := ⟨_, rfl⟩
         replace H : (spec_l01Key.l0 k3 l0 y127 (wrap64 (x4_1 + 1))) = some r := by first | (rw [hy127]; with_reducible exact H) | (have H2_ := (Option.bind_some _ _).symm.trans H; rw [hy127]; with_reducible exact H2_) | (have H2_ := (Option.bind_some _ _).symm.trans H; with_reducible exact H2_) | with_reducible exact H | (rw [hy127]; exact H) | exact H
         have Ny127 := ak_ hy127
         clear hy127
         have H' := ak_ H
         clear H
         obtain ⟨hcz46_0, hcz46_1, hcz46_2, hfz46_0, hfz46_1, hfz46_2⟩ := bcf3 BK105.out
         go_wp2_with (first | ((with_reducible refine gate_dst (N := 67) rfl ?_); refine Kd.R_lit (Kd.int .u8) _ 5 ?hg (N := 67) ?hd (xs := ([0, 1] : List Int)) (inner := [.int .u8 0, .int .u8 1]) (ok := fun _ => True) (okp := fun _ => True) ?hr ?hp (fun _ hk => hk) trivial (Below.refl _ _) (Nat.le_refl _) (by simp) ?_; (case hd => rfl); (case hg => rfl); (case hr => first | (go_simp; done) | (go_simp; rfl)); (case hp => exact (Reps.one (show Kd.M (Kd.int .u8) _ _ _ 0 [.int .u8 0] from rfl) (Reps.one (show Kd.M (Kd.int .u8) _ _ _ 1 [.int .u8 1] from rfl) (Reps.none _ _)))); intro v125 w47 ho48 hb hg_ hnew_; clear hg_ hnew_; (first | rw [← Ny124.out] at ho48 | (simp only [Int.reduceToNat] at ho48; rw [← Ny124.out] at ho48)); have n_ := a4_ (Kd.R_elder' z18_ (Kd.R_base ho48) hb) (Kd.R_lower (Kd.R_new' ho48 (Kd.R_lt z18_)) (below_size z7_)) (blk_below (g := gb105) (o := .cells #[.int .i64 ((rd_T61 l0 x4_1).f0), .int .i64 ((rd_T61 l0 x4_1).f1), .string ((rd_T61 l0 x4_1).f2)] 61 (0, 0)) z21_ hb) (below_step z7_ hb); clear HO_3 BK105 HB; obtain ⟨HO_3, HO126, BK105, HB⟩ := n_; clear hb ho48; obtain ⟨Ao50, co50, eo50⟩ := Kd.R_slice HO126.out; subst eo50) | ((with_reducible refine gate_builtin (b := .append) (xs := #[.tmp 66, .tmp 67]) rfl ?_); at_builtin; refine Kd.R_append_rows (Kd.int .u8) (w0 := w) w.heap.size rfl (.tmp 66) (.tmp 67) 29 5 (.int .u8 0) 1 rfl Tryz.underlying29 info5 rfl (by decide) (by omega) u3 x3_3 y124 _ _ _ (fun k_ => some k_ ≠ (.slice Ao50 y124.length co50 : Value).ownBlock) (fun _ => False) rfl rfl ?aO ?aR (fun _ _ h => h) (fun _ h => h.elim) ?aF ?aB ?aS ?aL ?_; (case aR => exact cz_ ((Kd.R_reads' HO126.out).2.2)); (case aB => exact z7_); (case aF => exact (fun k_ hk => Kd.fresh' (Kd.R_lt (by (with_reducible repeat (first | apply Kd.R_alloc | apply Kd.R_drewN | apply Kd.R_drew)); exact HO126.out)) k_ hk)); (case aO => exact (by (with_reducible repeat (first | apply Kd.R_alloc | apply Kd.R_drewN | apply Kd.R_drew)); exact Kd.R_mono HO_3.out (fun _ hk => hk.2))); (case aS => exact (below_size z7_)); (case aL => have := LMc45.out; omega); intro v128 w49 ho hb hg hat; rw [← Ny127.out] at ho; have n_ := a4_ (blk_grown (g := gb105) (o := .cells #[.int .i64 ((rd_T61 l0 x4_1).f0), .int .i64 ((rd_T61 l0 x4_1).f1), .string ((rd_T61 l0 x4_1).f2)] 61 (0, 0)) z21_ hg (Kd.R_ne HO_3.out BK105.out (by decide))) (Kd.R_after (ok := (fun _ => True)) (by (with_reducible repeat (first | apply Kd.R_alloc | apply Kd.R_drewN | apply Kd.R_drew)); exact HO126.out) hg hat) (hb) (ho); clear BK105 HO126 HB HO_3; obtain ⟨BK105, HO126, HB, HO129⟩ := n_; clear ho hb hg hat))
         go_roundg k3
         case measure => have := HK1.out; have := HJ23.out; have := HK3.out; omega
         case rel => exact ⟨(y127), (wrap64 (x4_1 + 1)), z8_, H', ⟨by have := HK1.out; have := HJ23.out; have := HK3.out; omega⟩, ⟨by (with_reducible repeat (first | apply Kd.R_alloc | apply Kd.R_drewN | apply Kd.R_drew)); exact Kd.R_mono HO129.out (fun _ hk => trivial)⟩, ⟨z7_⟩⟩
        ·rw [if_neg c45] at H
         exact absurd H (by simp)
       rw [if_pos c31] at H
       have c31b0 := decide_eq_true c31
       clear c31
       by_cases c32 : 0 ≤ x6_3
       rotate_left
       ·rw [if_neg c32] at H
        exact absurd H (by simp)
       rw [if_pos c32] at H
       have c32b0 := decide_eq_true c32
       clear c32
       by_cases c34 : x3_3.length < 140737488355328
       rotate_left
       ·rw [if_neg c34] at H
        exact absurd H (by simp)
       rw [if_pos c34] at H
       have LMc34 := ak_ c34
       clear c34
       obtain ⟨y118, hy118⟩ : ∃ y_ : List Int, y_ = (x3_3 ++ [bt ((rd_T61 l0 x4_1).f2) x6_3]) := ⟨_, rfl⟩
       replace H : (if (bt ((rd_T61 l0 x4_1).f2) x6_3) = 0 then (if y118.length < 140737488355328 then (spec_l01Key.l1 k3 l0 (y118 ++ [255]) x4_1 (wrap64 (x6_3 + 1)) ((rd_T61 l0 x4_1).f0) ((rd_T61 l0 x4_1).f1) ((rd_T61 l0 x4_1).f2)) else (none)) else (spec_l01Key.l1 k3 l0 y118 x4_1 (wrap64 (x6_3 + 1)) ((rd_T61 l0 x4_1).f0) ((rd_T61 l0 x4_1).f1) ((rd_T61 l0 x4_1).f2))) = some r := by first | (rw [hy118]; with_reducible exact H) | (have H2_ := (Option.bind_some _ _).symm.trans H; rw [hy118]; with_reducible exact H2_) | (have H2_ := (Option.bind_some _ _).symm.trans H; with_reducible exact H2_) | with_reducible exact H | (rw [hy118]; exact H) | exact H
       have Ny118 := ak_ hy118
       clear hy118
       by_cases c36 : (bt ((rd_T61 l0 x4_1).f2) x6_3) = 0
       rotate_left
       ·rw [if_neg c36] at H
        have c36b0 : ((bt ((rd_T61 l0 x4_1).f2) x6_3) == 0) = false := beq_eq_false_iff_ne.mpr c36
        have c36b1 : ((bt ((rd_T61 l0 x4_1).f2) x6_3) != 0) = true := bne_iff_ne.mpr c36
        have H' := ak_ H
        clear H
        obtain ⟨hcz42_0, hcz42_1, hcz42_2, hfz42_0, hfz42_1, hfz42_2⟩ := bcf3 BK105.out
        have p33 : 0 ≤ (x6_3 : Int) := of_decide_eq_true z5_
        have q33 : x6_3 < (((rd_T61 l0 x4_1).f2).size : Int) := of_decide_eq_true z5_
        have hx33 := bt_at ((rd_T61 l0 x4_1).f2) x6_3
        replace p33 := eq_true p33
        replace q33 := eq_true q33
        go_wp2_with (first | ((with_reducible refine gate_builtin (b := .append) (xs := #[.tmp 51, .tmp 56]) rfl ?_); at_builtin; refine Kd.R_append (Kd.int .u8) (w0 := w) w.heap.size rfl (.tmp 51) (.tmp 56) 29 5 (.int .u8 0) 1 rfl Tryz.underlying29 info5 rfl (by decide) (by omega) u3 x3_3 (bt ((rd_T61 l0 x4_1).f2) x6_3) [.int .u8 (bt ((rd_T61 l0 x4_1).f2) x6_3)] (fun _ => True) (fun _ => False) rfl rfl ?aP (fun _ hk => hk.elim) ?aF ?aO ?aB ?aS ?aL ?_; (case aP => exact rfl); (case aB => exact z7_); (case aF => exact (fun _ _ => trivial)); (case aO => exact z18_); (case aS => exact (below_size z7_)); (case aL => have := LMc34.out; omega); intro v119 w43 ho hb hg hat; rw [← Ny118.out] at ho; have n_ := a3_ (blk_grown (g := gb105) (o := .cells #[.int .i64 ((rd_T61 l0 x4_1).f0), .int .i64 ((rd_T61 l0 x4_1).f1), .string ((rd_T61 l0 x4_1).f2)] 61 (0, 0)) z21_ hg (Kd.R_ne HO_3.out BK105.out (by decide))) (hb) (ho); clear BK105 HB HO_3; obtain ⟨BK105, HB, HO120⟩ := n_; clear ho hb hg hat; obtain ⟨hcz44_0, hcz44_1, hcz44_2, hfz44_0, hfz44_1, hfz44_2⟩ := bcf3 BK105.out; have p35 : 0 ≤ (x6_3 : Int) := of_decide_eq_true z5_; have q35 : x6_3 < (((rd_T61 l0 x4_1).f2).size : Int) := of_decide_eq_true z5_; have hx35 := bt_at ((rd_T61 l0 x4_1).f2) x6_3; replace p35 := eq_true p35; replace q35 := eq_true q35))
        go_roundg k3
        case measure => have := HK1.out; have := HJ23.out; have := HK3.out; omega
        case rel => exact ⟨(y118), (wrap64 (x6_3 + 1)), z8_, H', ⟨by have := HK1.out; have := HJ23.out; have := HK3.out; omega⟩, ⟨z75_⟩, ⟨z21_⟩, ⟨z7_⟩⟩
       rw [if_pos c36] at H
       have c36b0 : ((bt ((rd_T61 l0 x4_1).f2) x6_3) == 0) = true := beq_iff_eq.mpr c36
       have c36b1 : ((bt ((rd_T61 l0 x4_1).f2) x6_3) != 0) = false := bne_eq_false_iff_eq.mpr c36
       clear c36
       by_cases c37 : y118.length < 140737488355328
       rotate_left
       ·rw [if_neg c37] at H
        exact absurd H (by simp)
       rw [if_pos c37] at H
       have LMc37 := ak_ c37
       clear c37
       obtain ⟨y121, hy121⟩ : ∃ y_ : List Int, y_ = (y118 ++ [255]) := ⟨_, rfl⟩
       replace H : (spec_l01Key.l1 k3 l0 y121 x4_1 (wrap64 (x6_3 + 1)) ((rd_T61 l0 x4_1).f0) ((rd_T61 l0 x4_1).f1) ((rd_T61 l0 x4_1).f2)) = some r := by first | (rw [hy121]; with_reducible exact H) | (have H2_ := (Option.bind_some _ _).symm.trans H; rw [hy121]; with_reducible exact H2_) | (have H2_ := (Option.bind_some _ _).symm.trans H; with_reducible exact H2_) | with_reducible exact H | (rw [hy121]; exact H) | exact H
       have Ny121 := ak_ hy121
       clear hy121
       have H' := ak_ H
       clear H
       obtain ⟨hcz38_0, hcz38_1, hcz38_2, hfz38_0, hfz38_1, hfz38_2⟩ := bcf3 BK105.out
       have p33 : 0 ≤ (x6_3 : Int) := of_decide_eq_true z5_
       have q33 : x6_3 < (((rd_T61 l0 x4_1).f2).size : Int) := of_decide_eq_true z5_
       have hx33 := bt_at ((rd_T61 l0 x4_1).f2) x6_3
       replace p33 := eq_true p33
       replace q33 := eq_true q33
       go_wp2_with (first | ((with_reducible refine gate_builtin (b := .append) (xs := #[.tmp 51, .tmp 56]) rfl ?_); at_builtin; refine Kd.R_append (Kd.int .u8) (w0 := w) w.heap.size rfl (.tmp 51) (.tmp 56) 29 5 (.int .u8 0) 1 rfl Tryz.underlying29 info5 rfl (by decide) (by omega) u3 x3_3 (bt ((rd_T61 l0 x4_1).f2) x6_3) [.int .u8 (bt ((rd_T61 l0 x4_1).f2) x6_3)] (fun _ => True) (fun _ => False) rfl rfl ?aP (fun _ hk => hk.elim) ?aF ?aO ?aB ?aS ?aL ?_; (case aP => exact rfl); (case aB => exact z7_); (case aF => exact (fun _ _ => trivial)); (case aO => exact z18_); (case aS => exact (below_size z7_)); (case aL => have := LMc34.out; omega); intro v119 w39 ho hb hg hat; rw [← Ny118.out] at ho; have n_ := a3_ (blk_grown (g := gb105) (o := .cells #[.int .i64 ((rd_T61 l0 x4_1).f0), .int .i64 ((rd_T61 l0 x4_1).f1), .string ((rd_T61 l0 x4_1).f2)] 61 (0, 0)) z21_ hg (Kd.R_ne HO_3.out BK105.out (by decide))) (hb) (ho); clear BK105 HB HO_3; obtain ⟨BK105, HB, HO120⟩ := n_; clear ho hb hg hat; obtain ⟨hcz40_0, hcz40_1, hcz40_2, hfz40_0, hfz40_1, hfz40_2⟩ := bcf3 BK105.out; have p35 : 0 ≤ (x6_3 : Int) := of_decide_eq_true z5_; have q35 : x6_3 < (((rd_T61 l0 x4_1).f2).size : Int) := of_decide_eq_true z5_; have hx35 := bt_at ((rd_T61 l0 x4_1).f2) x6_3; replace p35 := eq_true p35; replace q35 := eq_true q35) | ((with_reducible refine gate_builtin (b := .append) (xs := #[.tmp 63, .tmp 64]) rfl ?_); at_builtin; refine Kd.R_append (Kd.int .u8) (w0 := w) w.heap.size rfl (.tmp 63) (.tmp 64) 29 5 (.int .u8 0) 1 rfl Tryz.underlying29 info5 rfl (by decide) (by omega) v119 y118 255 [.int .u8 255] (fun _ => True) (fun _ => False) rfl rfl ?aP (fun _ hk => hk.elim) ?aF ?aO ?aB ?aS ?aL ?_; (case aP => exact rfl); (case aB => exact z7_); (case aF => exact (fun _ _ => trivial)); (case aO => exact z75_); (case aS => exact (below_size z7_)); (case aL => have := LMc37.out; omega); intro v122 w41 ho hb hg hat; rw [← Ny121.out] at ho; have n_ := a3_ (blk_grown (g := gb105) (o := .cells #[.int .i64 ((rd_T61 l0 x4_1).f0), .int .i64 ((rd_T61 l0 x4_1).f1), .string ((rd_T61 l0 x4_1).f2)] 61 (0, 0)) z21_ hg (Kd.R_ne HO120.out BK105.out (by decide))) (hb) (ho); clear BK105 HB HO120; obtain ⟨BK105, HB, HO123⟩ := n_; clear ho hb hg hat))
       go_roundg k3
       case measure => have := HK1.out; have := HJ23.out; have := HK3.out; omega
       case rel => exact ⟨(y121), (wrap64 (x6_3 + 1)), z8_, H', ⟨by have := HK1.out; have := HJ23.out; have := HK3.out; omega⟩, ⟨by (with_reducible repeat (first | apply Kd.R_alloc | apply Kd.R_drewN | apply Kd.R_drew)); exact HO123.out⟩, ⟨z21_⟩, ⟨z7_⟩⟩
end

end Go.Proofs.YtlikagbdhjdggaaGreatDoor.X
end
