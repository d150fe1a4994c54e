/- Contracts of functions, and what is told of them. -/
import Derived.Test.YtlikagbdhjdggaaGreatDoorYFnExactIndexKey7
set_option linter.unusedSimpArgs false
set_option linter.unusedVariables false
set_option maxHeartbeats 8000000
set_option maxRecDepth 100000
section
namespace Go.Proofs.YtlikagbdhjdggaaGreatDoor.X
open Go.RowKit Go.Proofs.YtlikagbdhjdggaaGreatDoorW.PrintWords Go.Proofs.YtlikagbdhjdggaaGreatDoorW.PrintLast Go.Proofs.YtlikagbdhjdggaaGreatDoorW.PrintMore
attribute [local go_sem] max2_int min2_int max_two min_two max_three min_three max_four min_four

section
def spec_l09Column.l0 : Nat → List (S78) → ByteArray → Int → Option (Int)
 | 0, _, _, _ => none
 | k + 1, x0, x1, x5 => if x5 < (x0.length : Int) then (if 0 ≤ x5 then (if ((rd_T78 x0 x5).f0).toList = x1.toList then (some x5) else (spec_l09Column.l0 k x0 x1 (wrap64 (x5 + 1)))) else (none)) else (some (-1))
def spec_l09Column.f (k : Nat) (l0 : List (S78)) (a1 : ByteArray) : Option (Int) := spec_l09Column.l0 k l0 a1 0
theorem spec_l09Column.mono_l : ∀ k, (∀ y0 y1 y2, LeO (spec_l09Column.l0 k y0 y1 y2) (spec_l09Column.l0 (k + 1) y0 y1 y2))
 | 0 => fun _ _ _ r h => by simp [spec_l09Column.l0] at h
 | k + 1 => by
  have ih0 := spec_l09Column.mono_l k
  intro y0 y1 y2
  unfold spec_l09Column.l0
  repeat' first | with_reducible (first | exact ih0 _ _ _ | exact LeO.refl _ | exact LeO.none _ | refine LeO.ite ?_ ?_ | refine LeO.bind ?_ (fun _ => ?_)) | exact ih0 _ _ _ | exact LeO.none _ | refine LeO.ite ?_ ?_ | refine LeO.bind ?_ (fun _ => ?_)
theorem spec_l09Column.mono : ∀ a0 a1 k, LeO (spec_l09Column.f k a0 a1) (spec_l09Column.f (k + 1) a0 a1) := by
 intro a0 a1 k
 have ih0 := spec_l09Column.mono_l k
 unfold spec_l09Column.f
 repeat' first
   | (with_reducible exact ih0 _ _ _)
   | (with_reducible exact LeO.refl _)
   | (with_reducible exact LeO.none _)
   | (with_reducible refine LeO.ite ?_ ?_)
   | (with_reducible refine LeO.bind ?_ (fun _ => ?_))
   | exact ih0 _ _ _
   | exact LeO.none _
   | refine LeO.ite ?_ ?_
   | refine LeO.bind ?_ (fun _ => ?_)
theorem spec_l09Column.calls (k : Nat) (A0 : Option Addr) (c0 : Nat) (l0 : List (S78)) (a1 : ByteArray) (r : Int) (w : World) (hr0 : Kd.C k78 w A0 l0.length l0) (hc0 : l0.length ≤ c0) (h : spec_l09Column.f k l0 a1 = some r) :
  Calls Tryz.prog 54 #[.slice A0 l0.length c0, .string a1] w fun e w' => e = .returned (.int .i64 r) ∧ Drawn0 w w' := by
 have HR0 := ak_ hr0
 have HC0 := ak_ hc0
 clear hr0 hc0
 have H : (spec_l09Column.l0 k l0 a1 0) = some r := h
 clear h
 have H' := ak_ H
 clear H
 go_enter Tryz.func54, Tryz.ntmps54
 go_wp2
 go_loopg [5] k (fun kq v5 w' => ∃ (x5_1 : Int), v5 = .int .i64 x5_1 ∧ Aside0 (spec_l09Column.l0 kq l0 a1 x5_1 = some r) ∧ Aside0 (kq ≤ k) ∧ Drawn0 w w')
 case atStart => exact ⟨(0), z8_, H', ⟨Nat.le_refl _⟩, z13_⟩
 case round =>
  clear H'
  try clear p2
  obtain ⟨x5_1, rfl, HA, HK1, ⟨m1, rfl⟩⟩ := hrel
  cases gk with
  | zero => exact absurd HA.out (by simp [spec_l09Column.l0])
  | succ k1 =>
   have H := HA.out
   clear HA
   simp only [spec_l09Column.l0] at H
   by_cases c3 : x5_1 < (l0.length : Int)
   rotate_left
   ·rw [if_neg c3] at H
    have c3b0 := decide_eq_false c3
    clear c3
    obtain rfl := Option.some.inj H
    go_wp2
    go_ret
    exact ⟨z8_, z13_⟩

   rw [if_pos c3] at H
   have c3b0 := decide_eq_true c3
   clear c3
   by_cases c4 : 0 ≤ x5_1
   rotate_left
   ·rw [if_neg c4] at H
    exact absurd H (by simp)
   rw [if_pos c4] at H
   have c4b0 := decide_eq_true c4
   clear c4
   by_cases c5 : ((rd_T78 l0 x5_1).f0).toList = a1.toList
   ·rw [if_pos c5] at H
    have c5b0 : (((rd_T78 l0 x5_1).f0).toList == a1.toList) = true := beq_iff_eq.mpr c5
    have c5b1 : (((rd_T78 l0 x5_1).f0).toList != a1.toList) = false := bne_eq_false_iff_eq.mpr c5
    clear c5
    obtain rfl := Option.some.inj H
    have p101 : 0 ≤ (x5_1 : Int) := of_decide_eq_true z5_
    have q101 : x5_1 < (l0.length : Int) := of_decide_eq_true z5_
    obtain ⟨ad101, e101, hx101_0, hx101_1, hx101_2⟩ := at_T78 HR0.out x5_1 p101 q101
    cases e101
    replace p101 := eq_true p101
    replace q101 := eq_true q101
    go_wp2
    go_ret
    exact ⟨z8_, z13_⟩
   rw [if_neg c5] at H
   have c5b0 : (((rd_T78 l0 x5_1).f0).toList == a1.toList) = false := beq_eq_false_iff_ne.mpr c5
   have c5b1 : (((rd_T78 l0 x5_1).f0).toList != a1.toList) = true := bne_iff_ne.mpr c5
   have H' := ak_ H
   clear H
   have p101 : 0 ≤ (x5_1 : Int) := of_decide_eq_true z5_
   have q101 : x5_1 < (l0.length : Int) := of_decide_eq_true z5_
   obtain ⟨ad101, e101, hx101_0, hx101_1, hx101_2⟩ := at_T78 HR0.out x5_1 p101 q101
   cases e101
   replace p101 := eq_true p101
   replace q101 := eq_true q101
   go_wp2
   go_roundg k1
   case measure => have := HK1.out; omega
   case rel => exact ⟨(wrap64 (x5_1 + 1)), z8_, H', ⟨by have := HK1.out; omega⟩, z13_⟩
end

section
def spec_l03Has.l0 : Nat → List Int → Int → Int → Option (Bool)
 | 0, _, _, _ => none
 | k + 1, x0, x1, x5 => if x5 < (x0.length : Int) then (if 0 ≤ x5 then (if (rd x0 x5) = x1 then (some true) else (spec_l03Has.l0 k x0 x1 (wrap64 (x5 + 1)))) else (none)) else (some false)
def spec_l03Has.f (k : Nat) (l0 : List Int) (a1 : Int) : Option (Bool) := spec_l03Has.l0 k l0 a1 0
theorem spec_l03Has.mono_l : ∀ k, (∀ y0 y1 y2, LeO (spec_l03Has.l0 k y0 y1 y2) (spec_l03Has.l0 (k + 1) y0 y1 y2))
 | 0 => fun _ _ _ r h => by simp [spec_l03Has.l0] at h
 | k + 1 => by
  have ih0 := spec_l03Has.mono_l k
  intro y0 y1 y2
  unfold spec_l03Has.l0
  repeat' first | with_reducible (first | exact ih0 _ _ _ | exact LeO.refl _ | exact LeO.none _ | refine LeO.ite ?_ ?_ | refine LeO.bind ?_ (fun _ => ?_)) | exact ih0 _ _ _ | exact LeO.none _ | refine LeO.ite ?_ ?_ | refine LeO.bind ?_ (fun _ => ?_)
theorem spec_l03Has.mono : ∀ a0 a1 k, LeO (spec_l03Has.f k a0 a1) (spec_l03Has.f (k + 1) a0 a1) := by
 intro a0 a1 k
 have ih0 := spec_l03Has.mono_l k
 unfold spec_l03Has.f
 repeat' first
   | (with_reducible exact ih0 _ _ _)
   | (with_reducible exact LeO.refl _)
   | (with_reducible exact LeO.none _)
   | (with_reducible refine LeO.ite ?_ ?_)
   | (with_reducible refine LeO.bind ?_ (fun _ => ?_))
   | exact ih0 _ _ _
   | exact LeO.none _
   | refine LeO.ite ?_ ?_
   | refine LeO.bind ?_ (fun _ => ?_)
theorem spec_l03Has.calls (k : Nat) (A0 : Option Addr) (c0 : Nat) (l0 : List Int) (a1 : Int) (r : Bool) (w : World) (hr0 : Kd.C (Kd.int .i64) w A0 l0.length l0) (hc0 : l0.length ≤ c0) (h : spec_l03Has.f k l0 a1 = some r) :
  Calls Tryz.prog 75 #[.slice A0 l0.length c0, .int .i64 a1] w fun e w' => e = .returned (.bool r) ∧ Drawn0 w w' := by
 have HR0 := ak_ hr0
 have HC0 := ak_ hc0
 clear hr0 hc0
 have H : (spec_l03Has.l0 k l0 a1 0) = some r := h
 clear h
 have H' := ak_ H
 clear H
 go_enter Tryz.func75, Tryz.ntmps75
 go_wp2
 go_loopg [5] k (fun kq v5 w' => ∃ (x5_1 : Int), v5 = .int .i64 x5_1 ∧ Aside0 (spec_l03Has.l0 kq l0 a1 x5_1 = some r) ∧ Aside0 (kq ≤ k) ∧ Drawn0 w w')
 case atStart => exact ⟨(0), z8_, H', ⟨Nat.le_refl _⟩, z13_⟩
 case round =>
  clear H'
  try clear p2
  obtain ⟨x5_1, rfl, HA, HK1, ⟨m1, rfl⟩⟩ := hrel
  cases gk with
  | zero => exact absurd HA.out (by simp [spec_l03Has.l0])
  | succ k1 =>
   have H := HA.out
   clear HA
   simp only [spec_l03Has.l0] at H
   by_cases c3 : x5_1 < (l0.length : Int)
   rotate_left
   ·rw [if_neg c3] at H
    have c3b0 := decide_eq_false c3
    clear c3
    obtain rfl := Option.some.inj H
    go_wp2
    go_ret
    exact ⟨z8_, z13_⟩

   rw [if_pos c3] at H
   have c3b0 := decide_eq_true c3
   clear c3
   by_cases c4 : 0 ≤ x5_1
   rotate_left
   ·rw [if_neg c4] at H
    exact absurd H (by simp)
   rw [if_pos c4] at H
   have c4b0 := decide_eq_true c4
   clear c4
   by_cases c5 : (rd l0 x5_1) = a1
   ·rw [if_pos c5] at H
    have c5b0 : ((rd l0 x5_1) == a1) = true := beq_iff_eq.mpr c5
    have c5b1 : ((rd l0 x5_1) != a1) = false := bne_eq_false_iff_eq.mpr c5
    clear c5
    obtain rfl := Option.some.inj H
    have p101 : 0 ≤ (x5_1 : Int) := of_decide_eq_true z5_
    have q101 : x5_1 < (l0.length : Int) := of_decide_eq_true z5_
    obtain ⟨ad101, e101, hx101_0⟩ := Kd.at_int HR0.out x5_1 p101 q101
    cases e101
    replace p101 := eq_true p101
    replace q101 := eq_true q101
    go_wp2
    go_ret
    exact ⟨z8_, z13_⟩
   rw [if_neg c5] at H
   have c5b0 : ((rd l0 x5_1) == a1) = false := beq_eq_false_iff_ne.mpr c5
   have c5b1 : ((rd l0 x5_1) != a1) = true := bne_iff_ne.mpr c5
   have H' := ak_ H
   clear H
   have p101 : 0 ≤ (x5_1 : Int) := of_decide_eq_true z5_
   have q101 : x5_1 < (l0.length : Int) := of_decide_eq_true z5_
   obtain ⟨ad101, e101, hx101_0⟩ := Kd.at_int HR0.out x5_1 p101 q101
   cases e101
   replace p101 := eq_true p101
   replace q101 := eq_true q101
   go_wp2
   go_roundg k1
   case measure => have := HK1.out; omega
   case rel => exact ⟨(wrap64 (x5_1 + 1)), z8_, H', ⟨by have := HK1.out; omega⟩, z13_⟩
end

section
mutual
def spec_l09IndexOK.j0 : Nat → Bool → ByteArray → List (S78) → Int → List (S58) → ByteArray → List Int → Option (Bool)
 | 0, _, _, _, _, _, _, _ => none
 | k + 1, x24, x102000, x102001, x102002, x102003, x103000, x103001 => if x24 = true then (some false) else (spec_l09IndexOK.l0 k 0 x102000 x102001 x102002 x102003 x103000 x103001)
def spec_l09IndexOK.l0 : Nat → Int → ByteArray → List (S78) → Int → List (S58) → ByteArray → List Int → Option (Bool)
 | 0, _, _, _, _, _, _, _ => none
 | k + 1, x5, x102000, x102001, x102002, x102003, x103000, x103001 => if x5 < (x103001.length : Int) then (if 0 ≤ x5 then ((spec_l01In.f (rd x103001 x5) 0 (wrap64 ((x102001.length : Int) - 1))).bind fun t105 => (if t105 = true then (if x5 ≤ (x103001.length : Int) then ((spec_l03Has.f k (x103001.take (x5 : Int).toNat) (rd x103001 x5)).bind fun t108 => (if t108 = true then (some false) else (spec_l09IndexOK.l0 k (wrap64 (x5 + 1)) x102000 x102001 x102002 x102003 x103000 x103001))) else (none)) else (some false))) else (none)) else (some true)
end
def spec_l09IndexOK.f (k : Nat) (a0_0 : ByteArray) (l0_1 : List (S78)) (a0_2 : Int) (l0_3 : List (S58)) (a1_0 : ByteArray) (l1_1 : List Int) : Option (Bool) := (spec_l09Name.f k a1_0).bind fun t103 => (if t103 = true then (if (l1_1.length : Int) = 0 then (spec_l09IndexOK.j0 k true a0_0 l0_1 a0_2 l0_3 a1_0 l1_1) else (spec_l09IndexOK.j0 k (decide ((l1_1.length : Int) > (l0_1.length : Int))) a0_0 l0_1 a0_2 l0_3 a1_0 l1_1)) else (spec_l09IndexOK.j0 k true a0_0 l0_1 a0_2 l0_3 a1_0 l1_1))
theorem spec_l09IndexOK.mono_l : ∀ k, (∀ y0 y1 y2 y3 y4 y5 y6, LeO (spec_l09IndexOK.j0 k y0 y1 y2 y3 y4 y5 y6) (spec_l09IndexOK.j0 (k + 1) y0 y1 y2 y3 y4 y5 y6)) ∧ (∀ y0 y1 y2 y3 y4 y5 y6, LeO (spec_l09IndexOK.l0 k y0 y1 y2 y3 y4 y5 y6) (spec_l09IndexOK.l0 (k + 1) y0 y1 y2 y3 y4 y5 y6))
 | 0 => ⟨fun _ _ _ _ _ _ _ r h => by simp [spec_l09IndexOK.j0] at h, fun _ _ _ _ _ _ _ r h => by simp [spec_l09IndexOK.l0] at h⟩
 | k + 1 => by
  obtain ⟨ih0, ih1⟩ := spec_l09IndexOK.mono_l k
  refine ⟨?_, ?_⟩
  rotate_left
  ·intro y0 y1 y2 y3 y4 y5 y6
   unfold spec_l09IndexOK.l0
   repeat' first | with_reducible (first | exact ih0 _ _ _ _ _ _ _ | exact ih1 _ _ _ _ _ _ _ | exact spec_l03Has.mono _ _ _ | exact spec_l09Name.mono _ _ | exact LeO.refl _ | exact LeO.none _ | refine LeO.ite ?_ ?_ | refine LeO.bind ?_ (fun _ => ?_)) | exact ih0 _ _ _ _ _ _ _ | exact ih1 _ _ _ _ _ _ _ | exact spec_l03Has.mono _ _ _ | exact spec_l09Name.mono _ _ | exact LeO.none _ | refine LeO.ite ?_ ?_ | refine LeO.bind ?_ (fun _ => ?_)
  intro y0 y1 y2 y3 y4 y5 y6
  unfold spec_l09IndexOK.j0
  repeat' first | with_reducible (first | exact ih0 _ _ _ _ _ _ _ | exact ih1 _ _ _ _ _ _ _ | exact spec_l03Has.mono _ _ _ | exact spec_l09Name.mono _ _ | exact LeO.refl _ | exact LeO.none _ | refine LeO.ite ?_ ?_ | refine LeO.bind ?_ (fun _ => ?_)) | exact ih0 _ _ _ _ _ _ _ | exact ih1 _ _ _ _ _ _ _ | exact spec_l03Has.mono _ _ _ | exact spec_l09Name.mono _ _ | exact LeO.none _ | refine LeO.ite ?_ ?_ | refine LeO.bind ?_ (fun _ => ?_)
theorem spec_l09IndexOK.mono : ∀ a0 a1 a2 a3 a4 a5 k, LeO (spec_l09IndexOK.f k a0 a1 a2 a3 a4 a5) (spec_l09IndexOK.f (k + 1) a0 a1 a2 a3 a4 a5) := by
 intro a0 a1 a2 a3 a4 a5 k
 obtain ⟨ih0, ih1⟩ := spec_l09IndexOK.mono_l k
 unfold spec_l09IndexOK.f
 repeat' first
   | (with_reducible exact ih0 _ _ _ _ _ _ _)
   | (with_reducible exact ih1 _ _ _ _ _ _ _)
   | (with_reducible exact spec_l03Has.mono _ _ _)
   | (with_reducible exact spec_l09Name.mono _ _)
   | (with_reducible exact LeO.refl _)
   | (with_reducible exact LeO.none _)
   | (with_reducible refine LeO.ite ?_ ?_)
   | (with_reducible refine LeO.bind ?_ (fun _ => ?_))
   | exact ih0 _ _ _ _ _ _ _
   | exact ih1 _ _ _ _ _ _ _
   | exact spec_l03Has.mono _ _ _
   | exact spec_l09Name.mono _ _
   | exact LeO.none _
   | refine LeO.ite ?_ ?_
   | refine LeO.bind ?_ (fun _ => ?_)
theorem spec_l09IndexOK.calls (k : Nat) (a0_0 : ByteArray) (A0_1 : Option Addr) (c0_1 : Nat) (l0_1 : List (S78)) (a0_2 : Int) (A0_3 : Option Addr) (c0_3 : Nat) (l0_3 : List (S58)) (a1_0 : ByteArray) (A1_1 : Option Addr) (c1_1 : Nat) (l1_1 : List Int) (r : Bool) (w : World) (hr0_1 : Kd.C k78 w A0_1 l0_1.length l0_1) (hc0_1 : l0_1.length ≤ c0_1) (hr0_3 : Kd.C k58 w A0_3 l0_3.length l0_3) (hc0_3 : l0_3.length ≤ c0_3) (hr1_1 : Kd.C (Kd.int .i64) w A1_1 l1_1.length l1_1) (hc1_1 : l1_1.length ≤ c1_1) (h : spec_l09IndexOK.f k a0_0 l0_1 a0_2 l0_3 a1_0 l1_1 = some r) :
  Calls Tryz.prog 55 #[.agg #[.string a0_0, .slice A0_1 l0_1.length c0_1, .int .i64 a0_2, .slice A0_3 l0_3.length c0_3], .agg #[.string a1_0, .slice A1_1 l1_1.length c1_1]] w fun e w' => e = .returned (.bool r) ∧ Below w.heap.size w w' := by
 have hu35 := Tryz.underlying35
 have hu58 := Tryz.underlying58
 have HR0_1 := ak_ hr0_1
 have HC0_1 := ak_ hc0_1
 clear hr0_1 hc0_1
 have HR0_3 := ak_ hr0_3
 have HC0_3 := ak_ hc0_3
 clear hr0_3 hc0_3
 have HR1_1 := ak_ hr1_1
 have HC1_1 := ak_ hc1_1
 clear hr1_1 hc1_1
 have HB := ak_ (Below.refl w.heap.size w)
 have H := h
 unfold spec_l09IndexOK.f at H
 clear h
 have HC3 := ak_ H
 clear H
 go_enter Tryz.func55, Tryz.ntmps55
 go_upto_region 1 with (first | ((with_reducible refine gate_dst (N := 2) rfl ?_); (try (refine gate_guard (by rfl) ?_; dsimp only)); refine bx_ 2 (cs := #[.string a0_0, .slice A0_1 l0_1.length c0_1, .int .i64 a0_2, .slice A0_3 l0_3.length c0_3]) (t := 35) (h_ := ?_); intro gb101 hg w4 hbox hb; have n_ := a4_ (below_step z0_ hb) (hbox) ((gs_ w hg (below_size z0_))) ((gs_ w hg (below_size z0_))); clear HB; obtain ⟨HB, BK101, GW101, GE101⟩ := n_; clear hb hbox hg) | ((with_reducible refine gate_dst (N := 3) rfl ?_); (try (refine gate_guard (by rfl) ?_; dsimp only)); refine bx_ 3 (cs := #[.string a1_0, .slice A1_1 l1_1.length c1_1]) (t := 58) (h_ := ?_); intro gb102 hg w5 hbox hb; have n_ := a7_ (blk_below (g := gb101) (o := .cells #[.string a0_0, .slice A0_1 l0_1.length c0_1, .int .i64 a0_2, .slice A0_3 l0_3.length c0_3] 35 (0, 0)) z2_ hb) (below_step z1_ hb) (hbox) ((gs_ w hg (below_size z1_))) ((gs_ w hg (below_size z1_))) ((z26_ : gb101 ≠ gb102)) ((z27_ : gb102 ≠ gb101)); clear BK101 HB; obtain ⟨BK101, HB, BK102, GW102, GE102, NB101_102, NB102_101⟩ := n_; clear hb hbox hg))
 repeat (go_quiet (first | ((with_reducible refine gate_dst (N := 2) rfl ?_); (try (refine gate_guard (by rfl) ?_; dsimp only)); refine bx_ 2 (cs := #[.string a0_0, .slice A0_1 l0_1.length c0_1, .int .i64 a0_2, .slice A0_3 l0_3.length c0_3]) (t := 35) (h_ := ?_); intro gb101 hg w4 hbox hb; have n_ := a4_ (below_step z0_ hb) (hbox) ((gs_ w hg (below_size z0_))) ((gs_ w hg (below_size z0_))); clear HB; obtain ⟨HB, BK101, GW101, GE101⟩ := n_; clear hb hbox hg) | ((with_reducible refine gate_dst (N := 3) rfl ?_); (try (refine gate_guard (by rfl) ?_; dsimp only)); refine bx_ 3 (cs := #[.string a1_0, .slice A1_1 l1_1.length c1_1]) (t := 58) (h_ := ?_); intro gb102 hg w5 hbox hb; have n_ := a7_ (blk_below (g := gb101) (o := .cells #[.string a0_0, .slice A0_1 l0_1.length c0_1, .int .i64 a0_2, .slice A0_3 l0_3.length c0_3] 35 (0, 0)) z2_ hb) (below_step z1_ hb) (hbox) ((gs_ w hg (below_size z1_))) ((gs_ w hg (below_size z1_))) ((z26_ : gb101 ≠ gb102)) ((z27_ : gb102 ≠ gb101)); clear BK101 HB; obtain ⟨BK101, HB, BK102, GW102, GE102, NB101_102, NB102_101⟩ := n_; clear hb hbox hg)); go_upto_region 1 with (first | ((with_reducible refine gate_dst (N := 2) rfl ?_); (try (refine gate_guard (by rfl) ?_; dsimp only)); refine bx_ 2 (cs := #[.string a0_0, .slice A0_1 l0_1.length c0_1, .int .i64 a0_2, .slice A0_3 l0_3.length c0_3]) (t := 35) (h_ := ?_); intro gb101 hg w4 hbox hb; have n_ := a4_ (below_step z0_ hb) (hbox) ((gs_ w hg (below_size z0_))) ((gs_ w hg (below_size z0_))); clear HB; obtain ⟨HB, BK101, GW101, GE101⟩ := n_; clear hb hbox hg) | ((with_reducible refine gate_dst (N := 3) rfl ?_); (try (refine gate_guard (by rfl) ?_; dsimp only)); refine bx_ 3 (cs := #[.string a1_0, .slice A1_1 l1_1.length c1_1]) (t := 58) (h_ := ?_); intro gb102 hg w5 hbox hb; have n_ := a7_ (blk_below (g := gb101) (o := .cells #[.string a0_0, .slice A0_1 l0_1.length c0_1, .int .i64 a0_2, .slice A0_3 l0_3.length c0_3] 35 (0, 0)) z2_ hb) (below_step z1_ hb) (hbox) ((gs_ w hg (below_size z1_))) ((gs_ w hg (below_size z1_))) ((z26_ : gb101 ≠ gb102)) ((z27_ : gb102 ≠ gb101)); clear BK101 HB; obtain ⟨BK101, HB, BK102, GW102, GE102, NB101_102, NB102_101⟩ := n_; clear hb hbox hg)))
 (try simp only [Act.put, sz1_, sz2_, sz3_])
 go_cut [24] (fun v24 wc => ∃ (kq : Nat) (x24_2 : Bool), v24 = .bool x24_2 ∧ Aside0 (spec_l09IndexOK.j0 kq x24_2 a0_0 l0_1 a0_2 l0_3 a1_0 l1_1 = some r) ∧ Aside0 (kq ≤ k) ∧ Aside0 (wc.heap[gb101]? = some (.cells #[.string a0_0, (.slice A0_1 l0_1.length c0_1), .int .i64 a0_2, (.slice A0_3 l0_3.length c0_3)] 35 (0, 0))) ∧ Aside0 (wc.heap[gb102]? = some (.cells #[.string a1_0, (.slice A1_1 l1_1.length c1_1)] 58 (0, 0))) ∧ Aside0 (Below w.heap.size w wc))
 case first =>
  have H := HC3.out
  clear HC3
  replace H := Option.bind_eq_some_iff.mp H
  obtain ⟨t103, A60, H⟩ := H
  have A6 := ak_ A60
  clear A60
  by_cases c7 : t103 = true
  rotate_left
  ·replace c7 := Bool.eq_false_iff.mpr c7
   subst c7
   have H1 : (spec_l09IndexOK.j0 k true a0_0 l0_1 a0_2 l0_3 a1_0 l1_1) = some r := by rw [if_neg (show ¬ (false = true) by decide)] at H; exact H
   clear H
   have H := H1
   clear H1
   have H' := ak_ H
   clear H
   have hnb18 := NB102_101.out
   have hnc18 := NB101_102.out
   obtain ⟨hcz19_0, hcz19_1, hfz19_0, hfz19_1⟩ := bcf2 BK102.out
   go_wp2_with (first | (go_at_call 53; (with_reducible refine (spec_l09Name.calls k a1_0 false _ A6.out).mono ?_); rintro e w20 ⟨rfl, hb⟩; have n_ := a3_ (blk_below (g := gb101) (o := .cells #[.string a0_0, .slice A0_1 l0_1.length c0_1, .int .i64 a0_2, .slice A0_3 l0_3.length c0_3] 35 (0, 0)) z2_ hb) (blk_below (g := gb102) (o := .cells #[.string a1_0, .slice A1_1 l1_1.length c1_1] 58 (0, 0)) z11_ hb) (below_step z4_ hb); clear BK101 BK102 HB; obtain ⟨BK101, BK102, HB⟩ := n_; (try clear hb); (try clear hb2); (try clear hk); (try clear hi)))
   repeat (go_quiet (first | (go_at_call 53; (with_reducible refine (spec_l09Name.calls k a1_0 false _ A6.out).mono ?_); rintro e w20 ⟨rfl, hb⟩; have n_ := a3_ (blk_below (g := gb101) (o := .cells #[.string a0_0, .slice A0_1 l0_1.length c0_1, .int .i64 a0_2, .slice A0_3 l0_3.length c0_3] 35 (0, 0)) z2_ hb) (blk_below (g := gb102) (o := .cells #[.string a1_0, .slice A1_1 l1_1.length c1_1] 58 (0, 0)) z11_ hb) (below_step z4_ hb); clear BK101 BK102 HB; obtain ⟨BK101, BK102, HB⟩ := n_; (try clear hb); (try clear hb2); (try clear hk); (try clear hi))); try go_wp2_with (first | (go_at_call 53; (with_reducible refine (spec_l09Name.calls k a1_0 false _ A6.out).mono ?_); rintro e w20 ⟨rfl, hb⟩; have n_ := a3_ (blk_below (g := gb101) (o := .cells #[.string a0_0, .slice A0_1 l0_1.length c0_1, .int .i64 a0_2, .slice A0_3 l0_3.length c0_3] 35 (0, 0)) z2_ hb) (blk_below (g := gb102) (o := .cells #[.string a1_0, .slice A1_1 l1_1.length c1_1] 58 (0, 0)) z11_ hb) (below_step z4_ hb); clear BK101 BK102 HB; obtain ⟨BK101, BK102, HB⟩ := n_; (try clear hb); (try clear hb2); (try clear hk); (try clear hi))))
   go_meet
   case rel => exact ⟨_, (true), z8_, H', ⟨by first | omega | exact Nat.le_refl _⟩, ⟨z2_⟩, ⟨z11_⟩, ⟨z4_⟩⟩
  subst c7
  have H1 : (if (l1_1.length : Int) = 0 then (spec_l09IndexOK.j0 k true a0_0 l0_1 a0_2 l0_3 a1_0 l1_1) else (spec_l09IndexOK.j0 k (decide ((l1_1.length : Int) > (l0_1.length : Int))) a0_0 l0_1 a0_2 l0_3 a1_0 l1_1)) = some r := by rw [if_pos rfl] at H; exact H
  clear H
  have H := H1
  clear H1
  by_cases c8 : (l1_1.length : Int) = 0
  rotate_left
  ·rw [if_neg c8] at H
   have c8b0 : ((l1_1.length : Int) == 0) = false := beq_eq_false_iff_ne.mpr c8
   have c8b1 : ((l1_1.length : Int) != 0) = true := bne_iff_ne.mpr c8
   have c8b2 : ¬ (l1_1 = []) := fun h_ => c8 (by rw [h_]; rfl)
   (first | rw [c8b0] | (simp only [i64_w, i32_w]; rw [c8b0]) | skip)
   have H' := ak_ H
   clear H
   have hnb13 := NB102_101.out
   have hnc13 := NB101_102.out
   obtain ⟨hcz14_0, hcz14_1, hfz14_0, hfz14_1⟩ := bcf2 BK102.out
   go_wp2_with (first | (go_at_call 53; (with_reducible refine (spec_l09Name.calls k a1_0 true _ A6.out).mono ?_); rintro e w15 ⟨rfl, hb⟩; have n_ := a3_ (blk_below (g := gb101) (o := .cells #[.string a0_0, .slice A0_1 l0_1.length c0_1, .int .i64 a0_2, .slice A0_3 l0_3.length c0_3] 35 (0, 0)) z2_ hb) (blk_below (g := gb102) (o := .cells #[.string a1_0, .slice A1_1 l1_1.length c1_1] 58 (0, 0)) z11_ hb) (below_step z4_ hb); clear BK101 BK102 HB; obtain ⟨BK101, BK102, HB⟩ := n_; (try clear hb); (try clear hb2); (try clear hk); (try clear hi); obtain ⟨hcz16_0, hcz16_1, hfz16_0, hfz16_1⟩ := bcf2 BK102.out; obtain ⟨hcz17_0, hcz17_1, hcz17_2, hcz17_3, hfz17_0, hfz17_1, hfz17_2, hfz17_3⟩ := bcf4 BK101.out))
   repeat (go_quiet (first | (go_at_call 53; (with_reducible refine (spec_l09Name.calls k a1_0 true _ A6.out).mono ?_); rintro e w15 ⟨rfl, hb⟩; have n_ := a3_ (blk_below (g := gb101) (o := .cells #[.string a0_0, .slice A0_1 l0_1.length c0_1, .int .i64 a0_2, .slice A0_3 l0_3.length c0_3] 35 (0, 0)) z2_ hb) (blk_below (g := gb102) (o := .cells #[.string a1_0, .slice A1_1 l1_1.length c1_1] 58 (0, 0)) z11_ hb) (below_step z4_ hb); clear BK101 BK102 HB; obtain ⟨BK101, BK102, HB⟩ := n_; (try clear hb); (try clear hb2); (try clear hk); (try clear hi); obtain ⟨hcz16_0, hcz16_1, hfz16_0, hfz16_1⟩ := bcf2 BK102.out; obtain ⟨hcz17_0, hcz17_1, hcz17_2, hcz17_3, hfz17_0, hfz17_1, hfz17_2, hfz17_3⟩ := bcf4 BK101.out)); try go_wp2_with (first | (go_at_call 53; (with_reducible refine (spec_l09Name.calls k a1_0 true _ A6.out).mono ?_); rintro e w15 ⟨rfl, hb⟩; have n_ := a3_ (blk_below (g := gb101) (o := .cells #[.string a0_0, .slice A0_1 l0_1.length c0_1, .int .i64 a0_2, .slice A0_3 l0_3.length c0_3] 35 (0, 0)) z2_ hb) (blk_below (g := gb102) (o := .cells #[.string a1_0, .slice A1_1 l1_1.length c1_1] 58 (0, 0)) z11_ hb) (below_step z4_ hb); clear BK101 BK102 HB; obtain ⟨BK101, BK102, HB⟩ := n_; (try clear hb); (try clear hb2); (try clear hk); (try clear hi); obtain ⟨hcz16_0, hcz16_1, hfz16_0, hfz16_1⟩ := bcf2 BK102.out; obtain ⟨hcz17_0, hcz17_1, hcz17_2, hcz17_3, hfz17_0, hfz17_1, hfz17_2, hfz17_3⟩ := bcf4 BK101.out)))
   go_meet
   case rel => exact ⟨_, (decide ((l1_1.length : Int) > (l0_1.length : Int))), z8_, H', ⟨by first | omega | exact Nat.le_refl _⟩, ⟨z2_⟩, ⟨z11_⟩, ⟨z4_⟩⟩
  rw [if_pos c8] at H
  have c8b0 : ((l1_1.length : Int) == 0) = true := beq_iff_eq.mpr c8
  have c8b1 : ((l1_1.length : Int) != 0) = false := bne_eq_false_iff_eq.mpr c8
  clear c8
  (first | rw [c8b0] | (simp only [i64_w, i32_w]; rw [c8b0]) | skip)
  have H' := ak_ H
  clear H
  have hnb9 := NB102_101.out
  have hnc9 := NB101_102.out
  obtain ⟨hcz10_0, hcz10_1, hfz10_0, hfz10_1⟩ := bcf2 BK102.out
  go_wp2_with (first | (go_at_call 53; (with_reducible refine (spec_l09Name.calls k a1_0 true _ A6.out).mono ?_); rintro e w11 ⟨rfl, hb⟩; have n_ := a3_ (blk_below (g := gb101) (o := .cells #[.string a0_0, .slice A0_1 l0_1.length c0_1, .int .i64 a0_2, .slice A0_3 l0_3.length c0_3] 35 (0, 0)) z2_ hb) (blk_below (g := gb102) (o := .cells #[.string a1_0, .slice A1_1 l1_1.length c1_1] 58 (0, 0)) z11_ hb) (below_step z4_ hb); clear BK101 BK102 HB; obtain ⟨BK101, BK102, HB⟩ := n_; (try clear hb); (try clear hb2); (try clear hk); (try clear hi); obtain ⟨hcz12_0, hcz12_1, hfz12_0, hfz12_1⟩ := bcf2 BK102.out))
  repeat (go_quiet (first | (go_at_call 53; (with_reducible refine (spec_l09Name.calls k a1_0 true _ A6.out).mono ?_); rintro e w11 ⟨rfl, hb⟩; have n_ := a3_ (blk_below (g := gb101) (o := .cells #[.string a0_0, .slice A0_1 l0_1.length c0_1, .int .i64 a0_2, .slice A0_3 l0_3.length c0_3] 35 (0, 0)) z2_ hb) (blk_below (g := gb102) (o := .cells #[.string a1_0, .slice A1_1 l1_1.length c1_1] 58 (0, 0)) z11_ hb) (below_step z4_ hb); clear BK101 BK102 HB; obtain ⟨BK101, BK102, HB⟩ := n_; (try clear hb); (try clear hb2); (try clear hk); (try clear hi); obtain ⟨hcz12_0, hcz12_1, hfz12_0, hfz12_1⟩ := bcf2 BK102.out)); try go_wp2_with (first | (go_at_call 53; (with_reducible refine (spec_l09Name.calls k a1_0 true _ A6.out).mono ?_); rintro e w11 ⟨rfl, hb⟩; have n_ := a3_ (blk_below (g := gb101) (o := .cells #[.string a0_0, .slice A0_1 l0_1.length c0_1, .int .i64 a0_2, .slice A0_3 l0_3.length c0_3] 35 (0, 0)) z2_ hb) (blk_below (g := gb102) (o := .cells #[.string a1_0, .slice A1_1 l1_1.length c1_1] 58 (0, 0)) z11_ hb) (below_step z4_ hb); clear BK101 BK102 HB; obtain ⟨BK101, BK102, HB⟩ := n_; (try clear hb); (try clear hb2); (try clear hk); (try clear hi); obtain ⟨hcz12_0, hcz12_1, hfz12_0, hfz12_1⟩ := bcf2 BK102.out)))
  go_meet
  case rel => exact ⟨_, (true), z8_, H', ⟨by first | omega | exact Nat.le_refl _⟩, ⟨z2_⟩, ⟨z11_⟩, ⟨z4_⟩⟩
 case rest =>
  clear HC3
  try clear c1
  try clear p2
  try clear c5
  try clear c7
  try clear c8
  try clear c8b0
  try clear c8b1
  try clear c8b2
  try clear c9
  try clear c13
  try clear c18
  try clear hcz10_0
  try clear hcz10_1
  try clear hcz12_0
  try clear hcz12_1
  try clear hcz14_0
  try clear hcz14_1
  try clear hcz16_0
  try clear hcz16_1
  try clear hcz17_0
  try clear hcz17_1
  try clear hcz17_2
  try clear hcz17_3
  try clear hcz19_0
  try clear hcz19_1
  try clear hfz10_0
  try clear hfz10_1
  try clear hfz12_0
  try clear hfz12_1
  try clear hfz14_0
  try clear hfz14_1
  try clear hfz16_0
  try clear hfz16_1
  try clear hfz17_0
  try clear hfz17_1
  try clear hfz17_2
  try clear hfz17_3
  try clear hfz19_0
  try clear hfz19_1
  obtain ⟨kq, x24_2, rfl, HA, HJ2, BK101, BK102, HB⟩ := hcut
  cases kq with
  | zero => exact absurd HA.out (by simp [spec_l09IndexOK.j0])
  | succ kj2 =>
   have H := HA.out
   clear HA
   simp only [spec_l09IndexOK.j0] at H
   by_cases c21 : x24_2 = true
   ·subst c21
    have H1 : (some false) = some r := by rw [if_pos rfl] at H; exact H
    clear H
    have H := H1
    clear H1
    obtain rfl := Option.some.inj H
    go_wp2
    repeat (go_quiet (fail); try go_wp2)
    go_ret
    exact ⟨z6_, z4_⟩
   replace c21 := Bool.eq_false_iff.mpr c21
   subst c21
   have H1 : (spec_l09IndexOK.l0 kj2 0 a0_0 l0_1 a0_2 l0_3 a1_0 l1_1) = some r := by rw [if_neg (show ¬ (false = true) by decide)] at H; exact H
   clear H
   have H := H1
   clear H1
   have H' := ak_ H
   clear H
   go_wp2
   repeat (go_quiet (fail); try go_wp2)
   go_loopg [5] kj2 (fun kq v5 w' => ∃ (x5_2 : Int), v5 = .int .i64 x5_2 ∧ Aside0 (spec_l09IndexOK.l0 kq x5_2 a0_0 l0_1 a0_2 l0_3 a1_0 l1_1 = some r) ∧ Aside0 (kq ≤ kj2) ∧ Aside0 (w'.heap[gb101]? = some (.cells #[.string a0_0, (.slice A0_1 l0_1.length c0_1), .int .i64 a0_2, (.slice A0_3 l0_3.length c0_3)] 35 (0, 0))) ∧ Aside0 (w'.heap[gb102]? = some (.cells #[.string a1_0, (.slice A1_1 l1_1.length c1_1)] 58 (0, 0))) ∧ Aside0 (Below w.heap.size w w'))
   case atStart => exact ⟨(0), z8_, H', ⟨Nat.le_refl _⟩, ⟨z2_⟩, ⟨z11_⟩, ⟨z4_⟩⟩
   case round =>
    clear H'
    try clear c1
    try clear c2
    try clear p2
    try clear c5
    try clear c7
    try clear c8
    try clear c8b0
    try clear c8b1
    try clear c8b2
    try clear c9
    try clear c13
    try clear c18
    try clear c21
    try clear hcz10_0
    try clear hcz10_1
    try clear hcz12_0
    try clear hcz12_1
    try clear hcz14_0
    try clear hcz14_1
    try clear hcz16_0
    try clear hcz16_1
    try clear hcz17_0
    try clear hcz17_1
    try clear hcz17_2
    try clear hcz17_3
    try clear hcz19_0
    try clear hcz19_1
    try clear hfz10_0
    try clear hfz10_1
    try clear hfz12_0
    try clear hfz12_1
    try clear hfz14_0
    try clear hfz14_1
    try clear hfz16_0
    try clear hfz16_1
    try clear hfz17_0
    try clear hfz17_1
    try clear hfz17_2
    try clear hfz17_3
    try clear hfz19_0
    try clear hfz19_1
    try clear p2
    obtain ⟨x5_2, rfl, HA, HK2, BK101, BK102, HB⟩ := hrel
    cases gk with
    | zero => exact absurd HA.out (by simp [spec_l09IndexOK.l0])
    | succ k2 =>
     have H := HA.out
     clear HA
     simp only [spec_l09IndexOK.l0] at H
     by_cases c22 : x5_2 < (l1_1.length : Int)
     rotate_left
     ·rw [if_neg c22] at H
      have c22b0 := decide_eq_false c22
      clear c22
      obtain rfl := Option.some.inj H
      have hnb41 := NB102_101.out
      have hnc41 := NB101_102.out
      obtain ⟨hcz42_0, hcz42_1, hfz42_0, hfz42_1⟩ := bcf2 BK102.out
      go_wp2
      repeat (go_quiet (fail); try go_wp2)
      go_ret
      exact ⟨z6_, z4_⟩

     rw [if_pos c22] at H
     have c22b0 := decide_eq_true c22
     clear c22
     by_cases c23 : 0 ≤ x5_2
     rotate_left
     ·rw [if_neg c23] at H
      exact absurd H (by simp)
     rw [if_pos c23] at H
     have c23b0 := decide_eq_true c23
     clear c23
     replace H := Option.bind_eq_some_iff.mp H
     obtain ⟨t105, A240, H⟩ := H
     have A24 := ak_ A240
     clear A240
     by_cases c25 : t105 = true
     rotate_left
     ·replace c25 := Bool.eq_false_iff.mpr c25
      subst c25
      have H1 : (some false) = some r := by rw [if_neg (show ¬ (false = true) by decide)] at H; exact H
      clear H
      have H := H1
      clear H1
      obtain rfl := Option.some.inj H
      have hnb38 := NB102_101.out
      have hnc38 := NB101_102.out
      obtain ⟨hcz39_0, hcz39_1, hfz39_0, hfz39_1⟩ := bcf2 BK102.out
      have p104 : 0 ≤ (x5_2 : Int) := of_decide_eq_true z5_
      have q104 : x5_2 < (l1_1.length : Int) := of_decide_eq_true z5_
      obtain ⟨ad104, e104, hx104_0⟩ := Kd.at_int HR1_1.out x5_2 p104 q104
      cases e104
      replace hx104_0 := oc_ HB.out hx104_0
      replace p104 := eq_true p104
      replace q104 := eq_true q104
      obtain ⟨hcz40_0, hcz40_1, hcz40_2, hcz40_3, hfz40_0, hfz40_1, hfz40_2, hfz40_3⟩ := bcf4 BK101.out
      go_wp2_with (first | (go_at_call 21; (with_reducible refine (spec_l01In.calls (rd l1_1 x5_2) 0 (wrap64 ((l0_1.length : Int) - 1)) false _ A24.out).mono ?_); rintro e w' ⟨rfl, ⟨nd, rfl⟩⟩; (try first | exact ⟨rfl, _, World.drewN_drewN _ _ _⟩ | exact ⟨rfl, _, Eq.trans (World.drewN_drewN _ _ _) (congrArg (World.drewN _) (Nat.add_assoc _ _ _))⟩)))
      repeat (go_quiet (first | (go_at_call 21; (try simp only [i64_w, i32_w]); (with_reducible refine (spec_l01In.calls (rd l1_1 x5_2) 0 (wrap64 ((l0_1.length : Int) - 1)) false _ A24.out).mono ?_); rintro e w' ⟨rfl, ⟨nd, rfl⟩⟩; (try first | exact ⟨rfl, _, World.drewN_drewN _ _ _⟩ | exact ⟨rfl, _, Eq.trans (World.drewN_drewN _ _ _) (congrArg (World.drewN _) (Nat.add_assoc _ _ _))⟩))); try go_wp2_with (first | (go_at_call 21; (try simp only [i64_w, i32_w]); (with_reducible refine (spec_l01In.calls (rd l1_1 x5_2) 0 (wrap64 ((l0_1.length : Int) - 1)) false _ A24.out).mono ?_); rintro e w' ⟨rfl, ⟨nd, rfl⟩⟩; (try first | exact ⟨rfl, _, World.drewN_drewN _ _ _⟩ | exact ⟨rfl, _, Eq.trans (World.drewN_drewN _ _ _) (congrArg (World.drewN _) (Nat.add_assoc _ _ _))⟩))))
      go_ret
      exact ⟨z6_, z4_⟩
     subst c25
     have H1 : (if x5_2 ≤ (l1_1.length : Int) then ((spec_l03Has.f k2 (l1_1.take (x5_2 : Int).toNat) (rd l1_1 x5_2)).bind fun t108 => (if t108 = true then (some false) else (spec_l09IndexOK.l0 k2 (wrap64 (x5_2 + 1)) a0_0 l0_1 a0_2 l0_3 a1_0 l1_1))) else (none)) = some r := by rw [if_pos rfl] at H; exact H
     clear H
     have H := H1
     clear H1
     have c26b0 := eq_true (of_decide_eq_true z5_ : 0 ≤ x5_2)
     by_cases c27 : x5_2 ≤ (l1_1.length : Int)
     rotate_left
     ·rw [if_neg c27] at H
      exact absurd H (by simp)
     rw [if_pos c27] at H
     have c27b0 := eq_true c27
     have c27b1 := decide_eq_true c27
     clear c27
     replace H := Option.bind_eq_some_iff.mp H
     obtain ⟨t108, A280, H⟩ := H
     have A28 := ak_ A280
     clear A280
     by_cases c29 : t108 = true
     ·subst c29
      have H1 : (some false) = some r := by rw [if_pos rfl] at H; exact H
      clear H
      have H := H1
      clear H1
      obtain rfl := Option.some.inj H
      have hnb30 := NB102_101.out
      have hnc30 := NB101_102.out
      obtain ⟨hcz31_0, hcz31_1, hfz31_0, hfz31_1⟩ := bcf2 BK102.out
      have p104 : 0 ≤ (x5_2 : Int) := of_decide_eq_true z5_
      have q104 : x5_2 < (l1_1.length : Int) := of_decide_eq_true z5_
      obtain ⟨ad104, e104, hx104_0⟩ := Kd.at_int HR1_1.out x5_2 p104 q104
      cases e104
      replace hx104_0 := oc_ HB.out hx104_0
      replace p104 := eq_true p104
      replace q104 := eq_true q104
      obtain ⟨hcz32_0, hcz32_1, hcz32_2, hcz32_3, hfz32_0, hfz32_1, hfz32_2, hfz32_3⟩ := bcf4 BK101.out
      go_wp2_with (first | (go_at_call 21; (with_reducible refine (spec_l01In.calls (rd l1_1 x5_2) 0 (wrap64 ((l0_1.length : Int) - 1)) true _ A24.out).mono ?_); rintro e w' ⟨rfl, ⟨nd, rfl⟩⟩; (try first | exact ⟨rfl, _, World.drewN_drewN _ _ _⟩ | exact ⟨rfl, _, Eq.trans (World.drewN_drewN _ _ _) (congrArg (World.drewN _) (Nat.add_assoc _ _ _))⟩); obtain ⟨i033, hi033, _, hsz33, _⟩ := info_parts info3; obtain ⟨hcut33, hA33, hC33⟩ := print_take_of (P := Tryz.prog) (Value.int .i64) 0 56 3 .i64 Tryz.underlying56 hi033 hsz33 (some ad104) c1_1 l1_1 x5_2 (of_decide_eq_true z5_) (of_decide_eq_true z5_) HC1_1.out; have HR106 := ak_ (Kd.C_of_reads (h1 := fun _ => rfl) (hA33 _ (Kd.reads_of_C HR1_1.out))); have HC106 := ak_ hC33; clear hA33 hC33 hi033 hsz33; have p107 : 0 ≤ (x5_2 : Int) := of_decide_eq_true z5_; have q107 : x5_2 < (l1_1.length : Int) := of_decide_eq_true z5_; obtain ⟨ad107, e107, hx107_0⟩ := Kd.at_int HR1_1.out x5_2 p107 q107; obtain rfl : ad104 = ad107 := (by injection e107); replace hx107_0 := oc_ HB.out hx107_0; replace p107 := eq_true p107; replace q107 := eq_true q107) | (go_at_call 75; (with_reducible refine (spec_l03Has.calls k2 _ _ (l1_1.take (x5_2 : Int).toNat) (rd l1_1 x5_2) true _ ?side1 ?side2 A28.out).mono ?_); (case side1 => repeat (first | exact (Kd.C_below HR106.out z4_) | (with_reducible refine Kd.C_alloc ?_ _) | (with_reducible refine Kd.C_drewN ?_ _) | (with_reducible refine Kd.C_drew ?_))); (case side2 => exact HC106.out); rintro e w' ⟨rfl, ⟨nd, rfl⟩⟩; (try first | exact ⟨rfl, _, World.drewN_drewN _ _ _⟩ | exact ⟨rfl, _, Eq.trans (World.drewN_drewN _ _ _) (congrArg (World.drewN _) (Nat.add_assoc _ _ _))⟩)))
      repeat (go_quiet (first | (go_at_call 21; (try simp only [i64_w, i32_w]); (with_reducible refine (spec_l01In.calls (rd l1_1 x5_2) 0 (wrap64 ((l0_1.length : Int) - 1)) true _ A24.out).mono ?_); rintro e w' ⟨rfl, ⟨nd, rfl⟩⟩; (try first | exact ⟨rfl, _, World.drewN_drewN _ _ _⟩ | exact ⟨rfl, _, Eq.trans (World.drewN_drewN _ _ _) (congrArg (World.drewN _) (Nat.add_assoc _ _ _))⟩); obtain ⟨i033, hi033, _, hsz33, _⟩ := info_parts info3; obtain ⟨hcut33, hA33, hC33⟩ := print_take_of (P := Tryz.prog) (Value.int .i64) 0 56 3 .i64 Tryz.underlying56 hi033 hsz33 (some ad104) c1_1 l1_1 x5_2 (of_decide_eq_true z5_) (of_decide_eq_true z5_) HC1_1.out; have HR106 := ak_ (Kd.C_of_reads (h1 := fun _ => rfl) (hA33 _ (Kd.reads_of_C HR1_1.out))); have HC106 := ak_ hC33; clear hA33 hC33 hi033 hsz33; have p107 : 0 ≤ (x5_2 : Int) := of_decide_eq_true z5_; have q107 : x5_2 < (l1_1.length : Int) := of_decide_eq_true z5_; obtain ⟨ad107, e107, hx107_0⟩ := Kd.at_int HR1_1.out x5_2 p107 q107; obtain rfl : ad104 = ad107 := (by injection e107); replace hx107_0 := oc_ HB.out hx107_0; replace p107 := eq_true p107; replace q107 := eq_true q107) | (go_at_call 75; (try rw [show Value.slice (some ad104) (x5_2 : Int).toNat c1_1 = Value.slice (some ad104) (l1_1.take (x5_2 : Int).toNat).length c1_1 from congrArg (fun n_ => Value.slice (some ad104) n_ c1_1) (Eq.symm (by rw [List.length_take]; have a_ : (x5_2 : Int) < (l1_1.length : Int) ∨ (x5_2 : Int) ≤ (l1_1.length : Int) := z62_; rw [Nat.min_eq_left (by omega)]))]); (with_reducible refine (spec_l03Has.calls k2 _ _ (l1_1.take (x5_2 : Int).toNat) (rd l1_1 x5_2) true _ ?side1 ?side2 A28.out).mono ?_); (case side1 => repeat (first | exact (Kd.C_below HR106.out z4_) | (with_reducible refine Kd.C_alloc ?_ _) | (with_reducible refine Kd.C_drewN ?_ _) | (with_reducible refine Kd.C_drew ?_))); (case side2 => exact HC106.out); rintro e w' ⟨rfl, ⟨nd, rfl⟩⟩; (try first | exact ⟨rfl, _, World.drewN_drewN _ _ _⟩ | exact ⟨rfl, _, Eq.trans (World.drewN_drewN _ _ _) (congrArg (World.drewN _) (Nat.add_assoc _ _ _))⟩))); try go_wp2_with (first | (go_at_call 21; (try simp only [i64_w, i32_w]); (with_reducible refine (spec_l01In.calls (rd l1_1 x5_2) 0 (wrap64 ((l0_1.length : Int) - 1)) true _ A24.out).mono ?_); rintro e w' ⟨rfl, ⟨nd, rfl⟩⟩; (try first | exact ⟨rfl, _, World.drewN_drewN _ _ _⟩ | exact ⟨rfl, _, Eq.trans (World.drewN_drewN _ _ _) (congrArg (World.drewN _) (Nat.add_assoc _ _ _))⟩); obtain ⟨i033, hi033, _, hsz33, _⟩ := info_parts info3; obtain ⟨hcut33, hA33, hC33⟩ := print_take_of (P := Tryz.prog) (Value.int .i64) 0 56 3 .i64 Tryz.underlying56 hi033 hsz33 (some ad104) c1_1 l1_1 x5_2 (of_decide_eq_true z5_) (of_decide_eq_true z5_) HC1_1.out; have HR106 := ak_ (Kd.C_of_reads (h1 := fun _ => rfl) (hA33 _ (Kd.reads_of_C HR1_1.out))); have HC106 := ak_ hC33; clear hA33 hC33 hi033 hsz33; have p107 : 0 ≤ (x5_2 : Int) := of_decide_eq_true z5_; have q107 : x5_2 < (l1_1.length : Int) := of_decide_eq_true z5_; obtain ⟨ad107, e107, hx107_0⟩ := Kd.at_int HR1_1.out x5_2 p107 q107; obtain rfl : ad104 = ad107 := (by injection e107); replace hx107_0 := oc_ HB.out hx107_0; replace p107 := eq_true p107; replace q107 := eq_true q107) | (go_at_call 75; (try rw [show Value.slice (some ad104) (x5_2 : Int).toNat c1_1 = Value.slice (some ad104) (l1_1.take (x5_2 : Int).toNat).length c1_1 from congrArg (fun n_ => Value.slice (some ad104) n_ c1_1) (Eq.symm (by rw [List.length_take]; have a_ : (x5_2 : Int) < (l1_1.length : Int) ∨ (x5_2 : Int) ≤ (l1_1.length : Int) := z62_; rw [Nat.min_eq_left (by omega)]))]); (with_reducible refine (spec_l03Has.calls k2 _ _ (l1_1.take (x5_2 : Int).toNat) (rd l1_1 x5_2) true _ ?side1 ?side2 A28.out).mono ?_); (case side1 => repeat (first | exact (Kd.C_below HR106.out z4_) | (with_reducible refine Kd.C_alloc ?_ _) | (with_reducible refine Kd.C_drewN ?_ _) | (with_reducible refine Kd.C_drew ?_))); (case side2 => exact HC106.out); rintro e w' ⟨rfl, ⟨nd, rfl⟩⟩; (try first | exact ⟨rfl, _, World.drewN_drewN _ _ _⟩ | exact ⟨rfl, _, Eq.trans (World.drewN_drewN _ _ _) (congrArg (World.drewN _) (Nat.add_assoc _ _ _))⟩))))
      go_ret
      exact ⟨z6_, z4_⟩
     replace c29 := Bool.eq_false_iff.mpr c29
     subst c29
     have H1 : (spec_l09IndexOK.l0 k2 (wrap64 (x5_2 + 1)) a0_0 l0_1 a0_2 l0_3 a1_0 l1_1) = some r := by rw [if_neg (show ¬ (false = true) by decide)] at H; exact H
     clear H
     have H := H1
     clear H1
     have H' := ak_ H
     clear H
     have hnb34 := NB102_101.out
     have hnc34 := NB101_102.out
     obtain ⟨hcz35_0, hcz35_1, hfz35_0, hfz35_1⟩ := bcf2 BK102.out
     have p104 : 0 ≤ (x5_2 : Int) := of_decide_eq_true z5_
     have q104 : x5_2 < (l1_1.length : Int) := of_decide_eq_true z5_
     obtain ⟨ad104, e104, hx104_0⟩ := Kd.at_int HR1_1.out x5_2 p104 q104
     cases e104
     replace hx104_0 := oc_ HB.out hx104_0
     replace p104 := eq_true p104
     replace q104 := eq_true q104
     obtain ⟨hcz36_0, hcz36_1, hcz36_2, hcz36_3, hfz36_0, hfz36_1, hfz36_2, hfz36_3⟩ := bcf4 BK101.out
     go_wp2_with (first | (go_at_call 21; (with_reducible refine (spec_l01In.calls (rd l1_1 x5_2) 0 (wrap64 ((l0_1.length : Int) - 1)) true _ A24.out).mono ?_); rintro e w' ⟨rfl, ⟨nd, rfl⟩⟩; (try first | exact ⟨rfl, _, World.drewN_drewN _ _ _⟩ | exact ⟨rfl, _, Eq.trans (World.drewN_drewN _ _ _) (congrArg (World.drewN _) (Nat.add_assoc _ _ _))⟩); obtain ⟨i037, hi037, _, hsz37, _⟩ := info_parts info3; obtain ⟨hcut37, hA37, hC37⟩ := print_take_of (P := Tryz.prog) (Value.int .i64) 0 56 3 .i64 Tryz.underlying56 hi037 hsz37 (some ad104) c1_1 l1_1 x5_2 (of_decide_eq_true z5_) (of_decide_eq_true z5_) HC1_1.out; have HR106 := ak_ (Kd.C_of_reads (h1 := fun _ => rfl) (hA37 _ (Kd.reads_of_C HR1_1.out))); have HC106 := ak_ hC37; clear hA37 hC37 hi037 hsz37; have p107 : 0 ≤ (x5_2 : Int) := of_decide_eq_true z5_; have q107 : x5_2 < (l1_1.length : Int) := of_decide_eq_true z5_; obtain ⟨ad107, e107, hx107_0⟩ := Kd.at_int HR1_1.out x5_2 p107 q107; obtain rfl : ad104 = ad107 := (by injection e107); replace hx107_0 := oc_ HB.out hx107_0; replace p107 := eq_true p107; replace q107 := eq_true q107) | (go_at_call 75; (with_reducible refine (spec_l03Has.calls k2 _ _ (l1_1.take (x5_2 : Int).toNat) (rd l1_1 x5_2) false _ ?side1 ?side2 A28.out).mono ?_); (case side1 => repeat (first | exact (Kd.C_below HR106.out z4_) | (with_reducible refine Kd.C_alloc ?_ _) | (with_reducible refine Kd.C_drewN ?_ _) | (with_reducible refine Kd.C_drew ?_))); (case side2 => exact HC106.out); rintro e w' ⟨rfl, ⟨nd, rfl⟩⟩; (try first | exact ⟨rfl, _, World.drewN_drewN _ _ _⟩ | exact ⟨rfl, _, Eq.trans (World.drewN_drewN _ _ _) (congrArg (World.drewN _) (Nat.add_assoc _ _ _))⟩)))
     repeat (go_quiet (first | (go_at_call 21; (try simp only [i64_w, i32_w]); (with_reducible refine (spec_l01In.calls (rd l1_1 x5_2) 0 (wrap64 ((l0_1.length : Int) - 1)) true _ A24.out).mono ?_); rintro e w' ⟨rfl, ⟨nd, rfl⟩⟩; (try first | exact ⟨rfl, _, World.drewN_drewN _ _ _⟩ | exact ⟨rfl, _, Eq.trans (World.drewN_drewN _ _ _) (congrArg (World.drewN _) (Nat.add_assoc _ _ _))⟩); obtain ⟨i037, hi037, _, hsz37, _⟩ := info_parts info3; obtain ⟨hcut37, hA37, hC37⟩ := print_take_of (P := Tryz.prog) (Value.int .i64) 0 56 3 .i64 Tryz.underlying56 hi037 hsz37 (some ad104) c1_1 l1_1 x5_2 (of_decide_eq_true z5_) (of_decide_eq_true z5_) HC1_1.out; have HR106 := ak_ (Kd.C_of_reads (h1 := fun _ => rfl) (hA37 _ (Kd.reads_of_C HR1_1.out))); have HC106 := ak_ hC37; clear hA37 hC37 hi037 hsz37; have p107 : 0 ≤ (x5_2 : Int) := of_decide_eq_true z5_; have q107 : x5_2 < (l1_1.length : Int) := of_decide_eq_true z5_; obtain ⟨ad107, e107, hx107_0⟩ := Kd.at_int HR1_1.out x5_2 p107 q107; obtain rfl : ad104 = ad107 := (by injection e107); replace hx107_0 := oc_ HB.out hx107_0; replace p107 := eq_true p107; replace q107 := eq_true q107) | (go_at_call 75; (try rw [show Value.slice (some ad104) (x5_2 : Int).toNat c1_1 = Value.slice (some ad104) (l1_1.take (x5_2 : Int).toNat).length c1_1 from congrArg (fun n_ => Value.slice (some ad104) n_ c1_1) (Eq.symm (by rw [List.length_take]; have a_ : (x5_2 : Int) < (l1_1.length : Int) ∨ (x5_2 : Int) ≤ (l1_1.length : Int) := z62_; rw [Nat.min_eq_left (by omega)]))]); (with_reducible refine (spec_l03Has.calls k2 _ _ (l1_1.take (x5_2 : Int).toNat) (rd l1_1 x5_2) false _ ?side1 ?side2 A28.out).mono ?_); (case side1 => repeat (first | exact (Kd.C_below HR106.out z4_) | (with_reducible refine Kd.C_alloc ?_ _) | (with_reducible refine Kd.C_drewN ?_ _) | (with_reducible refine Kd.C_drew ?_))); (case side2 => exact HC106.out); rintro e w' ⟨rfl, ⟨nd, rfl⟩⟩; (try first | exact ⟨rfl, _, World.drewN_drewN _ _ _⟩ | exact ⟨rfl, _, Eq.trans (World.drewN_drewN _ _ _) (congrArg (World.drewN _) (Nat.add_assoc _ _ _))⟩))); try go_wp2_with (first | (go_at_call 21; (try simp only [i64_w, i32_w]); (with_reducible refine (spec_l01In.calls (rd l1_1 x5_2) 0 (wrap64 ((l0_1.length : Int) - 1)) true _ A24.out).mono ?_); rintro e w' ⟨rfl, ⟨nd, rfl⟩⟩; (try first | exact ⟨rfl, _, World.drewN_drewN _ _ _⟩ | exact ⟨rfl, _, Eq.trans (World.drewN_drewN _ _ _) (congrArg (World.drewN _) (Nat.add_assoc _ _ _))⟩); obtain ⟨i037, hi037, _, hsz37, _⟩ := info_parts info3; obtain ⟨hcut37, hA37, hC37⟩ := print_take_of (P := Tryz.prog) (Value.int .i64) 0 56 3 .i64 Tryz.underlying56 hi037 hsz37 (some ad104) c1_1 l1_1 x5_2 (of_decide_eq_true z5_) (of_decide_eq_true z5_) HC1_1.out; have HR106 := ak_ (Kd.C_of_reads (h1 := fun _ => rfl) (hA37 _ (Kd.reads_of_C HR1_1.out))); have HC106 := ak_ hC37; clear hA37 hC37 hi037 hsz37; have p107 : 0 ≤ (x5_2 : Int) := of_decide_eq_true z5_; have q107 : x5_2 < (l1_1.length : Int) := of_decide_eq_true z5_; obtain ⟨ad107, e107, hx107_0⟩ := Kd.at_int HR1_1.out x5_2 p107 q107; obtain rfl : ad104 = ad107 := (by injection e107); replace hx107_0 := oc_ HB.out hx107_0; replace p107 := eq_true p107; replace q107 := eq_true q107) | (go_at_call 75; (try rw [show Value.slice (some ad104) (x5_2 : Int).toNat c1_1 = Value.slice (some ad104) (l1_1.take (x5_2 : Int).toNat).length c1_1 from congrArg (fun n_ => Value.slice (some ad104) n_ c1_1) (Eq.symm (by rw [List.length_take]; have a_ : (x5_2 : Int) < (l1_1.length : Int) ∨ (x5_2 : Int) ≤ (l1_1.length : Int) := z62_; rw [Nat.min_eq_left (by omega)]))]); (with_reducible refine (spec_l03Has.calls k2 _ _ (l1_1.take (x5_2 : Int).toNat) (rd l1_1 x5_2) false _ ?side1 ?side2 A28.out).mono ?_); (case side1 => repeat (first | exact (Kd.C_below HR106.out z4_) | (with_reducible refine Kd.C_alloc ?_ _) | (with_reducible refine Kd.C_drewN ?_ _) | (with_reducible refine Kd.C_drew ?_))); (case side2 => exact HC106.out); rintro e w' ⟨rfl, ⟨nd, rfl⟩⟩; (try first | exact ⟨rfl, _, World.drewN_drewN _ _ _⟩ | exact ⟨rfl, _, Eq.trans (World.drewN_drewN _ _ _) (congrArg (World.drewN _) (Nat.add_assoc _ _ _))⟩))))
     go_roundg k2
     case measure => have := HJ2.out; have := HK2.out; omega
     case rel => exact ⟨(wrap64 (x5_2 + 1)), z8_, H', ⟨by have := HJ2.out; have := HK2.out; omega⟩, ⟨z2_⟩, ⟨z11_⟩, ⟨z4_⟩⟩
end

section
def spec_l09Index.l0 : Nat → List (S58) → ByteArray → Int → Option (Int)
 | 0, _, _, _ => none
 | k + 1, x0, x1, x5 => if x5 < (x0.length : Int) then (if 0 ≤ x5 then (if ((rd_T58 x0 x5).f0).toList = x1.toList then (some x5) else (spec_l09Index.l0 k x0 x1 (wrap64 (x5 + 1)))) else (none)) else (some (-1))
def spec_l09Index.f (k : Nat) (l0 : List (S58)) (a1 : ByteArray) : Option (Int) := spec_l09Index.l0 k l0 a1 0
theorem spec_l09Index.mono_l : ∀ k, (∀ y0 y1 y2, LeO (spec_l09Index.l0 k y0 y1 y2) (spec_l09Index.l0 (k + 1) y0 y1 y2))
 | 0 => fun _ _ _ r h => by simp [spec_l09Index.l0] at h
 | k + 1 => by
  have ih0 := spec_l09Index.mono_l k
  intro y0 y1 y2
  unfold spec_l09Index.l0
  repeat' first | with_reducible (first | exact ih0 _ _ _ | exact LeO.refl _ | exact LeO.none _ | refine LeO.ite ?_ ?_ | refine LeO.bind ?_ (fun _ => ?_)) | exact ih0 _ _ _ | exact LeO.none _ | refine LeO.ite ?_ ?_ | refine LeO.bind ?_ (fun _ => ?_)
theorem spec_l09Index.mono : ∀ a0 a1 k, LeO (spec_l09Index.f k a0 a1) (spec_l09Index.f (k + 1) a0 a1) := by
 intro a0 a1 k
 have ih0 := spec_l09Index.mono_l k
 unfold spec_l09Index.f
 repeat' first
   | (with_reducible exact ih0 _ _ _)
   | (with_reducible exact LeO.refl _)
   | (with_reducible exact LeO.none _)
   | (with_reducible refine LeO.ite ?_ ?_)
   | (with_reducible refine LeO.bind ?_ (fun _ => ?_))
   | exact ih0 _ _ _
   | exact LeO.none _
   | refine LeO.ite ?_ ?_
   | refine LeO.bind ?_ (fun _ => ?_)
theorem spec_l09Index.calls (k : Nat) (A0 : Option Addr) (c0 : Nat) (l0 : List (S58)) (a1 : ByteArray) (r : Int) (w : World) (hr0 : Kd.C k58 w A0 l0.length l0) (hc0 : l0.length ≤ c0) (h : spec_l09Index.f k l0 a1 = some r) :
  Calls Tryz.prog 56 #[.slice A0 l0.length c0, .string a1] w fun e w' => e = .returned (.int .i64 r) ∧ Drawn0 w w' := by
 have HR0 := ak_ hr0
 have HC0 := ak_ hc0
 clear hr0 hc0
 have H : (spec_l09Index.l0 k l0 a1 0) = some r := h
 clear h
 have H' := ak_ H
 clear H
 go_enter Tryz.func56, Tryz.ntmps56
 go_wp2
 go_loopg [5] k (fun kq v5 w' => ∃ (x5_1 : Int), v5 = .int .i64 x5_1 ∧ Aside0 (spec_l09Index.l0 kq l0 a1 x5_1 = some r) ∧ Aside0 (kq ≤ k) ∧ Drawn0 w w')
 case atStart => exact ⟨(0), z8_, H', ⟨Nat.le_refl _⟩, z13_⟩
 case round =>
  clear H'
  try clear p2
  obtain ⟨x5_1, rfl, HA, HK1, ⟨m1, rfl⟩⟩ := hrel
  cases gk with
  | zero => exact absurd HA.out (by simp [spec_l09Index.l0])
  | succ k1 =>
   have H := HA.out
   clear HA
   simp only [spec_l09Index.l0] at H
   by_cases c3 : x5_1 < (l0.length : Int)
   rotate_left
   ·rw [if_neg c3] at H
    have c3b0 := decide_eq_false c3
    clear c3
    obtain rfl := Option.some.inj H
    go_wp2
    go_ret
    exact ⟨z8_, z13_⟩

   rw [if_pos c3] at H
   have c3b0 := decide_eq_true c3
   clear c3
   by_cases c4 : 0 ≤ x5_1
   rotate_left
   ·rw [if_neg c4] at H
    exact absurd H (by simp)
   rw [if_pos c4] at H
   have c4b0 := decide_eq_true c4
   clear c4
   by_cases c5 : ((rd_T58 l0 x5_1).f0).toList = a1.toList
   ·rw [if_pos c5] at H
    have c5b0 : (((rd_T58 l0 x5_1).f0).toList == a1.toList) = true := beq_iff_eq.mpr c5
    have c5b1 : (((rd_T58 l0 x5_1).f0).toList != a1.toList) = false := bne_eq_false_iff_eq.mpr c5
    clear c5
    obtain rfl := Option.some.inj H
    have p101 : 0 ≤ (x5_1 : Int) := of_decide_eq_true z5_
    have q101 : x5_1 < (l0.length : Int) := of_decide_eq_true z5_
    obtain ⟨ad101, A101_1, c101_1, e101, hx101_0, hx101_1, hl101_1, hi101_1⟩ := at_T58 HR0.out x5_1 p101 q101
    cases e101
    have HR101_1 := ak_ hi101_1
    have HC101_1 := ak_ hl101_1
    clear hi101_1 hl101_1
    replace p101 := eq_true p101
    replace q101 := eq_true q101
    go_wp2
    go_ret
    exact ⟨z8_, z13_⟩
   rw [if_neg c5] at H
   have c5b0 : (((rd_T58 l0 x5_1).f0).toList == a1.toList) = false := beq_eq_false_iff_ne.mpr c5
   have c5b1 : (((rd_T58 l0 x5_1).f0).toList != a1.toList) = true := bne_iff_ne.mpr c5
   have H' := ak_ H
   clear H
   have p101 : 0 ≤ (x5_1 : Int) := of_decide_eq_true z5_
   have q101 : x5_1 < (l0.length : Int) := of_decide_eq_true z5_
   obtain ⟨ad101, A101_1, c101_1, e101, hx101_0, hx101_1, hl101_1, hi101_1⟩ := at_T58 HR0.out x5_1 p101 q101
   cases e101
   have HR101_1 := ak_ hi101_1
   have HC101_1 := ak_ hl101_1
   clear hi101_1 hl101_1
   replace p101 := eq_true p101
   replace q101 := eq_true q101
   go_wp2
   go_roundg k1
   case measure => have := HK1.out; omega
   case rel => exact ⟨(wrap64 (x5_1 + 1)), z8_, H', ⟨by have := HK1.out; omega⟩, z13_⟩
end

end Go.Proofs.YtlikagbdhjdggaaGreatDoor.X
end
