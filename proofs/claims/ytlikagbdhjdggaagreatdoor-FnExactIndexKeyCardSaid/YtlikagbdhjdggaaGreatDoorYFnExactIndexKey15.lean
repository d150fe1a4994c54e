/- Contracts of functions, and what is told of them. -/
import Derived.Test.YtlikagbdhjdggaaGreatDoorYFnExactIndexKey14
set_option linter.unusedSimpArgs false
set_option linter.unusedVariables false
set_option maxHeartbeats 8000000
set_option maxRecDepth 100000
section
namespace Go.Proofs.YtlikagbdhjdggaaGreatDoor.X
open Go.RowKit Go.Proofs.YtlikagbdhjdggaaGreatDoorW.PrintWords Go.Proofs.YtlikagbdhjdggaaGreatDoorW.PrintLast Go.Proofs.YtlikagbdhjdggaaGreatDoorW.PrintMore
attribute [local go_sem] max2_int min2_int max_two min_two max_three min_three max_four min_four

section
def impl_isTwice.l0 : Nat → List Int → List Int → Int → Int → Option (Bool)
 | 0, _, _, _, _ => none
 | k + 1, x0, x5, x6, x7 => if x7 < x6 then (if 0 ≤ x7 then (if x7 < (x5.length : Int) then (if x7 ≤ (x0.length : Int) then ((slices_Contains_int_int.f k (x0.take (x7 : Int).toNat) (rd x5 x7)).bind fun t103 => (if t103 = true then (some true) else (impl_isTwice.l0 k x0 x5 x6 (wrap64 (x7 + 1))))) else (none)) else (none)) else (none)) else (some false)
def impl_isTwice.f (k : Nat) (l0 : List Int) : Option (Bool) := impl_isTwice.l0 k l0 l0 (l0.length : Int) 0
theorem impl_isTwice.mono_l : ∀ k, (∀ y0 y1 y2 y3, LeO (impl_isTwice.l0 k y0 y1 y2 y3) (impl_isTwice.l0 (k + 1) y0 y1 y2 y3))
 | 0 => fun _ _ _ _ r h => by simp [impl_isTwice.l0] at h
 | k + 1 => by
  have ih0 := impl_isTwice.mono_l k
  intro y0 y1 y2 y3
  unfold impl_isTwice.l0
  repeat' first | with_reducible (first | exact ih0 _ _ _ _ | exact slices_Contains_int_int.mono _ _ _ | exact LeO.refl _ | exact LeO.none _ | refine LeO.ite ?_ ?_ | refine LeO.bind ?_ (fun _ => ?_)) | exact ih0 _ _ _ _ | exact slices_Contains_int_int.mono _ _ _ | exact LeO.none _ | refine LeO.ite ?_ ?_ | refine LeO.bind ?_ (fun _ => ?_)
theorem impl_isTwice.mono : ∀ a0 k, LeO (impl_isTwice.f k a0) (impl_isTwice.f (k + 1) a0) := by
 intro a0 k
 have ih0 := impl_isTwice.mono_l k
 unfold impl_isTwice.f
 repeat' first
   | (with_reducible exact ih0 _ _ _ _)
   | (with_reducible exact slices_Contains_int_int.mono _ _ _)
   | (with_reducible exact LeO.refl _)
   | (with_reducible exact LeO.none _)
   | (with_reducible refine LeO.ite ?_ ?_)
   | (with_reducible refine LeO.bind ?_ (fun _ => ?_))
   | exact ih0 _ _ _ _
   | exact slices_Contains_int_int.mono _ _ _
   | exact LeO.none _
   | refine LeO.ite ?_ ?_
   | refine LeO.bind ?_ (fun _ => ?_)
theorem impl_isTwice.calls (k : Nat) (A0 : Option Addr) (c0 : Nat) (l0 : List Int) (r : Bool) (w : World) (hr0 : Kd.C (Kd.int .i64) w A0 l0.length l0) (hc0 : l0.length ≤ c0) (h : impl_isTwice.f k l0 = some r) :
  Calls Tryz.prog 81 #[.slice A0 l0.length c0] w fun e w' => e = .returned (.bool r) ∧ Drawn0 w w' := by
 have HR0 := ak_ hr0
 have HC0 := ak_ hc0
 clear hr0 hc0
 have H : (impl_isTwice.l0 k l0 l0 (l0.length : Int) 0) = some r := h
 clear h
 have H' := ak_ H
 clear H
 go_enter Tryz.func81, Tryz.ntmps81
 go_wp2
 go_loopg [7] k (fun kq v7 w' => ∃ (x7_1 : Int), v7 = .int .i64 x7_1 ∧ Aside0 (impl_isTwice.l0 kq l0 l0 (l0.length : Int) x7_1 = some r) ∧ Aside0 (kq ≤ k) ∧ Drawn0 w w')
 case atStart => exact ⟨(0), z8_, H', ⟨Nat.le_refl _⟩, z13_⟩
 case round =>
  clear H'
  obtain ⟨x7_1, rfl, HA, HK1, ⟨m1, rfl⟩⟩ := hrel
  cases gk with
  | zero => exact absurd HA.out (by simp [impl_isTwice.l0])
  | succ k1 =>
   have H := HA.out
   clear HA
   simp only [impl_isTwice.l0] at H
   by_cases c2 : x7_1 < (l0.length : Int)
   rotate_left
   ·rw [if_neg c2] at H
    have c2b0 := decide_eq_false c2
    clear c2
    obtain rfl := Option.some.inj H
    go_wp2
    go_ret
    exact ⟨z8_, z13_⟩

   rw [if_pos c2] at H
   have c2b0 := decide_eq_true c2
   clear c2
   by_cases c3 : 0 ≤ x7_1
   rotate_left
   ·rw [if_neg c3] at H
    exact absurd H (by simp)
   rw [if_pos c3] at H
   have c3b0 := decide_eq_true c3
   clear c3
   by_cases c4 : x7_1 < (l0.length : Int)
   rotate_left
   ·rw [if_neg c4] at H
    exact absurd H (by simp)
   rw [if_pos c4] at H
   have c4b0 := decide_eq_true c4
   clear c4
   have c5b0 := eq_true (of_decide_eq_true z5_ : 0 ≤ x7_1)
   by_cases c6 : x7_1 ≤ (l0.length : Int)
   rotate_left
   ·rw [if_neg c6] at H
    exact absurd H (by simp)
   rw [if_pos c6] at H
   have c6b0 := eq_true c6
   have c6b1 := decide_eq_true c6
   clear c6
   replace H := Option.bind_eq_some_iff.mp H
   obtain ⟨t103, A70, H⟩ := H
   have A7 := ak_ A70
   clear A70
   by_cases c8 : t103 = true
   ·subst c8
    have H1 : (some true) = some r := by rw [if_pos rfl] at H; exact H
    clear H
    have H := H1
    clear H1
    obtain rfl := Option.some.inj H
    have p101 : 0 ≤ (x7_1 : Int) := of_decide_eq_true z5_
    have q101 : x7_1 < (l0.length : Int) := of_decide_eq_true z5_
    obtain ⟨ad101, e101, hx101_0⟩ := Kd.at_int HR0.out x7_1 p101 q101
    cases e101
    replace p101 := eq_true p101
    replace q101 := eq_true q101
    obtain ⟨i09, hi09, _, hsz9, _⟩ := info_parts info3
    obtain ⟨hcut9, hA9, hC9⟩ := print_take_of (P := Tryz.prog) (Value.int .i64) 0 56 3 .i64 Tryz.underlying56 hi09 hsz9 (some ad101) c0 l0 x7_1 (of_decide_eq_true z5_) (of_decide_eq_true z5_) HC0.out
    have HR102 := ak_ (Kd.C_of_reads (h1 := fun _ => rfl) (hA9 _ (Kd.reads_of_C HR0.out)))
    have HC102 := ak_ hC9
    clear hA9 hC9 hi09 hsz9
    go_wp2_with (first | ((with_reducible refine gate_callee (f := 93) rfl ?_); refine goesL_ (some 16) rfl rfl Tryz.func93 (by kernel_rfl) rfl #[.slice (some ad101) (l0.take (x7_1 : Int).toNat).length c0, .int .i64 (rd l0 x7_1)] rfl z61_ ?_; (with_reducible refine (slices_Contains_int_int.calls k1 _ _ (l0.take (x7_1 : Int).toNat) (rd l0 x7_1) true _ ?side1 ?side2 A7.out).mono ?_); (case side1 => exact cz_ (HR102.out)); (case side2 => exact HC102.out); rintro e w' ⟨rfl, ⟨nd, rfl⟩⟩; refine ⟨_, rfl, ?_⟩))
    go_ret
    exact ⟨z8_, z13_⟩
   replace c8 := Bool.eq_false_iff.mpr c8
   subst c8
   have H1 : (impl_isTwice.l0 k1 l0 l0 (l0.length : Int) (wrap64 (x7_1 + 1))) = some r := by rw [if_neg (show ¬ (false = true) by decide)] at H; exact H
   clear H
   have H := H1
   clear H1
   have H' := ak_ H
   clear H
   have p101 : 0 ≤ (x7_1 : Int) := of_decide_eq_true z5_
   have q101 : x7_1 < (l0.length : Int) := of_decide_eq_true z5_
   obtain ⟨ad101, e101, hx101_0⟩ := Kd.at_int HR0.out x7_1 p101 q101
   cases e101
   replace p101 := eq_true p101
   replace q101 := eq_true q101
   obtain ⟨i010, hi010, _, hsz10, _⟩ := info_parts info3
   obtain ⟨hcut10, hA10, hC10⟩ := print_take_of (P := Tryz.prog) (Value.int .i64) 0 56 3 .i64 Tryz.underlying56 hi010 hsz10 (some ad101) c0 l0 x7_1 (of_decide_eq_true z5_) (of_decide_eq_true z5_) HC0.out
   have HR102 := ak_ (Kd.C_of_reads (h1 := fun _ => rfl) (hA10 _ (Kd.reads_of_C HR0.out)))
   have HC102 := ak_ hC10
   clear hA10 hC10 hi010 hsz10
   go_wp2_with (first | ((with_reducible refine gate_callee (f := 93) rfl ?_); refine goesL_ (some 16) rfl rfl Tryz.func93 (by kernel_rfl) rfl #[.slice (some ad101) (l0.take (x7_1 : Int).toNat).length c0, .int .i64 (rd l0 x7_1)] rfl z61_ ?_; (with_reducible refine (slices_Contains_int_int.calls k1 _ _ (l0.take (x7_1 : Int).toNat) (rd l0 x7_1) false _ ?side1 ?side2 A7.out).mono ?_); (case side1 => exact cz_ (HR102.out)); (case side2 => exact HC102.out); rintro e w' ⟨rfl, ⟨nd, rfl⟩⟩; refine ⟨_, rfl, ?_⟩))
   go_roundg k1
   case measure => have := HK1.out; omega
   case rel => exact ⟨(wrap64 (x7_1 + 1)), z8_, H', ⟨by have := HK1.out; omega⟩, z13_⟩
end

section
theorem slices_IndexFunc_int_int.any (gf : Nat) (lb : Array Value) (p : Int → Bool) (A0 : Option Addr) (c0 : Nat) (l0 : List (Int)) (w : World) (hr0 : Kd.C (Kd.int .i64) w A0 l0.length l0)
  (eg : ∀ args w, (callFunc gf args).run Tryz.prog w = .ok (.enter gf args) w)
  (hp : ∀ (W : World) (x : Int), x ∈ l0 → Below w.heap.size w W → Calls Tryz.prog gf (#[.int .i64 x] ++ lb) W fun e w' => e = .returned (.bool (p x)) ∧ Below w.heap.size w w') :
  Calls Tryz.prog 94 #[.slice A0 l0.length c0, .func (.func gf) #[] lb] w fun e w' => e = .returned (.int .i64 (fIdx p l0)) ∧ Below w.heap.size w w' := by
 have hbig := C_len hr0
 go_enter Tryz.func94, Tryz.ntmps94
 go_wp2
 go_loopg [5, 8] l0.length (fun gg _ s8 wr => ∃ kk : Nat, kk ≤ l0.length ∧ l0.length - kk ≤ gg ∧ s8 = .int .i64 kk ∧ Aside0 (Below w.heap.size w wr) ∧ Aside0 (∀ j, (hj : j < kk) → (hj2 : j < l0.length) → p l0[j] = false))
 case atStart => exact ⟨0, Nat.zero_le _, by omega, rfl, ⟨Below.refl _ w⟩, ⟨fun j hj => absurd hj (Nat.not_lt_zero _)⟩⟩
 case round =>
  obtain ⟨kk, hkk, hg, rfl, BW, A⟩ := hrel
  by_cases hlt : kk < l0.length
  rotate_left
  ·have hltz : ¬ (kk : Int) < (l0.length : Int) := by omega
   have A2 := ak_ (fIdx_miss p l0 (fun j hj => A.out j (by omega) hj))
   clear hp hr0 A hlt
   go_wp2
   go_ret
   exact ⟨by rw [A2.out] <;> rfl, BW.out⟩

  have hltz : (kk : Int) < (l0.length : Int) := by omega
  obtain ⟨ad, rfl, hc0⟩ := Kd.at_int hr0 (kk : Int) (by omega) hltz
  replace hc0 := (BW.out.cell (World.block_lt_of_cell? w _ hc0)).trans hc0
  have hy : rd l0 (kk : Int) = l0[kk] := by simp [rd, hlt]
  simp only [hy, Int.toNat_natCast] at hc0
  have hcall := hp wr l0[kk] (List.getElem_mem hlt) BW.out
  clear hp hy hr0
  generalize hyy : l0[kk] = y at hc0 hcall
  have Y := ak_ hyy
  clear hyy
  generalize hq : p y = q at hcall
  have Q := ak_ hq
  clear hq
  cases q with
  | true =>
   go_wp2_with (go_at_fn gf; refine hcall.mono ?_; rintro e w' ⟨rfl, hb'⟩)
   go_ret
   exact ⟨by rw [fIdx_hit p l0 kk hlt (by rw [Y.out]; exact Q.out) (fun j hj => A.out j hj (by omega))] <;> rfl, hb'⟩
  | false =>
   go_wp2_with (go_at_fn gf; refine hcall.mono ?_; rintro e w' ⟨rfl, hb'⟩)
   go_roundg (l0.length - (kk + 1))
   case measure => omega
   case rel =>
    refine ⟨kk + 1, by omega, by omega, by go_num, ⟨hb'⟩, ⟨fun j hj hj2 => ?_⟩⟩
    by_cases e : j = kk
    ·subst e
     rw [Y.out]; exact Q.out
    ·exact A.out j (by omega) hj2
end

section
theorem slices_ContainsFunc_int_int.any (gf : Nat) (lb : Array Value) (p : Int → Bool) (A0 : Option Addr) (c0 : Nat) (l0 : List (Int)) (w : World) (hr0 : Kd.C (Kd.int .i64) w A0 l0.length l0)
  (eg : ∀ args w, (callFunc gf args).run Tryz.prog w = .ok (.enter gf args) w)
  (hp : ∀ (W : World) (x : Int), x ∈ l0 → Below w.heap.size w W → Calls Tryz.prog gf (#[.int .i64 x] ++ lb) W fun e w' => e = .returned (.bool (p x)) ∧ Below w.heap.size w w') :
  Calls Tryz.prog 82 #[.slice A0 l0.length c0, .func (.func gf) #[] lb] w fun e w' => e = .returned (.bool (l0.any p)) ∧ Below w.heap.size w w' := by
 rw [← fIdx_any]
 have h := fun W hr0 hp => slices_IndexFunc_int_int.any gf lb p A0 c0 l0 W hr0 eg hp
 go_enter Tryz.func82, Tryz.ntmps82
 go_wp2_with (go_at_call 94; refine (h _ hr0 hp).mono ?_; rintro e w' ⟨rfl, hb'⟩)
 go_ret
 exact ⟨rfl, hb'⟩
end

section
theorem impl_Table_indexOK.clo (x : Int) (n : Nat) (hn : (n : Int) ≤ 9223372036854775807) (A : Option Addr) (c : Nat) (b : Nat) (W : World) (hc : W.cell? ⟨b, 1, none⟩ = some (.slice A n c)) :
    Calls Tryz.prog 83 (#[.int .i64 x] ++ #[.pointer (some ⟨b, 0, none⟩)]) W fun e w' => e = .returned (.bool (!(decide (0 ≤ x) && decide (x ≤ (n : Int) - 1)))) ∧ Below W.heap.size W w' := by
  have hu := Tryz.underlying35
  have hw : wrap64 ((n : Int) - 1) = (n : Int) - 1 := by unfold wrap64; omega
  have hin : ∀ w : World, Calls Tryz.prog 28 #[.int .i64 x, .int .i64 0, .int .i64 ((n : Int) - 1)] w fun e w' => e = .returned (.bool (decide (0 ≤ x) && decide (x ≤ (n : Int) - 1))) ∧ Drawn0 w w' := fun w =>
    impl_within.calls x 0 ((n : Int) - 1) _ w (by
      unfold impl_within.f
      by_cases h : x ≥ 0
      · rw [if_pos h]; simp [show 0 ≤ x from h]
      · rw [if_neg h]; simp [show ¬ 0 ≤ x from h])
  go_enter Tryz.func83, Tryz.ntmps83
  go_wp2_with (go_at_call 28; refine (hin _).mono ?_; rintro e w1 ⟨rfl, hd⟩)
  go_ret
  exact ⟨by simp, hd.below⟩
def impl_Table_indexOK.f (k : Nat) (a0_0 : ByteArray) (l0_1 : List (S78)) (a0_2 : Int) (l0_3 : List (S58)) (a1_0 : ByteArray) (l1_1 : List Int) : Option Bool :=
  (impl_isFree.f k a1_0).bind fun t => if t = true then (if (l1_1.length : Int) > 0 then (impl_isTwice.f k l1_1).bind fun u => (if u = true then some false else some (!(l1_1.any fun c => !(decide (0 ≤ c) && decide (c ≤ (l0_1.length : Int) - 1))))) else some false) else some false
theorem impl_Table_indexOK.mono : ∀ a0_0 l0_1 a0_2 l0_3 a1_0 l1_1 k, LeO (impl_Table_indexOK.f k a0_0 l0_1 a0_2 l0_3 a1_0 l1_1) (impl_Table_indexOK.f (k + 1) a0_0 l0_1 a0_2 l0_3 a1_0 l1_1) := by
  intro a0_0 l0_1 a0_2 l0_3 a1_0 l1_1 k
  unfold impl_Table_indexOK.f
  refine LeO.bind (impl_isFree.mono _ _) fun t => LeO.ite (LeO.ite (LeO.bind (impl_isTwice.mono _ _) fun _ => LeO.refl _) (LeO.refl _)) (LeO.refl _)
theorem impl_Table_indexOK.calls (k : Nat) (a0_0 : ByteArray) (A0_1 : Option Addr) (c0_1 : Nat) (l0_1 : List (S78)) (a0_2 : Int) (A0_3 : Option Addr) (c0_3 : Nat) (l0_3 : List (S58)) (a1_0 : ByteArray) (A1_1 : Option Addr) (c1_1 : Nat) (l1_1 : List Int) (r : Bool) (w : World) (hr0_1 : Kd.C k78 w A0_1 l0_1.length l0_1) (hc0_1 : l0_1.length ≤ c0_1) (hr0_3 : Kd.C k58 w A0_3 l0_3.length l0_3) (hc0_3 : l0_3.length ≤ c0_3) (hr1_1 : Kd.C (Kd.int .i64) w A1_1 l1_1.length l1_1) (hc1_1 : l1_1.length ≤ c1_1) (h : impl_Table_indexOK.f k a0_0 l0_1 a0_2 l0_3 a1_0 l1_1 = some r) :
    Calls Tryz.prog 63 #[.agg #[.string a0_0, .slice A0_1 l0_1.length c0_1, .int .i64 a0_2, .slice A0_3 l0_3.length c0_3], .agg #[.string a1_0, .slice A1_1 l1_1.length c1_1]] w fun e w' => e = .returned (.bool r) ∧ Below w.heap.size w w' := by
  have hlen : (l0_1.length : Int) ≤ 9223372036854775807 := by have := C_len hr0_1; omega
  have hu := Tryz.underlying35
  have hu2 := Tryz.underlying58
  have hb0 : Below w.heap.size w ((w.alloc (.cells #[.string a0_0, .slice A0_1 l0_1.length c0_1, .int .i64 a0_2, .slice A0_3 l0_3.length c0_3] 35)).alloc (.cells #[.string a1_0, .slice A1_1 l1_1.length c1_1] 58)) := ((Below.refl _ _).alloc (Nat.le_refl _) _).alloc (by simp) _
  have hm : ((w.alloc (.cells #[.string a0_0, .slice A0_1 l0_1.length c0_1, .int .i64 a0_2, .slice A0_3 l0_3.length c0_3] 35)).alloc (.cells #[.string a1_0, .slice A1_1 l1_1.length c1_1] 58)).heap[w.heap.size + 1]? = some (.cells #[.string a1_0, .slice A1_1 l1_1.length c1_1] 58 (0, 0)) := by
    have := heap_alloc_new (w.alloc (.cells #[.string a0_0, .slice A0_1 l0_1.length c0_1, .int .i64 a0_2, .slice A0_3 l0_3.length c0_3] 35)) (.cells #[.string a1_0, .slice A1_1 l1_1.length c1_1] 58)
    simpa using this
  have hm2 : ((w.alloc (.cells #[.string a0_0, .slice A0_1 l0_1.length c0_1, .int .i64 a0_2, .slice A0_3 l0_3.length c0_3] 35)).alloc (.cells #[.string a1_0, .slice A1_1 l1_1.length c1_1] 58)).heap[w.heap.size]? = some (.cells #[.string a0_0, .slice A0_1 l0_1.length c0_1, .int .i64 a0_2, .slice A0_3 l0_3.length c0_3] 35 (0, 0)) := by
    rw [(below_alloc (Below.refl _ (w.alloc (.cells #[.string a0_0, .slice A0_1 l0_1.length c0_1, .int .i64 a0_2, .slice A0_3 l0_3.length c0_3] 35))) _).block _ (by simp)]
    exact heap_alloc_new w _
  have hcI : ((w.alloc (.cells #[.string a0_0, .slice A0_1 l0_1.length c0_1, .int .i64 a0_2, .slice A0_3 l0_3.length c0_3] 35)).alloc (.cells #[.string a1_0, .slice A1_1 l1_1.length c1_1] 58)).cell? ⟨w.heap.size + 1, 1, none⟩ = some (.slice A1_1 l1_1.length c1_1) := blk_cell hm 1
  have hcT : ((w.alloc (.cells #[.string a0_0, .slice A0_1 l0_1.length c0_1, .int .i64 a0_2, .slice A0_3 l0_3.length c0_3] 35)).alloc (.cells #[.string a1_0, .slice A1_1 l1_1.length c1_1] 58)).cell? ⟨w.heap.size, 1, none⟩ = some (.slice A0_1 l0_1.length c0_1) := blk_cell hm2 1
  have HR := ak_ hr1_1
  have HC := ak_ hc1_1
  have HB := ak_ hb0
  have HI := ak_ hcI
  have HT := ak_ hcT
  have HL := ak_ hlen
  clear hb0 hm hm2 hcI hcT hr0_1 hc0_1 hr0_3 hc0_3 hr1_1 hc1_1 hlen
  unfold impl_Table_indexOK.f at h
  obtain ⟨t, ht, h⟩ := Option.bind_eq_some_iff.1 h
  have H1 := ak_ ht
  clear ht
  cases t with
  | false =>
    rw [if_neg (by decide)] at h
    obtain rfl := Option.some.inj h
    clear h
    go_enter Tryz.func63, Tryz.ntmps63
    go_wp2_with (go_at_call 60; refine (impl_isFree.calls k _ _ _ H1.out).mono ?_; rintro e w1 ⟨rfl, hb1⟩)
    go_ret
    exact ⟨rfl, below_step HB.out hb1⟩
  | true =>
    rw [if_pos rfl] at h
    by_cases hl : (l1_1.length : Int) > 0
    case neg =>
      rw [if_neg hl] at h
      obtain rfl := Option.some.inj h
      clear h
      have hl2 : decide ((l1_1.length : Int) > 0) = false := decide_eq_false hl
      have hl3 : decide ((0 : Int) < (l1_1.length : Int)) = false := decide_eq_false hl
      have hl4 : decide (0 < l1_1.length) = false := decide_eq_false (by omega)
      clear hl
      go_enter Tryz.func63, Tryz.ntmps63
      go_wp2_with (go_at_call 60; refine (impl_isFree.calls k _ _ _ H1.out).mono ?_; rintro e w1 ⟨rfl, hb1⟩; have hx1 := (hb1.cell (World.block_lt_of_cell? _ _ HI.out)).trans HI.out)
      go_ret
      exact ⟨rfl, below_step HB.out hb1⟩
    rw [if_pos hl] at h
    have hl2 : decide ((l1_1.length : Int) > 0) = true := decide_eq_true hl
    have hl4 : decide (0 < l1_1.length) = true := decide_eq_true (by omega)
    clear hl
    obtain ⟨u, hu_, h⟩ := Option.bind_eq_some_iff.1 h
    have H2 := ak_ hu_
    clear hu_
    cases u with
    | true =>
      rw [if_pos rfl] at h
      obtain rfl := Option.some.inj h
      clear h
      go_enter Tryz.func63, Tryz.ntmps63
      go_wp2_with (first
        | (go_at_call 60; refine (impl_isFree.calls k _ _ _ H1.out).mono ?_; rintro e w1 ⟨rfl, hb1⟩; have hx1 := (hb1.cell (World.block_lt_of_cell? _ _ HI.out)).trans HI.out)
        | (go_at_call 81; refine (impl_isTwice.calls k _ _ l1_1 _ _ (Kd.C_below HR.out (below_step HB.out hb1)) HC.out H2.out).mono ?_; rintro e w2 ⟨rfl, hd2⟩; have hb2 := hd2.below; clear hd2))
      go_ret
      exact ⟨rfl, below_step (below_step HB.out hb1) hb2⟩
    | false =>
      rw [if_neg (by decide)] at h
      obtain rfl := Option.some.inj h
      clear h
      generalize hq : (l1_1.any fun c => !(decide (0 ≤ c) && decide (c ≤ (l0_1.length : Int) - 1))) = q
      have HQ := ak_ hq
      clear hq
      go_enter Tryz.func63, Tryz.ntmps63
      go_wp2_with (first
        | (go_at_call 60; refine (impl_isFree.calls k _ _ _ H1.out).mono ?_; rintro e w1 ⟨rfl, hb1⟩; have hx1 := (hb1.cell (World.block_lt_of_cell? _ _ HI.out)).trans HI.out; have hy1 := (hb1.cell (World.block_lt_of_cell? _ _ HT.out)).trans HT.out)
        | (go_at_call 81; refine (impl_isTwice.calls k _ _ l1_1 _ _ (Kd.C_below HR.out (below_step HB.out hb1)) HC.out H2.out).mono ?_; rintro e w2 ⟨rfl, hd2⟩; have hb2 := hd2.below; clear hd2; have hx2 := (hb2.cell (World.block_lt_of_cell? _ _ hx1)).trans hx1; have hy2 := (hb2.cell (World.block_lt_of_cell? _ _ hy1)).trans hy1)
        | (go_at_call 82; refine (slices_ContainsFunc_int_int.any 83 #[.pointer (some ⟨w.heap.size, 0, none⟩)] (fun c => !(decide (0 ≤ c) && decide (c ≤ (l0_1.length : Int) - 1))) _ _ l1_1 _ (Kd.C_below (Kd.C_below HR.out (below_step HB.out hb1)) hb2) (fun _ _ => by kernel_rfl) (fun W x _ hb => (impl_Table_indexOK.clo x l0_1.length HL.out _ _ _ W ((hb.cell (World.block_lt_of_cell? _ _ hy2)).trans hy2)).mono fun e w' h_ => ⟨h_.1, below_step hb h_.2⟩)).mono ?_; rintro e w3 ⟨he, hb3⟩; rw [HQ.out] at he; subst he))
      go_ret
      exact ⟨rfl, below_step (below_step (below_step HB.out hb1) hb2) hb3⟩
end

section
theorem impl_Index.any (gf : Nat) (lb : Array Value) (p : S58 → Bool) (A0 : Option Addr) (c0 : Nat) (l0 : List (S58)) (w : World) (hr0 : Kd.C k58 w A0 l0.length l0)
  (eg : ∀ args w, (callFunc gf args).run Tryz.prog w = .ok (.enter gf args) w)
  (hp : ∀ (W : World) (x : S58) (A1_ : Option Addr) (c1_ : Nat), x ∈ l0 → Below w.heap.size w W → Kd.C (Kd.int .i64) W A1_ x.f1.length x.f1 → x.f1.length ≤ c1_ → Calls Tryz.prog gf (#[.agg #[.string x.f0, .slice A1_ x.f1.length c1_]] ++ lb) W fun e w' => e = .returned (.bool (p x)) ∧ Below w.heap.size w w') :
  Calls Tryz.prog 84 #[.slice A0 l0.length c0, .func (.func gf) #[] lb] w fun e w' => e = .returned (.int .i64 (fIdx p l0)) ∧ Below w.heap.size w w' := by
 have hbig := C_len hr0
 go_enter Tryz.func84, Tryz.ntmps84
 go_wp2
 go_loopg [5, 8] l0.length (fun gg _ s8 wr => ∃ kk : Nat, kk ≤ l0.length ∧ l0.length - kk ≤ gg ∧ s8 = .int .i64 kk ∧ Aside0 (Below w.heap.size w wr) ∧ Aside0 (∀ j, (hj : j < kk) → (hj2 : j < l0.length) → p l0[j] = false))
 case atStart => exact ⟨0, Nat.zero_le _, by omega, rfl, ⟨Below.refl _ w⟩, ⟨fun j hj => absurd hj (Nat.not_lt_zero _)⟩⟩
 case round =>
  obtain ⟨kk, hkk, hg, rfl, BW, A⟩ := hrel
  by_cases hlt : kk < l0.length
  rotate_left
  ·have hltz : ¬ (kk : Int) < (l0.length : Int) := by omega
   have A2 := ak_ (fIdx_miss p l0 (fun j hj => A.out j (by omega) hj))
   clear hp hr0 A hlt
   go_wp2
   go_ret
   exact ⟨by rw [A2.out] <;> rfl, BW.out⟩

  have hltz : (kk : Int) < (l0.length : Int) := by omega
  obtain ⟨ad, A1_, c1_, rfl, hc0, hc1, hl1, hi1⟩ := at_T58 hr0 (kk : Int) (by omega) hltz
  replace hc0 := (BW.out.cell (World.block_lt_of_cell? w _ hc0)).trans hc0
  replace hc1 := (BW.out.cell (World.block_lt_of_cell? w _ hc1)).trans hc1
  have hy : rd_T58 l0 (kk : Int) = l0[kk] := by simp [rd_T58, hlt]
  simp only [hy, Int.toNat_natCast] at hc0 hc1 hl1 hi1
  have hcall := hp wr l0[kk] A1_ c1_ (List.getElem_mem hlt) BW.out (Kd.C_below hi1 BW.out) hl1
  clear hp hy hr0 hl1 hi1
  generalize hyy : l0[kk] = y at hc0 hc1 hcall
  have Y := ak_ hyy
  clear hyy
  generalize hq : p y = q at hcall
  have Q := ak_ hq
  clear hq
  cases q with
  | true =>
   go_wp2_with (go_at_fn gf; refine hcall.mono ?_; rintro e w' ⟨rfl, hb'⟩)
   go_ret
   exact ⟨by rw [fIdx_hit p l0 kk hlt (by rw [Y.out]; exact Q.out) (fun j hj => A.out j hj (by omega))] <;> rfl, hb'⟩
  | false =>
   go_wp2_with (go_at_fn gf; refine hcall.mono ?_; rintro e w' ⟨rfl, hb'⟩)
   go_roundg (l0.length - (kk + 1))
   case measure => omega
   case rel =>
    refine ⟨kk + 1, by omega, by omega, by go_num, ⟨hb'⟩, ⟨fun j hj hj2 => ?_⟩⟩
    by_cases e : j = kk
    ·subst e
     rw [Y.out]; exact Q.out
    ·exact A.out j (by omega) hj2
end

section
theorem impl_Table_index.clo (x : S58) (A : Option Addr) (c : Nat) (t : ByteArray) (ad : Addr) (W : World) (hc : W.cell? ad = some (.string t)) :
  Calls Tryz.prog 85 (#[.agg #[.string x.f0, .slice A x.f1.length c]] ++ #[.pointer (some ad)]) W fun e w' => e = .returned (.bool (x.f0.toList == t.toList)) ∧ Below W.heap.size W w' := by
 have hu := Tryz.underlying58
 have hca := fun o => ((below_alloc (Below.refl _ W) o).cell (World.block_lt_of_cell? W _ hc)).trans hc
 go_enter Tryz.func85, Tryz.ntmps85
 go_wp2
 go_ret
 exact ⟨rfl, (Below.refl _ W).alloc (Nat.le_refl _) _⟩
def impl_Table_index.f (a0_0 : ByteArray) (l0_1 : List (S78)) (a0_2 : Int) (l0_3 : List (S58)) (a1 : ByteArray) : Option Int := some (fIdx (fun x => x.f0.toList == a1.toList) l0_3)
theorem impl_Table_index.calls (a0_0 : ByteArray) (A0_1 : Option Addr) (c0_1 : Nat) (l0_1 : List (S78)) (a0_2 : Int) (A0_3 : Option Addr) (c0_3 : Nat) (l0_3 : List (S58)) (a1 : ByteArray) (r : Int) (w : World) (hr0_1 : Kd.C k78 w A0_1 l0_1.length l0_1) (hc0_1 : l0_1.length ≤ c0_1) (hr0_3 : Kd.C k58 w A0_3 l0_3.length l0_3) (hc0_3 : l0_3.length ≤ c0_3) (h : impl_Table_index.f a0_0 l0_1 a0_2 l0_3 a1 = some r) :
  Calls Tryz.prog 64 #[.agg #[.string a0_0, .slice A0_1 l0_1.length c0_1, .int .i64 a0_2, .slice A0_3 l0_3.length c0_3], .string a1] w fun e w' => e = .returned (.int .i64 r) ∧ Below w.heap.size w w' := by
 obtain rfl := Option.some.inj h
 have hu := Tryz.underlying35
 have hb0 : Below w.heap.size w ((w.alloc (.cells #[.string a0_0, .slice A0_1 l0_1.length c0_1, .int .i64 a0_2, .slice A0_3 l0_3.length c0_3] 35)).alloc (.cells #[.string a1] 9)) := ((Below.refl _ _).alloc (Nat.le_refl _) _).alloc (by simp) _
 have hm : ((w.alloc (.cells #[.string a0_0, .slice A0_1 l0_1.length c0_1, .int .i64 a0_2, .slice A0_3 l0_3.length c0_3] 35)).alloc (.cells #[.string a1] 9)).heap[w.heap.size + 1]? = some (.cells #[.string a1] 9 (0, 0)) := by
  have := heap_alloc_new (w.alloc (.cells #[.string a0_0, .slice A0_1 l0_1.length c0_1, .int .i64 a0_2, .slice A0_3 l0_3.length c0_3] 35)) (.cells #[.string a1] 9)
  simpa using this
 have hcell : ((w.alloc (.cells #[.string a0_0, .slice A0_1 l0_1.length c0_1, .int .i64 a0_2, .slice A0_3 l0_3.length c0_3] 35)).alloc (.cells #[.string a1] 9)).cell? ⟨w.heap.size + 1, 0, none⟩ = some (.string a1) := blk_cell hm 0
 have hcall := impl_Index.any 85 #[.pointer (some ⟨w.heap.size + 1, 0, none⟩)] (fun x => x.f0.toList == a1.toList) A0_3 c0_3 l0_3 _ (Kd.C_below hr0_3 hb0) (fun _ _ => by kernel_rfl)
  (fun W x A c _ hb _ _ => (impl_Table_index.clo x A c a1 _ W ((hb.cell (World.block_lt_of_cell? _ _ hcell)).trans hcell)).mono fun e w' h_ => ⟨h_.1, below_step hb h_.2⟩)
 have HB := ak_ hb0
 clear hb0 hm hcell hr0_1 hc0_1 hr0_3 hc0_3 h
 go_enter Tryz.func64, Tryz.ntmps64
 go_wp2_with (go_at_call 84; refine hcall.mono ?_; rintro e w' ⟨rfl, hb'⟩)
 go_ret
 exact ⟨rfl, below_step HB.out hb'⟩
end

end Go.Proofs.YtlikagbdhjdggaaGreatDoor.X
end
