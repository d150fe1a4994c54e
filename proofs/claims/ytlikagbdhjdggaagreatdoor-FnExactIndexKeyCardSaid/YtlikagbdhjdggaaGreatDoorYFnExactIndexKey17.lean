/- Contracts of functions, and what is told of them. -/
import Derived.Shelf.Abstract
import Derived.Test.YtlikagbdhjdggaaGreatDoorYFnExactIndexKey13
set_option linter.unusedSimpArgs false
set_option linter.unusedVariables false
set_option maxHeartbeats 8000000
set_option maxRecDepth 100000
section
namespace Go.Proofs.YtlikagbdhjdggaaGreatDoor.X
open Go.RowKit Go.Proofs.YtlikagbdhjdggaaGreatDoorW.PrintWords Go.Proofs.YtlikagbdhjdggaaGreatDoorW.PrintLast Go.Proofs.YtlikagbdhjdggaaGreatDoorW.PrintMore
attribute [local go_sem] max2_int min2_int max_two min_two max_three min_three max_four min_four

section
theorem impl_Value_86.any (gf : Nat) (lb : Array Value) (p : S61 → Bool) (A0 : Option Addr) (c0 : Nat) (l0 : List (S61)) (w : World) (hr0 : Kd.C k61 w A0 l0.length l0)
  (eg : ∀ args w, (callFunc gf args).run Tryz.prog w = .ok (.enter gf args) w)
  (hp : ∀ (W : World) (x : S61), x ∈ l0 → Below w.heap.size w W → Calls Tryz.prog gf (#[.agg #[.int .i64 x.f0, .int .i64 x.f1, .string x.f2]] ++ lb) W fun e w' => e = .returned (.bool (p x)) ∧ Below w.heap.size w w') :
  Calls Tryz.prog 86 #[.slice A0 l0.length c0, .func (.func gf) #[] lb] w fun e w' => e = .returned (.int .i64 (fIdx p l0)) ∧ Below w.heap.size w w' := by
 have hbig := C_len hr0
 go_enter Tryz.func86, Tryz.ntmps86
 go_wp2
 go_loopg [5, 8] l0.length (fun gg _ s8 wr => ∃ kk : Nat, kk ≤ l0.length ∧ l0.length - kk ≤ gg ∧ s8 = .int .i64 kk ∧ Aside0 (Below w.heap.size w wr) ∧ Aside0 (∀ j, (hj : j < kk) → (hj2 : j < l0.length) → p l0[j] = false))
 case atStart => exact ⟨0, Nat.zero_le _, by omega, rfl, ⟨Below.refl _ w⟩, ⟨fun j hj => absurd hj (Nat.not_lt_zero _)⟩⟩
 case round =>
  obtain ⟨kk, hkk, hg, rfl, BW, A⟩ := hrel
  by_cases hlt : kk < l0.length
  rotate_left
  ·have hltz : ¬ (kk : Int) < (l0.length : Int) := by omega
   have A2 := ak_ (fIdx_miss p l0 (fun j hj => A.out j (by omega) hj))
   clear hp hr0 A hlt
   go_wp2
   go_ret
   exact ⟨by rw [A2.out] <;> rfl, BW.out⟩

  have hltz : (kk : Int) < (l0.length : Int) := by omega
  obtain ⟨ad, rfl, hc0, hc1, hc2⟩ := at_T61 hr0 (kk : Int) (by omega) hltz
  replace hc0 := (BW.out.cell (World.block_lt_of_cell? w _ hc0)).trans hc0
  replace hc1 := (BW.out.cell (World.block_lt_of_cell? w _ hc1)).trans hc1
  replace hc2 := (BW.out.cell (World.block_lt_of_cell? w _ hc2)).trans hc2
  have hy : rd_T61 l0 (kk : Int) = l0[kk] := by simp [rd_T61, hlt]
  simp only [hy, Int.toNat_natCast] at hc0 hc1 hc2
  have hcall := hp wr l0[kk] (List.getElem_mem hlt) BW.out
  clear hp hy hr0
  generalize hyy : l0[kk] = y at hc0 hc1 hc2 hcall
  have Y := ak_ hyy
  clear hyy
  generalize hq : p y = q at hcall
  have Q := ak_ hq
  clear hq
  cases q with
  | true =>
   go_wp2_with (go_at_fn gf; refine hcall.mono ?_; rintro e w' ⟨rfl, hb'⟩)
   go_ret
   exact ⟨by rw [fIdx_hit p l0 kk hlt (by rw [Y.out]; exact Q.out) (fun j hj => A.out j hj (by omega))] <;> rfl, hb'⟩
  | false =>
   go_wp2_with (go_at_fn gf; refine hcall.mono ?_; rintro e w' ⟨rfl, hb'⟩)
   go_roundg (l0.length - (kk + 1))
   case measure => omega
   case rel =>
    refine ⟨kk + 1, by omega, by omega, by go_num, ⟨hb'⟩, ⟨fun j hj hj2 => ?_⟩⟩
    by_cases e : j = kk
    ·subst e
     rw [Y.out]; exact Q.out
    ·exact A.out j (by omega) hj2
end

section
theorem impl_Value_65.any (gf : Nat) (lb : Array Value) (p : S61 → Bool) (A0 : Option Addr) (c0 : Nat) (l0 : List (S61)) (w : World) (hr0 : Kd.C k61 w A0 l0.length l0)
  (eg : ∀ args w, (callFunc gf args).run Tryz.prog w = .ok (.enter gf args) w)
  (hp : ∀ (W : World) (x : S61), x ∈ l0 → Below w.heap.size w W → Calls Tryz.prog gf (#[.agg #[.int .i64 x.f0, .int .i64 x.f1, .string x.f2]] ++ lb) W fun e w' => e = .returned (.bool (p x)) ∧ Below w.heap.size w w') :
  Calls Tryz.prog 65 #[.slice A0 l0.length c0, .func (.func gf) #[] lb] w fun e w' => e = .returned (.bool (l0.any p)) ∧ Below w.heap.size w w' := by
 rw [← fIdx_any]
 have h := fun W hr0 hp => impl_Value_86.any gf lb p A0 c0 l0 W hr0 eg hp
 go_enter Tryz.func65, Tryz.ntmps65
 go_wp2_with (go_at_call 86; refine (h _ hr0 hp).mono ?_; rintro e w' ⟨rfl, hb'⟩)
 go_ret
 exact ⟨rfl, hb'⟩
end

section
def impl_hasText.f (a0 : Int) : Option (Bool) := if a0 = 3 then (some true) else (some (a0 == 4))
theorem impl_hasText.calls (a0 : Int) (r : Bool) (w : World) (h : impl_hasText.f a0 = some r) :
  Calls Tryz.prog 70 #[.int .i64 a0] w fun e w' => e = .returned (.bool r) ∧ Drawn0 w w' := by
 have H : (if a0 = 3 then (some true) else (some (a0 == 4))) = some r := h
 clear h
 by_cases c2 : a0 = 3
 rotate_left
 ·rw [if_neg c2] at H
  have c2b0 : (a0 == 3) = false := beq_eq_false_iff_ne.mpr c2
  have c2b1 : (a0 != 3) = true := bne_iff_ne.mpr c2
  obtain rfl := Option.some.inj H
  go_enter Tryz.func70, Tryz.ntmps70
  go_wp2
  go_ret
  exact ⟨z8_, z13_⟩

 rw [if_pos c2] at H
 have c2b0 : (a0 == 3) = true := beq_iff_eq.mpr c2
 have c2b1 : (a0 != 3) = false := bne_eq_false_iff_eq.mpr c2
 clear c2
 obtain rfl := Option.some.inj H
 go_enter Tryz.func70, Tryz.ntmps70
 go_wp2
 go_ret
 exact ⟨z8_, z13_⟩
end

section
def impl_ValueOK.f (a0_0 : Int) (a0_1 : Int) (a0_2 : ByteArray) : Option (Bool) := if a0_0 = 0 then (if a0_1 = 0 then (some (a0_2.toList == ([] : List UInt8))) else (some false)) else (if a0_0 = 1 then ((impl_within.f a0_1 0 1).bind fun t102 => (if t102 = true then (some (a0_2.toList == ([] : List UInt8))) else (some false))) else (if a0_0 = 2 then (some (a0_2.toList == ([] : List UInt8))) else ((impl_hasText.f a0_0).bind fun t103 => (if t103 = true then (if a0_1 = 0 then (some (decide ((a0_2.size : Int) ≤ 60))) else (some false)) else (some false)))))
theorem impl_ValueOK.calls (a0_0 : Int) (a0_1 : Int) (a0_2 : ByteArray) (r : Bool) (w : World) (h : impl_ValueOK.f a0_0 a0_1 a0_2 = some r) :
  Calls Tryz.prog 67 #[.agg #[.int .i64 a0_0, .int .i64 a0_1, .string a0_2]] w fun e w' => e = .returned (.bool r) ∧ Below w.heap.size w w' := by
 have hu61 := Tryz.underlying61
 have HB := ak_ (Below.refl w.heap.size w)
 have H := h
 unfold impl_ValueOK.f at H
 clear h
 by_cases c2 : a0_0 = 0
 ·rw [if_pos c2] at H
  have c2b0 : (a0_0 == 0) = true := beq_iff_eq.mpr c2
  have c2b1 : (a0_0 != 0) = false := bne_eq_false_iff_eq.mpr c2
  clear c2
  by_cases c3 : a0_1 = 0
  ·rw [if_pos c3] at H
   have c3b0 : (a0_1 == 0) = true := beq_iff_eq.mpr c3
   have c3b1 : (a0_1 != 0) = false := bne_eq_false_iff_eq.mpr c3
   clear c3
   obtain rfl := Option.some.inj H
   go_enter Tryz.func67, Tryz.ntmps67
   go_wp2_with (first | ((with_reducible refine gate_dst (N := 1) rfl ?_); (try (refine gate_guard (by rfl) ?_; dsimp only)); refine bx_ 1 (cs := #[.int .i64 a0_0, .int .i64 a0_1, .string a0_2]) (t := 61) (h_ := ?_); intro gb101 hg w4 hbox hb; have n_ := a4_ (below_step z0_ hb) (hbox) ((gs_ w hg (below_size z0_))) ((gs_ w hg (below_size z0_))); clear HB; obtain ⟨HB, BK101, GW101, GE101⟩ := n_; clear hb hbox hg; obtain ⟨hcz5_0, hcz5_1, hcz5_2, hfz5_0, hfz5_1, hfz5_2⟩ := bcf3 BK101.out))
   go_ret
   exact ⟨z6_, z1_⟩
  ·rw [if_neg c3] at H
   have c3b0 : (a0_1 == 0) = false := beq_eq_false_iff_ne.mpr c3
   have c3b1 : (a0_1 != 0) = true := bne_iff_ne.mpr c3
   obtain rfl := Option.some.inj H
   go_enter Tryz.func67, Tryz.ntmps67
   go_wp2_with (first | ((with_reducible refine gate_dst (N := 1) rfl ?_); (try (refine gate_guard (by rfl) ?_; dsimp only)); refine bx_ 1 (cs := #[.int .i64 a0_0, .int .i64 a0_1, .string a0_2]) (t := 61) (h_ := ?_); intro gb101 hg w6 hbox hb; have n_ := a4_ (below_step z0_ hb) (hbox) ((gs_ w hg (below_size z0_))) ((gs_ w hg (below_size z0_))); clear HB; obtain ⟨HB, BK101, GW101, GE101⟩ := n_; clear hb hbox hg; obtain ⟨hcz7_0, hcz7_1, hcz7_2, hfz7_0, hfz7_1, hfz7_2⟩ := bcf3 BK101.out))
   go_ret
   exact ⟨z6_, z1_⟩
 rw [if_neg c2] at H
 have c2b0 : (a0_0 == 0) = false := beq_eq_false_iff_ne.mpr c2
 have c2b1 : (a0_0 != 0) = true := bne_iff_ne.mpr c2
 by_cases c8 : a0_0 = 1
 ·rw [if_pos c8] at H
  have c8b0 : (a0_0 == 1) = true := beq_iff_eq.mpr c8
  have c8b1 : (a0_0 != 1) = false := bne_eq_false_iff_eq.mpr c8
  clear c8
  replace H := Option.bind_eq_some_iff.mp H
  obtain ⟨t102, A90, H⟩ := H
  have A9 := ak_ A90
  clear A90
  by_cases c10 : t102 = true
  ·subst c10
   have H1 : (some (a0_2.toList == ([] : List UInt8))) = some r := by rw [if_pos rfl] at H; exact H
   clear H
   have H := H1
   clear H1
   obtain rfl := Option.some.inj H
   go_enter Tryz.func67, Tryz.ntmps67
   go_wp2_with (first | ((with_reducible refine gate_dst (N := 1) rfl ?_); (try (refine gate_guard (by rfl) ?_; dsimp only)); refine bx_ 1 (cs := #[.int .i64 a0_0, .int .i64 a0_1, .string a0_2]) (t := 61) (h_ := ?_); intro gb101 hg w11 hbox hb; have n_ := a4_ (below_step z0_ hb) (hbox) ((gs_ w hg (below_size z0_))) ((gs_ w hg (below_size z0_))); clear HB; obtain ⟨HB, BK101, GW101, GE101⟩ := n_; clear hb hbox hg; obtain ⟨hcz12_0, hcz12_1, hcz12_2, hfz12_0, hfz12_1, hfz12_2⟩ := bcf3 BK101.out) | ((with_reducible refine gate_callee (f := 28) rfl ?_); refine goesL_ (some 21) rfl rfl Tryz.func28 (by kernel_rfl) rfl #[.int .i64 a0_1, .int .i64 0, .int .i64 1] rfl z3_ ?_; (with_reducible refine (impl_within.calls a0_1 0 1 true _ A9.out).mono ?_); rintro e w' ⟨rfl, ⟨nd, rfl⟩⟩; refine ⟨_, rfl, ?_⟩))
   go_ret
   exact ⟨z6_, z1_⟩
  ·replace c10 := Bool.eq_false_iff.mpr c10
   subst c10
   have H1 : (some false) = some r := by rw [if_neg (show ¬ (false = true) by decide)] at H; exact H
   clear H
   have H := H1
   clear H1
   obtain rfl := Option.some.inj H
   go_enter Tryz.func67, Tryz.ntmps67
   go_wp2_with (first | ((with_reducible refine gate_dst (N := 1) rfl ?_); (try (refine gate_guard (by rfl) ?_; dsimp only)); refine bx_ 1 (cs := #[.int .i64 a0_0, .int .i64 a0_1, .string a0_2]) (t := 61) (h_ := ?_); intro gb101 hg w13 hbox hb; have n_ := a4_ (below_step z0_ hb) (hbox) ((gs_ w hg (below_size z0_))) ((gs_ w hg (below_size z0_))); clear HB; obtain ⟨HB, BK101, GW101, GE101⟩ := n_; clear hb hbox hg; obtain ⟨hcz14_0, hcz14_1, hcz14_2, hfz14_0, hfz14_1, hfz14_2⟩ := bcf3 BK101.out) | ((with_reducible refine gate_callee (f := 28) rfl ?_); refine goesL_ (some 21) rfl rfl Tryz.func28 (by kernel_rfl) rfl #[.int .i64 a0_1, .int .i64 0, .int .i64 1] rfl z3_ ?_; (with_reducible refine (impl_within.calls a0_1 0 1 false _ A9.out).mono ?_); rintro e w' ⟨rfl, ⟨nd, rfl⟩⟩; refine ⟨_, rfl, ?_⟩))
   go_ret
   exact ⟨z6_, z1_⟩
 rw [if_neg c8] at H
 have c8b0 : (a0_0 == 1) = false := beq_eq_false_iff_ne.mpr c8
 have c8b1 : (a0_0 != 1) = true := bne_iff_ne.mpr c8
 by_cases c15 : a0_0 = 2
 ·rw [if_pos c15] at H
  have c15b0 : (a0_0 == 2) = true := beq_iff_eq.mpr c15
  have c15b1 : (a0_0 != 2) = false := bne_eq_false_iff_eq.mpr c15
  clear c15
  obtain rfl := Option.some.inj H
  go_enter Tryz.func67, Tryz.ntmps67
  go_wp2_with (first | ((with_reducible refine gate_dst (N := 1) rfl ?_); (try (refine gate_guard (by rfl) ?_; dsimp only)); refine bx_ 1 (cs := #[.int .i64 a0_0, .int .i64 a0_1, .string a0_2]) (t := 61) (h_ := ?_); intro gb101 hg w16 hbox hb; have n_ := a4_ (below_step z0_ hb) (hbox) ((gs_ w hg (below_size z0_))) ((gs_ w hg (below_size z0_))); clear HB; obtain ⟨HB, BK101, GW101, GE101⟩ := n_; clear hb hbox hg; obtain ⟨hcz17_0, hcz17_1, hcz17_2, hfz17_0, hfz17_1, hfz17_2⟩ := bcf3 BK101.out))
  go_ret
  exact ⟨z6_, z1_⟩
 rw [if_neg c15] at H
 have c15b0 : (a0_0 == 2) = false := beq_eq_false_iff_ne.mpr c15
 have c15b1 : (a0_0 != 2) = true := bne_iff_ne.mpr c15
 replace H := Option.bind_eq_some_iff.mp H
 obtain ⟨t103, A180, H⟩ := H
 have A18 := ak_ A180
 clear A180
 by_cases c19 : t103 = true
 rotate_left
 ·replace c19 := Bool.eq_false_iff.mpr c19
  subst c19
  have H1 : (some false) = some r := by rw [if_neg (show ¬ (false = true) by decide)] at H; exact H
  clear H
  have H := H1
  clear H1
  obtain rfl := Option.some.inj H
  go_enter Tryz.func67, Tryz.ntmps67
  go_wp2_with (first | ((with_reducible refine gate_dst (N := 1) rfl ?_); (try (refine gate_guard (by rfl) ?_; dsimp only)); refine bx_ 1 (cs := #[.int .i64 a0_0, .int .i64 a0_1, .string a0_2]) (t := 61) (h_ := ?_); intro gb101 hg w25 hbox hb; have n_ := a4_ (below_step z0_ hb) (hbox) ((gs_ w hg (below_size z0_))) ((gs_ w hg (below_size z0_))); clear HB; obtain ⟨HB, BK101, GW101, GE101⟩ := n_; clear hb hbox hg; obtain ⟨hcz26_0, hcz26_1, hcz26_2, hfz26_0, hfz26_1, hfz26_2⟩ := bcf3 BK101.out) | ((with_reducible refine gate_callee (f := 70) rfl ?_); refine goesL_ (some 36) rfl rfl Tryz.func70 (by kernel_rfl) rfl #[.int .i64 a0_0] rfl z3_ ?_; (with_reducible refine (impl_hasText.calls a0_0 false _ A18.out).mono ?_); rintro e w' ⟨rfl, ⟨nd, rfl⟩⟩; refine ⟨_, rfl, ?_⟩))
  go_ret
  exact ⟨z6_, z1_⟩

 subst c19
 have H1 : (if a0_1 = 0 then (some (decide ((a0_2.size : Int) ≤ 60))) else (some false)) = some r := by rw [if_pos rfl] at H; exact H
 clear H
 have H := H1
 clear H1
 by_cases c20 : a0_1 = 0
 rotate_left
 ·rw [if_neg c20] at H
  have c20b0 : (a0_1 == 0) = false := beq_eq_false_iff_ne.mpr c20
  have c20b1 : (a0_1 != 0) = true := bne_iff_ne.mpr c20
  obtain rfl := Option.some.inj H
  go_enter Tryz.func67, Tryz.ntmps67
  go_wp2_with (first | ((with_reducible refine gate_dst (N := 1) rfl ?_); (try (refine gate_guard (by rfl) ?_; dsimp only)); refine bx_ 1 (cs := #[.int .i64 a0_0, .int .i64 a0_1, .string a0_2]) (t := 61) (h_ := ?_); intro gb101 hg w23 hbox hb; have n_ := a4_ (below_step z0_ hb) (hbox) ((gs_ w hg (below_size z0_))) ((gs_ w hg (below_size z0_))); clear HB; obtain ⟨HB, BK101, GW101, GE101⟩ := n_; clear hb hbox hg; obtain ⟨hcz24_0, hcz24_1, hcz24_2, hfz24_0, hfz24_1, hfz24_2⟩ := bcf3 BK101.out) | ((with_reducible refine gate_callee (f := 70) rfl ?_); refine goesL_ (some 36) rfl rfl Tryz.func70 (by kernel_rfl) rfl #[.int .i64 a0_0] rfl z3_ ?_; (with_reducible refine (impl_hasText.calls a0_0 true _ A18.out).mono ?_); rintro e w' ⟨rfl, ⟨nd, rfl⟩⟩; refine ⟨_, rfl, ?_⟩))
  go_ret
  exact ⟨z6_, z1_⟩
 rw [if_pos c20] at H
 have c20b0 : (a0_1 == 0) = true := beq_iff_eq.mpr c20
 have c20b1 : (a0_1 != 0) = false := bne_eq_false_iff_eq.mpr c20
 clear c20
 obtain rfl := Option.some.inj H
 go_enter Tryz.func67, Tryz.ntmps67
 go_wp2_with (first | ((with_reducible refine gate_dst (N := 1) rfl ?_); (try (refine gate_guard (by rfl) ?_; dsimp only)); refine bx_ 1 (cs := #[.int .i64 a0_0, .int .i64 a0_1, .string a0_2]) (t := 61) (h_ := ?_); intro gb101 hg w21 hbox hb; have n_ := a4_ (below_step z0_ hb) (hbox) ((gs_ w hg (below_size z0_))) ((gs_ w hg (below_size z0_))); clear HB; obtain ⟨HB, BK101, GW101, GE101⟩ := n_; clear hb hbox hg; obtain ⟨hcz22_0, hcz22_1, hcz22_2, hfz22_0, hfz22_1, hfz22_2⟩ := bcf3 BK101.out) | ((with_reducible refine gate_callee (f := 70) rfl ?_); refine goesL_ (some 36) rfl rfl Tryz.func70 (by kernel_rfl) rfl #[.int .i64 a0_0] rfl z3_ ?_; (with_reducible refine (impl_hasText.calls a0_0 true _ A18.out).mono ?_); rintro e w' ⟨rfl, ⟨nd, rfl⟩⟩; refine ⟨_, rfl, ?_⟩))
 go_ret
 exact ⟨z6_, z1_⟩
end

section
def impl_rowOK_1.f (a0_0 : Int) (a0_1 : Int) (a0_2 : ByteArray) : Option (Bool) := (impl_ValueOK.f a0_0 a0_1 a0_2).bind fun t102 => (some (!t102))
theorem impl_rowOK_1.calls (a0_0 : Int) (a0_1 : Int) (a0_2 : ByteArray) (r : Bool) (w : World) (h : impl_rowOK_1.f a0_0 a0_1 a0_2 = some r) :
  Calls Tryz.prog 66 #[.agg #[.int .i64 a0_0, .int .i64 a0_1, .string a0_2]] w fun e w' => e = .returned (.bool r) ∧ Below w.heap.size w w' := by
 have hu61 := Tryz.underlying61
 have HB := ak_ (Below.refl w.heap.size w)
 have H : ((impl_ValueOK.f a0_0 a0_1 a0_2).bind fun t102 => (some (!t102))) = some r := h
 clear h
 replace H := Option.bind_eq_some_iff.mp H
 obtain ⟨t102, A20, H⟩ := H
 have A2 := ak_ A20
 clear A20
 obtain rfl := Option.some.inj H
 go_enter Tryz.func66, Tryz.ntmps66
 go_wp2_with (first | ((with_reducible refine gate_dst (N := 1) rfl ?_); refine bx_ 1 (cs := #[.int .i64 a0_0, .int .i64 a0_1, .string a0_2]) (t := 61) (h_ := ?_); intro gb101 hg w3 hbox hb; have n_ := a4_ (below_step z0_ hb) (hbox) ((gs_ w hg (below_size z0_))) ((gs_ w hg (below_size z0_))); clear HB; obtain ⟨HB, BK101, GW101, GE101⟩ := n_; clear hb hbox hg; obtain ⟨hcz4_0, hcz4_1, hcz4_2, hfz4_0, hfz4_1, hfz4_2⟩ := bcf3 BK101.out) | ((with_reducible refine gate_callee (f := 67) rfl ?_); refine goesL_ (some 4) rfl rfl Tryz.func67 (by kernel_rfl) rfl #[.agg #[.int .i64 a0_0, .int .i64 a0_1, .string a0_2]] rfl z3_ ?_; (with_reducible refine (impl_ValueOK.calls a0_0 a0_1 a0_2 t102 _ A2.out).mono ?_); rintro e w5 ⟨rfl, hb⟩; refine ⟨_, rfl, ?_⟩; have n_ := a2_ (blk_below (g := gb101) (o := .cells #[.int .i64 a0_0, .int .i64 a0_1, .string a0_2] 61 (0, 0)) z2_ hb) (below_step z1_ hb); clear BK101 HB; obtain ⟨BK101, HB⟩ := n_; (try clear hb); (try clear hb2); (try clear hk); (try clear hi)))
 go_ret
 exact ⟨z6_, z1_⟩
end

section
def impl_rowOK_1_any.f (l0 : List (S61)) : Option Bool := anyO (fun x => impl_rowOK_1.f x.f0 x.f1 x.f2) l0
theorem impl_rowOK_1_any.calls (A0 : Option Addr) (c0 : Nat) (l0 : List (S61)) (r : Bool) (w : World) (hr0 : Kd.C k61 w A0 l0.length l0) (hc0 : l0.length ≤ c0) (h : impl_rowOK_1_any.f l0 = some r) :
  Calls Tryz.prog 65 #[.slice A0 l0.length c0, .func (.func 66) #[] #[]] w fun e w' => e = .returned (.bool r) ∧ Below w.heap.size w w' := by
 obtain ⟨hall, rfl⟩ := anyO_some h
 refine impl_Value_65.any 66 #[] (fun x => (impl_rowOK_1.f x.f0 x.f1 x.f2).getD false) A0 c0 l0 w hr0 (fun _ _ => by kernel_rfl) ?_
 intro W x hx hb
 simp only [Array.append_empty]
 exact (impl_rowOK_1.calls x.f0 x.f1 x.f2 _ W (getD_of (hall x hx))).mono fun e w' h_ => ⟨h_.1, below_step hb h_.2⟩
end

section
def impl_rowOK.f (l0 : List (S61)) : Option (Bool) := if (l0.length : Int) ≤ 8 then ((impl_rowOK_1_any.f l0).bind fun t101 => (some (!t101))) else (some false)
theorem impl_rowOK.calls (A0 : Option Addr) (c0 : Nat) (l0 : List (S61)) (r : Bool) (w : World) (hr0 : Kd.C k61 w A0 l0.length l0) (hc0 : l0.length ≤ c0) (h : impl_rowOK.f l0 = some r) :
  Calls Tryz.prog 45 #[.slice A0 l0.length c0] w fun e w' => e = .returned (.bool r) ∧ Below w.heap.size w w' := by
 have HR0 := ak_ hr0
 have HC0 := ak_ hc0
 clear hr0 hc0
 have HB := ak_ (Below.refl w.heap.size w)
 have H : (if (l0.length : Int) ≤ 8 then ((impl_rowOK_1_any.f l0).bind fun t101 => (some (!t101))) else (some false)) = some r := h
 clear h
 by_cases c2 : (l0.length : Int) ≤ 8
 rotate_left
 ·rw [if_neg c2] at H
  have c2b0 := decide_eq_false c2
  have c2b1 : decide (l0.length ≤ 8) = false := decide_eq_false (by omega)
  clear c2
  obtain rfl := Option.some.inj H
  go_enter Tryz.func45, Tryz.ntmps45
  go_wp2
  go_ret
  exact ⟨z6_, z0_⟩

 rw [if_pos c2] at H
 have c2b0 := decide_eq_true c2
 have c2b1 : decide (l0.length ≤ 8) = true := decide_eq_true (by omega)
 clear c2
 replace H := Option.bind_eq_some_iff.mp H
 obtain ⟨t101, A30, H⟩ := H
 have A3 := ak_ A30
 clear A30
 obtain rfl := Option.some.inj H
 go_enter Tryz.func45, Tryz.ntmps45
 go_wp2_with (first | (go_at_call 65; (with_reducible refine (impl_rowOK_1_any.calls _ _ l0 t101 _ ?side1 ?side2 A3.out).mono ?_); (case side1 => exact cz_ (HR0.out)); (case side2 => exact HC0.out); rintro e w4 ⟨rfl, hb⟩; have n_ := ak_ (below_step z0_ hb); clear HB; have HB := n_; clear n_; (try clear hb); (try clear hb2); (try clear hk); (try clear hi)))
 go_ret
 exact ⟨z6_, z0_⟩
end

section
def impl_Column_fits.j0 : Nat → Bool → ByteArray → Int → Bool → Int → Int → ByteArray → Option (Int)
 | 0, _, _, _, _, _, _, _ => none
 | k + 1, x5, x102000, x102001, x102002, x103000, x103001, x103002 => if x5 = true then (some 14) else (if x103000 = 0 then (some 0) else (if x103000 = x102001 then (some 0) else (some 10)))
def impl_Column_fits.f (k : Nat) (a0_0 : ByteArray) (a0_1 : Int) (a0_2 : Bool) (a1_0 : Int) (a1_1 : Int) (a1_2 : ByteArray) : Option (Int) := if a1_0 = 0 then (impl_Column_fits.j0 k (!a0_2) a0_0 a0_1 a0_2 a1_0 a1_1 a1_2) else (impl_Column_fits.j0 k false a0_0 a0_1 a0_2 a1_0 a1_1 a1_2)
theorem impl_Column_fits.mono_l : ∀ k, (∀ y0 y1 y2 y3 y4 y5 y6, LeO (impl_Column_fits.j0 k y0 y1 y2 y3 y4 y5 y6) (impl_Column_fits.j0 (k + 1) y0 y1 y2 y3 y4 y5 y6))
 | 0 => fun _ _ _ _ _ _ _ r h => by simp [impl_Column_fits.j0] at h
 | k + 1 => by
  have ih0 := impl_Column_fits.mono_l k
  intro y0 y1 y2 y3 y4 y5 y6
  unfold impl_Column_fits.j0
  repeat' first | with_reducible (first | exact ih0 _ _ _ _ _ _ _ | exact LeO.refl _ | exact LeO.none _ | refine LeO.ite ?_ ?_ | refine LeO.bind ?_ (fun _ => ?_)) | exact ih0 _ _ _ _ _ _ _ | exact LeO.none _ | refine LeO.ite ?_ ?_ | refine LeO.bind ?_ (fun _ => ?_)
theorem impl_Column_fits.mono : ∀ a0 a1 a2 a3 a4 a5 k, LeO (impl_Column_fits.f k a0 a1 a2 a3 a4 a5) (impl_Column_fits.f (k + 1) a0 a1 a2 a3 a4 a5) := by
 intro a0 a1 a2 a3 a4 a5 k
 have ih0 := impl_Column_fits.mono_l k
 unfold impl_Column_fits.f
 repeat' first
   | (with_reducible exact ih0 _ _ _ _ _ _ _)
   | (with_reducible exact LeO.refl _)
   | (with_reducible exact LeO.none _)
   | (with_reducible refine LeO.ite ?_ ?_)
   | (with_reducible refine LeO.bind ?_ (fun _ => ?_))
   | exact ih0 _ _ _ _ _ _ _
   | exact LeO.none _
   | refine LeO.ite ?_ ?_
   | refine LeO.bind ?_ (fun _ => ?_)
theorem impl_Column_fits.calls (k : Nat) (a0_0 : ByteArray) (a0_1 : Int) (a0_2 : Bool) (a1_0 : Int) (a1_1 : Int) (a1_2 : ByteArray) (r : Int) (w : World) (h : impl_Column_fits.f k a0_0 a0_1 a0_2 a1_0 a1_1 a1_2 = some r) :
  Calls Tryz.prog 68 #[.agg #[.string a0_0, .int .i64 a0_1, .bool a0_2], .agg #[.int .i64 a1_0, .int .i64 a1_1, .string a1_2]] w fun e w' => e = .returned (.int .i64 r) ∧ Below w.heap.size w w' := by
 have hu78 := Tryz.underlying78
 have hu61 := Tryz.underlying61
 have HB := ak_ (Below.refl w.heap.size w)
 have H := h
 unfold impl_Column_fits.f at H
 clear h
 have HC3 := ak_ H
 clear H
 go_enter Tryz.func68, Tryz.ntmps68
 go_upto_region 1 with (first | ((with_reducible refine gate_dst (N := 2) rfl ?_); refine bx_ 2 (cs := #[.string a0_0, .int .i64 a0_1, .bool a0_2]) (t := 78) (h_ := ?_); intro gb101 hg w4 hbox hb; have n_ := a4_ (below_step z0_ hb) (hbox) ((gs_ w hg (below_size z0_))) ((gs_ w hg (below_size z0_))); clear HB; obtain ⟨HB, BK101, GW101, GE101⟩ := n_; clear hb hbox hg) | ((with_reducible refine gate_dst (N := 3) rfl ?_); refine bx_ 3 (cs := #[.int .i64 a1_0, .int .i64 a1_1, .string a1_2]) (t := 61) (h_ := ?_); intro gb102 hg w5 hbox hb; have n_ := a7_ (blk_below (g := gb101) (o := .cells #[.string a0_0, .int .i64 a0_1, .bool a0_2] 78 (0, 0)) z2_ hb) (below_step z1_ hb) (hbox) ((gs_ w hg (below_size z1_))) ((gs_ w hg (below_size z1_))) ((z41_ : gb101 ≠ gb102)) ((z42_ : gb102 ≠ gb101)); clear BK101 HB; obtain ⟨BK101, HB, BK102, GW102, GE102, NB101_102, NB102_101⟩ := n_; clear hb hbox hg))
 (try simp only [Act.put, sz1_, sz2_, sz3_])
 go_cut [5] (fun v5 wc => ∃ (kq : Nat) (x5_2 : Bool), v5 = .bool x5_2 ∧ Aside0 (impl_Column_fits.j0 kq x5_2 a0_0 a0_1 a0_2 a1_0 a1_1 a1_2 = some r) ∧ Aside0 (kq ≤ k) ∧ Aside0 (wc.heap[gb101]? = some (.cells #[.string a0_0, .int .i64 a0_1, .bool a0_2] 78 (0, 0))) ∧ Aside0 (wc.heap[gb102]? = some (.cells #[.int .i64 a1_0, .int .i64 a1_1, .string a1_2] 61 (0, 0))) ∧ Aside0 (Below w.heap.size w wc))
 case first =>
  have H := HC3.out
  clear HC3
  by_cases c6 : a1_0 = 0
  rotate_left
  ·rw [if_neg c6] at H
   have c6b0 : (a1_0 == 0) = false := beq_eq_false_iff_ne.mpr c6
   have c6b1 : (a1_0 != 0) = true := bne_iff_ne.mpr c6
   (first | rw [c6b0] | (simp only [i64_w, i32_w]; rw [c6b0]) | skip)
   have H' := ak_ H
   clear H
   have hnb10 := NB102_101.out
   have hnc10 := NB101_102.out
   obtain ⟨hcz11_0, hcz11_1, hcz11_2, hfz11_0, hfz11_1, hfz11_2⟩ := bcf3 BK102.out
   go_wp2
   go_meet
   case rel => exact ⟨_, (false), z8_, H', ⟨by first | omega | exact Nat.le_refl _⟩, ⟨z2_⟩, ⟨z11_⟩, ⟨z4_⟩⟩
  rw [if_pos c6] at H
  have c6b0 : (a1_0 == 0) = true := beq_iff_eq.mpr c6
  have c6b1 : (a1_0 != 0) = false := bne_eq_false_iff_eq.mpr c6
  clear c6
  (first | rw [c6b0] | (simp only [i64_w, i32_w]; rw [c6b0]) | skip)
  have H' := ak_ H
  clear H
  have hnb7 := NB102_101.out
  have hnc7 := NB101_102.out
  obtain ⟨hcz8_0, hcz8_1, hcz8_2, hfz8_0, hfz8_1, hfz8_2⟩ := bcf3 BK102.out
  obtain ⟨hcz9_0, hcz9_1, hcz9_2, hfz9_0, hfz9_1, hfz9_2⟩ := bcf3 BK101.out
  go_wp2
  go_meet
  case rel => exact ⟨_, (!a0_2), z8_, H', ⟨by first | omega | exact Nat.le_refl _⟩, ⟨z2_⟩, ⟨z11_⟩, ⟨z4_⟩⟩
 case rest =>
  clear HC3
  try clear c1
  try clear p2
  try clear c6
  try clear c6b0
  try clear c6b1
  try clear c7
  try clear c10
  try clear hcz11_0
  try clear hcz11_1
  try clear hcz11_2
  try clear hcz8_0
  try clear hcz8_1
  try clear hcz8_2
  try clear hcz9_0
  try clear hcz9_1
  try clear hcz9_2
  try clear hfz11_0
  try clear hfz11_1
  try clear hfz11_2
  try clear hfz8_0
  try clear hfz8_1
  try clear hfz8_2
  try clear hfz9_0
  try clear hfz9_1
  try clear hfz9_2
  obtain ⟨kq, x5_2, rfl, HA, HJ2, BK101, BK102, HB⟩ := hcut
  cases kq with
  | zero => exact absurd HA.out (by simp [impl_Column_fits.j0])
  | succ kj2 =>
   have H := HA.out
   clear HA
   simp only [impl_Column_fits.j0] at H
   by_cases c12 : x5_2 = true
   ·subst c12
    have H1 : (some 14) = some r := by rw [if_pos rfl] at H; exact H
    clear H
    have H := H1
    clear H1
    obtain rfl := Option.some.inj H
    go_wp2
    go_ret
    exact ⟨z6_, z4_⟩
   replace c12 := Bool.eq_false_iff.mpr c12
   subst c12
   have H1 : (if a1_0 = 0 then (some 0) else (if a1_0 = a0_1 then (some 0) else (some 10))) = some r := by rw [if_neg (show ¬ (false = true) by decide)] at H; exact H
   clear H
   have H := H1
   clear H1
   by_cases c13 : a1_0 = 0
   ·rw [if_pos c13] at H
    have c13b0 : (a1_0 == 0) = true := beq_iff_eq.mpr c13
    have c13b1 : (a1_0 != 0) = false := bne_eq_false_iff_eq.mpr c13
    clear c13
    obtain rfl := Option.some.inj H
    have hnb14 := NB102_101.out
    have hnc14 := NB101_102.out
    obtain ⟨hcz15_0, hcz15_1, hcz15_2, hfz15_0, hfz15_1, hfz15_2⟩ := bcf3 BK102.out
    go_wp2
    go_ret
    exact ⟨z6_, z4_⟩
   rw [if_neg c13] at H
   have c13b0 : (a1_0 == 0) = false := beq_eq_false_iff_ne.mpr c13
   have c13b1 : (a1_0 != 0) = true := bne_iff_ne.mpr c13
   by_cases c16 : a1_0 = a0_1
   rotate_left
   ·rw [if_neg c16] at H
    have c16b0 : (a1_0 == a0_1) = false := beq_eq_false_iff_ne.mpr c16
    have c16b1 : (a1_0 != a0_1) = true := bne_iff_ne.mpr c16
    obtain rfl := Option.some.inj H
    have hnb20 := NB102_101.out
    have hnc20 := NB101_102.out
    obtain ⟨hcz21_0, hcz21_1, hcz21_2, hfz21_0, hfz21_1, hfz21_2⟩ := bcf3 BK102.out
    obtain ⟨hcz22_0, hcz22_1, hcz22_2, hfz22_0, hfz22_1, hfz22_2⟩ := bcf3 BK101.out
    go_wp2
    go_ret
    exact ⟨z6_, z4_⟩

   rw [if_pos c16] at H
   have c16b0 : (a1_0 == a0_1) = true := beq_iff_eq.mpr c16
   have c16b1 : (a1_0 != a0_1) = false := bne_eq_false_iff_eq.mpr c16
   clear c16
   obtain rfl := Option.some.inj H
   have hnb17 := NB102_101.out
   have hnc17 := NB101_102.out
   obtain ⟨hcz18_0, hcz18_1, hcz18_2, hfz18_0, hfz18_1, hfz18_2⟩ := bcf3 BK102.out
   obtain ⟨hcz19_0, hcz19_1, hcz19_2, hfz19_0, hfz19_1, hfz19_2⟩ := bcf3 BK101.out
   go_wp2
   go_ret
   exact ⟨z6_, z4_⟩
end

section
def impl_Table_rowCode.l0 : Nat → List (S61) → List (S78) → Int → Int → Option (Int × Int)
 | 0, _, _, _, _ => none
 | k + 1, x1, x16, x17, x18 => if x18 < x17 then (if 0 ≤ x18 then (if x18 < (x16.length : Int) then (if x18 < (x1.length : Int) then ((impl_Column_fits.f k ((rd_T78 x16 x18).f0) ((rd_T78 x16 x18).f1) ((rd_T78 x16 x18).f2) ((rd_T61 x1 x18).f0) ((rd_T61 x1 x18).f1) ((rd_T61 x1 x18).f2)).bind fun t105 => (if t105 = 0 then (impl_Table_rowCode.l0 k x1 x16 x17 (wrap64 (x18 + 1))) else (some (t105, x18)))) else (none)) else (none)) else (none)) else (some (0, 0))
def impl_Table_rowCode.f (k : Nat) (a0_0 : ByteArray) (l0_1 : List (S78)) (a0_2 : Int) (l0_3 : List (S58)) (l1 : List (S61)) : Option (Int × Int) := if (l1.length : Int) = (l0_1.length : Int) then (impl_Table_rowCode.l0 k l1 l0_1 (l0_1.length : Int) 0) else (some (12, 0))
theorem impl_Table_rowCode.mono_l : ∀ k, (∀ y0 y1 y2 y3, LeO (impl_Table_rowCode.l0 k y0 y1 y2 y3) (impl_Table_rowCode.l0 (k + 1) y0 y1 y2 y3))
 | 0 => fun _ _ _ _ r h => by simp [impl_Table_rowCode.l0] at h
 | k + 1 => by
  have ih0 := impl_Table_rowCode.mono_l k
  intro y0 y1 y2 y3
  unfold impl_Table_rowCode.l0
  repeat' first | with_reducible (first | exact ih0 _ _ _ _ | exact impl_Column_fits.mono _ _ _ _ _ _ _ | exact LeO.refl _ | exact LeO.none _ | refine LeO.ite ?_ ?_ | refine LeO.bind ?_ (fun _ => ?_)) | exact ih0 _ _ _ _ | exact impl_Column_fits.mono _ _ _ _ _ _ _ | exact LeO.none _ | refine LeO.ite ?_ ?_ | refine LeO.bind ?_ (fun _ => ?_)
theorem impl_Table_rowCode.mono : ∀ a0 a1 a2 a3 a4 k, LeO (impl_Table_rowCode.f k a0 a1 a2 a3 a4) (impl_Table_rowCode.f (k + 1) a0 a1 a2 a3 a4) := by
 intro a0 a1 a2 a3 a4 k
 have ih0 := impl_Table_rowCode.mono_l k
 unfold impl_Table_rowCode.f
 repeat' first
   | (with_reducible exact ih0 _ _ _ _)
   | (with_reducible exact impl_Column_fits.mono _ _ _ _ _ _ _)
   | (with_reducible exact LeO.refl _)
   | (with_reducible exact LeO.none _)
   | (with_reducible refine LeO.ite ?_ ?_)
   | (with_reducible refine LeO.bind ?_ (fun _ => ?_))
   | exact ih0 _ _ _ _
   | exact impl_Column_fits.mono _ _ _ _ _ _ _
   | exact LeO.none _
   | refine LeO.ite ?_ ?_
   | refine LeO.bind ?_ (fun _ => ?_)
theorem impl_Table_rowCode.calls (k : Nat) (a0_0 : ByteArray) (A0_1 : Option Addr) (c0_1 : Nat) (l0_1 : List (S78)) (a0_2 : Int) (A0_3 : Option Addr) (c0_3 : Nat) (l0_3 : List (S58)) (A1 : Option Addr) (c1 : Nat) (l1 : List (S61)) (r1 : Int) (r2 : Int) (w : World) (hr0_1 : Kd.C k78 w A0_1 l0_1.length l0_1) (hc0_1 : l0_1.length ≤ c0_1) (hr0_3 : Kd.C k58 w A0_3 l0_3.length l0_3) (hc0_3 : l0_3.length ≤ c0_3) (hr1 : Kd.C k61 w A1 l1.length l1) (hc1 : l1.length ≤ c1) (h : impl_Table_rowCode.f k a0_0 l0_1 a0_2 l0_3 l1 = some (r1, r2)) :
  Calls Tryz.prog 46 #[.agg #[.string a0_0, .slice A0_1 l0_1.length c0_1, .int .i64 a0_2, .slice A0_3 l0_3.length c0_3], .slice A1 l1.length c1] w fun e w' => e = .returned (.tuple #[.int .i64 r1, .int .i64 r2]) ∧ Below w.heap.size w w' := by
 have hu35 := Tryz.underlying35
 have hu78 := Tryz.underlying78
 have hu61 := Tryz.underlying61
 have HR0_1 := ak_ hr0_1
 have HC0_1 := ak_ hc0_1
 clear hr0_1 hc0_1
 have HR0_3 := ak_ hr0_3
 have HC0_3 := ak_ hc0_3
 clear hr0_3 hc0_3
 have HR1 := ak_ hr1
 have HC1 := ak_ hc1
 clear hr1 hc1
 have HB := ak_ (Below.refl w.heap.size w)
 have H := h
 unfold impl_Table_rowCode.f at H
 clear h
 by_cases c3 : (l1.length : Int) = (l0_1.length : Int)
 rotate_left
 ·rw [if_neg c3] at H
  have c3b0 : ((l1.length : Int) == (l0_1.length : Int)) = false := beq_eq_false_iff_ne.mpr c3
  have c3b1 : ((l1.length : Int) != (l0_1.length : Int)) = true := bne_iff_ne.mpr c3
  have c3b2 : (l1.length == l0_1.length) = false := by first | simpa using c3 | (simp at c3 ⊢; omega)
  simp only [Option.some.injEq, Prod.mk.injEq] at H
  obtain ⟨rfl, rfl⟩ := H
  go_enter Tryz.func46, Tryz.ntmps46
  go_wp2_with (first | ((with_reducible refine gate_dst (N := 2) rfl ?_); refine bx_ 2 (cs := #[.string a0_0, .slice A0_1 l0_1.length c0_1, .int .i64 a0_2, .slice A0_3 l0_3.length c0_3]) (t := 35) (h_ := ?_); intro gb101 hg w24 hbox hb; have n_ := a4_ (below_step z0_ hb) (hbox) ((gs_ w hg (below_size z0_))) ((gs_ w hg (below_size z0_))); clear HB; obtain ⟨HB, BK101, GW101, GE101⟩ := n_; clear hb hbox hg; obtain ⟨hcz25_0, hcz25_1, hcz25_2, hcz25_3, hfz25_0, hfz25_1, hfz25_2, hfz25_3⟩ := bcf4 BK101.out))
  go_ret2
  exact ⟨z6_, z1_⟩

 rw [if_pos c3] at H
 have c3b0 : ((l1.length : Int) == (l0_1.length : Int)) = true := beq_iff_eq.mpr c3
 have c3b1 : ((l1.length : Int) != (l0_1.length : Int)) = false := bne_eq_false_iff_eq.mpr c3
 have c3b2 : (l1.length == l0_1.length) = true := by first | simpa using c3 | (simp at c3 ⊢; omega)
 clear c3
 have H' := ak_ H
 clear H
 go_enter Tryz.func46, Tryz.ntmps46
 go_wp2_with (first | ((with_reducible refine gate_dst (N := 2) rfl ?_); refine bx_ 2 (cs := #[.string a0_0, .slice A0_1 l0_1.length c0_1, .int .i64 a0_2, .slice A0_3 l0_3.length c0_3]) (t := 35) (h_ := ?_); intro gb101 hg w4 hbox hb; have n_ := a4_ (below_step z0_ hb) (hbox) ((gs_ w hg (below_size z0_))) ((gs_ w hg (below_size z0_))); clear HB; obtain ⟨HB, BK101, GW101, GE101⟩ := n_; clear hb hbox hg; obtain ⟨hcz5_0, hcz5_1, hcz5_2, hcz5_3, hfz5_0, hfz5_1, hfz5_2, hfz5_3⟩ := bcf4 BK101.out))
 go_loopg [18] k (fun kq v18 w' => ∃ (x18_1 : Int), v18 = .int .i64 x18_1 ∧ Aside0 (impl_Table_rowCode.l0 kq l1 l0_1 (l0_1.length : Int) x18_1 = some (r1, r2)) ∧ Aside0 (kq ≤ k) ∧ Aside0 (w'.heap[gb101]? = some (.cells #[.string a0_0, (.slice A0_1 l0_1.length c0_1), .int .i64 a0_2, (.slice A0_3 l0_3.length c0_3)] 35 (0, 0))) ∧ Aside0 (Below w.heap.size w w'))
 case atStart => exact ⟨(0), z8_, H', ⟨Nat.le_refl _⟩, ⟨z2_⟩, ⟨z1_⟩⟩
 case round =>
  clear H'
  try clear c1
  try clear p2
  try clear c3
  try clear c3b0
  try clear c3b1
  try clear c3b2
  try clear c4
  try clear hcz5_0
  try clear hcz5_1
  try clear hcz5_2
  try clear hcz5_3
  try clear hfz5_0
  try clear hfz5_1
  try clear hfz5_2
  try clear hfz5_3
  obtain ⟨x18_1, rfl, HA, HK1, BK101, HB⟩ := hrel
  cases gk with
  | zero => exact absurd HA.out (by simp [impl_Table_rowCode.l0])
  | succ k1 =>
   have H := HA.out
   clear HA
   simp only [impl_Table_rowCode.l0] at H
   by_cases c6 : x18_1 < (l0_1.length : Int)
   rotate_left
   ·rw [if_neg c6] at H
    have c6b0 := decide_eq_false c6
    clear c6
    simp only [Option.some.injEq, Prod.mk.injEq] at H
    obtain ⟨rfl, rfl⟩ := H
    go_wp2
    go_ret2
    exact ⟨z6_, z1_⟩
   rw [if_pos c6] at H
   have c6b0 := decide_eq_true c6
   clear c6
   by_cases c7 : 0 ≤ x18_1
   rotate_left
   ·rw [if_neg c7] at H
    exact absurd H (by simp)
   rw [if_pos c7] at H
   have c7b0 := decide_eq_true c7
   clear c7
   by_cases c8 : x18_1 < (l0_1.length : Int)
   rotate_left
   ·rw [if_neg c8] at H
    exact absurd H (by simp)
   rw [if_pos c8] at H
   have c8b0 := decide_eq_true c8
   clear c8
   by_cases c9 : x18_1 < (l1.length : Int)
   rotate_left
   ·rw [if_neg c9] at H
    exact absurd H (by simp)
   rw [if_pos c9] at H
   have c9b0 := decide_eq_true c9
   clear c9
   replace H := Option.bind_eq_some_iff.mp H
   obtain ⟨t105, A100, H⟩ := H
   have A10 := ak_ A100
   clear A100
   by_cases c11 : t105 = 0
   rotate_left
   ·rw [if_neg c11] at H
    have c11b0 : (t105 == 0) = false := beq_eq_false_iff_ne.mpr c11
    have c11b1 : (t105 != 0) = true := bne_iff_ne.mpr c11
    simp only [Option.some.injEq, Prod.mk.injEq] at H
    obtain ⟨rfl, rfl⟩ := H
    have p102 : 0 ≤ (x18_1 : Int) := of_decide_eq_true z5_
    have q102 : x18_1 < (l0_1.length : Int) := of_decide_eq_true z5_
    obtain ⟨ad102, e102, hx102_0, hx102_1, hx102_2⟩ := at_T78 HR0_1.out x18_1 p102 q102
    cases e102
    replace hx102_0 := oc_ HB.out hx102_0
    replace hx102_1 := oc_ HB.out hx102_1
    replace hx102_2 := oc_ HB.out hx102_2
    replace p102 := eq_true p102
    replace q102 := eq_true q102
    try go_wp2_with (first | ((with_reducible refine gate_dst (N := 7) rfl ?_); refine bx_ 7 (cs := #[.string (⟨#[]⟩ : ByteArray), .int .i64 0, .bool false]) (t := 78) (h_ := ?_); intro gb103 hg w18 hbox hb; have n_ := a7_ (blk_below (g := gb101) (o := .cells #[.string a0_0, .slice (some ad102) l0_1.length c0_1, .int .i64 a0_2, .slice A0_3 l0_3.length c0_3] 35 (0, 0)) z2_ hb) (below_step z1_ hb) (hbox) ((gs_ w hg (below_size z1_))) ((gs_ w hg (below_size z1_))) ((z83_ : gb101 ≠ gb103)) ((z84_ : gb103 ≠ gb101)); clear BK101 HB; obtain ⟨BK101, HB, BK103, GW103, GE103, NB101_103, NB103_101⟩ := n_; clear hb hbox hg; have hnb19 := NB103_101.out; have hnc19 := NB101_103.out; obtain ⟨hcz20_0, hcz20_1, hcz20_2, hfz20_0, hfz20_1, hfz20_2⟩ := bcf3 BK103.out))
    have n0_ : Aside0 ((((w18.setCell ⟨gb103, 0, none⟩ (.string ((rd_T78 l0_1 x18_1).f0))).setCell ⟨gb103, 1, none⟩ (.int .i64 ((rd_T78 l0_1 x18_1).f1))).setCell ⟨gb103, 2, none⟩ (.bool ((rd_T78 l0_1 x18_1).f2))).heap[gb101]? = some (.cells #[.string a0_0, .slice (some ad102) l0_1.length c0_1, .int .i64 a0_2, .slice A0_3 l0_3.length c0_3] 35 (0, 0))) := ⟨z43_⟩
    have n1_ : Aside0 ((((w18.setCell ⟨gb103, 0, none⟩ (.string ((rd_T78 l0_1 x18_1).f0))).setCell ⟨gb103, 1, none⟩ (.int .i64 ((rd_T78 l0_1 x18_1).f1))).setCell ⟨gb103, 2, none⟩ (.bool ((rd_T78 l0_1 x18_1).f2))).heap[gb103]? = some (.cells #[.string ((rd_T78 l0_1 x18_1).f0), .int .i64 ((rd_T78 l0_1 x18_1).f1), .bool ((rd_T78 l0_1 x18_1).f2)] 78 (0, 0))) := ⟨z40_⟩
    have n2_ : Aside0 (Below w.heap.size w (((w18.setCell ⟨gb103, 0, none⟩ (.string ((rd_T78 l0_1 x18_1).f0))).setCell ⟨gb103, 1, none⟩ (.int .i64 ((rd_T78 l0_1 x18_1).f1))).setCell ⟨gb103, 2, none⟩ (.bool ((rd_T78 l0_1 x18_1).f2)))) := ⟨z34_⟩
    (try clear BK101)
    (try clear BK103)
    (try clear HB)
    generalize (((w18.setCell ⟨gb103, 0, none⟩ (.string ((rd_T78 l0_1 x18_1).f0))).setCell ⟨gb103, 1, none⟩ (.int .i64 ((rd_T78 l0_1 x18_1).f1))).setCell ⟨gb103, 2, none⟩ (.bool ((rd_T78 l0_1 x18_1).f2))) = w21 at n0_ n1_ n2_ ⊢
    have BK101 := n0_
    have BK103 := n1_
    have HB := n2_
    clear n0_ n1_ n2_
    have n_ := a3_ (blk_drew BK101.out) (blk_drew BK103.out) (below_drew1 HB.out)
    clear BK101 BK103 HB
    obtain ⟨BK101, BK103, HB⟩ := n_
    have p104 : 0 ≤ (x18_1 : Int) := of_decide_eq_true z5_
    have q104 : x18_1 < (l1.length : Int) := of_decide_eq_true z5_
    obtain ⟨ad104, e104, hx104_0, hx104_1, hx104_2⟩ := at_T61 HR1.out x18_1 p104 q104
    have hw104_2 := hx104_2
    have hw104_1 := hx104_1
    have hw104_0 := hx104_0
    cases e104
    replace hx104_0 := oc_ HB.out hx104_0
    replace hx104_1 := oc_ HB.out hx104_1
    replace hx104_2 := oc_ HB.out hx104_2
    replace p104 := eq_true p104
    replace q104 := eq_true q104
    refine start_ (n := 7) (S := fun w' => w'.cell? ⟨gb103, 0, none⟩ = some (.string ((rd_T78 l0_1 x18_1).f0)) ∧ w'.cell? ⟨gb103, 1, none⟩ = some (.int .i64 ((rd_T78 l0_1 x18_1).f1)) ∧ w'.cell? ⟨gb103, 2, none⟩ = some (.bool ((rd_T78 l0_1 x18_1).f2)) ∧ w'.cell? (ad104.add ((x18_1).toNat * 3)) = some (.int .i64 ((rd_T61 l1 x18_1).f0)) ∧ w'.cell? ⟨(ad104.add ((x18_1).toNat * 3)).block, (ad104.add ((x18_1).toNat * 3)).off + 1, none⟩ = some (.int .i64 ((rd_T61 l1 x18_1).f1)) ∧ w'.cell? ⟨(ad104.add ((x18_1).toNat * 3)).block, (ad104.add ((x18_1).toNat * 3)).off + 2, none⟩ = some (.string ((rd_T61 l1 x18_1).f2))) (ds := []) #[false, false, false, false, false, false, false] (by kernel_rfl) rfl rfl ⟨(blk_cell BK103.out 0).trans rfl, (blk_cell BK103.out 1).trans rfl, (blk_cell BK103.out 2).trans rfl, (oc_ HB.out hw104_0 :), (oc_ HB.out hw104_1 :), (oc_ HB.out hw104_2 :)⟩ (fun hHeld => ?_)
    generalize w21.drew = w22 at BK101 BK103 HB hx104_0 hx104_1 hx104_2 hHeld ⊢
    refine pure_ (i := 1) (N := some 24) (v := ?_) (a' := ?_) #[false, true, false, false, false, false, false] rfl rfl (by kernel_rfl) (fun _ _ _ h => h) (Or.inl ⟨by rfl, ?_⟩) ?_ ?_
    rotate_left
    ·intro w'
     go_simp
     with_reducible rfl
    rotate_left
    ·simp only [Act.put, sz1_, sz2_, sz3_, i64_w, i32_w]
     rfl
    refine pure_ (i := 2) (N := some 25) (v := ?_) (a' := ?_) #[false, true, true, false, false, false, false] rfl rfl (by kernel_rfl) (fun _ _ _ h => h) (Or.inl ⟨by rfl, ?_⟩) ?_ ?_
    rotate_left
    ·intro w'
     go_simp
     with_reducible rfl
    rotate_left
    ·simp only [Act.put, sz1_, sz2_, sz3_, i64_w, i32_w]
     rfl
    refine pure_ (i := 3) (N := some 26) (v := ?_) (a' := ?_) #[false, true, true, true, false, false, false] rfl rfl (by kernel_rfl) (fun _ _ _ h => h) (Or.inl ⟨by rfl, ?_⟩) ?_ ?_
    rotate_left
    ·intro w'
     go_simp
     with_reducible rfl
    rotate_left
    ·simp only [Act.put, sz1_, sz2_, sz3_, i64_w, i32_w]
     rfl
    refine take_ (i := 0) (N := some 23) (v := ?_) (a' := ?_) #[true, true, true, true, false, false, false] rfl rfl (by kernel_rfl) (fun _ _ _ h => h) (Or.inl ⟨by rfl, ?_⟩) hHeld ?_ ?_
    rotate_left
    ·rintro w' ⟨s0, s1, s2, s3, s4, s5⟩
     go_simp
     with_reducible rfl
    rotate_left
    ·simp only [Act.put, sz1_, sz2_, sz3_, i64_w, i32_w]
     rfl
    refine take_ (i := 4) (N := some 27) (v := ?_) (a' := ?_) #[true, true, true, true, true, false, false] rfl rfl (by kernel_rfl) (fun _ _ _ h => h) (Or.inl ⟨by rfl, ?_⟩) hHeld ?_ ?_
    rotate_left
    ·rintro w' ⟨s0, s1, s2, s3, s4, s5⟩
     go_simp
     with_reducible rfl
    rotate_left
    ·simp only [Act.put, sz1_, sz2_, sz3_, i64_w, i32_w]
     rfl
    refine one_ (i := 5) (N := some 28) #[true, true, true, true, true, true, false] rfl rfl (by kernel_rfl) (by decide) (fun K hK => ?_)
    refine goes_ Tryz.func68 (by kernel_rfl) rfl #[.agg #[.string ((rd_T78 l0_1 x18_1).f0), .int .i64 ((rd_T78 l0_1 x18_1).f1), .bool ((rd_T78 l0_1 x18_1).f2)], .agg #[.int .i64 ((rd_T61 l1 x18_1).f0), .int .i64 ((rd_T61 l1 x18_1).f1), .string ((rd_T61 l1 x18_1).f2)]] (by rfl) rfl rfl z3_ ?_
    with_reducible refine (impl_Column_fits.calls k1 ((rd_T78 l0_1 x18_1).f0) ((rd_T78 l0_1 x18_1).f1) ((rd_T78 l0_1 x18_1).f2) ((rd_T61 l1 x18_1).f0) ((rd_T61 l1 x18_1).f1) ((rd_T61 l1 x18_1).f2) t105 _ A10.out).mono ?_
    rintro e w23 ⟨rfl, hb⟩
    refine ⟨_, rfl, ?_⟩
    have n_ := a3_ (blk_below (g := gb101) (o := .cells #[.string a0_0, .slice (some ad102) l0_1.length c0_1, .int .i64 a0_2, .slice A0_3 l0_3.length c0_3] 35 (0, 0)) z2_ hb) (blk_below (g := gb103) (o := .cells #[.string ((rd_T78 l0_1 x18_1).f0), .int .i64 ((rd_T78 l0_1 x18_1).f1), .bool ((rd_T78 l0_1 x18_1).f2)] 78 (0, 0)) z95_ hb) (below_step z34_ hb)
    clear BK101 BK103 HB
    obtain ⟨BK101, BK103, HB⟩ := n_
    (try clear hb)
    (try clear hb2)
    (try clear hk)
    (try clear hi)
    refine hK.out _ _ ⟨(blk_cell BK103.out 0).trans rfl, (blk_cell BK103.out 1).trans rfl, (blk_cell BK103.out 2).trans rfl, (oc_ HB.out hw104_0 :), (oc_ HB.out hw104_1 :), (oc_ HB.out hw104_2 :)⟩ (fun hHeld => ?_)
    clear hK K
    refine norm_ (a' := ?_) ?_ ?_
    rotate_left
    ·show Act.put _ (some 28) _ = _
     simp only [Act.put, sz1_, sz2_, sz3_, i64_w, i32_w]
     rfl
    refine pure_ (i := 6) (N := some 8) (v := ?_) (a' := ?_) #[true, true, true, true, true, true, true] rfl rfl (by kernel_rfl) (fun _ _ _ h => h) (Or.inl ⟨by rfl, ?_⟩) ?_ ?_
    rotate_left
    ·intro w'
     go_simp
     with_reducible rfl
    rotate_left
    ·simp only [Act.put, sz1_, sz2_, sz3_, i64_w, i32_w]
     rfl
    refine done_ (by kernel_rfl) ?_
    try go_wp2
    go_ret2
    exact ⟨z6_, z34_⟩
   rw [if_pos c11] at H
   have c11b0 : (t105 == 0) = true := beq_iff_eq.mpr c11
   have c11b1 : (t105 != 0) = false := bne_eq_false_iff_eq.mpr c11
   clear c11
   have H' := ak_ H
   clear H
   have p102 : 0 ≤ (x18_1 : Int) := of_decide_eq_true z5_
   have q102 : x18_1 < (l0_1.length : Int) := of_decide_eq_true z5_
   obtain ⟨ad102, e102, hx102_0, hx102_1, hx102_2⟩ := at_T78 HR0_1.out x18_1 p102 q102
   cases e102
   replace hx102_0 := oc_ HB.out hx102_0
   replace hx102_1 := oc_ HB.out hx102_1
   replace hx102_2 := oc_ HB.out hx102_2
   replace p102 := eq_true p102
   replace q102 := eq_true q102
   try go_wp2_with (first | ((with_reducible refine gate_dst (N := 7) rfl ?_); refine bx_ 7 (cs := #[.string (⟨#[]⟩ : ByteArray), .int .i64 0, .bool false]) (t := 78) (h_ := ?_); intro gb103 hg w12 hbox hb; have n_ := a7_ (blk_below (g := gb101) (o := .cells #[.string a0_0, .slice (some ad102) l0_1.length c0_1, .int .i64 a0_2, .slice A0_3 l0_3.length c0_3] 35 (0, 0)) z2_ hb) (below_step z1_ hb) (hbox) ((gs_ w hg (below_size z1_))) ((gs_ w hg (below_size z1_))) ((z83_ : gb101 ≠ gb103)) ((z84_ : gb103 ≠ gb101)); clear BK101 HB; obtain ⟨BK101, HB, BK103, GW103, GE103, NB101_103, NB103_101⟩ := n_; clear hb hbox hg; have hnb13 := NB103_101.out; have hnc13 := NB101_103.out; obtain ⟨hcz14_0, hcz14_1, hcz14_2, hfz14_0, hfz14_1, hfz14_2⟩ := bcf3 BK103.out))
   have n0_ : Aside0 ((((w12.setCell ⟨gb103, 0, none⟩ (.string ((rd_T78 l0_1 x18_1).f0))).setCell ⟨gb103, 1, none⟩ (.int .i64 ((rd_T78 l0_1 x18_1).f1))).setCell ⟨gb103, 2, none⟩ (.bool ((rd_T78 l0_1 x18_1).f2))).heap[gb101]? = some (.cells #[.string a0_0, .slice (some ad102) l0_1.length c0_1, .int .i64 a0_2, .slice A0_3 l0_3.length c0_3] 35 (0, 0))) := ⟨z43_⟩
   have n1_ : Aside0 ((((w12.setCell ⟨gb103, 0, none⟩ (.string ((rd_T78 l0_1 x18_1).f0))).setCell ⟨gb103, 1, none⟩ (.int .i64 ((rd_T78 l0_1 x18_1).f1))).setCell ⟨gb103, 2, none⟩ (.bool ((rd_T78 l0_1 x18_1).f2))).heap[gb103]? = some (.cells #[.string ((rd_T78 l0_1 x18_1).f0), .int .i64 ((rd_T78 l0_1 x18_1).f1), .bool ((rd_T78 l0_1 x18_1).f2)] 78 (0, 0))) := ⟨z40_⟩
   have n2_ : Aside0 (Below w.heap.size w (((w12.setCell ⟨gb103, 0, none⟩ (.string ((rd_T78 l0_1 x18_1).f0))).setCell ⟨gb103, 1, none⟩ (.int .i64 ((rd_T78 l0_1 x18_1).f1))).setCell ⟨gb103, 2, none⟩ (.bool ((rd_T78 l0_1 x18_1).f2)))) := ⟨z34_⟩
   (try clear BK101)
   (try clear BK103)
   (try clear HB)
   generalize (((w12.setCell ⟨gb103, 0, none⟩ (.string ((rd_T78 l0_1 x18_1).f0))).setCell ⟨gb103, 1, none⟩ (.int .i64 ((rd_T78 l0_1 x18_1).f1))).setCell ⟨gb103, 2, none⟩ (.bool ((rd_T78 l0_1 x18_1).f2))) = w15 at n0_ n1_ n2_ ⊢
   have BK101 := n0_
   have BK103 := n1_
   have HB := n2_
   clear n0_ n1_ n2_
   have n_ := a3_ (blk_drew BK101.out) (blk_drew BK103.out) (below_drew1 HB.out)
   clear BK101 BK103 HB
   obtain ⟨BK101, BK103, HB⟩ := n_
   have p104 : 0 ≤ (x18_1 : Int) := of_decide_eq_true z5_
   have q104 : x18_1 < (l1.length : Int) := of_decide_eq_true z5_
   obtain ⟨ad104, e104, hx104_0, hx104_1, hx104_2⟩ := at_T61 HR1.out x18_1 p104 q104
   have hw104_2 := hx104_2
   have hw104_1 := hx104_1
   have hw104_0 := hx104_0
   cases e104
   replace hx104_0 := oc_ HB.out hx104_0
   replace hx104_1 := oc_ HB.out hx104_1
   replace hx104_2 := oc_ HB.out hx104_2
   replace p104 := eq_true p104
   replace q104 := eq_true q104
   refine start_ (n := 7) (S := fun w' => w'.cell? ⟨gb103, 0, none⟩ = some (.string ((rd_T78 l0_1 x18_1).f0)) ∧ w'.cell? ⟨gb103, 1, none⟩ = some (.int .i64 ((rd_T78 l0_1 x18_1).f1)) ∧ w'.cell? ⟨gb103, 2, none⟩ = some (.bool ((rd_T78 l0_1 x18_1).f2)) ∧ w'.cell? (ad104.add ((x18_1).toNat * 3)) = some (.int .i64 ((rd_T61 l1 x18_1).f0)) ∧ w'.cell? ⟨(ad104.add ((x18_1).toNat * 3)).block, (ad104.add ((x18_1).toNat * 3)).off + 1, none⟩ = some (.int .i64 ((rd_T61 l1 x18_1).f1)) ∧ w'.cell? ⟨(ad104.add ((x18_1).toNat * 3)).block, (ad104.add ((x18_1).toNat * 3)).off + 2, none⟩ = some (.string ((rd_T61 l1 x18_1).f2))) (ds := []) #[false, false, false, false, false, false, false] (by kernel_rfl) rfl rfl ⟨(blk_cell BK103.out 0).trans rfl, (blk_cell BK103.out 1).trans rfl, (blk_cell BK103.out 2).trans rfl, (oc_ HB.out hw104_0 :), (oc_ HB.out hw104_1 :), (oc_ HB.out hw104_2 :)⟩ (fun hHeld => ?_)
   generalize w15.drew = w16 at BK101 BK103 HB hx104_0 hx104_1 hx104_2 hHeld ⊢
   refine pure_ (i := 1) (N := some 24) (v := ?_) (a' := ?_) #[false, true, false, false, false, false, false] rfl rfl (by kernel_rfl) (fun _ _ _ h => h) (Or.inl ⟨by rfl, ?_⟩) ?_ ?_
   rotate_left
   ·intro w'
    go_simp
    with_reducible rfl
   rotate_left
   ·simp only [Act.put, sz1_, sz2_, sz3_, i64_w, i32_w]
    rfl
   refine pure_ (i := 2) (N := some 25) (v := ?_) (a' := ?_) #[false, true, true, false, false, false, false] rfl rfl (by kernel_rfl) (fun _ _ _ h => h) (Or.inl ⟨by rfl, ?_⟩) ?_ ?_
   rotate_left
   ·intro w'
    go_simp
    with_reducible rfl
   rotate_left
   ·simp only [Act.put, sz1_, sz2_, sz3_, i64_w, i32_w]
    rfl
   refine pure_ (i := 3) (N := some 26) (v := ?_) (a' := ?_) #[false, true, true, true, false, false, false] rfl rfl (by kernel_rfl) (fun _ _ _ h => h) (Or.inl ⟨by rfl, ?_⟩) ?_ ?_
   rotate_left
   ·intro w'
    go_simp
    with_reducible rfl
   rotate_left
   ·simp only [Act.put, sz1_, sz2_, sz3_, i64_w, i32_w]
    rfl
   refine take_ (i := 0) (N := some 23) (v := ?_) (a' := ?_) #[true, true, true, true, false, false, false] rfl rfl (by kernel_rfl) (fun _ _ _ h => h) (Or.inl ⟨by rfl, ?_⟩) hHeld ?_ ?_
   rotate_left
   ·rintro w' ⟨s0, s1, s2, s3, s4, s5⟩
    go_simp
    with_reducible rfl
   rotate_left
   ·simp only [Act.put, sz1_, sz2_, sz3_, i64_w, i32_w]
    rfl
   refine take_ (i := 4) (N := some 27) (v := ?_) (a' := ?_) #[true, true, true, true, true, false, false] rfl rfl (by kernel_rfl) (fun _ _ _ h => h) (Or.inl ⟨by rfl, ?_⟩) hHeld ?_ ?_
   rotate_left
   ·rintro w' ⟨s0, s1, s2, s3, s4, s5⟩
    go_simp
    with_reducible rfl
   rotate_left
   ·simp only [Act.put, sz1_, sz2_, sz3_, i64_w, i32_w]
    rfl
   refine one_ (i := 5) (N := some 28) #[true, true, true, true, true, true, false] rfl rfl (by kernel_rfl) (by decide) (fun K hK => ?_)
   refine goes_ Tryz.func68 (by kernel_rfl) rfl #[.agg #[.string ((rd_T78 l0_1 x18_1).f0), .int .i64 ((rd_T78 l0_1 x18_1).f1), .bool ((rd_T78 l0_1 x18_1).f2)], .agg #[.int .i64 ((rd_T61 l1 x18_1).f0), .int .i64 ((rd_T61 l1 x18_1).f1), .string ((rd_T61 l1 x18_1).f2)]] (by rfl) rfl rfl z3_ ?_
   with_reducible refine (impl_Column_fits.calls k1 ((rd_T78 l0_1 x18_1).f0) ((rd_T78 l0_1 x18_1).f1) ((rd_T78 l0_1 x18_1).f2) ((rd_T61 l1 x18_1).f0) ((rd_T61 l1 x18_1).f1) ((rd_T61 l1 x18_1).f2) t105 _ A10.out).mono ?_
   rintro e w17 ⟨rfl, hb⟩
   refine ⟨_, rfl, ?_⟩
   have n_ := a3_ (blk_below (g := gb101) (o := .cells #[.string a0_0, .slice (some ad102) l0_1.length c0_1, .int .i64 a0_2, .slice A0_3 l0_3.length c0_3] 35 (0, 0)) z2_ hb) (blk_below (g := gb103) (o := .cells #[.string ((rd_T78 l0_1 x18_1).f0), .int .i64 ((rd_T78 l0_1 x18_1).f1), .bool ((rd_T78 l0_1 x18_1).f2)] 78 (0, 0)) z95_ hb) (below_step z34_ hb)
   clear BK101 BK103 HB
   obtain ⟨BK101, BK103, HB⟩ := n_
   (try clear hb)
   (try clear hb2)
   (try clear hk)
   (try clear hi)
   refine hK.out _ _ ⟨(blk_cell BK103.out 0).trans rfl, (blk_cell BK103.out 1).trans rfl, (blk_cell BK103.out 2).trans rfl, (oc_ HB.out hw104_0 :), (oc_ HB.out hw104_1 :), (oc_ HB.out hw104_2 :)⟩ (fun hHeld => ?_)
   clear hK K
   refine norm_ (a' := ?_) ?_ ?_
   rotate_left
   ·show Act.put _ (some 28) _ = _
    simp only [Act.put, sz1_, sz2_, sz3_, i64_w, i32_w]
    rfl
   refine pure_ (i := 6) (N := some 8) (v := ?_) (a' := ?_) #[true, true, true, true, true, true, true] rfl rfl (by kernel_rfl) (fun _ _ _ h => h) (Or.inl ⟨by rfl, ?_⟩) ?_ ?_
   rotate_left
   ·intro w'
    go_simp
    with_reducible rfl
   rotate_left
   ·simp only [Act.put, sz1_, sz2_, sz3_, i64_w, i32_w]
    rfl
   refine done_ (by kernel_rfl) ?_
   try go_wp2
   go_roundg k1
   case measure => have := HK1.out; omega
   case rel => exact ⟨(wrap64 (x18_1 + 1)), z8_, H', ⟨by have := HK1.out; omega⟩, ⟨z2_⟩, ⟨z34_⟩⟩
end

end Go.Proofs.YtlikagbdhjdggaaGreatDoor.X
end
