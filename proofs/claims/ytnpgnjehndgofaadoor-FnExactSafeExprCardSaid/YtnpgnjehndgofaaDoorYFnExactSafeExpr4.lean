/- Contracts of functions, and what is told of them. -/
import Derived.Test.YtnpgnjehndgofaaDoorYFnExactSafeExpr3
import Derived.Shelf.Strings.Split
set_option linter.unusedSimpArgs false
set_option linter.unusedVariables false
set_option maxHeartbeats 8000000
set_option maxRecDepth 100000
section
namespace Go.Proofs.YtnpgnjehndgofaaDoor.X
open Go.RowKit Go.Proofs.YtnpgnjehndgofaaDoorW.PrintWords Go.Proofs.YtnpgnjehndgofaaDoorW.PrintLast Go.Proofs.YtnpgnjehndgofaaDoorW.PrintMore
attribute [local go_sem] max2_int min2_int max_two min_two max_three min_three max_four min_four

section
def impl_isBounded.f (k : Nat) (a0_0 : Int) (a0_1 : Int) (a0_2 : ByteArray) (a0_3 : ByteArray) (a0_4 : Int) (a0_5 : Int) (a0_6 : ByteArray) (l0_7 : List (S33)) : Option (Bool) := (impl_isDeep.f k a0_0 a0_1 a0_2 a0_3 a0_4 a0_5 a0_6 l0_7 20).bind fun t102 => (if t102 = true then (some false) else ((impl_TreeSize.f k a0_0 a0_1 a0_2 a0_3 a0_4 a0_5 a0_6 l0_7).bind fun t103 => (some (decide (t103 ≤ 120)))))
theorem impl_isBounded.mono : ∀ a0 a1 a2 a3 a4 a5 a6 a7 k, LeO (impl_isBounded.f k a0 a1 a2 a3 a4 a5 a6 a7) (impl_isBounded.f (k + 1) a0 a1 a2 a3 a4 a5 a6 a7) := by
 intro a0 a1 a2 a3 a4 a5 a6 a7 k
 unfold impl_isBounded.f
 repeat' first
   | (with_reducible exact impl_TreeSize.mono _ _ _ _ _ _ _ _ _)
   | (with_reducible exact impl_isDeep.mono _ _ _ _ _ _ _ _ _ _)
   | (with_reducible exact LeO.refl _)
   | (with_reducible exact LeO.none _)
   | (with_reducible refine LeO.ite ?_ ?_)
   | (with_reducible refine LeO.bind ?_ (fun _ => ?_))
   | exact impl_TreeSize.mono _ _ _ _ _ _ _ _ _
   | exact impl_isDeep.mono _ _ _ _ _ _ _ _ _ _
   | exact LeO.none _
   | refine LeO.ite ?_ ?_
   | refine LeO.bind ?_ (fun _ => ?_)
theorem impl_isBounded.calls (k : Nat) (a0_0 : Int) (a0_1 : Int) (a0_2 : ByteArray) (a0_3 : ByteArray) (a0_4 : Int) (a0_5 : Int) (a0_6 : ByteArray) (A0_7 : Option Addr) (c0_7 : Nat) (l0_7 : List (S33)) (r : Bool) (w : World) (hr0_7 : Kd.C k33 w A0_7 l0_7.length l0_7) (hc0_7 : l0_7.length ≤ c0_7) (h : impl_isBounded.f k a0_0 a0_1 a0_2 a0_3 a0_4 a0_5 a0_6 l0_7 = some r) :
  Calls Tryd.prog 38 #[.agg #[.int .i64 a0_0, .int .i64 a0_1, .string a0_2, .string a0_3, .int .i64 a0_4, .int .i64 a0_5, .string a0_6, .slice A0_7 l0_7.length c0_7]] w fun e w' => e = .returned (.bool r) ∧ Below w.heap.size w w' := by
 have hu33 := Tryd.underlying33
 have HR0_7 := ak_ hr0_7
 have HC0_7 := ak_ hc0_7
 clear hr0_7 hc0_7
 have HB := ak_ (Below.refl w.heap.size w)
 have H := h
 unfold impl_isBounded.f at H
 clear h
 replace H := Option.bind_eq_some_iff.mp H
 obtain ⟨t102, A20, H⟩ := H
 have A2 := ak_ A20
 clear A20
 by_cases c3 : t102 = true
 ·subst c3
  have H1 : (some false) = some r := by rw [if_pos rfl] at H; exact H
  clear H
  have H := H1
  clear H1
  obtain rfl := Option.some.inj H
  go_enter Tryd.func38, Tryd.ntmps38
  go_wp2_with (first | ((with_reducible refine gate_dst (N := 1) rfl ?_); refine bx_ 1 (cs := #[.int .i64 a0_0, .int .i64 a0_1, .string a0_2, .string a0_3, .int .i64 a0_4, .int .i64 a0_5, .string a0_6, .slice A0_7 l0_7.length c0_7]) (t := 33) (h_ := ?_); intro gb101 hg w4 hbox hb; have n_ := a4_ (below_step z0_ hb) (hbox) ((gs_ w hg (below_size z0_))) ((gs_ w hg (below_size z0_))); clear HB; obtain ⟨HB, BK101, GW101, GE101⟩ := n_; clear hb hbox hg; obtain ⟨hcz5_0, hcz5_1, hcz5_2, hcz5_3, hcz5_4, hcz5_5, hcz5_6, hcz5_7, hfz5_0, hfz5_1, hfz5_2, hfz5_3, hfz5_4, hfz5_5, hfz5_6, hfz5_7⟩ := bcf8 BK101.out) | ((with_reducible refine gate_callee (f := 65) rfl ?_); refine goesL_ (some 4) rfl rfl Tryd.func65 (by kernel_rfl) rfl #[.agg #[.int .i64 a0_0, .int .i64 a0_1, .string a0_2, .string a0_3, .int .i64 a0_4, .int .i64 a0_5, .string a0_6, .slice A0_7 l0_7.length c0_7], .int .i64 20] rfl z4_ ?_; (with_reducible refine (impl_isDeep.calls k a0_0 a0_1 a0_2 a0_3 a0_4 a0_5 a0_6 _ _ l0_7 20 true _ ?side1 ?side2 A2.out).mono ?_); (case side1 => exact cz_ ((Kd.C_below HR0_7.out HB.out))); (case side2 => exact HC0_7.out); rintro e w6 ⟨rfl, hb⟩; refine ⟨_, rfl, ?_⟩; have n_ := a2_ (blk_below (g := gb101) (o := .cells #[.int .i64 a0_0, .int .i64 a0_1, .string a0_2, .string a0_3, .int .i64 a0_4, .int .i64 a0_5, .string a0_6, .slice A0_7 l0_7.length c0_7] 33 (0, 0)) z2_ hb) (below_step z1_ hb); clear BK101 HB; obtain ⟨BK101, HB⟩ := n_; (try clear hb); (try clear hb2); (try clear hk); (try clear hi)))
  go_ret
  exact ⟨z5_, z1_⟩
 replace c3 := Bool.eq_false_iff.mpr c3
 subst c3
 have H1 : ((impl_TreeSize.f k a0_0 a0_1 a0_2 a0_3 a0_4 a0_5 a0_6 l0_7).bind fun t103 => (some (decide (t103 ≤ 120)))) = some r := by rw [if_neg (show ¬ (false = true) by decide)] at H; exact H
 clear H
 have H := H1
 clear H1
 replace H := Option.bind_eq_some_iff.mp H
 obtain ⟨t103, A70, H⟩ := H
 have A7 := ak_ A70
 clear A70
 obtain rfl := Option.some.inj H
 go_enter Tryd.func38, Tryd.ntmps38
 go_wp2_with (first | ((with_reducible refine gate_dst (N := 1) rfl ?_); refine bx_ 1 (cs := #[.int .i64 a0_0, .int .i64 a0_1, .string a0_2, .string a0_3, .int .i64 a0_4, .int .i64 a0_5, .string a0_6, .slice A0_7 l0_7.length c0_7]) (t := 33) (h_ := ?_); intro gb101 hg w8 hbox hb; have n_ := a4_ (below_step z0_ hb) (hbox) ((gs_ w hg (below_size z0_))) ((gs_ w hg (below_size z0_))); clear HB; obtain ⟨HB, BK101, GW101, GE101⟩ := n_; clear hb hbox hg; obtain ⟨hcz9_0, hcz9_1, hcz9_2, hcz9_3, hcz9_4, hcz9_5, hcz9_6, hcz9_7, hfz9_0, hfz9_1, hfz9_2, hfz9_3, hfz9_4, hfz9_5, hfz9_6, hfz9_7⟩ := bcf8 BK101.out) | ((with_reducible refine gate_callee (f := 65) rfl ?_); refine goesL_ (some 4) rfl rfl Tryd.func65 (by kernel_rfl) rfl #[.agg #[.int .i64 a0_0, .int .i64 a0_1, .string a0_2, .string a0_3, .int .i64 a0_4, .int .i64 a0_5, .string a0_6, .slice A0_7 l0_7.length c0_7], .int .i64 20] rfl z4_ ?_; (with_reducible refine (impl_isDeep.calls k a0_0 a0_1 a0_2 a0_3 a0_4 a0_5 a0_6 _ _ l0_7 20 false _ ?side1 ?side2 A2.out).mono ?_); (case side1 => exact cz_ ((Kd.C_below HR0_7.out HB.out))); (case side2 => exact HC0_7.out); rintro e w10 ⟨rfl, hb⟩; refine ⟨_, rfl, ?_⟩; have n_ := a2_ (blk_below (g := gb101) (o := .cells #[.int .i64 a0_0, .int .i64 a0_1, .string a0_2, .string a0_3, .int .i64 a0_4, .int .i64 a0_5, .string a0_6, .slice A0_7 l0_7.length c0_7] 33 (0, 0)) z2_ hb) (below_step z1_ hb); clear BK101 HB; obtain ⟨BK101, HB⟩ := n_; (try clear hb); (try clear hb2); (try clear hk); (try clear hi); obtain ⟨hcz11_0, hcz11_1, hcz11_2, hcz11_3, hcz11_4, hcz11_5, hcz11_6, hcz11_7, hfz11_0, hfz11_1, hfz11_2, hfz11_3, hfz11_4, hfz11_5, hfz11_6, hfz11_7⟩ := bcf8 BK101.out) | (go_at_call 66; (with_reducible refine (impl_TreeSize.calls k a0_0 a0_1 a0_2 a0_3 a0_4 a0_5 a0_6 _ _ l0_7 t103 _ ?side1 ?side2 A7.out).mono ?_); (case side1 => exact cz_ ((Kd.C_below HR0_7.out HB.out))); (case side2 => exact HC0_7.out); rintro e w12 ⟨rfl, hb⟩; have n_ := a2_ (blk_below (g := gb101) (o := .cells #[.int .i64 a0_0, .int .i64 a0_1, .string a0_2, .string a0_3, .int .i64 a0_4, .int .i64 a0_5, .string a0_6, .slice A0_7 l0_7.length c0_7] 33 (0, 0)) z2_ hb) (below_step z1_ hb); clear BK101 HB; obtain ⟨BK101, HB⟩ := n_; (try clear hb); (try clear hb2); (try clear hk); (try clear hi)))
 go_ret
 exact ⟨z5_, z1_⟩
end

section
def impl_Tree_has.e (a0_1 : Int) (a0_2 a0_3 : ByteArray) (a0_4 a0_5 : Int) (a0_6 : ByteArray) (n : Nat) (a1 a2 a3 a4 : Bool) (a5 : Int) : Bool :=
 (a1 || (a0_1 == 0)) && ((a2 || (a0_2.toList == ([] : List UInt8))) && ((a3 || (a0_3.toList == ([] : List UInt8))) && ((a4 || (a0_4 == 0 && (a0_5 == 0 && (a0_6.toList == ([] : List UInt8))))) && (decide (a5 < 0) || ((n : Int) == a5)))))
def impl_Tree_has.f (a0_0 : Int) (a0_1 : Int) (a0_2 : ByteArray) (a0_3 : ByteArray) (a0_4 : Int) (a0_5 : Int) (a0_6 : ByteArray) (l0_7 : List (S33)) (a1 : Bool) (a2 : Bool) (a3 : Bool) (a4 : Bool) (a5 : Int) : Option Bool :=
 if (a1 = false ∧ a2 = false ∧ a3 = false ∧ a4 = true) ∨ (a1 = false ∧ a2 = true ∧ a3 = true ∧ a4 = false) ∨ (a1 = false ∧ a2 = true ∧ a3 = false ∧ a4 = false) ∨ (a1 = false ∧ a2 = false ∧ a3 = false ∧ a4 = false) ∨ (a1 = true ∧ a2 = false ∧ a3 = false ∧ a4 = false) then some (impl_Tree_has.e a0_1 a0_2 a0_3 a0_4 a0_5 a0_6 l0_7.length a1 a2 a3 a4 a5) else none
theorem impl_Tree_has.c0 (a0_0 : Int) (a0_1 : Int) (a0_2 : ByteArray) (a0_3 : ByteArray) (a0_4 : Int) (a0_5 : Int) (a0_6 : ByteArray) (A0_7 : Option Addr) (c0_7 : Nat) (l0_7 : List (S33)) (a5 : Int) (w : World) :
  Calls Tryd.prog 39 #[.agg #[.int .i64 a0_0, .int .i64 a0_1, .string a0_2, .string a0_3, .int .i64 a0_4, .int .i64 a0_5, .string a0_6, .slice A0_7 l0_7.length c0_7], .bool false, .bool false, .bool false, .bool true, .int .i64 a5] w fun e w' => e = .returned (.bool (impl_Tree_has.e a0_1 a0_2 a0_3 a0_4 a0_5 a0_6 l0_7.length false false false true a5)) ∧ Below w.heap.size w w' := by
 have hu33 := Tryd.underlying33
 have hu30 := Tryd.underlying30
 have HB := ak_ (Below.refl w.heap.size w)
 unfold impl_Tree_has.e
 go_enter Tryd.func39, Tryd.ntmps39
 go_upto_region 1 with (first | ((with_reducible refine gate_dst (N := 6) rfl ?_); refine bx_ 6 (cs := #[.int .i64 a0_0, .int .i64 a0_1, .string a0_2, .string a0_3, .int .i64 a0_4, .int .i64 a0_5, .string a0_6, .slice A0_7 l0_7.length c0_7]) (t := 33) (h_ := ?_); intro gb hg w1 hbox hb; have n0_ := ak_ (below_step HB.out hb); have BK := ak_ hbox; clear HB; have HB := n0_; clear n0_ hb hbox hg))
 have hcz0 : w1.cell? ⟨gb, 1, none⟩ = some (.int .i64 a0_1) := (blk_cell BK.out 1).trans rfl
 have hcz1 : w1.cell? ⟨gb, 2, none⟩ = some (.string a0_2) := (blk_cell BK.out 2).trans rfl
 have hcz2 : w1.cell? ⟨gb, 3, none⟩ = some (.string a0_3) := (blk_cell BK.out 3).trans rfl
 have hcz3 : w1.cell? ⟨gb, 4, none⟩ = some (.int .i64 a0_4) := (blk_cell BK.out 4).trans rfl
 have hcz4 : w1.cell? ⟨gb, 5, none⟩ = some (.int .i64 a0_5) := (blk_cell BK.out 5).trans rfl
 have hcz5 : w1.cell? ⟨gb, 6, none⟩ = some (.string a0_6) := (blk_cell BK.out 6).trans rfl
 have hcz6 : w1.cell? ⟨gb, 7, none⟩ = some (.slice A0_7 l0_7.length c0_7) := (blk_cell BK.out 7).trans rfl
 rcases Bool.eq_false_or_eq_true (a0_1 == 0) with t0 | t0
 rotate_left
 ·go_wp2_with fail
  go_ret
  exact ⟨z34_, HB.out⟩
 rcases Bool.eq_false_or_eq_true (a0_2.toList == ([] : List UInt8)) with t1 | t1
 rotate_left
 ·go_wp2_with fail
  go_ret
  exact ⟨by first | rfl | (rw [t0, t1]; done) | (rw [t0, t1]; rfl), HB.out⟩
 rcases Bool.eq_false_or_eq_true (a0_3.toList == ([] : List UInt8)) with t2 | t2
 rotate_left
 ·go_wp2_with fail
  go_ret
  exact ⟨by first | rfl | (rw [t0, t1, t2]; done) | (rw [t0, t1, t2]; rfl), HB.out⟩
 rcases Bool.eq_false_or_eq_true (decide (a5 < 0)) with t8 | t8
 ·go_wp2_with fail
  go_ret
  exact ⟨by first | rfl | (rw [t0, t1, t2, t8]; done) | (rw [t0, t1, t2, t8]; rfl), HB.out⟩
 rcases Bool.eq_false_or_eq_true ((l0_7.length : Int) == a5) with t9 | t9
 rotate_left
 ·go_wp2_with fail
  go_ret
  exact ⟨by first | rfl | (rw [t0, t1, t2, t8, t9]; done) | (rw [t0, t1, t2, t8, t9]; rfl), HB.out⟩
 go_wp2_with fail
 go_ret
 exact ⟨by first | rfl | (rw [t0, t1, t2, t8, t9]; done) | (rw [t0, t1, t2, t8, t9]; rfl), HB.out⟩
theorem impl_Tree_has.c1 (a0_0 : Int) (a0_1 : Int) (a0_2 : ByteArray) (a0_3 : ByteArray) (a0_4 : Int) (a0_5 : Int) (a0_6 : ByteArray) (A0_7 : Option Addr) (c0_7 : Nat) (l0_7 : List (S33)) (a5 : Int) (w : World) :
  Calls Tryd.prog 39 #[.agg #[.int .i64 a0_0, .int .i64 a0_1, .string a0_2, .string a0_3, .int .i64 a0_4, .int .i64 a0_5, .string a0_6, .slice A0_7 l0_7.length c0_7], .bool false, .bool true, .bool true, .bool false, .int .i64 a5] w fun e w' => e = .returned (.bool (impl_Tree_has.e a0_1 a0_2 a0_3 a0_4 a0_5 a0_6 l0_7.length false true true false a5)) ∧ Below w.heap.size w w' := by
 have hu33 := Tryd.underlying33
 have hu30 := Tryd.underlying30
 have HB := ak_ (Below.refl w.heap.size w)
 unfold impl_Tree_has.e
 go_enter Tryd.func39, Tryd.ntmps39
 go_upto_region 1 with (first | ((with_reducible refine gate_dst (N := 6) rfl ?_); refine bx_ 6 (cs := #[.int .i64 a0_0, .int .i64 a0_1, .string a0_2, .string a0_3, .int .i64 a0_4, .int .i64 a0_5, .string a0_6, .slice A0_7 l0_7.length c0_7]) (t := 33) (h_ := ?_); intro gb hg w1 hbox hb; have n0_ := ak_ (below_step HB.out hb); have BK := ak_ hbox; clear HB; have HB := n0_; clear n0_ hb hbox hg))
 have hcz0 : w1.cell? ⟨gb, 1, none⟩ = some (.int .i64 a0_1) := (blk_cell BK.out 1).trans rfl
 have hcz1 : w1.cell? ⟨gb, 2, none⟩ = some (.string a0_2) := (blk_cell BK.out 2).trans rfl
 have hcz2 : w1.cell? ⟨gb, 3, none⟩ = some (.string a0_3) := (blk_cell BK.out 3).trans rfl
 have hcz3 : w1.cell? ⟨gb, 4, none⟩ = some (.int .i64 a0_4) := (blk_cell BK.out 4).trans rfl
 have hcz4 : w1.cell? ⟨gb, 5, none⟩ = some (.int .i64 a0_5) := (blk_cell BK.out 5).trans rfl
 have hcz5 : w1.cell? ⟨gb, 6, none⟩ = some (.string a0_6) := (blk_cell BK.out 6).trans rfl
 have hcz6 : w1.cell? ⟨gb, 7, none⟩ = some (.slice A0_7 l0_7.length c0_7) := (blk_cell BK.out 7).trans rfl
 rcases Bool.eq_false_or_eq_true (a0_1 == 0) with t0 | t0
 rotate_left
 ·go_wp2_with fail
  go_ret
  exact ⟨z34_, HB.out⟩
 by_cases e4 : a0_4 = 0
 case' neg => have b4 : (a0_4 == 0) = false := beq_eq_false_iff_ne.mpr e4; have q4 := eq_false e4; clear e4
 case neg =>
  go_wp2_with fail
  go_ret
  exact ⟨by first | rfl | (rw [t0, b4]; done) | (rw [t0, b4]; rfl), HB.out⟩
 subst e4
 by_cases e5 : a0_5 = 0
 case' neg => have b5 : (a0_5 == 0) = false := beq_eq_false_iff_ne.mpr e5; have q5 := eq_false e5; clear e5
 case neg =>
  go_wp2_with fail
  go_ret
  exact ⟨by first | rfl | (rw [t0, b5]; done) | (rw [t0, b5]; rfl), HB.out⟩
 subst e5
 by_cases e6 : a0_6.toList = ([] : List UInt8)
 case' neg => have b6 : (a0_6.toList == ([] : List UInt8)) = false := beq_eq_false_iff_ne.mpr e6; have q6 := eq_false e6; clear e6
 case neg =>
  go_wp2_with fail
  go_ret
  exact ⟨by first | rfl | (rw [t0, b6]; done) | (rw [t0, b6]; rfl), HB.out⟩
 have b6 : (a0_6.toList == ([] : List UInt8)) = true := beq_iff_eq.mpr e6
 have q6 := eq_true e6
 clear e6
 rcases Bool.eq_false_or_eq_true (decide (a5 < 0)) with t8 | t8
 ·go_wp2_with fail
  go_ret
  exact ⟨by first | rfl | (rw [t0, b6, t8]; done) | (rw [t0, b6, t8]; rfl), HB.out⟩
 rcases Bool.eq_false_or_eq_true ((l0_7.length : Int) == a5) with t9 | t9
 rotate_left
 ·go_wp2_with fail
  go_ret
  exact ⟨by first | rfl | (rw [t0, b6, t8, t9]; done) | (rw [t0, b6, t8, t9]; rfl), HB.out⟩
 go_wp2_with fail
 go_ret
 exact ⟨by first | rfl | (rw [t0, b6, t8, t9]; done) | (rw [t0, b6, t8, t9]; rfl), HB.out⟩
theorem impl_Tree_has.c2 (a0_0 : Int) (a0_1 : Int) (a0_2 : ByteArray) (a0_3 : ByteArray) (a0_4 : Int) (a0_5 : Int) (a0_6 : ByteArray) (A0_7 : Option Addr) (c0_7 : Nat) (l0_7 : List (S33)) (a5 : Int) (w : World) :
  Calls Tryd.prog 39 #[.agg #[.int .i64 a0_0, .int .i64 a0_1, .string a0_2, .string a0_3, .int .i64 a0_4, .int .i64 a0_5, .string a0_6, .slice A0_7 l0_7.length c0_7], .bool false, .bool true, .bool false, .bool false, .int .i64 a5] w fun e w' => e = .returned (.bool (impl_Tree_has.e a0_1 a0_2 a0_3 a0_4 a0_5 a0_6 l0_7.length false true false false a5)) ∧ Below w.heap.size w w' := by
 have hu33 := Tryd.underlying33
 have hu30 := Tryd.underlying30
 have HB := ak_ (Below.refl w.heap.size w)
 unfold impl_Tree_has.e
 go_enter Tryd.func39, Tryd.ntmps39
 go_upto_region 1 with (first | ((with_reducible refine gate_dst (N := 6) rfl ?_); refine bx_ 6 (cs := #[.int .i64 a0_0, .int .i64 a0_1, .string a0_2, .string a0_3, .int .i64 a0_4, .int .i64 a0_5, .string a0_6, .slice A0_7 l0_7.length c0_7]) (t := 33) (h_ := ?_); intro gb hg w1 hbox hb; have n0_ := ak_ (below_step HB.out hb); have BK := ak_ hbox; clear HB; have HB := n0_; clear n0_ hb hbox hg))
 have hcz0 : w1.cell? ⟨gb, 1, none⟩ = some (.int .i64 a0_1) := (blk_cell BK.out 1).trans rfl
 have hcz1 : w1.cell? ⟨gb, 2, none⟩ = some (.string a0_2) := (blk_cell BK.out 2).trans rfl
 have hcz2 : w1.cell? ⟨gb, 3, none⟩ = some (.string a0_3) := (blk_cell BK.out 3).trans rfl
 have hcz3 : w1.cell? ⟨gb, 4, none⟩ = some (.int .i64 a0_4) := (blk_cell BK.out 4).trans rfl
 have hcz4 : w1.cell? ⟨gb, 5, none⟩ = some (.int .i64 a0_5) := (blk_cell BK.out 5).trans rfl
 have hcz5 : w1.cell? ⟨gb, 6, none⟩ = some (.string a0_6) := (blk_cell BK.out 6).trans rfl
 have hcz6 : w1.cell? ⟨gb, 7, none⟩ = some (.slice A0_7 l0_7.length c0_7) := (blk_cell BK.out 7).trans rfl
 rcases Bool.eq_false_or_eq_true (a0_1 == 0) with t0 | t0
 rotate_left
 ·go_wp2_with fail
  go_ret
  exact ⟨z34_, HB.out⟩
 rcases Bool.eq_false_or_eq_true (a0_3.toList == ([] : List UInt8)) with t2 | t2
 rotate_left
 ·go_wp2_with fail
  go_ret
  exact ⟨by first | rfl | (rw [t0, t2]; done) | (rw [t0, t2]; rfl), HB.out⟩
 by_cases e4 : a0_4 = 0
 case' neg => have b4 : (a0_4 == 0) = false := beq_eq_false_iff_ne.mpr e4; have q4 := eq_false e4; clear e4
 case neg =>
  go_wp2_with fail
  go_ret
  exact ⟨by first | rfl | (rw [t0, t2, b4]; done) | (rw [t0, t2, b4]; rfl), HB.out⟩
 subst e4
 by_cases e5 : a0_5 = 0
 case' neg => have b5 : (a0_5 == 0) = false := beq_eq_false_iff_ne.mpr e5; have q5 := eq_false e5; clear e5
 case neg =>
  go_wp2_with fail
  go_ret
  exact ⟨by first | rfl | (rw [t0, t2, b5]; done) | (rw [t0, t2, b5]; rfl), HB.out⟩
 subst e5
 by_cases e6 : a0_6.toList = ([] : List UInt8)
 case' neg => have b6 : (a0_6.toList == ([] : List UInt8)) = false := beq_eq_false_iff_ne.mpr e6; have q6 := eq_false e6; clear e6
 case neg =>
  go_wp2_with fail
  go_ret
  exact ⟨by first | rfl | (rw [t0, t2, b6]; done) | (rw [t0, t2, b6]; rfl), HB.out⟩
 have b6 : (a0_6.toList == ([] : List UInt8)) = true := beq_iff_eq.mpr e6
 have q6 := eq_true e6
 clear e6
 rcases Bool.eq_false_or_eq_true (decide (a5 < 0)) with t8 | t8
 ·go_wp2_with fail
  go_ret
  exact ⟨by first | rfl | (rw [t0, t2, b6, t8]; done) | (rw [t0, t2, b6, t8]; rfl), HB.out⟩
 rcases Bool.eq_false_or_eq_true ((l0_7.length : Int) == a5) with t9 | t9
 rotate_left
 ·go_wp2_with fail
  go_ret
  exact ⟨by first | rfl | (rw [t0, t2, b6, t8, t9]; done) | (rw [t0, t2, b6, t8, t9]; rfl), HB.out⟩
 go_wp2_with fail
 go_ret
 exact ⟨by first | rfl | (rw [t0, t2, b6, t8, t9]; done) | (rw [t0, t2, b6, t8, t9]; rfl), HB.out⟩
theorem impl_Tree_has.c3 (a0_0 : Int) (a0_1 : Int) (a0_2 : ByteArray) (a0_3 : ByteArray) (a0_4 : Int) (a0_5 : Int) (a0_6 : ByteArray) (A0_7 : Option Addr) (c0_7 : Nat) (l0_7 : List (S33)) (a5 : Int) (w : World) :
  Calls Tryd.prog 39 #[.agg #[.int .i64 a0_0, .int .i64 a0_1, .string a0_2, .string a0_3, .int .i64 a0_4, .int .i64 a0_5, .string a0_6, .slice A0_7 l0_7.length c0_7], .bool false, .bool false, .bool false, .bool false, .int .i64 a5] w fun e w' => e = .returned (.bool (impl_Tree_has.e a0_1 a0_2 a0_3 a0_4 a0_5 a0_6 l0_7.length false false false false a5)) ∧ Below w.heap.size w w' := by
 have hu33 := Tryd.underlying33
 have hu30 := Tryd.underlying30
 have HB := ak_ (Below.refl w.heap.size w)
 unfold impl_Tree_has.e
 go_enter Tryd.func39, Tryd.ntmps39
 go_upto_region 1 with (first | ((with_reducible refine gate_dst (N := 6) rfl ?_); refine bx_ 6 (cs := #[.int .i64 a0_0, .int .i64 a0_1, .string a0_2, .string a0_3, .int .i64 a0_4, .int .i64 a0_5, .string a0_6, .slice A0_7 l0_7.length c0_7]) (t := 33) (h_ := ?_); intro gb hg w1 hbox hb; have n0_ := ak_ (below_step HB.out hb); have BK := ak_ hbox; clear HB; have HB := n0_; clear n0_ hb hbox hg))
 have hcz0 : w1.cell? ⟨gb, 1, none⟩ = some (.int .i64 a0_1) := (blk_cell BK.out 1).trans rfl
 have hcz1 : w1.cell? ⟨gb, 2, none⟩ = some (.string a0_2) := (blk_cell BK.out 2).trans rfl
 have hcz2 : w1.cell? ⟨gb, 3, none⟩ = some (.string a0_3) := (blk_cell BK.out 3).trans rfl
 have hcz3 : w1.cell? ⟨gb, 4, none⟩ = some (.int .i64 a0_4) := (blk_cell BK.out 4).trans rfl
 have hcz4 : w1.cell? ⟨gb, 5, none⟩ = some (.int .i64 a0_5) := (blk_cell BK.out 5).trans rfl
 have hcz5 : w1.cell? ⟨gb, 6, none⟩ = some (.string a0_6) := (blk_cell BK.out 6).trans rfl
 have hcz6 : w1.cell? ⟨gb, 7, none⟩ = some (.slice A0_7 l0_7.length c0_7) := (blk_cell BK.out 7).trans rfl
 rcases Bool.eq_false_or_eq_true (a0_1 == 0) with t0 | t0
 rotate_left
 ·go_wp2_with fail
  go_ret
  exact ⟨z34_, HB.out⟩
 rcases Bool.eq_false_or_eq_true (a0_2.toList == ([] : List UInt8)) with t1 | t1
 rotate_left
 ·go_wp2_with fail
  go_ret
  exact ⟨by first | rfl | (rw [t0, t1]; done) | (rw [t0, t1]; rfl), HB.out⟩
 rcases Bool.eq_false_or_eq_true (a0_3.toList == ([] : List UInt8)) with t2 | t2
 rotate_left
 ·go_wp2_with fail
  go_ret
  exact ⟨by first | rfl | (rw [t0, t1, t2]; done) | (rw [t0, t1, t2]; rfl), HB.out⟩
 by_cases e4 : a0_4 = 0
 case' neg => have b4 : (a0_4 == 0) = false := beq_eq_false_iff_ne.mpr e4; have q4 := eq_false e4; clear e4
 case neg =>
  go_wp2_with fail
  go_ret
  exact ⟨by first | rfl | (rw [t0, t1, t2, b4]; done) | (rw [t0, t1, t2, b4]; rfl), HB.out⟩
 subst e4
 by_cases e5 : a0_5 = 0
 case' neg => have b5 : (a0_5 == 0) = false := beq_eq_false_iff_ne.mpr e5; have q5 := eq_false e5; clear e5
 case neg =>
  go_wp2_with fail
  go_ret
  exact ⟨by first | rfl | (rw [t0, t1, t2, b5]; done) | (rw [t0, t1, t2, b5]; rfl), HB.out⟩
 subst e5
 by_cases e6 : a0_6.toList = ([] : List UInt8)
 case' neg => have b6 : (a0_6.toList == ([] : List UInt8)) = false := beq_eq_false_iff_ne.mpr e6; have q6 := eq_false e6; clear e6
 case neg =>
  go_wp2_with fail
  go_ret
  exact ⟨by first | rfl | (rw [t0, t1, t2, b6]; done) | (rw [t0, t1, t2, b6]; rfl), HB.out⟩
 have b6 : (a0_6.toList == ([] : List UInt8)) = true := beq_iff_eq.mpr e6
 have q6 := eq_true e6
 clear e6
 rcases Bool.eq_false_or_eq_true (decide (a5 < 0)) with t8 | t8
 ·go_wp2_with fail
  go_ret
  exact ⟨by first | rfl | (rw [t0, t1, t2, b6, t8]; done) | (rw [t0, t1, t2, b6, t8]; rfl), HB.out⟩
 rcases Bool.eq_false_or_eq_true ((l0_7.length : Int) == a5) with t9 | t9
 rotate_left
 ·go_wp2_with fail
  go_ret
  exact ⟨by first | rfl | (rw [t0, t1, t2, b6, t8, t9]; done) | (rw [t0, t1, t2, b6, t8, t9]; rfl), HB.out⟩
 go_wp2_with fail
 go_ret
 exact ⟨by first | rfl | (rw [t0, t1, t2, b6, t8, t9]; done) | (rw [t0, t1, t2, b6, t8, t9]; rfl), HB.out⟩
theorem impl_Tree_has.c4 (a0_0 : Int) (a0_1 : Int) (a0_2 : ByteArray) (a0_3 : ByteArray) (a0_4 : Int) (a0_5 : Int) (a0_6 : ByteArray) (A0_7 : Option Addr) (c0_7 : Nat) (l0_7 : List (S33)) (a5 : Int) (w : World) :
  Calls Tryd.prog 39 #[.agg #[.int .i64 a0_0, .int .i64 a0_1, .string a0_2, .string a0_3, .int .i64 a0_4, .int .i64 a0_5, .string a0_6, .slice A0_7 l0_7.length c0_7], .bool true, .bool false, .bool false, .bool false, .int .i64 a5] w fun e w' => e = .returned (.bool (impl_Tree_has.e a0_1 a0_2 a0_3 a0_4 a0_5 a0_6 l0_7.length true false false false a5)) ∧ Below w.heap.size w w' := by
 have hu33 := Tryd.underlying33
 have hu30 := Tryd.underlying30
 have HB := ak_ (Below.refl w.heap.size w)
 unfold impl_Tree_has.e
 go_enter Tryd.func39, Tryd.ntmps39
 go_upto_region 1 with (first | ((with_reducible refine gate_dst (N := 6) rfl ?_); refine bx_ 6 (cs := #[.int .i64 a0_0, .int .i64 a0_1, .string a0_2, .string a0_3, .int .i64 a0_4, .int .i64 a0_5, .string a0_6, .slice A0_7 l0_7.length c0_7]) (t := 33) (h_ := ?_); intro gb hg w1 hbox hb; have n0_ := ak_ (below_step HB.out hb); have BK := ak_ hbox; clear HB; have HB := n0_; clear n0_ hb hbox hg))
 have hcz0 : w1.cell? ⟨gb, 1, none⟩ = some (.int .i64 a0_1) := (blk_cell BK.out 1).trans rfl
 have hcz1 : w1.cell? ⟨gb, 2, none⟩ = some (.string a0_2) := (blk_cell BK.out 2).trans rfl
 have hcz2 : w1.cell? ⟨gb, 3, none⟩ = some (.string a0_3) := (blk_cell BK.out 3).trans rfl
 have hcz3 : w1.cell? ⟨gb, 4, none⟩ = some (.int .i64 a0_4) := (blk_cell BK.out 4).trans rfl
 have hcz4 : w1.cell? ⟨gb, 5, none⟩ = some (.int .i64 a0_5) := (blk_cell BK.out 5).trans rfl
 have hcz5 : w1.cell? ⟨gb, 6, none⟩ = some (.string a0_6) := (blk_cell BK.out 6).trans rfl
 have hcz6 : w1.cell? ⟨gb, 7, none⟩ = some (.slice A0_7 l0_7.length c0_7) := (blk_cell BK.out 7).trans rfl
 rcases Bool.eq_false_or_eq_true (a0_2.toList == ([] : List UInt8)) with t1 | t1
 rotate_left
 ·go_wp2_with fail
  go_ret
  exact ⟨by first | rfl | (rw [t1]; done) | (rw [t1]; rfl), HB.out⟩
 rcases Bool.eq_false_or_eq_true (a0_3.toList == ([] : List UInt8)) with t2 | t2
 rotate_left
 ·go_wp2_with fail
  go_ret
  exact ⟨by first | rfl | (rw [t1, t2]; done) | (rw [t1, t2]; rfl), HB.out⟩
 by_cases e4 : a0_4 = 0
 case' neg => have b4 : (a0_4 == 0) = false := beq_eq_false_iff_ne.mpr e4; have q4 := eq_false e4; clear e4
 case neg =>
  go_wp2_with fail
  go_ret
  exact ⟨by first | rfl | (rw [t1, t2, b4]; done) | (rw [t1, t2, b4]; rfl), HB.out⟩
 subst e4
 by_cases e5 : a0_5 = 0
 case' neg => have b5 : (a0_5 == 0) = false := beq_eq_false_iff_ne.mpr e5; have q5 := eq_false e5; clear e5
 case neg =>
  go_wp2_with fail
  go_ret
  exact ⟨by first | rfl | (rw [t1, t2, b5]; done) | (rw [t1, t2, b5]; rfl), HB.out⟩
 subst e5
 by_cases e6 : a0_6.toList = ([] : List UInt8)
 case' neg => have b6 : (a0_6.toList == ([] : List UInt8)) = false := beq_eq_false_iff_ne.mpr e6; have q6 := eq_false e6; clear e6
 case neg =>
  go_wp2_with fail
  go_ret
  exact ⟨by first | rfl | (rw [t1, t2, b6]; done) | (rw [t1, t2, b6]; rfl), HB.out⟩
 have b6 : (a0_6.toList == ([] : List UInt8)) = true := beq_iff_eq.mpr e6
 have q6 := eq_true e6
 clear e6
 rcases Bool.eq_false_or_eq_true (decide (a5 < 0)) with t8 | t8
 ·go_wp2_with fail
  go_ret
  exact ⟨by first | rfl | (rw [t1, t2, b6, t8]; done) | (rw [t1, t2, b6, t8]; rfl), HB.out⟩
 rcases Bool.eq_false_or_eq_true ((l0_7.length : Int) == a5) with t9 | t9
 rotate_left
 ·go_wp2_with fail
  go_ret
  exact ⟨by first | rfl | (rw [t1, t2, b6, t8, t9]; done) | (rw [t1, t2, b6, t8, t9]; rfl), HB.out⟩
 go_wp2_with fail
 go_ret
 exact ⟨by first | rfl | (rw [t1, t2, b6, t8, t9]; done) | (rw [t1, t2, b6, t8, t9]; rfl), HB.out⟩
theorem impl_Tree_has.calls (a0_0 : Int) (a0_1 : Int) (a0_2 : ByteArray) (a0_3 : ByteArray) (a0_4 : Int) (a0_5 : Int) (a0_6 : ByteArray) (A0_7 : Option Addr) (c0_7 : Nat) (l0_7 : List (S33)) (a1 : Bool) (a2 : Bool) (a3 : Bool) (a4 : Bool) (a5 : Int) (r : Bool) (w : World) (hr0_7 : Kd.C k33 w A0_7 l0_7.length l0_7) (hc0_7 : l0_7.length ≤ c0_7) (h : impl_Tree_has.f a0_0 a0_1 a0_2 a0_3 a0_4 a0_5 a0_6 l0_7 a1 a2 a3 a4 a5 = some r) :
  Calls Tryd.prog 39 #[.agg #[.int .i64 a0_0, .int .i64 a0_1, .string a0_2, .string a0_3, .int .i64 a0_4, .int .i64 a0_5, .string a0_6, .slice A0_7 l0_7.length c0_7], .bool a1, .bool a2, .bool a3, .bool a4, .int .i64 a5] w fun e w' => e = .returned (.bool r) ∧ Below w.heap.size w w' := by
 unfold impl_Tree_has.f at h
 split at h
 case isFalse => cases h
 obtain rfl := Option.some.inj h
 rename_i hc
 rcases hc with ⟨rfl, rfl, rfl, rfl⟩ | ⟨rfl, rfl, rfl, rfl⟩ | ⟨rfl, rfl, rfl, rfl⟩ | ⟨rfl, rfl, rfl, rfl⟩ | ⟨rfl, rfl, rfl, rfl⟩
 ·exact impl_Tree_has.c0 _ _ _ _ _ _ _ _ _ _ _ _
 ·exact impl_Tree_has.c1 _ _ _ _ _ _ _ _ _ _ _ _
 ·exact impl_Tree_has.c2 _ _ _ _ _ _ _ _ _ _ _ _
 ·exact impl_Tree_has.c3 _ _ _ _ _ _ _ _ _ _ _ _
 ·exact impl_Tree_has.c4 _ _ _ _ _ _ _ _ _ _ _ _
end

section
def impl_within.f (a0 : Int) (a1 : Int) (a2 : Int) : Option (Bool) := if a0 ≥ a1 then (some (decide (a0 ≤ a2))) else (some false)
theorem impl_within.calls (a0 : Int) (a1 : Int) (a2 : Int) (r : Bool) (w : World) (h : impl_within.f a0 a1 a2 = some r) :
  Calls Tryd.prog 73 #[.int .i64 a0, .int .i64 a1, .int .i64 a2] w fun e w' => e = .returned (.bool r) ∧ Drawn0 w w' := by
 have H : (if a0 ≥ a1 then (some (decide (a0 ≤ a2))) else (some false)) = some r := h
 clear h
 by_cases c4 : a0 ≥ a1
 ·rw [if_pos c4] at H
  have c4b0 : decide (a1 ≤ a0) = true := decide_eq_true c4
  clear c4
  obtain rfl := Option.some.inj H
  go_enter Tryd.func73, Tryd.ntmps73
  go_wp2
  go_ret
  exact ⟨z11_, z12_⟩
 rw [if_neg c4] at H
 have c4b0 : decide (a1 ≤ a0) = false := decide_eq_false c4
 clear c4
 obtain rfl := Option.some.inj H
 go_enter Tryd.func73, Tryd.ntmps73
 go_wp2
 go_ret
 exact ⟨z11_, z12_⟩
end

section
def impl_isLetter.f (a0 : Int) : Option (Bool) := if a0 ≥ 97 then (if a0 ≤ 122 then (some true) else (if a0 ≥ 65 then (if a0 ≤ 90 then (some true) else (some (a0 == 95))) else (some (a0 == 95)))) else (if a0 ≥ 65 then (if a0 ≤ 90 then (some true) else (some (a0 == 95))) else (some (a0 == 95)))
theorem impl_isLetter.calls (a0 : Int) (r : Bool) (w : World) (h : impl_isLetter.f a0 = some r) :
  Calls Tryd.prog 91 #[.int .u8 a0] w fun e w' => e = .returned (.bool r) ∧ Drawn0 w w' := by
 have H := h
 unfold impl_isLetter.f at H
 clear h
 by_cases c2 : a0 ≥ 97
 rotate_left
 ·rw [if_neg c2] at H
  have c2b0 : decide (97 ≤ a0) = false := decide_eq_false c2
  clear c2
  by_cases c6 : a0 ≥ 65
  ·rw [if_pos c6] at H
   have c6b0 : decide (65 ≤ a0) = true := decide_eq_true c6
   clear c6
   by_cases c7 : a0 ≤ 90
   ·rw [if_pos c7] at H
    have c7b0 := decide_eq_true c7
    clear c7
    obtain rfl := Option.some.inj H
    go_enter Tryd.func91, Tryd.ntmps91
    go_wp2
    go_ret
    exact ⟨z11_, z12_⟩
   ·rw [if_neg c7] at H
    have c7b0 := decide_eq_false c7
    clear c7
    obtain rfl := Option.some.inj H
    go_enter Tryd.func91, Tryd.ntmps91
    go_wp2
    go_ret
    exact ⟨z11_, z12_⟩
  ·rw [if_neg c6] at H
   have c6b0 : decide (65 ≤ a0) = false := decide_eq_false c6
   clear c6
   obtain rfl := Option.some.inj H
   go_enter Tryd.func91, Tryd.ntmps91
   go_wp2
   go_ret
   exact ⟨z11_, z12_⟩

 rw [if_pos c2] at H
 have c2b0 : decide (97 ≤ a0) = true := decide_eq_true c2
 clear c2
 by_cases c3 : a0 ≤ 122
 ·rw [if_pos c3] at H
  have c3b0 := decide_eq_true c3
  clear c3
  obtain rfl := Option.some.inj H
  go_enter Tryd.func91, Tryd.ntmps91
  go_wp2
  go_ret
  exact ⟨z11_, z12_⟩
 rw [if_neg c3] at H
 have c3b0 := decide_eq_false c3
 clear c3
 by_cases c4 : a0 ≥ 65
 rotate_left
 ·rw [if_neg c4] at H
  have c4b0 : decide (65 ≤ a0) = false := decide_eq_false c4
  clear c4
  obtain rfl := Option.some.inj H
  go_enter Tryd.func91, Tryd.ntmps91
  go_wp2
  go_ret
  exact ⟨z11_, z12_⟩
 rw [if_pos c4] at H
 have c4b0 : decide (65 ≤ a0) = true := decide_eq_true c4
 clear c4
 by_cases c5 : a0 ≤ 90
 rotate_left
 ·rw [if_neg c5] at H
  have c5b0 := decide_eq_false c5
  clear c5
  obtain rfl := Option.some.inj H
  go_enter Tryd.func91, Tryd.ntmps91
  go_wp2
  go_ret
  exact ⟨z11_, z12_⟩
 rw [if_pos c5] at H
 have c5b0 := decide_eq_true c5
 clear c5
 obtain rfl := Option.some.inj H
 go_enter Tryd.func91, Tryd.ntmps91
 go_wp2
 go_ret
 exact ⟨z11_, z12_⟩
end

section
def impl_isDigit.f (a0 : Int) : Option (Bool) := if a0 ≥ 48 then (some (decide (a0 ≤ 57))) else (some false)
theorem impl_isDigit.calls (a0 : Int) (r : Bool) (w : World) (h : impl_isDigit.f a0 = some r) :
  Calls Tryd.prog 92 #[.int .u8 a0] w fun e w' => e = .returned (.bool r) ∧ Drawn0 w w' := by
 have H : (if a0 ≥ 48 then (some (decide (a0 ≤ 57))) else (some false)) = some r := h
 clear h
 by_cases c2 : a0 ≥ 48
 ·rw [if_pos c2] at H
  have c2b0 : decide (48 ≤ a0) = true := decide_eq_true c2
  clear c2
  obtain rfl := Option.some.inj H
  go_enter Tryd.func92, Tryd.ntmps92
  go_wp2
  go_ret
  exact ⟨z11_, z12_⟩
 rw [if_neg c2] at H
 have c2b0 : decide (48 ≤ a0) = false := decide_eq_false c2
 clear c2
 obtain rfl := Option.some.inj H
 go_enter Tryd.func92, Tryd.ntmps92
 go_wp2
 go_ret
 exact ⟨z11_, z12_⟩
end

section
def impl_NameOK.l0 : Nat → ByteArray → Int → Int → Option (Bool)
 | 0, _, _, _ => none
 | k + 1, x0, x5, x6 => if x6 < x5 then (if 0 ≤ x6 then (if x6 < (x0.size : Int) then ((impl_isLetter.f (bt x0 x6)).bind fun t102 => (if t102 = true then (impl_NameOK.l0 k x0 x5 (wrap64 (x6 + 1))) else (if x6 = 0 then (some false) else ((impl_isDigit.f (bt x0 x6)).bind fun t103 => (if t103 = true then (impl_NameOK.l0 k x0 x5 (wrap64 (x6 + 1))) else (some false)))))) else (none)) else (none)) else ((impl_within.f (x0.size : Int) 1 40).bind fun t101 => (some t101))
def impl_NameOK.f (k : Nat) (a0 : ByteArray) : Option (Bool) := impl_NameOK.l0 k a0 (a0.size : Int) 0
theorem impl_NameOK.mono_l : ∀ k, (∀ y0 y1 y2, LeO (impl_NameOK.l0 k y0 y1 y2) (impl_NameOK.l0 (k + 1) y0 y1 y2))
 | 0 => fun _ _ _ r h => by simp [impl_NameOK.l0] at h
 | k + 1 => by
  have ih0 := impl_NameOK.mono_l k
  intro y0 y1 y2
  unfold impl_NameOK.l0
  repeat' first | with_reducible (first | exact ih0 _ _ _ | exact LeO.refl _ | exact LeO.none _ | refine LeO.ite ?_ ?_ | refine LeO.bind ?_ (fun _ => ?_)) | exact ih0 _ _ _ | exact LeO.none _ | refine LeO.ite ?_ ?_ | refine LeO.bind ?_ (fun _ => ?_)
theorem impl_NameOK.mono : ∀ a0 k, LeO (impl_NameOK.f k a0) (impl_NameOK.f (k + 1) a0) := by
 intro a0 k
 have ih0 := impl_NameOK.mono_l k
 unfold impl_NameOK.f
 repeat' first
   | (with_reducible exact ih0 _ _ _)
   | (with_reducible exact LeO.refl _)
   | (with_reducible exact LeO.none _)
   | (with_reducible refine LeO.ite ?_ ?_)
   | (with_reducible refine LeO.bind ?_ (fun _ => ?_))
   | exact ih0 _ _ _
   | exact LeO.none _
   | refine LeO.ite ?_ ?_
   | refine LeO.bind ?_ (fun _ => ?_)
theorem impl_NameOK.calls (k : Nat) (a0 : ByteArray) (r : Bool) (w : World) (h : impl_NameOK.f k a0 = some r) :
  Calls Tryd.prog 67 #[.string a0] w fun e w' => e = .returned (.bool r) ∧ Drawn0 w w' := by
 have H : (impl_NameOK.l0 k a0 (a0.size : Int) 0) = some r := h
 clear h
 have H' := ak_ H
 clear H
 go_enter Tryd.func67, Tryd.ntmps67
 go_wp2
 go_loopg [6] k (fun kq v6 w' => ∃ (x6_1 : Int), v6 = .int .i64 x6_1 ∧ Aside0 (impl_NameOK.l0 kq a0 (a0.size : Int) x6_1 = some r) ∧ Aside0 (kq ≤ k) ∧ Drawn0 w w')
 case atStart => exact ⟨(0), z11_, H', ⟨Nat.le_refl _⟩, z12_⟩
 case round =>
  clear H'
  obtain ⟨x6_1, rfl, HA, HK1, ⟨m1, rfl⟩⟩ := hrel
  cases gk with
  | zero => exact absurd HA.out (by simp [impl_NameOK.l0])
  | succ k1 =>
   have H := HA.out
   clear HA
   simp only [impl_NameOK.l0] at H
   by_cases c2 : x6_1 < (a0.size : Int)
   rotate_left
   ·rw [if_neg c2] at H
    have c2b0 := decide_eq_false c2
    clear c2
    replace H := Option.bind_eq_some_iff.mp H
    obtain ⟨t101, A120, H⟩ := H
    have A12 := ak_ A120
    clear A120
    obtain rfl := Option.some.inj H
    go_wp2_with (first | ((with_reducible refine gate_callee (f := 73) rfl ?_); refine goesL_ (some 28) rfl rfl Tryd.func73 (by kernel_rfl) rfl #[.int .i64 (a0.size : Int), .int .i64 1, .int .i64 40] rfl z4_ ?_; (with_reducible refine (impl_within.calls (a0.size : Int) 1 40 t101 _ A12.out).mono ?_); rintro e w' ⟨rfl, ⟨nd, rfl⟩⟩; refine ⟨_, rfl, ?_⟩))
    go_ret
    exact ⟨z11_, z12_⟩

   rw [if_pos c2] at H
   have c2b0 := decide_eq_true c2
   clear c2
   by_cases c3 : 0 ≤ x6_1
   rotate_left
   ·rw [if_neg c3] at H
    exact absurd H (by simp)
   rw [if_pos c3] at H
   have c3b0 := decide_eq_true c3
   clear c3
   by_cases c4 : x6_1 < (a0.size : Int)
   rotate_left
   ·rw [if_neg c4] at H
    exact absurd H (by simp)
   rw [if_pos c4] at H
   have c4b0 := decide_eq_true c4
   clear c4
   replace H := Option.bind_eq_some_iff.mp H
   obtain ⟨t102, A60, H⟩ := H
   have A6 := ak_ A60
   clear A60
   by_cases c7 : t102 = true
   ·subst c7
    have H1 : (impl_NameOK.l0 k1 a0 (a0.size : Int) (wrap64 (x6_1 + 1))) = some r := by rw [if_pos rfl] at H; exact H
    clear H
    have H := H1
    clear H1
    have H' := ak_ H
    clear H
    have p5 : 0 ≤ (x6_1 : Int) := of_decide_eq_true z13_
    have q5 : x6_1 < (a0.size : Int) := of_decide_eq_true z13_
    have hx5 := bt_at a0 x6_1
    replace p5 := eq_true p5
    replace q5 := eq_true q5
    go_wp2_with (first | ((with_reducible refine gate_callee (f := 91) rfl ?_); refine goesL_ (some 12) rfl rfl Tryd.func91 (by kernel_rfl) rfl #[.int .u8 (bt a0 x6_1)] rfl z4_ ?_; (with_reducible refine (impl_isLetter.calls (bt a0 x6_1) true _ A6.out).mono ?_); rintro e w' ⟨rfl, ⟨nd, rfl⟩⟩; refine ⟨_, rfl, ?_⟩))
    go_roundg k1
    case measure => have := HK1.out; omega
    case rel => exact ⟨(wrap64 (x6_1 + 1)), z11_, H', ⟨by have := HK1.out; omega⟩, z12_⟩
   replace c7 := Bool.eq_false_iff.mpr c7
   subst c7
   have H1 : (if x6_1 = 0 then (some false) else ((impl_isDigit.f (bt a0 x6_1)).bind fun t103 => (if t103 = true then (impl_NameOK.l0 k1 a0 (a0.size : Int) (wrap64 (x6_1 + 1))) else (some false)))) = some r := by rw [if_neg (show ¬ (false = true) by decide)] at H; exact H
   clear H
   have H := H1
   clear H1
   by_cases c8 : x6_1 = 0
   ·rw [if_pos c8] at H
    have c8b0 : (x6_1 == 0) = true := beq_iff_eq.mpr c8
    have c8b1 : (x6_1 != 0) = false := bne_eq_false_iff_eq.mpr c8
    clear c8
    obtain rfl := Option.some.inj H
    have p5 : 0 ≤ (x6_1 : Int) := of_decide_eq_true z13_
    have q5 : x6_1 < (a0.size : Int) := of_decide_eq_true z13_
    have hx5 := bt_at a0 x6_1
    replace p5 := eq_true p5
    replace q5 := eq_true q5
    go_wp2_with (first | ((with_reducible refine gate_callee (f := 91) rfl ?_); refine goesL_ (some 12) rfl rfl Tryd.func91 (by kernel_rfl) rfl #[.int .u8 (bt a0 x6_1)] rfl z4_ ?_; (with_reducible refine (impl_isLetter.calls (bt a0 x6_1) false _ A6.out).mono ?_); rintro e w' ⟨rfl, ⟨nd, rfl⟩⟩; refine ⟨_, rfl, ?_⟩))
    go_ret
    exact ⟨z11_, z12_⟩
   rw [if_neg c8] at H
   have c8b0 : (x6_1 == 0) = false := beq_eq_false_iff_ne.mpr c8
   have c8b1 : (x6_1 != 0) = true := bne_iff_ne.mpr c8
   replace H := Option.bind_eq_some_iff.mp H
   obtain ⟨t103, A100, H⟩ := H
   have A10 := ak_ A100
   clear A100
   by_cases c11 : t103 = true
   rotate_left
   ·replace c11 := Bool.eq_false_iff.mpr c11
    subst c11
    have H1 : (some false) = some r := by rw [if_neg (show ¬ (false = true) by decide)] at H; exact H
    clear H
    have H := H1
    clear H1
    obtain rfl := Option.some.inj H
    have p5 : 0 ≤ (x6_1 : Int) := of_decide_eq_true z13_
    have q5 : x6_1 < (a0.size : Int) := of_decide_eq_true z13_
    have hx5 := bt_at a0 x6_1
    replace p5 := eq_true p5
    replace q5 := eq_true q5
    go_wp2_with (first | ((with_reducible refine gate_callee (f := 91) rfl ?_); refine goesL_ (some 12) rfl rfl Tryd.func91 (by kernel_rfl) rfl #[.int .u8 (bt a0 x6_1)] rfl z4_ ?_; (with_reducible refine (impl_isLetter.calls (bt a0 x6_1) false _ A6.out).mono ?_); rintro e w' ⟨rfl, ⟨nd, rfl⟩⟩; refine ⟨_, rfl, ?_⟩; have p9 : 0 ≤ (x6_1 : Int) := of_decide_eq_true z13_; have q9 : x6_1 < (a0.size : Int) := of_decide_eq_true z13_; have hx9 := bt_at a0 x6_1; replace p9 := eq_true p9; replace q9 := eq_true q9) | (go_at_call 92; (with_reducible refine (impl_isDigit.calls (bt a0 x6_1) false _ A10.out).mono ?_); rintro e w' ⟨rfl, ⟨nd, rfl⟩⟩))
    go_ret
    exact ⟨z11_, z12_⟩
   subst c11
   have H1 : (impl_NameOK.l0 k1 a0 (a0.size : Int) (wrap64 (x6_1 + 1))) = some r := by rw [if_pos rfl] at H; exact H
   clear H
   have H := H1
   clear H1
   have H' := ak_ H
   clear H
   have p5 : 0 ≤ (x6_1 : Int) := of_decide_eq_true z13_
   have q5 : x6_1 < (a0.size : Int) := of_decide_eq_true z13_
   have hx5 := bt_at a0 x6_1
   replace p5 := eq_true p5
   replace q5 := eq_true q5
   go_wp2_with (first | ((with_reducible refine gate_callee (f := 91) rfl ?_); refine goesL_ (some 12) rfl rfl Tryd.func91 (by kernel_rfl) rfl #[.int .u8 (bt a0 x6_1)] rfl z4_ ?_; (with_reducible refine (impl_isLetter.calls (bt a0 x6_1) false _ A6.out).mono ?_); rintro e w' ⟨rfl, ⟨nd, rfl⟩⟩; refine ⟨_, rfl, ?_⟩; have p9 : 0 ≤ (x6_1 : Int) := of_decide_eq_true z13_; have q9 : x6_1 < (a0.size : Int) := of_decide_eq_true z13_; have hx9 := bt_at a0 x6_1; replace p9 := eq_true p9; replace q9 := eq_true q9) | (go_at_call 92; (with_reducible refine (impl_isDigit.calls (bt a0 x6_1) true _ A10.out).mono ?_); rintro e w' ⟨rfl, ⟨nd, rfl⟩⟩))
   go_roundg k1
   case measure => have := HK1.out; omega
   case rel => exact ⟨(wrap64 (x6_1 + 1)), z11_, H', ⟨by have := HK1.out; omega⟩, z12_⟩
end

section
def slices_Index_string_string.l0 : Nat → List ByteArray → ByteArray → Int → Int → Option (Int)
 | 0, _, _, _, _ => none
 | k + 1, x0, x1, x7, x8 => if x8 < x7 then (if 0 ≤ x8 then (if x8 < (x0.length : Int) then (if x1.toList = (rdOf ByteArray.empty x0 x8).toList then (some x8) else (slices_Index_string_string.l0 k x0 x1 x7 (wrap64 (x8 + 1)))) else (none)) else (none)) else (some (-1))
def slices_Index_string_string.f (k : Nat) (l0 : List ByteArray) (a1 : ByteArray) : Option (Int) := slices_Index_string_string.l0 k l0 a1 (l0.length : Int) 0
theorem slices_Index_string_string.mono_l : ∀ k, (∀ y0 y1 y2 y3, LeO (slices_Index_string_string.l0 k y0 y1 y2 y3) (slices_Index_string_string.l0 (k + 1) y0 y1 y2 y3))
 | 0 => fun _ _ _ _ r h => by simp [slices_Index_string_string.l0] at h
 | k + 1 => by
  have ih0 := slices_Index_string_string.mono_l k
  intro y0 y1 y2 y3
  unfold slices_Index_string_string.l0
  repeat' first | with_reducible (first | exact ih0 _ _ _ _ | exact LeO.refl _ | exact LeO.none _ | refine LeO.ite ?_ ?_ | refine LeO.bind ?_ (fun _ => ?_)) | exact ih0 _ _ _ _ | exact LeO.none _ | refine LeO.ite ?_ ?_ | refine LeO.bind ?_ (fun _ => ?_)
theorem slices_Index_string_string.mono : ∀ a0 a1 k, LeO (slices_Index_string_string.f k a0 a1) (slices_Index_string_string.f (k + 1) a0 a1) := by
 intro a0 a1 k
 have ih0 := slices_Index_string_string.mono_l k
 unfold slices_Index_string_string.f
 repeat' first
   | (with_reducible exact ih0 _ _ _ _)
   | (with_reducible exact LeO.refl _)
   | (with_reducible exact LeO.none _)
   | (with_reducible refine LeO.ite ?_ ?_)
   | (with_reducible refine LeO.bind ?_ (fun _ => ?_))
   | exact ih0 _ _ _ _
   | exact LeO.none _
   | refine LeO.ite ?_ ?_
   | refine LeO.bind ?_ (fun _ => ?_)
theorem slices_Index_string_string.calls (k : Nat) (A0 : Option Addr) (c0 : Nat) (l0 : List ByteArray) (a1 : ByteArray) (r : Int) (w : World) (hr0 : Kd.C Kd.string w A0 l0.length l0) (hc0 : l0.length ≤ c0) (h : slices_Index_string_string.f k l0 a1 = some r) :
  Calls Tryd.prog 93 #[.slice A0 l0.length c0, .string a1] w fun e w' => e = .returned (.int .i64 r) ∧ Drawn0 w w' := by
 have HR0 := ak_ hr0
 have HC0 := ak_ hc0
 clear hr0 hc0
 have H : (slices_Index_string_string.l0 k l0 a1 (l0.length : Int) 0) = some r := h
 clear h
 have H' := ak_ H
 clear H
 go_enter Tryd.func93, Tryd.ntmps93
 go_wp2
 go_loopg [8] k (fun kq v8 w' => ∃ (x8_1 : Int), v8 = .int .i64 x8_1 ∧ Aside0 (slices_Index_string_string.l0 kq l0 a1 (l0.length : Int) x8_1 = some r) ∧ Aside0 (kq ≤ k) ∧ Drawn0 w w')
 case atStart => exact ⟨(0), z11_, H', ⟨Nat.le_refl _⟩, z12_⟩
 case round =>
  clear H'
  try clear p2
  obtain ⟨x8_1, rfl, HA, HK1, ⟨m1, rfl⟩⟩ := hrel
  cases gk with
  | zero => exact absurd HA.out (by simp [slices_Index_string_string.l0])
  | succ k1 =>
   have H := HA.out
   clear HA
   simp only [slices_Index_string_string.l0] at H
   by_cases c3 : x8_1 < (l0.length : Int)
   rotate_left
   ·rw [if_neg c3] at H
    have c3b0 := decide_eq_false c3
    clear c3
    obtain rfl := Option.some.inj H
    go_wp2
    go_ret
    exact ⟨z11_, z12_⟩

   rw [if_pos c3] at H
   have c3b0 := decide_eq_true c3
   clear c3
   by_cases c4 : 0 ≤ x8_1
   rotate_left
   ·rw [if_neg c4] at H
    exact absurd H (by simp)
   rw [if_pos c4] at H
   have c4b0 := decide_eq_true c4
   clear c4
   by_cases c5 : x8_1 < (l0.length : Int)
   rotate_left
   ·rw [if_neg c5] at H
    exact absurd H (by simp)
   rw [if_pos c5] at H
   have c5b0 := decide_eq_true c5
   clear c5
   by_cases c6 : a1.toList = (rdOf ByteArray.empty l0 x8_1).toList
   ·rw [if_pos c6] at H
    have c6b0 : (a1.toList == (rdOf ByteArray.empty l0 x8_1).toList) = true := beq_iff_eq.mpr c6
    have c6b1 : (a1.toList != (rdOf ByteArray.empty l0 x8_1).toList) = false := bne_eq_false_iff_eq.mpr c6
    clear c6
    obtain rfl := Option.some.inj H
    have p101 : 0 ≤ (x8_1 : Int) := of_decide_eq_true z13_
    have q101 : x8_1 < (l0.length : Int) := of_decide_eq_true z13_
    obtain ⟨ad101, e101, hx101_0⟩ := Kd.at_string HR0.out x8_1 p101 q101
    cases e101
    replace p101 := eq_true p101
    replace q101 := eq_true q101
    go_wp2
    go_ret
    exact ⟨z11_, z12_⟩
   rw [if_neg c6] at H
   have c6b0 : (a1.toList == (rdOf ByteArray.empty l0 x8_1).toList) = false := beq_eq_false_iff_ne.mpr c6
   have c6b1 : (a1.toList != (rdOf ByteArray.empty l0 x8_1).toList) = true := bne_iff_ne.mpr c6
   have H' := ak_ H
   clear H
   have p101 : 0 ≤ (x8_1 : Int) := of_decide_eq_true z13_
   have q101 : x8_1 < (l0.length : Int) := of_decide_eq_true z13_
   obtain ⟨ad101, e101, hx101_0⟩ := Kd.at_string HR0.out x8_1 p101 q101
   cases e101
   replace p101 := eq_true p101
   replace q101 := eq_true q101
   go_wp2
   go_roundg k1
   case measure => have := HK1.out; omega
   case rel => exact ⟨(wrap64 (x8_1 + 1)), z11_, H', ⟨by have := HK1.out; omega⟩, z12_⟩
end

section
def slices_Contains_string_string.f (k : Nat) (l0 : List ByteArray) (a1 : ByteArray) : Option (Bool) := (slices_Index_string_string.f k l0 a1).bind fun t101 => (some (decide (t101 ≥ 0)))
theorem slices_Contains_string_string.mono : ∀ a0 a1 k, LeO (slices_Contains_string_string.f k a0 a1) (slices_Contains_string_string.f (k + 1) a0 a1) := by
 intro a0 a1 k
 unfold slices_Contains_string_string.f
 repeat' first
   | (with_reducible exact slices_Index_string_string.mono _ _ _)
   | (with_reducible exact LeO.refl _)
   | (with_reducible exact LeO.none _)
   | (with_reducible refine LeO.ite ?_ ?_)
   | (with_reducible refine LeO.bind ?_ (fun _ => ?_))
   | exact slices_Index_string_string.mono _ _ _
   | exact LeO.none _
   | refine LeO.ite ?_ ?_
   | refine LeO.bind ?_ (fun _ => ?_)
theorem slices_Contains_string_string.calls (k : Nat) (A0 : Option Addr) (c0 : Nat) (l0 : List ByteArray) (a1 : ByteArray) (r : Bool) (w : World) (hr0 : Kd.C Kd.string w A0 l0.length l0) (hc0 : l0.length ≤ c0) (h : slices_Contains_string_string.f k l0 a1 = some r) :
  Calls Tryd.prog 68 #[.slice A0 l0.length c0, .string a1] w fun e w' => e = .returned (.bool r) ∧ Drawn0 w w' := by
 have HR0 := ak_ hr0
 have HC0 := ak_ hc0
 clear hr0 hc0
 have H : ((slices_Index_string_string.f k l0 a1).bind fun t101 => (some (decide (t101 ≥ 0)))) = some r := h
 clear h
 replace H := Option.bind_eq_some_iff.mp H
 obtain ⟨t101, A30, H⟩ := H
 have A3 := ak_ A30
 clear A30
 obtain rfl := Option.some.inj H
 go_enter Tryd.func68, Tryd.ntmps68
 go_wp2_with (first | ((with_reducible refine gate_callee (f := 93) rfl ?_); refine goesL_ (some 7) rfl rfl Tryd.func93 (by kernel_rfl) rfl #[.slice A0 l0.length c0, .string a1] rfl z4_ ?_; (with_reducible refine (slices_Index_string_string.calls k _ _ l0 a1 t101 _ ?side1 ?side2 A3.out).mono ?_); (case side1 => exact cz_ (HR0.out)); (case side2 => exact HC0.out); rintro e w' ⟨rfl, ⟨nd, rfl⟩⟩; refine ⟨_, rfl, ?_⟩))
 go_ret
 exact ⟨z11_, z12_⟩
end

end Go.Proofs.YtnpgnjehndgofaaDoor.X
end

section
/-
  DERIVED: THE SHELF's CONTRACTS AT THIS DUMP, IN PLAIN WORDS (tools/lay-plain.mjs out of 'YtnpgnjehndgofaaDoorShelf0.lean', which tools/lay-shelf.mjs wrote): THE SAME DECLARATIONS UNDER THE SAME NAMES: 'import', 'namespace', 'open', 'def', 'theorem' AND NOTHING ELSE: no command of the shelf's: FOR A HAND-IN. Each laying: the table of numbers ('.._ren') and one theorem, a field a fact of the dump's own or the kernel's comparison; each contract: ONE APPLICATION.
-/
namespace Go.Proofs
open Go.Shelf
def Tryd.lays146_ren : Go.Shelf.Ren := ⟨fun | 146 => 94 | 221 => 104 | 268 => 107 | 138 => 108 | 143 => 109 | 195 => 110 | 197 => 111 | 218 => 112 | 219 => 113 | 260 => 114 | 217 => 115 | 225 => 116 | 224 => 117 | 267 => 118 | 266 => 119 | 314 => 120 | n => n, fun | 9 => 9 | 31 => 84 | 3 => 3 | 4 => 4 | 0 => 0 | 105 => 114 | 21 => 21 | 5 => 5 | 46 => 118 | 119 => 119 | 139 => 122 | 138 => 121 | 146 => 124 | 51 => 123 | n => n, fun | 1 => 0 | 3 => 1 | 4 => 2 | n => n⟩
theorem Tryd.lays146 : Go.Proofs.Lays.n146 Tryd.prog Tryd.lays146_ren := {
  mixed := by kernel_rfl
  f138 := Tryd.func108.trans (congrArg some (by kernel_rfl))
  f143 := Tryd.func109.trans (congrArg some (by kernel_rfl))
  f146 := Tryd.func94.trans (congrArg some (by kernel_rfl))
  f195 := Tryd.func110.trans (congrArg some (by kernel_rfl))
  f197 := Tryd.func111.trans (congrArg some (by kernel_rfl))
  f217 := Tryd.func115.trans (congrArg some (by kernel_rfl))
  f218 := Tryd.func112.trans (congrArg some (by kernel_rfl))
  f219 := Tryd.func113.trans (congrArg some (by kernel_rfl))
  f221 := Tryd.func104.trans (congrArg some (by kernel_rfl))
  f224 := Tryd.func117.trans (congrArg some (by kernel_rfl))
  f225 := Tryd.func116.trans (congrArg some (by kernel_rfl))
  f260 := Tryd.func114.trans (congrArg some (by kernel_rfl))
  f266 := Tryd.func119.trans (congrArg some (by kernel_rfl))
  f267 := Tryd.func118.trans (congrArg some (by kernel_rfl))
  f268 := Tryd.func107.trans (congrArg some (by kernel_rfl))
  f314 := Tryd.func120.trans (congrArg some (by kernel_rfl))
  t0 := Tryd.underlying0
  a0 := Tryd.isAgg0
  z0 := Tryd.sizeOf0
  v0 := Tryd.zeroValue0
  t3 := Tryd.underlying3
  a3 := Tryd.isAgg3
  z3 := Tryd.sizeOf3
  v3 := Tryd.zeroValue3
  t4 := Tryd.underlying4
  a4 := Tryd.isAgg4
  z4 := Tryd.sizeOf4
  v4 := Tryd.zeroValue4
  t5 := Tryd.underlying5
  a5 := Tryd.isAgg5
  z5 := Tryd.sizeOf5
  v5 := Tryd.zeroValue5
  t9 := Tryd.underlying9
  a9 := Tryd.isAgg9
  z9 := Tryd.sizeOf9
  v9 := Tryd.zeroValue9
  t21 := Tryd.underlying21
  a21 := Tryd.isAgg21
  z21 := Tryd.sizeOf21
  v21 := Tryd.zeroValue21
  t31 := Tryd.underlying84
  a31 := Tryd.isAgg84
  z31 := Tryd.sizeOf84
  v31 := Tryd.zeroValue84
  t46 := Tryd.underlying118
  a46 := Tryd.isAgg118
  z46 := Tryd.sizeOf118
  v46 := Tryd.zeroValue118
  t51 := Tryd.underlying123
  a51 := Tryd.isAgg123
  z51 := Tryd.sizeOf123
  v51 := Tryd.zeroValue123
  t105 := Tryd.underlying114
  a105 := Tryd.isAgg114
  z105 := Tryd.sizeOf114
  v105 := Tryd.zeroValue114
  t119 := Tryd.underlying119
  a119 := Tryd.isAgg119
  z119 := Tryd.sizeOf119
  t138 := Tryd.underlying121
  a138 := Tryd.isAgg121
  z138 := Tryd.sizeOf121
  v138 := Tryd.zeroValue121
  t139 := Tryd.underlying122
  a139 := Tryd.isAgg122
  z139 := Tryd.sizeOf122
  v139 := Tryd.zeroValue122
  t146 := Tryd.underlying124
  a146 := Tryd.isAgg124
  z146 := Tryd.sizeOf124
  v146 := Tryd.zeroValue124
  g1 := by kernel_rfl
  g3 := by kernel_rfl
  g4 := by kernel_rfl }
end Go.Proofs
end

section
namespace Go.Proofs.YtnpgnjehndgofaaDoor.X
open Go.RowKit Go.Proofs.YtnpgnjehndgofaaDoorW.PrintWords Go.Proofs.YtnpgnjehndgofaaDoorW.PrintLast Go.Proofs.YtnpgnjehndgofaaDoorW.PrintMore
attribute [local go_sem] max2_int min2_int max_two min_two max_three min_three max_four min_four

section
def strings_Split.f (a0 : ByteArray) (a1 : ByteArray) : Option (List ByteArray) := if a1.size = 1 ∧ a0.size < 4294967281 then some (Lib.splitB a1 0 (Lib.countB a0 a1) a0) else none
theorem strings_Split.calls (a0 : ByteArray) (a1 : ByteArray) (r : List ByteArray) (w : World) (h : strings_Split.f a0 a1 = some r) :
  Calls Tryd.prog 94 #[.string a0, .string a1] w fun e w' => ∃ v0_ : Value, e = .returned (v0_) ∧ Kd.R Kd.string 9 w' w.heap.size (fun _ => True) v0_ r ∧ Below w.heap.size w w' := by
 unfold strings_Split.f at h
 by_cases hc : a1.size = 1 ∧ a0.size < 4294967281
 case neg => rw [if_neg hc] at h; cases h
 rw [if_pos hc] at h
 obtain rfl := Option.some.inj h
 obtain ⟨h1, hs⟩ := hc
 have hle := Lib.countB_le a1 (by omega) a0.size a0 (Nat.le_refl _)
 have hlen := Lib.splitB_all a1 (by omega) 0 _ a0 rfl
 have c : Calls Tryd.prog 104 #[.string a0, .string a1, .int .i64 0, .int .i64 (-1)] w fun e w' =>
   e = .returned (.slice (some ⟨w.heap.size, 0, none⟩) (Lib.splitB a1 0 (Lib.countB a0 a1) a0).length (Lib.splitB a1 0 (Lib.countB a0 a1) a0).length) ∧ w' = w.alloc (.cells ((Lib.splitB a1 0 (Lib.countB a0 a1) a0).map Value.string).toArray 9) := by
  obtain ⟨b, rfl⟩ := Lib.one_byte a1 h1
  have L := Tryd.lays146
  have c := Any.strings_genSplit_core (ρ := Tryd.lays146_ren) { L with } (by kernel_rfl) a0 ⟨#[b]⟩ 0 (-1) (Lib.countB a0 ⟨#[b]⟩ + 1) w hs (Nat.le_refl _) (Nat.zero_le _)
   (fun x cs _ => by
    have := Any.strings_Index_one (ρ := Tryd.lays146_ren) { L with } x b (w.alloc (.cells cs (Tryd.lays146_ren.t 9)))
    rwa [show Lib.indexB x ⟨#[b]⟩ = Lib.indexByte x.data.toList b from Lib.index_one _ _])
   (by
    have := Any.strings_Count_one (ρ := Tryd.lays146_ren) { L with } a0 b w
    rwa [show Lib.countB a0 ⟨#[b]⟩ = Lib.countByte a0.data.toList b from Lib.count_one _ _])
   (by decide) (by decide) (by rw [if_pos (by decide)]; omega)
  rw [Nat.add_sub_cancel, ← hlen, Lib.cellsOf_full] at c
  exact c
 generalize hl : Lib.splitB a1 0 (Lib.countB a0 a1) a0 = l at c hlen ⊢
 have HL := ak_ hlen
 have HLE := ak_ hle
 have HS := ak_ hs
 clear hlen hl hle hs h1
 go_enter Tryd.func94, Tryd.ntmps94
 go_wp2_with (go_at_call 104; refine c.mono ?_; rintro e w' ⟨rfl, hw⟩; rw [hw])
 go_ret
 have ho := World.ownsRow_lit (base := w.heap.size) (e := 9) (size := 1) w (l.map Value.string).toArray l.length (Nat.le_refl _) (by have := HL.out; have := HLE.out; have := HS.out; simp only [maxLen]; omega) (by simp)
 exact ⟨_, rfl, Kd.R_of_own (by simpa [encs] using ho) (fun _ _ => trivial), (Below.refl _ w).alloc (Nat.le_refl _) _⟩
end

end Go.Proofs.YtnpgnjehndgofaaDoor.X
end
