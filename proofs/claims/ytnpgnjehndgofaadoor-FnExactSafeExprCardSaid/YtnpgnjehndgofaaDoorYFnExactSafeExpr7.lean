/- Contracts of functions, and what is told of them. -/
import Derived.Test.YtnpgnjehndgofaaDoorYFnExactSafeExpr6
set_option linter.unusedSimpArgs false
set_option linter.unusedVariables false
set_option maxHeartbeats 8000000
set_option maxRecDepth 100000
section
namespace Go.Proofs.YtnpgnjehndgofaaDoor.X
open Go.RowKit Go.Proofs.YtnpgnjehndgofaaDoorW.PrintWords Go.Proofs.YtnpgnjehndgofaaDoorW.PrintLast Go.Proofs.YtnpgnjehndgofaaDoorW.PrintMore
attribute [local go_sem] max2_int min2_int max_two min_two max_three min_three max_four min_four

section
def impl_isExpr.f (k : Nat) (a0_0 : Int) (a0_1 : Int) (a0_2 : ByteArray) (a0_3 : ByteArray) (a0_4 : Int) (a0_5 : Int) (a0_6 : ByteArray) (l0_7 : List (S33)) : Option (Bool) := (impl_isBounded.f k a0_0 a0_1 a0_2 a0_3 a0_4 a0_5 a0_6 l0_7).bind fun t102 => (if t102 = true then ((impl_exprOK.f k a0_0 a0_1 a0_2 a0_3 a0_4 a0_5 a0_6 l0_7 true).bind fun t103 => (some t103)) else (some false))
theorem impl_isExpr.mono : ∀ a0 a1 a2 a3 a4 a5 a6 a7 k, LeO (impl_isExpr.f k a0 a1 a2 a3 a4 a5 a6 a7) (impl_isExpr.f (k + 1) a0 a1 a2 a3 a4 a5 a6 a7) := by
 intro a0 a1 a2 a3 a4 a5 a6 a7 k
 unfold impl_isExpr.f
 repeat' first
   | (with_reducible exact impl_exprOK.mono _ _ _ _ _ _ _ _ _ _)
   | (with_reducible exact impl_isBounded.mono _ _ _ _ _ _ _ _ _)
   | (with_reducible exact LeO.refl _)
   | (with_reducible exact LeO.none _)
   | (with_reducible refine LeO.ite ?_ ?_)
   | (with_reducible refine LeO.bind ?_ (fun _ => ?_))
   | exact impl_exprOK.mono _ _ _ _ _ _ _ _ _ _
   | exact impl_isBounded.mono _ _ _ _ _ _ _ _ _
   | exact LeO.none _
   | refine LeO.ite ?_ ?_
   | refine LeO.bind ?_ (fun _ => ?_)
theorem impl_isExpr.calls (k : Nat) (a0_0 : Int) (a0_1 : Int) (a0_2 : ByteArray) (a0_3 : ByteArray) (a0_4 : Int) (a0_5 : Int) (a0_6 : ByteArray) (A0_7 : Option Addr) (c0_7 : Nat) (l0_7 : List (S33)) (r : Bool) (w : World) (hr0_7 : Kd.C k33 w A0_7 l0_7.length l0_7) (hc0_7 : l0_7.length ≤ c0_7) (h : impl_isExpr.f k a0_0 a0_1 a0_2 a0_3 a0_4 a0_5 a0_6 l0_7 = some r) :
  Calls Tryd.prog 27 #[.agg #[.int .i64 a0_0, .int .i64 a0_1, .string a0_2, .string a0_3, .int .i64 a0_4, .int .i64 a0_5, .string a0_6, .slice A0_7 l0_7.length c0_7]] w fun e w' => e = .returned (.bool r) ∧ Below w.heap.size w w' := by
 have hu33 := Tryd.underlying33
 have HR0_7 := ak_ hr0_7
 have HC0_7 := ak_ hc0_7
 clear hr0_7 hc0_7
 have HB := ak_ (Below.refl w.heap.size w)
 have H := h
 unfold impl_isExpr.f at H
 clear h
 replace H := Option.bind_eq_some_iff.mp H
 obtain ⟨t102, A20, H⟩ := H
 have A2 := ak_ A20
 clear A20
 by_cases c3 : t102 = true
 rotate_left
 ·replace c3 := Bool.eq_false_iff.mpr c3
  subst c3
  have H1 : (some false) = some r := by rw [if_neg (show ¬ (false = true) by decide)] at H; exact H
  clear H
  have H := H1
  clear H1
  obtain rfl := Option.some.inj H
  go_enter Tryd.func27, Tryd.ntmps27
  go_wp2_with (first | ((with_reducible refine gate_dst (N := 1) rfl ?_); refine bx_ 1 (cs := #[.int .i64 a0_0, .int .i64 a0_1, .string a0_2, .string a0_3, .int .i64 a0_4, .int .i64 a0_5, .string a0_6, .slice A0_7 l0_7.length c0_7]) (t := 33) (h_ := ?_); intro gb101 hg w10 hbox hb; have n_ := a4_ (below_step z0_ hb) (hbox) ((gs_ w hg (below_size z0_))) ((gs_ w hg (below_size z0_))); clear HB; obtain ⟨HB, BK101, GW101, GE101⟩ := n_; clear hb hbox hg; obtain ⟨hcz11_0, hcz11_1, hcz11_2, hcz11_3, hcz11_4, hcz11_5, hcz11_6, hcz11_7, hfz11_0, hfz11_1, hfz11_2, hfz11_3, hfz11_4, hfz11_5, hfz11_6, hfz11_7⟩ := bcf8 BK101.out) | ((with_reducible refine gate_callee (f := 38) rfl ?_); refine goesL_ (some 4) rfl rfl Tryd.func38 (by kernel_rfl) rfl #[.agg #[.int .i64 a0_0, .int .i64 a0_1, .string a0_2, .string a0_3, .int .i64 a0_4, .int .i64 a0_5, .string a0_6, .slice A0_7 l0_7.length c0_7]] rfl z4_ ?_; (with_reducible refine (impl_isBounded.calls k a0_0 a0_1 a0_2 a0_3 a0_4 a0_5 a0_6 _ _ l0_7 false _ ?side1 ?side2 A2.out).mono ?_); (case side1 => exact cz_ ((Kd.C_below HR0_7.out HB.out))); (case side2 => exact HC0_7.out); rintro e w12 ⟨rfl, hb⟩; refine ⟨_, rfl, ?_⟩; have n_ := a2_ (blk_below (g := gb101) (o := .cells #[.int .i64 a0_0, .int .i64 a0_1, .string a0_2, .string a0_3, .int .i64 a0_4, .int .i64 a0_5, .string a0_6, .slice A0_7 l0_7.length c0_7] 33 (0, 0)) z2_ hb) (below_step z1_ hb); clear BK101 HB; obtain ⟨BK101, HB⟩ := n_; (try clear hb); (try clear hb2); (try clear hk); (try clear hi)))
  go_ret
  exact ⟨z5_, z1_⟩

 subst c3
 have H1 : ((impl_exprOK.f k a0_0 a0_1 a0_2 a0_3 a0_4 a0_5 a0_6 l0_7 true).bind fun t103 => (some t103)) = some r := by rw [if_pos rfl] at H; exact H
 clear H
 have H := H1
 clear H1
 replace H := Option.bind_eq_some_iff.mp H
 obtain ⟨t103, A40, H⟩ := H
 have A4 := ak_ A40
 clear A40
 obtain rfl := Option.some.inj H
 go_enter Tryd.func27, Tryd.ntmps27
 go_wp2_with (first | ((with_reducible refine gate_dst (N := 1) rfl ?_); refine bx_ 1 (cs := #[.int .i64 a0_0, .int .i64 a0_1, .string a0_2, .string a0_3, .int .i64 a0_4, .int .i64 a0_5, .string a0_6, .slice A0_7 l0_7.length c0_7]) (t := 33) (h_ := ?_); intro gb101 hg w5 hbox hb; have n_ := a4_ (below_step z0_ hb) (hbox) ((gs_ w hg (below_size z0_))) ((gs_ w hg (below_size z0_))); clear HB; obtain ⟨HB, BK101, GW101, GE101⟩ := n_; clear hb hbox hg; obtain ⟨hcz6_0, hcz6_1, hcz6_2, hcz6_3, hcz6_4, hcz6_5, hcz6_6, hcz6_7, hfz6_0, hfz6_1, hfz6_2, hfz6_3, hfz6_4, hfz6_5, hfz6_6, hfz6_7⟩ := bcf8 BK101.out) | ((with_reducible refine gate_callee (f := 38) rfl ?_); refine goesL_ (some 4) rfl rfl Tryd.func38 (by kernel_rfl) rfl #[.agg #[.int .i64 a0_0, .int .i64 a0_1, .string a0_2, .string a0_3, .int .i64 a0_4, .int .i64 a0_5, .string a0_6, .slice A0_7 l0_7.length c0_7]] rfl z4_ ?_; (with_reducible refine (impl_isBounded.calls k a0_0 a0_1 a0_2 a0_3 a0_4 a0_5 a0_6 _ _ l0_7 true _ ?side1 ?side2 A2.out).mono ?_); (case side1 => exact cz_ ((Kd.C_below HR0_7.out HB.out))); (case side2 => exact HC0_7.out); rintro e w7 ⟨rfl, hb⟩; refine ⟨_, rfl, ?_⟩; have n_ := a2_ (blk_below (g := gb101) (o := .cells #[.int .i64 a0_0, .int .i64 a0_1, .string a0_2, .string a0_3, .int .i64 a0_4, .int .i64 a0_5, .string a0_6, .slice A0_7 l0_7.length c0_7] 33 (0, 0)) z2_ hb) (below_step z1_ hb); clear BK101 HB; obtain ⟨BK101, HB⟩ := n_; (try clear hb); (try clear hb2); (try clear hk); (try clear hi); obtain ⟨hcz8_0, hcz8_1, hcz8_2, hcz8_3, hcz8_4, hcz8_5, hcz8_6, hcz8_7, hfz8_0, hfz8_1, hfz8_2, hfz8_3, hfz8_4, hfz8_5, hfz8_6, hfz8_7⟩ := bcf8 BK101.out) | (go_at_call 44; (with_reducible refine (impl_exprOK.calls k a0_0 a0_1 a0_2 a0_3 a0_4 a0_5 a0_6 _ _ l0_7 true t103 _ ?side1 ?side2 A4.out).mono ?_); (case side1 => exact cz_ ((Kd.C_below HR0_7.out HB.out))); (case side2 => exact HC0_7.out); rintro e w9 ⟨rfl, hb⟩; have n_ := a2_ (blk_below (g := gb101) (o := .cells #[.int .i64 a0_0, .int .i64 a0_1, .string a0_2, .string a0_3, .int .i64 a0_4, .int .i64 a0_5, .string a0_6, .slice A0_7 l0_7.length c0_7] 33 (0, 0)) z2_ hb) (below_step z1_ hb); clear BK101 HB; obtain ⟨BK101, HB⟩ := n_; (try clear hb); (try clear hb2); (try clear hk); (try clear hi)))
 go_ret
 exact ⟨z5_, z1_⟩
end

section
def impl_isSafe.u (k : Nat) (x0 : Int) (x2 : ByteArray) : Option Bool := if x0 = 17 then some true else if x0 = 15 then some (x2.toList == ([45] : List UInt8)) else if x0 = 16 then (impl_levelOf.f k x2).bind fun l => some (decide (l > 4)) else some false
theorem impl_isSafe.u_mono (k : Nat) (x0 : Int) (x2 : ByteArray) : LeO (impl_isSafe.u k x0 x2) (impl_isSafe.u (k + 1) x0 x2) := by
 unfold impl_isSafe.u
 exact LeO.ite (LeO.refl _) (LeO.ite (LeO.refl _) (LeO.ite (LeO.bind (impl_levelOf.mono _ _) fun _ => LeO.refl _) (LeO.refl _)))
def impl_isSafe.t : Nat → S33 → Option Bool
 | 0, _ => none
 | k + 1, x => (impl_isSafe.u k x.f0 x.f2).bind fun b => if b = true then some false else (anyM (fun y => (impl_isSafe.t k y).bind fun b => some (!b)) x.f5).bind fun b => some (!b)
theorem impl_isSafe.t_mono : ∀ k x, LeO (impl_isSafe.t k x) (impl_isSafe.t (k + 1) x)
 | 0, _ => LeO.none _
 | k + 1, x => by
  unfold impl_isSafe.t
  exact LeO.bind (impl_isSafe.u_mono _ _ _) fun _ => LeO.ite (LeO.refl _) (LeO.bind (anyM_mono _ fun y => LeO.bind (impl_isSafe.t_mono k y) fun _ => LeO.refl _) fun _ => LeO.refl _)
def impl_isSafe.f (k : Nat) (a0_0 : Int) (a0_1 : Int) (a0_2 : ByteArray) (a0_3 : ByteArray) (a0_4 : Int) (a0_5 : Int) (a0_6 : ByteArray) (l0_7 : List (S33)) : Option Bool := impl_isSafe.t k ⟨a0_0, a0_1, a0_2, a0_3, ⟨a0_4, a0_5, a0_6⟩, l0_7⟩
theorem impl_isSafe.mono : ∀ a0 a1 a2 a3 a4 a5 a6 a7 k, LeO (impl_isSafe.f k a0 a1 a2 a3 a4 a5 a6 a7) (impl_isSafe.f (k + 1) a0 a1 a2 a3 a4 a5 a6 a7) := fun _ _ _ _ _ _ _ _ k => impl_isSafe.t_mono k _
def impl_isSafe.C (k : Nat) : Prop := ∀ (x : S33) (A : Option Addr) (c : Nat) (r : Bool) (w : World), Kd.C k33 w A x.f5.length x.f5 → x.f5.length ≤ c → impl_isSafe.t k x = some r →
  Calls Tryd.prog 28 #[.agg #[.int .i64 x.f0, .int .i64 x.f1, .string x.f2, .string x.f3, .int .i64 x.f4.f0, .int .i64 x.f4.f1, .string x.f4.f2, .slice A x.f5.length c]] w fun e w' => e = .returned (.bool r) ∧ Below w.heap.size w w'
theorem impl_isSafe.clo {k : Nat} (ih : impl_isSafe.C k) (x : S33) (A : Option Addr) (c : Nat) (b : Bool) (W : World) (hr : Kd.C k33 W A x.f5.length x.f5) (hl : x.f5.length ≤ c) (hb : ((impl_isSafe.t k x).bind fun b => some (!b)) = some b) :
  Calls Tryd.prog 56 (#[.agg #[.int .i64 x.f0, .int .i64 x.f1, .string x.f2, .string x.f3, .int .i64 x.f4.f0, .int .i64 x.f4.f1, .string x.f4.f2, .slice A x.f5.length c]] ++ #[]) W fun e w' => e = .returned (.bool b) ∧ Below W.heap.size W w' := by
 have hu33 := Tryd.underlying33
 have hu30 := Tryd.underlying30
 obtain ⟨b0, h0, h1⟩ := Option.bind_eq_some_iff.mp hb
 obtain rfl := Option.some.inj h1
 have HR := ak_ hr
 have HI := ak_ (fun (w : World) (h1 : Kd.C k33 w A x.f5.length x.f5) => ih x A c b0 w h1 hl h0)
 have HB := ak_ (Below.refl W.heap.size W)
 clear hr hl hb ih h0 h1
 go_enter Tryd.func56, Tryd.ntmps56
 go_wp2_with (go_at_call 28; refine (HI.out _ z17_).mono ?_; rintro e w' ⟨rfl, hb'⟩)
 go_ret
 exact ⟨rfl, below_step z0_ hb'⟩
theorem impl_isSafe.all : ∀ k, impl_isSafe.C k
 | 0 => fun _ _ _ _ _ _ _ h => by cases h
 | k + 1 => by
  intro x A c r w hr hl h
  have ih := impl_isSafe.all k
  have hu33 := Tryd.underlying33
  have hu30 := Tryd.underlying30
  unfold impl_isSafe.t at h
  obtain ⟨x0, x1, x2, x3, v, l⟩ := x
  dsimp only at h hr hl ⊢
  have HB := ak_ (Below.refl w.heap.size w)
  have HT := fun (W : World) (hW : Below w.heap.size w W) (hall : ∀ y ∈ l, ((impl_isSafe.t k y).bind fun b => some (!b)) = some (((impl_isSafe.t k y).bind fun b => some (!b)).getD false)) =>
   impl_Tree_42.any 56 #[] (fun y => ((impl_isSafe.t k y).bind fun b => some (!b)).getD false) A c l W (Kd.C_below hr hW) (fun _ _ => by kernel_rfl)
   (fun W y A7 c7 hy hb hC hle => (impl_isSafe.clo ih y A7 c7 _ W hC hle (hall y hy)).mono fun e w' h_ => ⟨h_.1, below_step hb h_.2⟩)
  have n0_ := ak_ HT
  have n1_ := ak_ h
  clear HT h ih hr
  have HT := n0_
  have HH := n1_
  clear n0_ n1_
  go_enter Tryd.func28, Tryd.ntmps28
  go_upto_region 1 with (first | ((with_reducible refine gate_dst (N := 1) rfl ?_); refine bx_ 1 (cs := #[.int .i64 x0, .int .i64 x1, .string x2, .string x3, .int .i64 v.f0, .int .i64 v.f1, .string v.f2, .slice A l.length c]) (t := 33) (h_ := ?_); intro gb hg w1 hbox hb; have n0_ := ak_ (below_step HB.out hb); have BK := ak_ hbox; clear HB; have HB := n0_; clear n0_ hb hbox hg))
  have hcz0 : w1.cell? ⟨gb, 0, none⟩ = some (.int .i64 x0) := (blk_cell BK.out 0).trans rfl
  have hcz2 : w1.cell? ⟨gb, 2, none⟩ = some (.string x2) := (blk_cell BK.out 2).trans rfl
  have hcz5 : w1.cell? ⟨gb, 7, none⟩ = some (.slice A l.length c) := (blk_cell BK.out 7).trans rfl
  obtain ⟨b, hu, h2⟩ := Option.bind_eq_some_iff.mp HH.out
  clear HH
  unfold impl_isSafe.u at hu
  have tail : b = false → ∃ b', r = !b' ∧ Aside0 (∀ (W : World), Below w.heap.size w W → Calls Tryd.prog 42 #[.slice A l.length c, .func (.func 56) #[] #[]] W fun e w' => e = .returned (.bool b') ∧ Below W.heap.size W w') := by
   intro hbf
   rw [hbf, if_neg (show ¬ (false = true) by decide)] at h2
   obtain ⟨b', hb', h3⟩ := Option.bind_eq_some_iff.mp h2
   obtain ⟨hall, rfl⟩ := anyM_some hb'
   exact ⟨_, (Option.some.inj h3).symm, ⟨fun W hW => HT.out W hW hall⟩⟩
  by_cases c17 : x0 = 17
  ·subst c17
   rw [if_pos rfl] at hu
   obtain rfl := Option.some.inj hu
   rw [if_pos rfl] at h2
   obtain rfl := Option.some.inj h2
   clear h2 hu tail HT hl
   go_wp2_with fail
   go_ret
   exact ⟨rfl, HB.out⟩
  rw [if_neg c17] at hu
  have b17 : (x0 == 17) = false := beq_eq_false_iff_ne.mpr c17
  have q17 := eq_false c17
  clear c17
  by_cases c15 : x0 = 15
  ·subst c15
   rw [if_pos rfl] at hu
   clear b17 q17
   rcases Bool.eq_false_or_eq_true (x2.toList == ([45] : List UInt8)) with t0 | t0
   rotate_left
   ·rw [t0] at hu
    obtain ⟨b', rfl, HC⟩ := tail (Option.some.inj hu).symm
    clear h2 hu tail HT hl
    go_wp2_with (go_at_call 42; refine (HC.out _ z7_).mono ?_; rintro e w' ⟨rfl, hb'⟩)
    go_ret
    exact ⟨rfl, below_step z7_ hb'⟩
   rw [t0] at hu
   obtain rfl := Option.some.inj hu
   rw [if_pos rfl] at h2
   obtain rfl := Option.some.inj h2
   clear h2 hu tail HT hl
   go_wp2_with fail
   go_ret
   exact ⟨rfl, HB.out⟩
  rw [if_neg c15] at hu
  have b15 : (x0 == 15) = false := beq_eq_false_iff_ne.mpr c15
  have q15 := eq_false c15
  clear c15
  by_cases c16 : x0 = 16
  ·subst c16
   rw [if_pos rfl] at hu
   clear b17 q17 b15 q15
   obtain ⟨lv, hlv, hu⟩ := Option.bind_eq_some_iff.mp hu
   have HL := ak_ hlv
   clear hlv
   rcases Bool.eq_false_or_eq_true (decide (lv > 4)) with t0 | t0
   rotate_left
   ·rw [t0] at hu
    obtain ⟨b', rfl, HC⟩ := tail (Option.some.inj hu).symm
    clear h2 hu tail HT hl
    go_wp2_with (first | (go_at_call 55; (with_reducible refine (impl_levelOf.calls k x2 lv _ HL.out).mono ?_); rintro e w2 ⟨rfl, hb⟩; have n_ := a2_ (below_step z7_ hb) (blk_below (g := gb) (o := .cells #[.int .i64 16, .int .i64 x1, .string x2, .string x3, .int .i64 v.f0, .int .i64 v.f1, .string v.f2, .slice A l.length c] 33 (0, 0)) z8_ hb); clear HB BK; obtain ⟨HB, BK⟩ := n_; clear hb; have hcy5 : w2.cell? ⟨gb, 7, none⟩ = some (.slice A l.length c) := (blk_cell BK.out 7).trans rfl) | (go_at_call 42; refine (HC.out _ z7_).mono ?_; rintro e w' ⟨rfl, hb'⟩))
    go_ret
    exact ⟨rfl, below_step z7_ hb'⟩
   rw [t0] at hu
   obtain rfl := Option.some.inj hu
   rw [if_pos rfl] at h2
   obtain rfl := Option.some.inj h2
   clear h2 hu tail HT hl
   go_wp2_with (go_at_call 55; (with_reducible refine (impl_levelOf.calls k x2 lv _ HL.out).mono ?_); rintro e w2 ⟨rfl, hb⟩; have n_ := ak_ (below_step z7_ hb); clear HB; have HB := n_; clear n_ hb)
   go_ret
   exact ⟨rfl, z7_⟩
  rw [if_neg c16] at hu
  have b16 : (x0 == 16) = false := beq_eq_false_iff_ne.mpr c16
  have q16 := eq_false c16
  clear c16
  obtain ⟨b', rfl, HC⟩ := tail (Option.some.inj hu).symm
  clear h2 hu tail HT hl
  go_wp2_with (go_at_call 42; refine (HC.out _ z7_).mono ?_; rintro e w' ⟨rfl, hb'⟩)
  go_ret
  exact ⟨rfl, below_step z7_ hb'⟩
theorem impl_isSafe.calls (k : Nat) (a0_0 : Int) (a0_1 : Int) (a0_2 : ByteArray) (a0_3 : ByteArray) (a0_4 : Int) (a0_5 : Int) (a0_6 : ByteArray) (A0_7 : Option Addr) (c0_7 : Nat) (l0_7 : List (S33)) (r : Bool) (w : World) (hr0_7 : Kd.C k33 w A0_7 l0_7.length l0_7) (hc0_7 : l0_7.length ≤ c0_7) (h : impl_isSafe.f k a0_0 a0_1 a0_2 a0_3 a0_4 a0_5 a0_6 l0_7 = some r) :
  Calls Tryd.prog 28 #[.agg #[.int .i64 a0_0, .int .i64 a0_1, .string a0_2, .string a0_3, .int .i64 a0_4, .int .i64 a0_5, .string a0_6, .slice A0_7 l0_7.length c0_7]] w fun e w' => e = .returned (.bool r) ∧ Below w.heap.size w w' :=
 impl_isSafe.all k ⟨a0_0, a0_1, a0_2, a0_3, ⟨a0_4, a0_5, a0_6⟩, l0_7⟩ A0_7 c0_7 r w hr0_7 hc0_7 h
end

section
def impl_SafeExpr.f (k : Nat) (a0_0 : Int) (a0_1 : Int) (a0_2 : ByteArray) (a0_3 : ByteArray) (a0_4 : Int) (a0_5 : Int) (a0_6 : ByteArray) (l0_7 : List (S33)) : Option (Bool × Int) := (impl_isExpr.f k a0_0 a0_1 a0_2 a0_3 a0_4 a0_5 a0_6 l0_7).bind fun t102 => (if t102 = true then ((impl_isSafe.f k a0_0 a0_1 a0_2 a0_3 a0_4 a0_5 a0_6 l0_7).bind fun t103 => (some (t103, 0))) else (some (false, 1)))
theorem impl_SafeExpr.mono : ∀ a0 a1 a2 a3 a4 a5 a6 a7 k, LeO (impl_SafeExpr.f k a0 a1 a2 a3 a4 a5 a6 a7) (impl_SafeExpr.f (k + 1) a0 a1 a2 a3 a4 a5 a6 a7) := by
 intro a0 a1 a2 a3 a4 a5 a6 a7 k
 unfold impl_SafeExpr.f
 repeat' first
   | (with_reducible exact impl_isExpr.mono _ _ _ _ _ _ _ _ _)
   | (with_reducible exact impl_isSafe.mono _ _ _ _ _ _ _ _ _)
   | (with_reducible exact LeO.refl _)
   | (with_reducible exact LeO.none _)
   | (with_reducible refine LeO.ite ?_ ?_)
   | (with_reducible refine LeO.bind ?_ (fun _ => ?_))
   | exact impl_isExpr.mono _ _ _ _ _ _ _ _ _
   | exact impl_isSafe.mono _ _ _ _ _ _ _ _ _
   | exact LeO.none _
   | refine LeO.ite ?_ ?_
   | refine LeO.bind ?_ (fun _ => ?_)
theorem impl_SafeExpr.calls (k : Nat) (a0_0 : Int) (a0_1 : Int) (a0_2 : ByteArray) (a0_3 : ByteArray) (a0_4 : Int) (a0_5 : Int) (a0_6 : ByteArray) (A0_7 : Option Addr) (c0_7 : Nat) (l0_7 : List (S33)) (r1 : Bool) (r2 : Int) (w : World) (hr0_7 : Kd.C k33 w A0_7 l0_7.length l0_7) (hc0_7 : l0_7.length ≤ c0_7) (h : impl_SafeExpr.f k a0_0 a0_1 a0_2 a0_3 a0_4 a0_5 a0_6 l0_7 = some (r1, r2)) :
  Calls Tryd.prog 10 #[.agg #[.int .i64 a0_0, .int .i64 a0_1, .string a0_2, .string a0_3, .int .i64 a0_4, .int .i64 a0_5, .string a0_6, .slice A0_7 l0_7.length c0_7]] w fun e w' => e = .returned (.tuple #[.bool r1, .int .i64 r2]) ∧ Below w.heap.size w w' := by
 have hu33 := Tryd.underlying33
 have HR0_7 := ak_ hr0_7
 have HC0_7 := ak_ hc0_7
 clear hr0_7 hc0_7
 have HB := ak_ (Below.refl w.heap.size w)
 have H := h
 unfold impl_SafeExpr.f at H
 clear h
 replace H := Option.bind_eq_some_iff.mp H
 obtain ⟨t102, A20, H⟩ := H
 have A2 := ak_ A20
 clear A20
 by_cases c3 : t102 = true
 rotate_left
 ·replace c3 := Bool.eq_false_iff.mpr c3
  subst c3
  have H1 : (some (false, 1)) = some (r1, r2) := by rw [if_neg (show ¬ (false = true) by decide)] at H; exact H
  clear H
  have H := H1
  clear H1
  simp only [Option.some.injEq, Prod.mk.injEq] at H
  obtain ⟨rfl, rfl⟩ := H
  go_enter Tryd.func10, Tryd.ntmps10
  go_wp2_with (first | ((with_reducible refine gate_dst (N := 1) rfl ?_); refine bx_ 1 (cs := #[.int .i64 a0_0, .int .i64 a0_1, .string a0_2, .string a0_3, .int .i64 a0_4, .int .i64 a0_5, .string a0_6, .slice A0_7 l0_7.length c0_7]) (t := 33) (h_ := ?_); intro gb101 hg w10 hbox hb; have n_ := a4_ (below_step z0_ hb) (hbox) ((gs_ w hg (below_size z0_))) ((gs_ w hg (below_size z0_))); clear HB; obtain ⟨HB, BK101, GW101, GE101⟩ := n_; clear hb hbox hg; obtain ⟨hcz11_0, hcz11_1, hcz11_2, hcz11_3, hcz11_4, hcz11_5, hcz11_6, hcz11_7, hfz11_0, hfz11_1, hfz11_2, hfz11_3, hfz11_4, hfz11_5, hfz11_6, hfz11_7⟩ := bcf8 BK101.out) | ((with_reducible refine gate_callee (f := 27) rfl ?_); refine goesL_ (some 5) rfl rfl Tryd.func27 (by kernel_rfl) rfl #[.agg #[.int .i64 a0_0, .int .i64 a0_1, .string a0_2, .string a0_3, .int .i64 a0_4, .int .i64 a0_5, .string a0_6, .slice A0_7 l0_7.length c0_7]] rfl z4_ ?_; (with_reducible refine (impl_isExpr.calls k a0_0 a0_1 a0_2 a0_3 a0_4 a0_5 a0_6 _ _ l0_7 false _ ?side1 ?side2 A2.out).mono ?_); (case side1 => exact cz_ ((Kd.C_below HR0_7.out HB.out))); (case side2 => exact HC0_7.out); rintro e w12 ⟨rfl, hb⟩; refine ⟨_, rfl, ?_⟩; have n_ := a2_ (blk_below (g := gb101) (o := .cells #[.int .i64 a0_0, .int .i64 a0_1, .string a0_2, .string a0_3, .int .i64 a0_4, .int .i64 a0_5, .string a0_6, .slice A0_7 l0_7.length c0_7] 33 (0, 0)) z2_ hb) (below_step z1_ hb); clear BK101 HB; obtain ⟨BK101, HB⟩ := n_; (try clear hb); (try clear hb2); (try clear hk); (try clear hi)))
  go_ret2
  exact ⟨z5_, z1_⟩

 subst c3
 have H1 : ((impl_isSafe.f k a0_0 a0_1 a0_2 a0_3 a0_4 a0_5 a0_6 l0_7).bind fun t103 => (some (t103, 0))) = some (r1, r2) := by rw [if_pos rfl] at H; exact H
 clear H
 have H := H1
 clear H1
 replace H := Option.bind_eq_some_iff.mp H
 obtain ⟨t103, A40, H⟩ := H
 have A4 := ak_ A40
 clear A40
 simp only [Option.some.injEq, Prod.mk.injEq] at H
 obtain ⟨rfl, rfl⟩ := H
 go_enter Tryd.func10, Tryd.ntmps10
 go_wp2_with (first | ((with_reducible refine gate_dst (N := 1) rfl ?_); refine bx_ 1 (cs := #[.int .i64 a0_0, .int .i64 a0_1, .string a0_2, .string a0_3, .int .i64 a0_4, .int .i64 a0_5, .string a0_6, .slice A0_7 l0_7.length c0_7]) (t := 33) (h_ := ?_); intro gb101 hg w5 hbox hb; have n_ := a4_ (below_step z0_ hb) (hbox) ((gs_ w hg (below_size z0_))) ((gs_ w hg (below_size z0_))); clear HB; obtain ⟨HB, BK101, GW101, GE101⟩ := n_; clear hb hbox hg; obtain ⟨hcz6_0, hcz6_1, hcz6_2, hcz6_3, hcz6_4, hcz6_5, hcz6_6, hcz6_7, hfz6_0, hfz6_1, hfz6_2, hfz6_3, hfz6_4, hfz6_5, hfz6_6, hfz6_7⟩ := bcf8 BK101.out) | ((with_reducible refine gate_callee (f := 27) rfl ?_); refine goesL_ (some 5) rfl rfl Tryd.func27 (by kernel_rfl) rfl #[.agg #[.int .i64 a0_0, .int .i64 a0_1, .string a0_2, .string a0_3, .int .i64 a0_4, .int .i64 a0_5, .string a0_6, .slice A0_7 l0_7.length c0_7]] rfl z4_ ?_; (with_reducible refine (impl_isExpr.calls k a0_0 a0_1 a0_2 a0_3 a0_4 a0_5 a0_6 _ _ l0_7 true _ ?side1 ?side2 A2.out).mono ?_); (case side1 => exact cz_ ((Kd.C_below HR0_7.out HB.out))); (case side2 => exact HC0_7.out); rintro e w7 ⟨rfl, hb⟩; refine ⟨_, rfl, ?_⟩; have n_ := a2_ (blk_below (g := gb101) (o := .cells #[.int .i64 a0_0, .int .i64 a0_1, .string a0_2, .string a0_3, .int .i64 a0_4, .int .i64 a0_5, .string a0_6, .slice A0_7 l0_7.length c0_7] 33 (0, 0)) z2_ hb) (below_step z1_ hb); clear BK101 HB; obtain ⟨BK101, HB⟩ := n_; (try clear hb); (try clear hb2); (try clear hk); (try clear hi); obtain ⟨hcz8_0, hcz8_1, hcz8_2, hcz8_3, hcz8_4, hcz8_5, hcz8_6, hcz8_7, hfz8_0, hfz8_1, hfz8_2, hfz8_3, hfz8_4, hfz8_5, hfz8_6, hfz8_7⟩ := bcf8 BK101.out) | ((with_reducible refine gate_callee (f := 28) rfl ?_); refine goesL_ (some 8) rfl rfl Tryd.func28 (by kernel_rfl) rfl #[.agg #[.int .i64 a0_0, .int .i64 a0_1, .string a0_2, .string a0_3, .int .i64 a0_4, .int .i64 a0_5, .string a0_6, .slice A0_7 l0_7.length c0_7]] rfl z4_ ?_; (with_reducible refine (impl_isSafe.calls k a0_0 a0_1 a0_2 a0_3 a0_4 a0_5 a0_6 _ _ l0_7 t103 _ ?side1 ?side2 A4.out).mono ?_); (case side1 => exact cz_ ((Kd.C_below HR0_7.out HB.out))); (case side2 => exact HC0_7.out); rintro e w9 ⟨rfl, hb⟩; refine ⟨_, rfl, ?_⟩; have n_ := a2_ (blk_below (g := gb101) (o := .cells #[.int .i64 a0_0, .int .i64 a0_1, .string a0_2, .string a0_3, .int .i64 a0_4, .int .i64 a0_5, .string a0_6, .slice A0_7 l0_7.length c0_7] 33 (0, 0)) z2_ hb) (below_step z1_ hb); clear BK101 HB; obtain ⟨BK101, HB⟩ := n_; (try clear hb); (try clear hb2); (try clear hk); (try clear hi)))
 go_ret2
 exact ⟨z5_, z1_⟩
end

section
def laws_eqValue.f (a0_0 : Int) (a0_1 : Int) (a0_2 : ByteArray) (a1_0 : Int) (a1_1 : Int) (a1_2 : ByteArray) : Option (Bool) := if a0_0 = a1_0 then (if a0_1 = a1_1 then (if a0_2.toList = a1_2.toList then (some true) else (some false)) else (some false)) else (some false)
theorem laws_eqValue.calls (a0_0 : Int) (a0_1 : Int) (a0_2 : ByteArray) (a1_0 : Int) (a1_1 : Int) (a1_2 : ByteArray) (r : Bool) (w : World) (h : laws_eqValue.f a0_0 a0_1 a0_2 a1_0 a1_1 a1_2 = some r) :
  Calls Tryd.prog 29 #[.agg #[.int .i64 a0_0, .int .i64 a0_1, .string a0_2], .agg #[.int .i64 a1_0, .int .i64 a1_1, .string a1_2]] w fun e w' => e = .returned (.bool r) ∧ Below w.heap.size w w' := by
 have hu30 := Tryd.underlying30
 have HB := ak_ (Below.refl w.heap.size w)
 have H := h
 unfold laws_eqValue.f at H
 clear h
 by_cases c3 : a0_0 = a1_0
 rotate_left
 ·rw [if_neg c3] at H
  have c3b0 : (a0_0 == a1_0) = false := beq_eq_false_iff_ne.mpr c3
  have c3b1 : (a0_0 != a1_0) = true := bne_iff_ne.mpr c3
  obtain rfl := Option.some.inj H
  go_enter Tryd.func29, Tryd.ntmps29
  go_wp2_with (first | ((with_reducible refine gate_dst (N := 2) rfl ?_); refine bx_ 2 (cs := #[.int .i64 a0_0, .int .i64 a0_1, .string a0_2]) (t := 30) (h_ := ?_); intro gb101 hg w21 hbox hb; have n_ := a4_ (below_step z0_ hb) (hbox) ((gs_ w hg (below_size z0_))) ((gs_ w hg (below_size z0_))); clear HB; obtain ⟨HB, BK101, GW101, GE101⟩ := n_; clear hb hbox hg) | ((with_reducible refine gate_dst (N := 3) rfl ?_); refine bx_ 3 (cs := #[.int .i64 a1_0, .int .i64 a1_1, .string a1_2]) (t := 30) (h_ := ?_); intro gb102 hg w22 hbox hb; have n_ := a7_ (blk_below (g := gb101) (o := .cells #[.int .i64 a0_0, .int .i64 a0_1, .string a0_2] 30 (0, 0)) z2_ hb) (below_step z1_ hb) (hbox) ((gs_ w hg (below_size z1_))) ((gs_ w hg (below_size z1_))) ((z27_ : gb101 ≠ gb102)) ((z28_ : gb102 ≠ gb101)); clear BK101 HB; obtain ⟨BK101, HB, BK102, GW102, GE102, NB101_102, NB102_101⟩ := n_; clear hb hbox hg; have hnb23 := NB101_102.out; have hnc23 := NB102_101.out; obtain ⟨hcz24_0, hcz24_1, hcz24_2, hfz24_0, hfz24_1, hfz24_2⟩ := bcf3 BK101.out; obtain ⟨hcz25_0, hcz25_1, hcz25_2, hfz25_0, hfz25_1, hfz25_2⟩ := bcf3 BK102.out))
  go_ret
  exact ⟨z5_, z3_⟩

 rw [if_pos c3] at H
 have c3b0 : (a0_0 == a1_0) = true := beq_iff_eq.mpr c3
 have c3b1 : (a0_0 != a1_0) = false := bne_eq_false_iff_eq.mpr c3
 clear c3
 by_cases c4 : a0_1 = a1_1
 rotate_left
 ·rw [if_neg c4] at H
  have c4b0 : (a0_1 == a1_1) = false := beq_eq_false_iff_ne.mpr c4
  have c4b1 : (a0_1 != a1_1) = true := bne_iff_ne.mpr c4
  obtain rfl := Option.some.inj H
  go_enter Tryd.func29, Tryd.ntmps29
  go_wp2_with (first | ((with_reducible refine gate_dst (N := 2) rfl ?_); refine bx_ 2 (cs := #[.int .i64 a0_0, .int .i64 a0_1, .string a0_2]) (t := 30) (h_ := ?_); intro gb101 hg w16 hbox hb; have n_ := a4_ (below_step z0_ hb) (hbox) ((gs_ w hg (below_size z0_))) ((gs_ w hg (below_size z0_))); clear HB; obtain ⟨HB, BK101, GW101, GE101⟩ := n_; clear hb hbox hg) | ((with_reducible refine gate_dst (N := 3) rfl ?_); refine bx_ 3 (cs := #[.int .i64 a1_0, .int .i64 a1_1, .string a1_2]) (t := 30) (h_ := ?_); intro gb102 hg w17 hbox hb; have n_ := a7_ (blk_below (g := gb101) (o := .cells #[.int .i64 a0_0, .int .i64 a0_1, .string a0_2] 30 (0, 0)) z2_ hb) (below_step z1_ hb) (hbox) ((gs_ w hg (below_size z1_))) ((gs_ w hg (below_size z1_))) ((z27_ : gb101 ≠ gb102)) ((z28_ : gb102 ≠ gb101)); clear BK101 HB; obtain ⟨BK101, HB, BK102, GW102, GE102, NB101_102, NB102_101⟩ := n_; clear hb hbox hg; have hnb18 := NB101_102.out; have hnc18 := NB102_101.out; obtain ⟨hcz19_0, hcz19_1, hcz19_2, hfz19_0, hfz19_1, hfz19_2⟩ := bcf3 BK101.out; obtain ⟨hcz20_0, hcz20_1, hcz20_2, hfz20_0, hfz20_1, hfz20_2⟩ := bcf3 BK102.out))
  go_ret
  exact ⟨z5_, z3_⟩
 rw [if_pos c4] at H
 have c4b0 : (a0_1 == a1_1) = true := beq_iff_eq.mpr c4
 have c4b1 : (a0_1 != a1_1) = false := bne_eq_false_iff_eq.mpr c4
 clear c4
 by_cases c5 : a0_2.toList = a1_2.toList
 rotate_left
 ·rw [if_neg c5] at H
  have c5b0 : (a0_2.toList == a1_2.toList) = false := beq_eq_false_iff_ne.mpr c5
  have c5b1 : (a0_2.toList != a1_2.toList) = true := bne_iff_ne.mpr c5
  obtain rfl := Option.some.inj H
  go_enter Tryd.func29, Tryd.ntmps29
  go_wp2_with (first | ((with_reducible refine gate_dst (N := 2) rfl ?_); refine bx_ 2 (cs := #[.int .i64 a0_0, .int .i64 a0_1, .string a0_2]) (t := 30) (h_ := ?_); intro gb101 hg w11 hbox hb; have n_ := a4_ (below_step z0_ hb) (hbox) ((gs_ w hg (below_size z0_))) ((gs_ w hg (below_size z0_))); clear HB; obtain ⟨HB, BK101, GW101, GE101⟩ := n_; clear hb hbox hg) | ((with_reducible refine gate_dst (N := 3) rfl ?_); refine bx_ 3 (cs := #[.int .i64 a1_0, .int .i64 a1_1, .string a1_2]) (t := 30) (h_ := ?_); intro gb102 hg w12 hbox hb; have n_ := a7_ (blk_below (g := gb101) (o := .cells #[.int .i64 a0_0, .int .i64 a0_1, .string a0_2] 30 (0, 0)) z2_ hb) (below_step z1_ hb) (hbox) ((gs_ w hg (below_size z1_))) ((gs_ w hg (below_size z1_))) ((z27_ : gb101 ≠ gb102)) ((z28_ : gb102 ≠ gb101)); clear BK101 HB; obtain ⟨BK101, HB, BK102, GW102, GE102, NB101_102, NB102_101⟩ := n_; clear hb hbox hg; have hnb13 := NB101_102.out; have hnc13 := NB102_101.out; obtain ⟨hcz14_0, hcz14_1, hcz14_2, hfz14_0, hfz14_1, hfz14_2⟩ := bcf3 BK101.out; obtain ⟨hcz15_0, hcz15_1, hcz15_2, hfz15_0, hfz15_1, hfz15_2⟩ := bcf3 BK102.out))
  go_ret
  exact ⟨z5_, z3_⟩
 rw [if_pos c5] at H
 have c5b0 : (a0_2.toList == a1_2.toList) = true := beq_iff_eq.mpr c5
 have c5b1 : (a0_2.toList != a1_2.toList) = false := bne_eq_false_iff_eq.mpr c5
 clear c5
 obtain rfl := Option.some.inj H
 go_enter Tryd.func29, Tryd.ntmps29
 go_wp2_with (first | ((with_reducible refine gate_dst (N := 2) rfl ?_); refine bx_ 2 (cs := #[.int .i64 a0_0, .int .i64 a0_1, .string a0_2]) (t := 30) (h_ := ?_); intro gb101 hg w6 hbox hb; have n_ := a4_ (below_step z0_ hb) (hbox) ((gs_ w hg (below_size z0_))) ((gs_ w hg (below_size z0_))); clear HB; obtain ⟨HB, BK101, GW101, GE101⟩ := n_; clear hb hbox hg) | ((with_reducible refine gate_dst (N := 3) rfl ?_); refine bx_ 3 (cs := #[.int .i64 a1_0, .int .i64 a1_1, .string a1_2]) (t := 30) (h_ := ?_); intro gb102 hg w7 hbox hb; have n_ := a7_ (blk_below (g := gb101) (o := .cells #[.int .i64 a0_0, .int .i64 a0_1, .string a0_2] 30 (0, 0)) z2_ hb) (below_step z1_ hb) (hbox) ((gs_ w hg (below_size z1_))) ((gs_ w hg (below_size z1_))) ((z27_ : gb101 ≠ gb102)) ((z28_ : gb102 ≠ gb101)); clear BK101 HB; obtain ⟨BK101, HB, BK102, GW102, GE102, NB101_102, NB102_101⟩ := n_; clear hb hbox hg; have hnb8 := NB101_102.out; have hnc8 := NB102_101.out; obtain ⟨hcz9_0, hcz9_1, hcz9_2, hfz9_0, hfz9_1, hfz9_2⟩ := bcf3 BK101.out; obtain ⟨hcz10_0, hcz10_1, hcz10_2, hfz10_0, hfz10_1, hfz10_2⟩ := bcf3 BK102.out))
 go_ret
 exact ⟨z5_, z3_⟩
end

end Go.Proofs.YtnpgnjehndgofaaDoor.X
end
