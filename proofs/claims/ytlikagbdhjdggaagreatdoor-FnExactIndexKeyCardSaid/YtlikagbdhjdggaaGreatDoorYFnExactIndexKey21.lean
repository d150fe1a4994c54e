/- Contracts of functions, and what is told of them. -/
import Derived.Test.YtlikagbdhjdggaaGreatDoorYFnExactIndexKey20
set_option maxHeartbeats 8000000
set_option maxRecDepth 100000
namespace Go.Proofs.YtlikagbdhjdggaaGreatDoor.X
open Go.RowKit Go.Proofs.YtlikagbdhjdggaaGreatDoorW.PrintWords Go.Proofs.YtlikagbdhjdggaaGreatDoorW.PrintLast Go.Proofs.YtlikagbdhjdggaaGreatDoorW.PrintMore
attribute [local go_sem] max2_int min2_int max_two min_two max_three min_three max_four min_four
set_option linter.unusedVariables false
set_option linter.unusedSimpArgs false

mutual
def laws_FnExactIndexKey.j0 : Nat → Int → List (S50) → List Int → Int → List (S61) → List Int → Int → Bool → ByteArray → List (S72) → Int → List (S74) → ByteArray → List (S78) → Int → List (S58) → Option (Bool)
 | 0, _, _, _, _, _, _, _, _, _, _, _, _, _, _, _, _ => none
 | k + 1, x1, x2, x8, x9, x11, x12, x13, x57, x102000, x102001, x102002, x102003, x128000, x128001, x128002, x128003 => if x57 = true then (none) else ((laws_toTable.f k x102000 x102001 x102002 x102003).bind fun bt136 => ((laws_eqTable.f k x128000 x128001 x128002 x128003 bt136.1 bt136.2.1 bt136.2.2.1 bt136.2.2.2).bind fun t144 => (if t144 = true then ((laws_toValueS.f k x2).bind fun t145 => ((laws_eqValueS.f k x11 t145).bind fun t148 => (if t148 = true then ((laws_markTable.f k x128000 x128001 x128002 x128003 1).bind fun t149 => ((laws_markValueS.f k x11 t149).bind fun bt150 => (if bt150.1 < 0 then (laws_FnExactIndexKey.j1 k x1 x2 x8 x9 x12 true x102000 x102001 x102002 x102003) else ((laws_eqByteS.f k x12 x8).bind fun t152 => (if t152 = true then (laws_FnExactIndexKey.j1 k x1 x2 x8 x9 x12 (x13 != x9) x102000 x102001 x102002 x102003) else (laws_FnExactIndexKey.j1 k x1 x2 x8 x9 x12 true x102000 x102001 x102002 x102003)))))) else (none)))) else (none))))
def laws_FnExactIndexKey.j1 : Nat → Int → List (S50) → List Int → Int → List Int → Bool → ByteArray → List (S72) → Int → List (S74) → Option (Bool)
 | 0, _, _, _, _, _, _, _, _, _, _ => none
 | k + 1, x1, x2, x8, x9, x12, x86, x102000, x102001, x102002, x102003 => if x86 = true then (none) else ((laws_markByteS.f k x12 1).bind fun bt153 => ((laws_heldByteS.f k bt153.2 1).bind fun t155 => (if t155 < 0 then (none) else (if t155 = bt153.1 then ((laws_toTable.f k x102000 x102001 x102002 x102003).bind fun bt156 => ((laws_toValueS.f k x2).bind fun t164 => ((impl_IndexKey.f k bt156.1 bt156.2.1 bt156.2.2.1 bt156.2.2.2 x1 t164).bind fun bt167 => ((laws_eqByteS.f k bt167.1 x8).bind fun t171 => (if t171 = true then (laws_FnExactIndexKey.j2 k bt153.2 bt153.1 (bt167.2 != x9)) else (laws_FnExactIndexKey.j2 k bt153.2 bt153.1 true)))))) else (none)))))
def laws_FnExactIndexKey.j2 : Nat → List Int → Int → Bool → Option (Bool)
 | 0, _, _, _ => none
 | k + 1, x12, x15, x115 => if x115 = true then (none) else ((laws_heldByteS.f k x12 1).bind fun t172 => (if t172 < 0 then (none) else (if t172 = x15 then (some true) else (none))))
end
def laws_FnExactIndexKey.f (k : Nat) (a0_0 : ByteArray) (l0_1 : List (S72)) (a0_2 : Int) (l0_3 : List (S74)) (a1 : Int) (l2 : List (S50)) : Option (Bool) := (laws_szTable.f k a0_0 l0_1 a0_2 l0_3 1048576).bind fun t102 => (if t102 < 0 then (some true) else ((laws_szValueS.f k l2 t102).bind fun t103 => (if t103 < 0 then (some true) else ((laws_toTable.f k a0_0 l0_1 a0_2 l0_3).bind fun bt104 => ((laws_toValueS.f k l2).bind fun t112 => ((spec_IndexKey.f k bt104.1 bt104.2.1 bt104.2.2.1 bt104.2.2.2 a1 t112).bind fun bt115 => ((laws_toTable.f k a0_0 l0_1 a0_2 l0_3).bind fun bt119 => ((laws_toValueS.f k l2).bind fun t128 => ((impl_IndexKey.f k bt119.1 bt119.2.1 bt119.2.2.1 bt119.2.2.2 a1 t128).bind fun bt131 => ((laws_eqByteS.f k bt131.1 bt115.1).bind fun t135 => (if t135 = true then (laws_FnExactIndexKey.j0 k a1 l2 bt115.1 bt115.2 t128 bt131.1 bt131.2 (bt131.2 != bt115.2) a0_0 l0_1 a0_2 l0_3 bt119.1 bt119.2.1 bt119.2.2.1 bt119.2.2.2) else (laws_FnExactIndexKey.j0 k a1 l2 bt115.1 bt115.2 t128 bt131.1 bt131.2 true a0_0 l0_1 a0_2 l0_3 bt119.1 bt119.2.1 bt119.2.2.1 bt119.2.2.2))))))))))))
theorem laws_FnExactIndexKey.mono_l : ∀ k, (∀ y0 y1 y2 y3 y4 y5 y6 y7 y8 y9 y10 y11 y12 y13 y14 y15, LeO (laws_FnExactIndexKey.j0 k y0 y1 y2 y3 y4 y5 y6 y7 y8 y9 y10 y11 y12 y13 y14 y15) (laws_FnExactIndexKey.j0 (k + 1) y0 y1 y2 y3 y4 y5 y6 y7 y8 y9 y10 y11 y12 y13 y14 y15)) ∧ (∀ y0 y1 y2 y3 y4 y5 y6 y7 y8 y9, LeO (laws_FnExactIndexKey.j1 k y0 y1 y2 y3 y4 y5 y6 y7 y8 y9) (laws_FnExactIndexKey.j1 (k + 1) y0 y1 y2 y3 y4 y5 y6 y7 y8 y9)) ∧ (∀ y0 y1 y2, LeO (laws_FnExactIndexKey.j2 k y0 y1 y2) (laws_FnExactIndexKey.j2 (k + 1) y0 y1 y2))
 | 0 => ⟨fun _ _ _ _ _ _ _ _ _ _ _ _ _ _ _ _ r h => by simp [laws_FnExactIndexKey.j0] at h, fun _ _ _ _ _ _ _ _ _ _ r h => by simp [laws_FnExactIndexKey.j1] at h, fun _ _ _ r h => by simp [laws_FnExactIndexKey.j2] at h⟩
 | k + 1 => by
  obtain ⟨ih0, ih1, ih2⟩ := laws_FnExactIndexKey.mono_l k
  refine ⟨?_, ?_, ?_⟩
  rotate_left
  ·intro y0 y1 y2 y3 y4 y5 y6 y7 y8 y9
   unfold laws_FnExactIndexKey.j1
   repeat' first | with_reducible (first | exact ih0 _ _ _ _ _ _ _ _ _ _ _ _ _ _ _ _ | exact ih1 _ _ _ _ _ _ _ _ _ _ | exact ih2 _ _ _ | exact impl_IndexKey.mono _ _ _ _ _ _ _ | exact laws_eqByteS.mono _ _ _ | exact laws_eqTable.mono _ _ _ _ _ _ _ _ _ | exact laws_eqValueS.mono _ _ _ | exact laws_heldByteS.mono _ _ _ | exact laws_markByteS.mono _ _ _ | exact laws_markTable.mono _ _ _ _ _ _ | exact laws_markValueS.mono _ _ _ | exact laws_szTable.mono _ _ _ _ _ _ | exact laws_szValueS.mono _ _ _ | exact laws_toTable.mono _ _ _ _ _ | exact laws_toValueS.mono _ _ | exact spec_IndexKey.mono _ _ _ _ _ _ _ | exact LeO.refl _ | exact LeO.none _ | refine LeO.ite ?_ ?_ | refine LeO.bind ?_ (fun _ => ?_)) | exact ih0 _ _ _ _ _ _ _ _ _ _ _ _ _ _ _ _ | exact ih1 _ _ _ _ _ _ _ _ _ _ | exact ih2 _ _ _ | exact impl_IndexKey.mono _ _ _ _ _ _ _ | exact laws_eqByteS.mono _ _ _ | exact laws_eqTable.mono _ _ _ _ _ _ _ _ _ | exact laws_eqValueS.mono _ _ _ | exact laws_heldByteS.mono _ _ _ | exact laws_markByteS.mono _ _ _ | exact laws_markTable.mono _ _ _ _ _ _ | exact laws_markValueS.mono _ _ _ | exact laws_szTable.mono _ _ _ _ _ _ | exact laws_szValueS.mono _ _ _ | exact laws_toTable.mono _ _ _ _ _ | exact laws_toValueS.mono _ _ | exact spec_IndexKey.mono _ _ _ _ _ _ _ | exact LeO.none _ | refine LeO.ite ?_ ?_ | refine LeO.bind ?_ (fun _ => ?_)
  ·intro y0 y1 y2
   unfold laws_FnExactIndexKey.j2
   repeat' first | with_reducible (first | exact ih0 _ _ _ _ _ _ _ _ _ _ _ _ _ _ _ _ | exact ih1 _ _ _ _ _ _ _ _ _ _ | exact ih2 _ _ _ | exact impl_IndexKey.mono _ _ _ _ _ _ _ | exact laws_eqByteS.mono _ _ _ | exact laws_eqTable.mono _ _ _ _ _ _ _ _ _ | exact laws_eqValueS.mono _ _ _ | exact laws_heldByteS.mono _ _ _ | exact laws_markByteS.mono _ _ _ | exact laws_markTable.mono _ _ _ _ _ _ | exact laws_markValueS.mono _ _ _ | exact laws_szTable.mono _ _ _ _ _ _ | exact laws_szValueS.mono _ _ _ | exact laws_toTable.mono _ _ _ _ _ | exact laws_toValueS.mono _ _ | exact spec_IndexKey.mono _ _ _ _ _ _ _ | exact LeO.refl _ | exact LeO.none _ | refine LeO.ite ?_ ?_ | refine LeO.bind ?_ (fun _ => ?_)) | exact ih0 _ _ _ _ _ _ _ _ _ _ _ _ _ _ _ _ | exact ih1 _ _ _ _ _ _ _ _ _ _ | exact ih2 _ _ _ | exact impl_IndexKey.mono _ _ _ _ _ _ _ | exact laws_eqByteS.mono _ _ _ | exact laws_eqTable.mono _ _ _ _ _ _ _ _ _ | exact laws_eqValueS.mono _ _ _ | exact laws_heldByteS.mono _ _ _ | exact laws_markByteS.mono _ _ _ | exact laws_markTable.mono _ _ _ _ _ _ | exact laws_markValueS.mono _ _ _ | exact laws_szTable.mono _ _ _ _ _ _ | exact laws_szValueS.mono _ _ _ | exact laws_toTable.mono _ _ _ _ _ | exact laws_toValueS.mono _ _ | exact spec_IndexKey.mono _ _ _ _ _ _ _ | exact LeO.none _ | refine LeO.ite ?_ ?_ | refine LeO.bind ?_ (fun _ => ?_)
  intro y0 y1 y2 y3 y4 y5 y6 y7 y8 y9 y10 y11 y12 y13 y14 y15
  unfold laws_FnExactIndexKey.j0
  repeat' first | with_reducible (first | exact ih0 _ _ _ _ _ _ _ _ _ _ _ _ _ _ _ _ | exact ih1 _ _ _ _ _ _ _ _ _ _ | exact ih2 _ _ _ | exact impl_IndexKey.mono _ _ _ _ _ _ _ | exact laws_eqByteS.mono _ _ _ | exact laws_eqTable.mono _ _ _ _ _ _ _ _ _ | exact laws_eqValueS.mono _ _ _ | exact laws_heldByteS.mono _ _ _ | exact laws_markByteS.mono _ _ _ | exact laws_markTable.mono _ _ _ _ _ _ | exact laws_markValueS.mono _ _ _ | exact laws_szTable.mono _ _ _ _ _ _ | exact laws_szValueS.mono _ _ _ | exact laws_toTable.mono _ _ _ _ _ | exact laws_toValueS.mono _ _ | exact spec_IndexKey.mono _ _ _ _ _ _ _ | exact LeO.refl _ | exact LeO.none _ | refine LeO.ite ?_ ?_ | refine LeO.bind ?_ (fun _ => ?_)) | exact ih0 _ _ _ _ _ _ _ _ _ _ _ _ _ _ _ _ | exact ih1 _ _ _ _ _ _ _ _ _ _ | exact ih2 _ _ _ | exact impl_IndexKey.mono _ _ _ _ _ _ _ | exact laws_eqByteS.mono _ _ _ | exact laws_eqTable.mono _ _ _ _ _ _ _ _ _ | exact laws_eqValueS.mono _ _ _ | exact laws_heldByteS.mono _ _ _ | exact laws_markByteS.mono _ _ _ | exact laws_markTable.mono _ _ _ _ _ _ | exact laws_markValueS.mono _ _ _ | exact laws_szTable.mono _ _ _ _ _ _ | exact laws_szValueS.mono _ _ _ | exact laws_toTable.mono _ _ _ _ _ | exact laws_toValueS.mono _ _ | exact spec_IndexKey.mono _ _ _ _ _ _ _ | exact LeO.none _ | refine LeO.ite ?_ ?_ | refine LeO.bind ?_ (fun _ => ?_)
theorem laws_FnExactIndexKey.mono : ∀ a0 a1 a2 a3 a4 a5 k, LeO (laws_FnExactIndexKey.f k a0 a1 a2 a3 a4 a5) (laws_FnExactIndexKey.f (k + 1) a0 a1 a2 a3 a4 a5) := by
 intro a0 a1 a2 a3 a4 a5 k
 obtain ⟨ih0, ih1, ih2⟩ := laws_FnExactIndexKey.mono_l k
 unfold laws_FnExactIndexKey.f
 repeat' first
   | (with_reducible exact ih0 _ _ _ _ _ _ _ _ _ _ _ _ _ _ _ _)
   | (with_reducible exact ih1 _ _ _ _ _ _ _ _ _ _)
   | (with_reducible exact ih2 _ _ _)
   | (with_reducible exact impl_IndexKey.mono _ _ _ _ _ _ _)
   | (with_reducible exact laws_eqByteS.mono _ _ _)
   | (with_reducible exact laws_eqTable.mono _ _ _ _ _ _ _ _ _)
   | (with_reducible exact laws_eqValueS.mono _ _ _)
   | (with_reducible exact laws_heldByteS.mono _ _ _)
   | (with_reducible exact laws_markByteS.mono _ _ _)
   | (with_reducible exact laws_markTable.mono _ _ _ _ _ _)
   | (with_reducible exact laws_markValueS.mono _ _ _)
   | (with_reducible exact laws_szTable.mono _ _ _ _ _ _)
   | (with_reducible exact laws_szValueS.mono _ _ _)
   | (with_reducible exact laws_toTable.mono _ _ _ _ _)
   | (with_reducible exact laws_toValueS.mono _ _)
   | (with_reducible exact spec_IndexKey.mono _ _ _ _ _ _ _)
   | (with_reducible exact LeO.refl _)
   | (with_reducible exact LeO.none _)
   | (with_reducible refine LeO.ite ?_ ?_)
   | (with_reducible refine LeO.bind ?_ (fun _ => ?_))
   | exact ih0 _ _ _ _ _ _ _ _ _ _ _ _ _ _ _ _
   | exact ih1 _ _ _ _ _ _ _ _ _ _
   | exact ih2 _ _ _
   | exact impl_IndexKey.mono _ _ _ _ _ _ _
   | exact laws_eqByteS.mono _ _ _
   | exact laws_eqTable.mono _ _ _ _ _ _ _ _ _
   | exact laws_eqValueS.mono _ _ _
   | exact laws_heldByteS.mono _ _ _
   | exact laws_markByteS.mono _ _ _
   | exact laws_markTable.mono _ _ _ _ _ _
   | exact laws_markValueS.mono _ _ _
   | exact laws_szTable.mono _ _ _ _ _ _
   | exact laws_szValueS.mono _ _ _
   | exact laws_toTable.mono _ _ _ _ _
   | exact laws_toValueS.mono _ _
   | exact spec_IndexKey.mono _ _ _ _ _ _ _
   | exact LeO.none _
   | refine LeO.ite ?_ ?_
   | refine LeO.bind ?_ (fun _ => ?_)
theorem laws_FnExactIndexKey.calls (k : Nat) (a0_0 : ByteArray) (A0_1 : Option Addr) (c0_1 : Nat) (l0_1 : List (S72)) (a0_2 : Int) (A0_3 : Option Addr) (c0_3 : Nat) (l0_3 : List (S74)) (a1 : Int) (A2 : Option Addr) (c2 : Nat) (l2 : List (S50)) (r : Bool) (w : World) (hr0_1 : Kd.C k72 w A0_1 l0_1.length l0_1) (hc0_1 : l0_1.length ≤ c0_1) (hr0_3 : Kd.C k74 w A0_3 l0_3.length l0_3) (hc0_3 : l0_3.length ≤ c0_3) (hr2 : Kd.C k50 w A2 l2.length l2) (hc2 : l2.length ≤ c2) (h : laws_FnExactIndexKey.f k a0_0 l0_1 a0_2 l0_3 a1 l2 = some r) :
  Calls Tryz.prog 3 #[.agg #[.string a0_0, .slice A0_1 l0_1.length c0_1, .int .i64 a0_2, .slice A0_3 l0_3.length c0_3], .int .i64 a1, .slice A2 l2.length c2] w fun e w' => e = .returned (.bool r) ∧ Below w.heap.size w w' := by
 have hu25 := Tryz.underlying25
 have hu35 := Tryz.underlying35
 have HR0_1 := ak_ hr0_1
 have HC0_1 := ak_ hc0_1
 clear hr0_1 hc0_1
 have HR0_3 := ak_ hr0_3
 have HC0_3 := ak_ hc0_3
 clear hr0_3 hc0_3
 have HR2 := ak_ hr2
 have HC2 := ak_ hc2
 clear hr2 hc2
 have HB := ak_ (Below.refl w.heap.size w)
 have H := h
 unfold laws_FnExactIndexKey.f at H
 clear h
 replace H := Option.bind_eq_some_iff.mp H
 obtain ⟨t102, A40, H⟩ := H
 have A4 := ak_ A40
 clear A40
 by_cases c5 : t102 < 0
 ·rw [if_pos c5] at H
  have c5b0 := decide_eq_true c5
  clear c5
  obtain rfl := Option.some.inj H
  go_enter Tryz.func3, Tryz.ntmps3
  go_wp2_with (first | ((with_reducible refine gate_dst (N := 3) rfl ?_); refine bx_ 3 (cs := #[.string a0_0, .slice A0_1 l0_1.length c0_1, .int .i64 a0_2, .slice A0_3 l0_3.length c0_3]) (t := 25) (h_ := ?_); intro gb101 hg w6 hbox hb; have n_ := a4_ (below_step z0_ hb) (hbox) ((gs_ w hg (below_size z0_))) ((gs_ w hg (below_size z0_))); clear HB; obtain ⟨HB, BK101, GW101, GE101⟩ := n_; clear hb hbox hg; obtain ⟨hcz7_0, hcz7_1, hcz7_2, hcz7_3, hfz7_0, hfz7_1, hfz7_2, hfz7_3⟩ := bcf4 BK101.out) | ((with_reducible refine gate_callee (f := 4) rfl ?_); refine goesL_ (some 21) rfl rfl Tryz.func4 (by kernel_rfl) rfl #[.agg #[.string a0_0, .slice A0_1 l0_1.length c0_1, .int .i64 a0_2, .slice A0_3 l0_3.length c0_3], .int .i64 1048576] rfl z3_ ?_; (with_reducible refine (laws_szTable.calls k a0_0 _ _ l0_1 a0_2 _ _ l0_3 1048576 t102 _ ?side1 ?side2 ?side3 ?side4 A4.out).mono ?_); (case side1 => exact cz_ ((Kd.C_below HR0_1.out HB.out))); (case side2 => exact HC0_1.out); (case side3 => exact cz_ ((Kd.C_below HR0_3.out HB.out))); (case side4 => exact HC0_3.out); rintro e w8 ⟨rfl, hb⟩; refine ⟨_, rfl, ?_⟩; have n_ := a2_ (blk_below (g := gb101) (o := .cells #[.string a0_0, .slice A0_1 l0_1.length c0_1, .int .i64 a0_2, .slice A0_3 l0_3.length c0_3] 25 (0, 0)) z2_ hb) (below_step z1_ hb); clear BK101 HB; obtain ⟨BK101, HB⟩ := n_; (try clear hb); (try clear hb2); (try clear hk); (try clear hi)))
  go_ret
  exact ⟨z6_, z1_⟩
 rw [if_neg c5] at H
 have c5b0 := decide_eq_false c5
 clear c5
 replace H := Option.bind_eq_some_iff.mp H
 obtain ⟨t103, A90, H⟩ := H
 have A9 := ak_ A90
 clear A90
 by_cases c10 : t103 < 0
 ·rw [if_pos c10] at H
  have c10b0 := decide_eq_true c10
  clear c10
  obtain rfl := Option.some.inj H
  go_enter Tryz.func3, Tryz.ntmps3
  go_wp2_with (first | ((with_reducible refine gate_dst (N := 3) rfl ?_); refine bx_ 3 (cs := #[.string a0_0, .slice A0_1 l0_1.length c0_1, .int .i64 a0_2, .slice A0_3 l0_3.length c0_3]) (t := 25) (h_ := ?_); intro gb101 hg w11 hbox hb; have n_ := a4_ (below_step z0_ hb) (hbox) ((gs_ w hg (below_size z0_))) ((gs_ w hg (below_size z0_))); clear HB; obtain ⟨HB, BK101, GW101, GE101⟩ := n_; clear hb hbox hg; obtain ⟨hcz12_0, hcz12_1, hcz12_2, hcz12_3, hfz12_0, hfz12_1, hfz12_2, hfz12_3⟩ := bcf4 BK101.out) | ((with_reducible refine gate_callee (f := 4) rfl ?_); refine goesL_ (some 21) rfl rfl Tryz.func4 (by kernel_rfl) rfl #[.agg #[.string a0_0, .slice A0_1 l0_1.length c0_1, .int .i64 a0_2, .slice A0_3 l0_3.length c0_3], .int .i64 1048576] rfl z3_ ?_; (with_reducible refine (laws_szTable.calls k a0_0 _ _ l0_1 a0_2 _ _ l0_3 1048576 t102 _ ?side1 ?side2 ?side3 ?side4 A4.out).mono ?_); (case side1 => exact cz_ ((Kd.C_below HR0_1.out HB.out))); (case side2 => exact HC0_1.out); (case side3 => exact cz_ ((Kd.C_below HR0_3.out HB.out))); (case side4 => exact HC0_3.out); rintro e w13 ⟨rfl, hb⟩; refine ⟨_, rfl, ?_⟩; have n_ := a2_ (blk_below (g := gb101) (o := .cells #[.string a0_0, .slice A0_1 l0_1.length c0_1, .int .i64 a0_2, .slice A0_3 l0_3.length c0_3] 25 (0, 0)) z2_ hb) (below_step z1_ hb); clear BK101 HB; obtain ⟨BK101, HB⟩ := n_; (try clear hb); (try clear hb2); (try clear hk); (try clear hi)) | ((with_reducible refine gate_callee (f := 5) rfl ?_); refine goesL_ (some 26) rfl rfl Tryz.func5 (by kernel_rfl) rfl #[.slice A2 l2.length c2, .int .i64 t102] rfl z3_ ?_; (with_reducible refine (laws_szValueS.calls k _ _ l2 t102 t103 _ ?side1 ?side2 A9.out).mono ?_); (case side1 => exact cz_ ((Kd.C_below HR2.out HB.out))); (case side2 => exact HC2.out); rintro e w14 ⟨rfl, hb⟩; refine ⟨_, rfl, ?_⟩; have n_ := a2_ (blk_below (g := gb101) (o := .cells #[.string a0_0, .slice A0_1 l0_1.length c0_1, .int .i64 a0_2, .slice A0_3 l0_3.length c0_3] 25 (0, 0)) z2_ hb) (below_step z1_ hb); clear BK101 HB; obtain ⟨BK101, HB⟩ := n_; (try clear hb); (try clear hb2); (try clear hk); (try clear hi)))
  go_ret
  exact ⟨z6_, z1_⟩
 rw [if_neg c10] at H
 have c10b0 := decide_eq_false c10
 clear c10
 replace H := Option.bind_eq_some_iff.mp H
 obtain ⟨⟨t104, t105, t108, t109⟩, A150, H⟩ := H
 replace H : ((laws_toValueS.f k l2).bind fun t112 => ((spec_IndexKey.f k t104 t105 t108 t109 a1 t112).bind fun bt115 => ((laws_toTable.f k a0_0 l0_1 a0_2 l0_3).bind fun bt119 => ((laws_toValueS.f k l2).bind fun t128 => ((impl_IndexKey.f k bt119.1 bt119.2.1 bt119.2.2.1 bt119.2.2.2 a1 t128).bind fun bt131 => ((laws_eqByteS.f k bt131.1 bt115.1).bind fun t135 => (if t135 = true then (laws_FnExactIndexKey.j0 k a1 l2 bt115.1 bt115.2 t128 bt131.1 bt131.2 (bt131.2 != bt115.2) a0_0 l0_1 a0_2 l0_3 bt119.1 bt119.2.1 bt119.2.2.1 bt119.2.2.2) else (laws_FnExactIndexKey.j0 k a1 l2 bt115.1 bt115.2 t128 bt131.1 bt131.2 true a0_0 l0_1 a0_2 l0_3 bt119.1 bt119.2.1 bt119.2.2.1 bt119.2.2.2)))))))) = some r := H
 have A15 := ak_ A150
 clear A150
 replace H := Option.bind_eq_some_iff.mp H
 obtain ⟨t112, A160, H⟩ := H
 have A16 := ak_ A160
 clear A160
 replace H := Option.bind_eq_some_iff.mp H
 obtain ⟨⟨t115, t118⟩, A170, H⟩ := H
 replace H : ((laws_toTable.f k a0_0 l0_1 a0_2 l0_3).bind fun bt119 => ((laws_toValueS.f k l2).bind fun t128 => ((impl_IndexKey.f k bt119.1 bt119.2.1 bt119.2.2.1 bt119.2.2.2 a1 t128).bind fun bt131 => ((laws_eqByteS.f k bt131.1 t115).bind fun t135 => (if t135 = true then (laws_FnExactIndexKey.j0 k a1 l2 t115 t118 t128 bt131.1 bt131.2 (bt131.2 != t118) a0_0 l0_1 a0_2 l0_3 bt119.1 bt119.2.1 bt119.2.2.1 bt119.2.2.2) else (laws_FnExactIndexKey.j0 k a1 l2 t115 t118 t128 bt131.1 bt131.2 true a0_0 l0_1 a0_2 l0_3 bt119.1 bt119.2.1 bt119.2.2.1 bt119.2.2.2)))))) = some r := H
 have A17 := ak_ A170
 clear A170
 replace H := Option.bind_eq_some_iff.mp H
 obtain ⟨⟨t119, t120, t123, t124⟩, A180, H⟩ := H
 replace H : ((laws_toValueS.f k l2).bind fun t128 => ((impl_IndexKey.f k t119 t120 t123 t124 a1 t128).bind fun bt131 => ((laws_eqByteS.f k bt131.1 t115).bind fun t135 => (if t135 = true then (laws_FnExactIndexKey.j0 k a1 l2 t115 t118 t128 bt131.1 bt131.2 (bt131.2 != t118) a0_0 l0_1 a0_2 l0_3 t119 t120 t123 t124) else (laws_FnExactIndexKey.j0 k a1 l2 t115 t118 t128 bt131.1 bt131.2 true a0_0 l0_1 a0_2 l0_3 t119 t120 t123 t124))))) = some r := H
 have A18 := ak_ A180
 clear A180
 replace H := Option.bind_eq_some_iff.mp H
 obtain ⟨t128, A190, H⟩ := H
 have A19 := ak_ A190
 clear A190
 replace H := Option.bind_eq_some_iff.mp H
 obtain ⟨⟨t131, t134⟩, A200, H⟩ := H
 replace H : ((laws_eqByteS.f k t131 t115).bind fun t135 => (if t135 = true then (laws_FnExactIndexKey.j0 k a1 l2 t115 t118 t128 t131 t134 (t134 != t118) a0_0 l0_1 a0_2 l0_3 t119 t120 t123 t124) else (laws_FnExactIndexKey.j0 k a1 l2 t115 t118 t128 t131 t134 true a0_0 l0_1 a0_2 l0_3 t119 t120 t123 t124))) = some r := H
 have A20 := ak_ A200
 clear A200
 have HC21 := ak_ H
 clear H
 go_enter Tryz.func3, Tryz.ntmps3
 go_upto_region 12 with (first | ((with_reducible refine gate_dst (N := 3) rfl ?_); refine bx_ 3 (cs := #[.string a0_0, .slice A0_1 l0_1.length c0_1, .int .i64 a0_2, .slice A0_3 l0_3.length c0_3]) (t := 25) (h_ := ?_); intro gb101 hg w22 hbox hb; have n_ := a4_ (below_step z0_ hb) (hbox) ((gs_ w hg (below_size z0_))) ((gs_ w hg (below_size z0_))); clear HB; obtain ⟨HB, BK101, GW101, GE101⟩ := n_; clear hb hbox hg; obtain ⟨hcz23_0, hcz23_1, hcz23_2, hcz23_3, hfz23_0, hfz23_1, hfz23_2, hfz23_3⟩ := bcf4 BK101.out) | ((with_reducible refine gate_callee (f := 4) rfl ?_); refine goesL_ (some 21) rfl rfl Tryz.func4 (by kernel_rfl) rfl #[.agg #[.string a0_0, .slice A0_1 l0_1.length c0_1, .int .i64 a0_2, .slice A0_3 l0_3.length c0_3], .int .i64 1048576] rfl z3_ ?_; (with_reducible refine (laws_szTable.calls k a0_0 _ _ l0_1 a0_2 _ _ l0_3 1048576 t102 _ ?side1 ?side2 ?side3 ?side4 A4.out).mono ?_); (case side1 => exact cz_ ((Kd.C_below HR0_1.out HB.out))); (case side2 => exact HC0_1.out); (case side3 => exact cz_ ((Kd.C_below HR0_3.out HB.out))); (case side4 => exact HC0_3.out); rintro e w24 ⟨rfl, hb⟩; refine ⟨_, rfl, ?_⟩; have n_ := a2_ (blk_below (g := gb101) (o := .cells #[.string a0_0, .slice A0_1 l0_1.length c0_1, .int .i64 a0_2, .slice A0_3 l0_3.length c0_3] 25 (0, 0)) z2_ hb) (below_step z1_ hb); clear BK101 HB; obtain ⟨BK101, HB⟩ := n_; (try clear hb); (try clear hb2); (try clear hk); (try clear hi)) | ((with_reducible refine gate_callee (f := 5) rfl ?_); refine goesL_ (some 26) rfl rfl Tryz.func5 (by kernel_rfl) rfl #[.slice A2 l2.length c2, .int .i64 t102] rfl z3_ ?_; (with_reducible refine (laws_szValueS.calls k _ _ l2 t102 t103 _ ?side1 ?side2 A9.out).mono ?_); (case side1 => exact cz_ ((Kd.C_below HR2.out HB.out))); (case side2 => exact HC2.out); rintro e w25 ⟨rfl, hb⟩; refine ⟨_, rfl, ?_⟩; have n_ := a2_ (blk_below (g := gb101) (o := .cells #[.string a0_0, .slice A0_1 l0_1.length c0_1, .int .i64 a0_2, .slice A0_3 l0_3.length c0_3] 25 (0, 0)) z2_ hb) (below_step z1_ hb); clear BK101 HB; obtain ⟨BK101, HB⟩ := n_; (try clear hb); (try clear hb2); (try clear hk); (try clear hi); obtain ⟨hcz26_0, hcz26_1, hcz26_2, hcz26_3, hfz26_0, hfz26_1, hfz26_2, hfz26_3⟩ := bcf4 BK101.out) | ((with_reducible refine gate_callee (f := 7) rfl ?_); refine goesL_ (some 31) rfl rfl Tryz.func7 (by kernel_rfl) rfl #[.agg #[.string a0_0, .slice A0_1 l0_1.length c0_1, .int .i64 a0_2, .slice A0_3 l0_3.length c0_3]] rfl z3_ ?_; (with_reducible refine (laws_toTable.calls k a0_0 _ _ l0_1 a0_2 _ _ l0_3 t104 t105 t108 t109 _ ?side1 ?side2 ?side3 ?side4 A15.out).mono ?_); (case side1 => exact cz_ ((Kd.C_below HR0_1.out HB.out))); (case side2 => exact HC0_1.out); (case side3 => exact cz_ ((Kd.C_below HR0_3.out HB.out))); (case side4 => exact HC0_3.out); rintro e w27 ⟨v106, v110, rfl, ho0, ho1, hb⟩; refine ⟨_, rfl, ?_⟩; have n_ := a4_ (Kd.R_lower ho0 (below_size z1_)) (Kd.S_lower ho1 (below_size z1_)) (blk_below (g := gb101) (o := .cells #[.string a0_0, .slice A0_1 l0_1.length c0_1, .int .i64 a0_2, .slice A0_3 l0_3.length c0_3] 25 (0, 0)) z2_ hb) (below_step z1_ hb); clear BK101 HB; obtain ⟨HO107, HO111, BK101, HB⟩ := n_; (try clear hb); (try clear hb2); (try clear hk); (try clear hi); (try clear ho0); (try clear ho1)) | ((with_reducible refine gate_callee (f := 8) rfl ?_); refine goesL_ (some 34) rfl rfl Tryz.func8 (by kernel_rfl) rfl #[.slice A2 l2.length c2] rfl z3_ ?_; (with_reducible refine (laws_toValueS.calls k _ _ l2 t112 _ ?side1 ?side2 A16.out).mono ?_); (case side1 => exact cz_ ((Kd.C_below HR2.out HB.out))); (case side2 => exact HC2.out); rintro e w28 ⟨v113, rfl, ho0, hb⟩; refine ⟨_, rfl, ?_⟩; have n_ := a5_ (Kd.R_below z45_ hb) (Kd.S_below z46_ hb) (Kd.R_lower ho0 (below_size z1_)) (blk_below (g := gb101) (o := .cells #[.string a0_0, .slice A0_1 l0_1.length c0_1, .int .i64 a0_2, .slice A0_3 l0_3.length c0_3] 25 (0, 0)) z2_ hb) (below_step z1_ hb); clear HO107 HO111 BK101 HB; obtain ⟨HO107, HO111, HO114, BK101, HB⟩ := n_; (try clear hb); (try clear hb2); (try clear hk); (try clear hi); (try clear ho0); obtain ⟨Ao29, co29, eo29⟩ := Kd.R_slice HO107.out; subst eo29; obtain ⟨Ao30, co30, eo30⟩ := Kd.S_slice HO111.out; subst eo30; obtain ⟨Ao31, co31, eo31⟩ := Kd.R_slice HO114.out; subst eo31) | ((with_reducible refine gate_callee (f := 6) rfl ?_); refine goesL_ (some 35) rfl rfl Tryz.func6 (by kernel_rfl) rfl #[.agg #[.string t104, .slice Ao29 t105.length co29, .int .i64 t108, .slice Ao30 t109.length co30], .int .i64 a1, .slice Ao31 t112.length co31] rfl z3_ ?_; (with_reducible refine (spec_IndexKey.calls k t104 _ _ t105 t108 _ _ t109 a1 _ _ t112 t115 t118 _ ?side1 ?side2 ?side3 ?side4 ?side5 ?side6 A17.out).mono ?_); (case side1 => exact cz_ ((Kd.R_reads' HO107.out).2.2)); (case side2 => exact (Kd.R_reads' HO107.out).2.1); (case side3 => exact cz_ ((Kd.S_reads' HO111.out).2.2)); (case side4 => exact (Kd.S_reads' HO111.out).2.1); (case side5 => exact cz_ ((Kd.R_reads' HO114.out).2.2)); (case side6 => exact (Kd.R_reads' HO114.out).2.1); rintro e w32 ⟨v116, rfl, ho0, hb⟩; refine ⟨_, rfl, ?_⟩; have n_ := a6_ (Kd.R_below z45_ hb) (Kd.S_below z46_ hb) (Kd.R_below z38_ hb) (Kd.R_lower ho0 (below_size z1_)) (blk_below (g := gb101) (o := .cells #[.string a0_0, .slice A0_1 l0_1.length c0_1, .int .i64 a0_2, .slice A0_3 l0_3.length c0_3] 25 (0, 0)) z2_ hb) (below_step z1_ hb); clear HO107 HO111 HO114 BK101 HB; obtain ⟨HO107, HO111, HO114, HO117, BK101, HB⟩ := n_; (try clear hb); (try clear hb2); (try clear hk); (try clear hi); (try clear ho0); obtain ⟨hcz33_0, hcz33_1, hcz33_2, hcz33_3, hfz33_0, hfz33_1, hfz33_2, hfz33_3⟩ := bcf4 BK101.out) | ((with_reducible refine gate_callee (f := 7) rfl ?_); refine goesL_ (some 39) rfl rfl Tryz.func7 (by kernel_rfl) rfl #[.agg #[.string a0_0, .slice A0_1 l0_1.length c0_1, .int .i64 a0_2, .slice A0_3 l0_3.length c0_3]] rfl z3_ ?_; (with_reducible refine (laws_toTable.calls k a0_0 _ _ l0_1 a0_2 _ _ l0_3 t119 t120 t123 t124 _ ?side1 ?side2 ?side3 ?side4 A18.out).mono ?_); (case side1 => exact cz_ ((Kd.C_below HR0_1.out HB.out))); (case side2 => exact HC0_1.out); (case side3 => exact cz_ ((Kd.C_below HR0_3.out HB.out))); (case side4 => exact HC0_3.out); rintro e w34 ⟨v121, v125, rfl, ho0, ho1, hb⟩; refine ⟨_, rfl, ?_⟩; have n_ := a8_ (Kd.R_elder' z45_ (Kd.R_base ho0) hb) (Kd.S_elder' z46_ (Kd.S_base ho1) hb) (Kd.R_below z38_ hb) (Kd.R_below z44_ hb) (Kd.R_lower (Kd.R_new' ho0 (Kd.R_lt z45_)) (below_size z1_)) (Kd.S_lower (Kd.S_new' ho1 (Kd.S_lt z46_)) (below_size z1_)) (blk_below (g := gb101) (o := .cells #[.string a0_0, .slice A0_1 l0_1.length c0_1, .int .i64 a0_2, .slice A0_3 l0_3.length c0_3] 25 (0, 0)) z2_ hb) (below_step z1_ hb); clear HO107 HO111 HO114 HO117 BK101 HB; obtain ⟨HO107, HO111, HO114, HO117, HO122, HO126, BK101, HB⟩ := n_; (try clear hb); (try clear hb2); (try clear hk); (try clear hi); (try clear ho0); (try clear ho1)) | ((with_reducible refine gate_dst (N := 10) rfl ?_); refine bx_ 10 (cs := #[.string (⟨#[]⟩ : ByteArray), .slice none 0 0, .int .i64 0, .slice none 0 0]) (t := 35) (h_ := ?_); intro gb127 hg w35 hbox hb; have n_ := a13_ (Kd.R_below z45_ hb) (Kd.S_below z46_ hb) (Kd.R_below z38_ hb) (Kd.R_below z44_ hb) (Kd.R_below z63_ hb) (Kd.S_below (by (with_reducible repeat (first | apply Kd.S_alloc | apply Kd.S_drewN | apply Kd.S_drew)); exact HO126.out) hb) (blk_below (g := gb101) (o := .cells #[.string a0_0, .slice A0_1 l0_1.length c0_1, .int .i64 a0_2, .slice A0_3 l0_3.length c0_3] 25 (0, 0)) z2_ hb) (below_step z1_ hb) (hbox) ((gs_ w hg (below_size z1_))) ((gs_ w hg (below_size z1_))) ((z59_ : gb101 ≠ gb127)) ((z60_ : gb127 ≠ gb101)); clear HO107 HO111 HO114 HO117 HO122 HO126 BK101 HB; obtain ⟨HO107, HO111, HO114, HO117, HO122, HO126, BK101, HB, BK127, GW127, GE127, NB101_127, NB127_101⟩ := n_; clear hb hbox hg; have hnb36 := NB127_101.out; have hnc36 := NB101_127.out; obtain ⟨hcz37_0, hcz37_1, hcz37_2, hcz37_3, hfz37_0, hfz37_1, hfz37_2, hfz37_3⟩ := bcf4 BK127.out; obtain ⟨Ao38, co38, eo38⟩ := Kd.R_slice HO122.out; subst eo38; obtain ⟨Ao39, co39, eo39⟩ := Kd.S_slice HO126.out; subst eo39) | ((with_reducible refine gate_callee (f := 8) rfl ?_); refine goesL_ (some 41) rfl rfl Tryz.func8 (by kernel_rfl) rfl #[.slice A2 l2.length c2] rfl z3_ ?_; (with_reducible refine (laws_toValueS.calls k _ _ l2 t128 _ ?side1 ?side2 A19.out).mono ?_); (case side1 => exact Kd.C_below HR2.out z15_); (case side2 => exact HC2.out); rintro e w40 ⟨v129, rfl, ho0, hb⟩; refine ⟨_, rfl, ?_⟩; have n_ := a10_ (Kd.R_below (by (with_reducible repeat (first | apply Kd.R_alloc | apply Kd.R_drewN | apply Kd.R_drew)); exact (Kd.R_mono (Kd.R_far (p := ⟨gb127, 3, none⟩) (Kd.R_far (p := ⟨gb127, 2, none⟩) (Kd.R_far (p := ⟨gb127, 1, none⟩) (Kd.R_far (p := ⟨gb127, 0, none⟩) (Kd.R_types HO107.out BK127.out (by decide)) (fun _ hk => hk.2) (.string t119)) (fun _ hk => hk.2) (.slice Ao38 t120.length co38)) (fun _ hk => hk.2) (.int .i64 t123)) (fun _ hk => hk.2) (.slice Ao39 t124.length co39)) (fun _ h_ => h_.1))) hb) (Kd.S_below (by (with_reducible repeat (first | apply Kd.S_alloc | apply Kd.S_drewN | apply Kd.S_drew)); exact (Kd.S_mono (Kd.S_far (p := ⟨gb127, 3, none⟩) (Kd.S_far (p := ⟨gb127, 2, none⟩) (Kd.S_far (p := ⟨gb127, 1, none⟩) (Kd.S_far (p := ⟨gb127, 0, none⟩) (Kd.S_types HO111.out BK127.out (by decide)) (fun _ hk => hk.2) (.string t119)) (fun _ hk => hk.2) (.slice Ao38 t120.length co38)) (fun _ hk => hk.2) (.int .i64 t123)) (fun _ hk => hk.2) (.slice Ao39 t124.length co39)) (fun _ h_ => h_.1))) hb) (Kd.R_elder' z48_ (Kd.R_base ho0) hb) (Kd.R_below (by (with_reducible repeat (first | apply Kd.R_alloc | apply Kd.R_drewN | apply Kd.R_drew)); exact (Kd.R_mono (Kd.R_far (p := ⟨gb127, 3, none⟩) (Kd.R_far (p := ⟨gb127, 2, none⟩) (Kd.R_far (p := ⟨gb127, 1, none⟩) (Kd.R_far (p := ⟨gb127, 0, none⟩) (Kd.R_types HO117.out BK127.out (by decide)) (fun _ hk => hk.2) (.string t119)) (fun _ hk => hk.2) (.slice Ao38 t120.length co38)) (fun _ hk => hk.2) (.int .i64 t123)) (fun _ hk => hk.2) (.slice Ao39 t124.length co39)) (fun _ h_ => h_.1))) hb) (Kd.R_below (by (with_reducible repeat (first | apply Kd.R_alloc | apply Kd.R_drewN | apply Kd.R_drew)); exact (Kd.R_mono (Kd.R_far (p := ⟨gb127, 3, none⟩) (Kd.R_far (p := ⟨gb127, 2, none⟩) (Kd.R_far (p := ⟨gb127, 1, none⟩) (Kd.R_far (p := ⟨gb127, 0, none⟩) (Kd.R_types HO122.out BK127.out (by decide)) (fun _ hk => hk.2) (.string t119)) (fun _ hk => hk.2) (.slice Ao38 t120.length co38)) (fun _ hk => hk.2) (.int .i64 t123)) (fun _ hk => hk.2) (.slice Ao39 t124.length co39)) (fun _ h_ => h_.1))) hb) (Kd.S_below (by (with_reducible repeat (first | apply Kd.S_alloc | apply Kd.S_drewN | apply Kd.S_drew)); exact (Kd.S_mono (Kd.S_far (p := ⟨gb127, 3, none⟩) (Kd.S_far (p := ⟨gb127, 2, none⟩) (Kd.S_far (p := ⟨gb127, 1, none⟩) (Kd.S_far (p := ⟨gb127, 0, none⟩) (Kd.S_types HO126.out BK127.out (by decide)) (fun _ hk => hk.2) (.string t119)) (fun _ hk => hk.2) (.slice Ao38 t120.length co38)) (fun _ hk => hk.2) (.int .i64 t123)) (fun _ hk => hk.2) (.slice Ao39 t124.length co39)) (fun _ h_ => h_.1))) hb) (Kd.R_lower (Kd.R_new' ho0 (Kd.R_lt z48_)) (below_size z15_)) (blk_below (g := gb101) (o := .cells #[.string a0_0, .slice A0_1 l0_1.length c0_1, .int .i64 a0_2, .slice A0_3 l0_3.length c0_3] 25 (0, 0)) (by (with_reducible repeat (first | refine blk_drewN ?_ _ | refine blk_drew ?_ | refine blk_alloc ?_ _)); refine blk_far ?_ NB101_127.out _; (with_reducible repeat (first | refine blk_drewN ?_ _ | refine blk_drew ?_ | refine blk_alloc ?_ _)); refine blk_far ?_ NB101_127.out _; (with_reducible repeat (first | refine blk_drewN ?_ _ | refine blk_drew ?_ | refine blk_alloc ?_ _)); refine blk_far ?_ NB101_127.out _; (with_reducible repeat (first | refine blk_drewN ?_ _ | refine blk_drew ?_ | refine blk_alloc ?_ _)); refine blk_far ?_ NB101_127.out _; (with_reducible repeat (first | refine blk_drewN ?_ _ | refine blk_drew ?_ | refine blk_alloc ?_ _)); exact BK101.out) hb) (blk_below (g := gb127) (o := .cells #[.string t119, .slice Ao38 t120.length co38, .int .i64 t123, .slice Ao39 t124.length co39] 35 (0, 0)) (by (with_reducible repeat (first | refine blk_drewN ?_ _ | refine blk_drew ?_ | refine blk_alloc ?_ _)); refine blk_put (cs := #[.string t119, .slice Ao38 t120.length co38, .int .i64 t123, .slice none 0 0]) ?_ 3 _ rfl; (with_reducible repeat (first | refine blk_drewN ?_ _ | refine blk_drew ?_ | refine blk_alloc ?_ _)); refine blk_put (cs := #[.string t119, .slice Ao38 t120.length co38, .int .i64 0, .slice none 0 0]) ?_ 2 _ rfl; (with_reducible repeat (first | refine blk_drewN ?_ _ | refine blk_drew ?_ | refine blk_alloc ?_ _)); refine blk_put (cs := #[.string t119, .slice none 0 0, .int .i64 0, .slice none 0 0]) ?_ 1 _ rfl; (with_reducible repeat (first | refine blk_drewN ?_ _ | refine blk_drew ?_ | refine blk_alloc ?_ _)); refine blk_put (cs := #[.string (⟨#[]⟩ : ByteArray), .slice none 0 0, .int .i64 0, .slice none 0 0]) ?_ 0 _ rfl; (with_reducible repeat (first | refine blk_drewN ?_ _ | refine blk_drew ?_ | refine blk_alloc ?_ _)); exact BK127.out) hb) (below_step z15_ hb); clear HO107 HO111 HO114 HO117 HO122 HO126 BK101 BK127 HB; obtain ⟨HO107, HO111, HO114, HO117, HO122, HO126, HO130, BK101, BK127, HB⟩ := n_; (try clear hb); (try clear hb2); (try clear hk); (try clear hi); (try clear ho0); obtain ⟨hcz41_0, hcz41_1, hcz41_2, hcz41_3, hfz41_0, hfz41_1, hfz41_2, hfz41_3⟩ := bcf4 BK127.out; obtain ⟨Ao42, co42, eo42⟩ := Kd.R_slice HO130.out; subst eo42) | ((with_reducible refine gate_callee (f := 9) rfl ?_); refine goesL_ (some 46) rfl rfl Tryz.func9 (by kernel_rfl) rfl #[.agg #[.string t119, .slice Ao38 t120.length co38, .int .i64 t123, .slice Ao39 t124.length co39], .int .i64 a1, .slice Ao42 t128.length co42] rfl z3_ ?_; (with_reducible refine (impl_IndexKey.calls k t119 _ _ t120 t123 _ _ t124 a1 _ _ t128 t131 t134 _ ?side1 ?side2 ?side3 ?side4 ?side5 ?side6 A20.out).mono ?_); (case side1 => exact cz_ ((Kd.R_reads' HO122.out).2.2)); (case side2 => exact (Kd.R_reads' HO122.out).2.1); (case side3 => exact cz_ ((Kd.S_reads' HO126.out).2.2)); (case side4 => exact (Kd.S_reads' HO126.out).2.1); (case side5 => exact cz_ ((Kd.R_reads' HO130.out).2.2)); (case side6 => exact (Kd.R_reads' HO130.out).2.1); rintro e w43 ⟨v132, rfl, ho0, hb⟩; refine ⟨_, rfl, ?_⟩; have n_ := a11_ (Kd.R_below z45_ hb) (Kd.S_below z46_ hb) (Kd.R_below z38_ hb) (Kd.R_elder' z44_ (Kd.R_base ho0) hb) (Kd.R_below z63_ hb) (Kd.S_below (by (with_reducible repeat (first | apply Kd.S_alloc | apply Kd.S_drewN | apply Kd.S_drew)); exact HO126.out) hb) (Kd.R_below (by (with_reducible repeat (first | apply Kd.R_alloc | apply Kd.R_drewN | apply Kd.R_drew)); exact HO130.out) hb) (Kd.R_lower (Kd.R_new' ho0 (Kd.R_lt z44_)) (below_size z15_)) (blk_below (g := gb101) (o := .cells #[.string a0_0, .slice A0_1 l0_1.length c0_1, .int .i64 a0_2, .slice A0_3 l0_3.length c0_3] 25 (0, 0)) z2_ hb) (blk_below (g := gb127) (o := .cells #[.string t119, .slice Ao38 t120.length co38, .int .i64 t123, .slice Ao39 t124.length co39] 35 (0, 0)) z35_ hb) (below_step z15_ hb); clear HO107 HO111 HO114 HO117 HO122 HO126 HO130 BK101 BK127 HB; obtain ⟨HO107, HO111, HO114, HO117, HO122, HO126, HO130, HO133, BK101, BK127, HB⟩ := n_; (try clear hb); (try clear hb2); (try clear hk); (try clear hi); (try clear ho0)))
 (try simp only [Act.put, sz1_, sz2_, sz3_])
 go_cut [57] (fun v57 wc => ∃ (kq : Nat) (x57_20 : Bool), v57 = .bool x57_20 ∧ Aside0 (laws_FnExactIndexKey.j0 kq a1 l2 t115 t118 t128 t131 t134 x57_20 a0_0 l0_1 a0_2 l0_3 t119 t120 t123 t124 = some r) ∧ Aside0 (kq ≤ k) ∧ Aside0 (Kd.R (Kd.int .u8) 5 wc w.heap.size (fun k_ => some k_ ≠ (v132 : Value).ownBlock) v116 t115) ∧ Aside0 (Kd.R k61 61 wc w.heap.size (fun _ => True) (.slice Ao42 t128.length co42) t128) ∧ Aside0 (Kd.R (Kd.int .u8) 5 wc w.heap.size (fun k_ => some k_ ≠ (v116 : Value).ownBlock) v132 t131) ∧ Aside0 (Kd.R k78 78 wc w.heap.size (fun _ => True) (.slice Ao38 t120.length co38) t120) ∧ Aside0 (Kd.S k58 58 wc w.heap.size (fun _ => True) (.slice Ao39 t124.length co39) t124) ∧ Aside0 (wc.heap[gb101]? = some (.cells #[.string a0_0, (.slice A0_1 l0_1.length c0_1), .int .i64 a0_2, (.slice A0_3 l0_3.length c0_3)] 25 (0, 0))) ∧ Aside0 (wc.heap[gb127]? = some (.cells #[.string t119, (.slice Ao38 t120.length co38), .int .i64 t123, (.slice Ao39 t124.length co39)] 35 (0, 0))) ∧ Aside0 (Below w.heap.size w wc))
 case first =>
  have H := HC21.out
  clear HC21
  replace H := Option.bind_eq_some_iff.mp H
  obtain ⟨t135, A440, H⟩ := H
  have A44 := ak_ A440
  clear A440
  by_cases c45 : t135 = true
  ·subst c45
   have H1 : (laws_FnExactIndexKey.j0 k a1 l2 t115 t118 t128 t131 t134 (t134 != t118) a0_0 l0_1 a0_2 l0_3 t119 t120 t123 t124) = some r := by rw [if_pos rfl] at H; exact H
   clear H
   have H := H1
   clear H1
   have H' := ak_ H
   clear H
   obtain ⟨Ao46, co46, eo46⟩ := Kd.R_slice HO133.out
   subst eo46
   obtain ⟨Ao47, co47, eo47⟩ := Kd.R_slice HO117.out
   subst eo47
   go_wp2_with (first | ((with_reducible refine gate_callee (f := 10) rfl ?_); refine goesL_ (some 51) rfl rfl Tryz.func10 (by kernel_rfl) rfl #[.slice Ao46 t131.length co46, .slice Ao47 t115.length co47] rfl z3_ ?_; (with_reducible refine (laws_eqByteS.calls k _ _ t131 _ _ t115 true _ ?side1 ?side2 ?side3 ?side4 A44.out).mono ?_); (case side1 => exact cz_ ((Kd.R_reads' HO133.out).2.2)); (case side2 => exact (Kd.R_reads' HO133.out).2.1); (case side3 => exact cz_ ((Kd.R_reads' HO117.out).2.2)); (case side4 => exact (Kd.R_reads' HO117.out).2.1); rintro e w' ⟨rfl, ⟨nd, rfl⟩⟩; refine ⟨_, rfl, ?_⟩))
   go_meet
   case rel => exact ⟨_, ((t134 != t118)), z8_, H', ⟨by first | omega | exact Nat.le_refl _⟩, ⟨by (with_reducible repeat (first | apply Kd.R_alloc | apply Kd.R_drewN | apply Kd.R_drew)); exact Kd.R_mono HO117.out (fun _ hk => hk.2)⟩, ⟨by (with_reducible repeat (first | apply Kd.R_alloc | apply Kd.R_drewN | apply Kd.R_drew)); exact Kd.R_mono HO130.out (fun _ hk => trivial)⟩, ⟨by (with_reducible repeat (first | apply Kd.R_alloc | apply Kd.R_drewN | apply Kd.R_drew)); exact Kd.R_mono HO133.out (fun _ hk => hk.2)⟩, ⟨by (with_reducible repeat (first | apply Kd.R_alloc | apply Kd.R_drewN | apply Kd.R_drew)); exact Kd.R_mono HO122.out (fun _ hk => trivial)⟩, ⟨by (with_reducible repeat (first | apply Kd.S_alloc | apply Kd.S_drewN | apply Kd.S_drew)); exact Kd.S_mono HO126.out (fun _ hk => trivial)⟩, ⟨z2_⟩, ⟨z35_⟩, ⟨z15_⟩⟩
  replace c45 := Bool.eq_false_iff.mpr c45
  subst c45
  have H1 : (laws_FnExactIndexKey.j0 k a1 l2 t115 t118 t128 t131 t134 true a0_0 l0_1 a0_2 l0_3 t119 t120 t123 t124) = some r := by rw [if_neg (show ¬ (false = true) by decide)] at H; exact H
  clear H
  have H := H1
  clear H1
  have H' := ak_ H
  clear H
  obtain ⟨Ao48, co48, eo48⟩ := Kd.R_slice HO133.out
  subst eo48
  obtain ⟨Ao49, co49, eo49⟩ := Kd.R_slice HO117.out
  subst eo49
  go_wp2_with (first | ((with_reducible refine gate_callee (f := 10) rfl ?_); refine goesL_ (some 51) rfl rfl Tryz.func10 (by kernel_rfl) rfl #[.slice Ao48 t131.length co48, .slice Ao49 t115.length co49] rfl z3_ ?_; (with_reducible refine (laws_eqByteS.calls k _ _ t131 _ _ t115 false _ ?side1 ?side2 ?side3 ?side4 A44.out).mono ?_); (case side1 => exact cz_ ((Kd.R_reads' HO133.out).2.2)); (case side2 => exact (Kd.R_reads' HO133.out).2.1); (case side3 => exact cz_ ((Kd.R_reads' HO117.out).2.2)); (case side4 => exact (Kd.R_reads' HO117.out).2.1); rintro e w' ⟨rfl, ⟨nd, rfl⟩⟩; refine ⟨_, rfl, ?_⟩))
  go_meet
  case rel => exact ⟨_, (true), z8_, H', ⟨by first | omega | exact Nat.le_refl _⟩, ⟨by (with_reducible repeat (first | apply Kd.R_alloc | apply Kd.R_drewN | apply Kd.R_drew)); exact Kd.R_mono HO117.out (fun _ hk => hk.2)⟩, ⟨by (with_reducible repeat (first | apply Kd.R_alloc | apply Kd.R_drewN | apply Kd.R_drew)); exact Kd.R_mono HO130.out (fun _ hk => trivial)⟩, ⟨by (with_reducible repeat (first | apply Kd.R_alloc | apply Kd.R_drewN | apply Kd.R_drew)); exact Kd.R_mono HO133.out (fun _ hk => hk.2)⟩, ⟨by (with_reducible repeat (first | apply Kd.R_alloc | apply Kd.R_drewN | apply Kd.R_drew)); exact Kd.R_mono HO122.out (fun _ hk => trivial)⟩, ⟨by (with_reducible repeat (first | apply Kd.S_alloc | apply Kd.S_drewN | apply Kd.S_drew)); exact Kd.S_mono HO126.out (fun _ hk => trivial)⟩, ⟨z2_⟩, ⟨z35_⟩, ⟨z15_⟩⟩
 case rest =>
  clear HC21
  try clear c1
  try clear c2
  try clear p2
  try clear c3
  try clear c4
  try clear c5
  try clear c5b0
  try clear c6
  try clear c7
  try clear c8
  try clear c9
  try clear c10
  try clear c10b0
  try clear c36
  try clear c45
  try clear hcz12_0
  try clear hcz12_1
  try clear hcz12_2
  try clear hcz12_3
  try clear hcz23_0
  try clear hcz23_1
  try clear hcz23_2
  try clear hcz23_3
  try clear hcz26_0
  try clear hcz26_1
  try clear hcz26_2
  try clear hcz26_3
  try clear hcz33_0
  try clear hcz33_1
  try clear hcz33_2
  try clear hcz33_3
  try clear hcz37_0
  try clear hcz37_1
  try clear hcz37_2
  try clear hcz37_3
  try clear hcz41_0
  try clear hcz41_1
  try clear hcz41_2
  try clear hcz41_3
  try clear hcz7_0
  try clear hcz7_1
  try clear hcz7_2
  try clear hcz7_3
  try clear hfz12_0
  try clear hfz12_1
  try clear hfz12_2
  try clear hfz12_3
  try clear hfz23_0
  try clear hfz23_1
  try clear hfz23_2
  try clear hfz23_3
  try clear hfz26_0
  try clear hfz26_1
  try clear hfz26_2
  try clear hfz26_3
  try clear hfz33_0
  try clear hfz33_1
  try clear hfz33_2
  try clear hfz33_3
  try clear hfz37_0
  try clear hfz37_1
  try clear hfz37_2
  try clear hfz37_3
  try clear hfz41_0
  try clear hfz41_1
  try clear hfz41_2
  try clear hfz41_3
  try clear hfz7_0
  try clear hfz7_1
  try clear hfz7_2
  try clear hfz7_3
  obtain ⟨kq, x57_20, rfl, HA, HJ20, HO_8, HO_11, HO_12, HO_128001, HO_128003, BK101, BK127, HB⟩ := hcut
  cases kq with
  | zero => exact absurd HA.out (by simp [laws_FnExactIndexKey.j0])
  | succ kj20 =>
   have H := HA.out
   clear HA
   simp only [laws_FnExactIndexKey.j0] at H
   by_cases c50 : x57_20 = true
   ·subst c50
    have H1 : (none) = some r := by rw [if_pos rfl] at H; exact H
    clear H
    have H := H1
    clear H1
    exact absurd H (by simp)
   replace c50 := Bool.eq_false_iff.mpr c50
   subst c50
   have H1 : ((laws_toTable.f kj20 a0_0 l0_1 a0_2 l0_3).bind fun bt136 => ((laws_eqTable.f kj20 t119 t120 t123 t124 bt136.1 bt136.2.1 bt136.2.2.1 bt136.2.2.2).bind fun t144 => (if t144 = true then ((laws_toValueS.f kj20 l2).bind fun t145 => ((laws_eqValueS.f kj20 t128 t145).bind fun t148 => (if t148 = true then ((laws_markTable.f kj20 t119 t120 t123 t124 1).bind fun t149 => ((laws_markValueS.f kj20 t128 t149).bind fun bt150 => (if bt150.1 < 0 then (laws_FnExactIndexKey.j1 kj20 a1 l2 t115 t118 t131 true a0_0 l0_1 a0_2 l0_3) else ((laws_eqByteS.f kj20 t131 t115).bind fun t152 => (if t152 = true then (laws_FnExactIndexKey.j1 kj20 a1 l2 t115 t118 t131 (t134 != t118) a0_0 l0_1 a0_2 l0_3) else (laws_FnExactIndexKey.j1 kj20 a1 l2 t115 t118 t131 true a0_0 l0_1 a0_2 l0_3)))))) else (none)))) else (none)))) = some r := by rw [if_neg (show ¬ (false = true) by decide)] at H; exact H
   clear H
   have H := H1
   clear H1
   replace H := Option.bind_eq_some_iff.mp H
   obtain ⟨⟨t136, t137, t140, t141⟩, A510, H⟩ := H
   replace H : ((laws_eqTable.f kj20 t119 t120 t123 t124 t136 t137 t140 t141).bind fun t144 => (if t144 = true then ((laws_toValueS.f kj20 l2).bind fun t145 => ((laws_eqValueS.f kj20 t128 t145).bind fun t148 => (if t148 = true then ((laws_markTable.f kj20 t119 t120 t123 t124 1).bind fun t149 => ((laws_markValueS.f kj20 t128 t149).bind fun bt150 => (if bt150.1 < 0 then (laws_FnExactIndexKey.j1 kj20 a1 l2 t115 t118 t131 true a0_0 l0_1 a0_2 l0_3) else ((laws_eqByteS.f kj20 t131 t115).bind fun t152 => (if t152 = true then (laws_FnExactIndexKey.j1 kj20 a1 l2 t115 t118 t131 (t134 != t118) a0_0 l0_1 a0_2 l0_3) else (laws_FnExactIndexKey.j1 kj20 a1 l2 t115 t118 t131 true a0_0 l0_1 a0_2 l0_3)))))) else (none)))) else (none))) = some r := H
   have A51 := ak_ A510
   clear A510
   replace H := Option.bind_eq_some_iff.mp H
   obtain ⟨t144, A520, H⟩ := H
   have A52 := ak_ A520
   clear A520
   by_cases c53 : t144 = true
   rotate_left
   ·replace c53 := Bool.eq_false_iff.mpr c53
    subst c53
    have H1 : (none) = some r := by rw [if_neg (show ¬ (false = true) by decide)] at H; exact H
    clear H
    have H := H1
    clear H1
    exact absurd H (by simp)

   subst c53
   have H1 : ((laws_toValueS.f kj20 l2).bind fun t145 => ((laws_eqValueS.f kj20 t128 t145).bind fun t148 => (if t148 = true then ((laws_markTable.f kj20 t119 t120 t123 t124 1).bind fun t149 => ((laws_markValueS.f kj20 t128 t149).bind fun bt150 => (if bt150.1 < 0 then (laws_FnExactIndexKey.j1 kj20 a1 l2 t115 t118 t131 true a0_0 l0_1 a0_2 l0_3) else ((laws_eqByteS.f kj20 t131 t115).bind fun t152 => (if t152 = true then (laws_FnExactIndexKey.j1 kj20 a1 l2 t115 t118 t131 (t134 != t118) a0_0 l0_1 a0_2 l0_3) else (laws_FnExactIndexKey.j1 kj20 a1 l2 t115 t118 t131 true a0_0 l0_1 a0_2 l0_3)))))) else (none)))) = some r := by rw [if_pos rfl] at H; exact H
   clear H
   have H := H1
   clear H1
   replace H := Option.bind_eq_some_iff.mp H
   obtain ⟨t145, A540, H⟩ := H
   have A54 := ak_ A540
   clear A540
   replace H := Option.bind_eq_some_iff.mp H
   obtain ⟨t148, A550, H⟩ := H
   have A55 := ak_ A550
   clear A550
   by_cases c56 : t148 = true
   rotate_left
   ·replace c56 := Bool.eq_false_iff.mpr c56
    subst c56
    have H1 : (none) = some r := by rw [if_neg (show ¬ (false = true) by decide)] at H; exact H
    clear H
    have H := H1
    clear H1
    exact absurd H (by simp)
   subst c56
   have H1 : ((laws_markTable.f kj20 t119 t120 t123 t124 1).bind fun t149 => ((laws_markValueS.f kj20 t128 t149).bind fun bt150 => (if bt150.1 < 0 then (laws_FnExactIndexKey.j1 kj20 a1 l2 t115 t118 t131 true a0_0 l0_1 a0_2 l0_3) else ((laws_eqByteS.f kj20 t131 t115).bind fun t152 => (if t152 = true then (laws_FnExactIndexKey.j1 kj20 a1 l2 t115 t118 t131 (t134 != t118) a0_0 l0_1 a0_2 l0_3) else (laws_FnExactIndexKey.j1 kj20 a1 l2 t115 t118 t131 true a0_0 l0_1 a0_2 l0_3)))))) = some r := by rw [if_pos rfl] at H; exact H
   clear H
   have H := H1
   clear H1
   replace H := Option.bind_eq_some_iff.mp H
   obtain ⟨t149, A570, H⟩ := H
   have A57 := ak_ A570
   clear A570
   replace H := Option.bind_eq_some_iff.mp H
   obtain ⟨⟨t150, t151⟩, A580, H⟩ := H
   replace H : (if t150 < 0 then (laws_FnExactIndexKey.j1 kj20 a1 l2 t115 t118 t131 true a0_0 l0_1 a0_2 l0_3) else ((laws_eqByteS.f kj20 t131 t115).bind fun t152 => (if t152 = true then (laws_FnExactIndexKey.j1 kj20 a1 l2 t115 t118 t131 (t134 != t118) a0_0 l0_1 a0_2 l0_3) else (laws_FnExactIndexKey.j1 kj20 a1 l2 t115 t118 t131 true a0_0 l0_1 a0_2 l0_3)))) = some r := H
   have A58 := ak_ A580
   clear A580
   have HC59 := ak_ H
   clear H
   try go_wp2
   have n_ := a8_ (Kd.R_drew HO_8.out) (Kd.R_drew HO_11.out) (Kd.R_drew HO_12.out) (Kd.R_drew HO_128001.out) (Kd.S_drew HO_128003.out) (blk_drew BK101.out) (blk_drew BK127.out) (below_drew1 HB.out)
   clear HO_8 HO_11 HO_12 HO_128001 HO_128003 BK101 BK127 HB
   obtain ⟨HO_8, HO_11, HO_12, HO_128001, HO_128003, BK101, BK127, HB⟩ := n_
   refine start_ (n := 5) (S := fun w' => w'.cell? ⟨gb127, 0, none⟩ = some (.string t119) ∧ w'.cell? ⟨gb127, 1, none⟩ = some (.slice Ao38 t120.length co38) ∧ w'.cell? ⟨gb127, 2, none⟩ = some (.int .i64 t123) ∧ w'.cell? ⟨gb127, 3, none⟩ = some (.slice Ao39 t124.length co39) ∧ w'.cell? ⟨gb101, 0, none⟩ = some (.string a0_0) ∧ w'.cell? ⟨gb101, 1, none⟩ = some (.slice A0_1 l0_1.length c0_1) ∧ w'.cell? ⟨gb101, 2, none⟩ = some (.int .i64 a0_2) ∧ w'.cell? ⟨gb101, 3, none⟩ = some (.slice A0_3 l0_3.length c0_3)) (ds := []) #[false, false, false, false, false] (by kernel_rfl) rfl rfl ⟨(blk_cell BK127.out 0).trans rfl, (blk_cell BK127.out 1).trans rfl, (blk_cell BK127.out 2).trans rfl, (blk_cell BK127.out 3).trans rfl, (blk_cell BK101.out 0).trans rfl, (blk_cell BK101.out 1).trans rfl, (blk_cell BK101.out 2).trans rfl, (blk_cell BK101.out 3).trans rfl⟩ (fun hHeld => ?_)
   generalize wc.drew = w60 at HO_8 HO_11 HO_12 HO_128001 HO_128003 BK101 BK127 HB hHeld ⊢
   refine take_ (i := 0) (N := some 58) (v := ?_) (a' := ?_) #[true, false, false, false, false] rfl rfl (by kernel_rfl) (fun _ _ _ h => h) (Or.inl ⟨by rfl, ?_⟩) hHeld ?_ ?_
   rotate_left
   ·rintro w' ⟨s0, s1, s2, s3, s4, s5, s6, s7⟩
    go_simp
    with_reducible rfl
   rotate_left
   ·simp only [Act.put, sz1_, sz2_, sz3_, i64_w, i32_w]
    rfl
   refine take_ (i := 1) (N := some 59) (v := ?_) (a' := ?_) #[true, true, false, false, false] rfl rfl (by kernel_rfl) (fun _ _ _ h => h) (Or.inl ⟨by rfl, ?_⟩) hHeld ?_ ?_
   rotate_left
   ·rintro w' ⟨s0, s1, s2, s3, s4, s5, s6, s7⟩
    go_simp
    with_reducible rfl
   rotate_left
   ·simp only [Act.put, sz1_, sz2_, sz3_, i64_w, i32_w]
    rfl
   refine one_ (i := 2) (N := some 60) #[true, true, true, false, false] rfl rfl (by kernel_rfl) (by decide) (fun K hK => ?_)
   refine goes_ Tryz.func7 (by kernel_rfl) rfl #[.agg #[.string a0_0, .slice A0_1 l0_1.length c0_1, .int .i64 a0_2, .slice A0_3 l0_3.length c0_3]] (by rfl) rfl rfl z3_ ?_
   with_reducible refine (laws_toTable.calls kj20 a0_0 _ _ l0_1 a0_2 _ _ l0_3 t136 t137 t140 t141 _ ?side1 ?side2 ?side3 ?side4 A51.out).mono ?_
   (case side1 => exact cz_ ((Kd.C_below HR0_1.out HB.out)))
   (case side2 => exact HC0_1.out)
   (case side3 => exact cz_ ((Kd.C_below HR0_3.out HB.out)))
   (case side4 => exact HC0_3.out)
   rintro e w61 ⟨v138, v142, rfl, ho0, ho1, hb⟩
   refine ⟨_, rfl, ?_⟩
   have n_ := a10_ (Kd.R_below z32_ hb) (Kd.R_below z52_ hb) (Kd.R_below z31_ hb) (Kd.R_elder' z49_ (Kd.R_base ho0) hb) (Kd.S_elder' z50_ (Kd.S_base ho1) hb) (Kd.R_lower (Kd.R_new' ho0 (Kd.R_lt z49_)) (below_size z15_)) (Kd.S_lower (Kd.S_new' ho1 (Kd.S_lt z50_)) (below_size z15_)) (blk_below (g := gb101) (o := .cells #[.string a0_0, .slice A0_1 l0_1.length c0_1, .int .i64 a0_2, .slice A0_3 l0_3.length c0_3] 25 (0, 0)) z2_ hb) (blk_below (g := gb127) (o := .cells #[.string t119, .slice Ao38 t120.length co38, .int .i64 t123, .slice Ao39 t124.length co39] 35 (0, 0)) z35_ hb) (below_step z15_ hb)
   clear HO_8 HO_11 HO_12 HO_128001 HO_128003 BK101 BK127 HB
   obtain ⟨HO_8, HO_11, HO_12, HO_128001, HO_128003, HO139, HO143, BK101, BK127, HB⟩ := n_
   (try clear hb)
   (try clear hb2)
   (try clear hk)
   (try clear hi)
   (try clear ho0)
   (try clear ho1)
   obtain ⟨Ao62, co62, eo62⟩ := Kd.R_slice HO139.out
   (first | subst eo62 | (injection eo62 with f1_ f2_ f3_; have f4_ := f1_.symm; have f5_ := f3_.symm; clear f1_ f2_ f3_; subst f4_; subst f5_))
   obtain ⟨Ao63, co63, eo63⟩ := Kd.S_slice HO143.out
   (first | subst eo63 | (injection eo63 with f1_ f2_ f3_; have f4_ := f1_.symm; have f5_ := f3_.symm; clear f1_ f2_ f3_; subst f4_; subst f5_))
   refine hK.out _ _ ⟨(blk_cell BK127.out 0).trans rfl, (blk_cell BK127.out 1).trans rfl, (blk_cell BK127.out 2).trans rfl, (blk_cell BK127.out 3).trans rfl, (blk_cell BK101.out 0).trans rfl, (blk_cell BK101.out 1).trans rfl, (blk_cell BK101.out 2).trans rfl, (blk_cell BK101.out 3).trans rfl⟩ (fun hHeld => ?_)
   clear hK K
   refine norm_ (a' := ?_) ?_ ?_
   rotate_left
   ·show Act.put _ (some 60) _ = _
    simp only [Act.put, sz1_, sz2_, sz3_, i64_w, i32_w]
    rfl
   refine one_ (i := 3) (N := some 61) #[true, true, true, true, false] rfl rfl (by kernel_rfl) (by decide) (fun K hK => ?_)
   refine goes_ Tryz.func11 (by kernel_rfl) rfl #[.agg #[.string t119, .slice Ao38 t120.length co38, .int .i64 t123, .slice Ao39 t124.length co39], .agg #[.string t136, .slice Ao62 t137.length co62, .int .i64 t140, .slice Ao63 t141.length co63]] (by rfl) rfl rfl z3_ ?_
   with_reducible refine (laws_eqTable.calls kj20 t119 _ _ t120 t123 _ _ t124 t136 _ _ t137 t140 _ _ t141 true _ ?side1 ?side2 ?side3 ?side4 ?side5 ?side6 ?side7 ?side8 A52.out).mono ?_
   (case side1 => exact cz_ ((Kd.R_reads' HO_128001.out).2.2))
   (case side2 => exact (Kd.R_reads' HO_128001.out).2.1)
   (case side3 => exact cz_ ((Kd.S_reads' HO_128003.out).2.2))
   (case side4 => exact (Kd.S_reads' HO_128003.out).2.1)
   (case side5 => exact cz_ ((Kd.R_reads' HO139.out).2.2))
   (case side6 => exact (Kd.R_reads' HO139.out).2.1)
   (case side7 => exact cz_ ((Kd.S_reads' HO143.out).2.2))
   (case side8 => exact (Kd.S_reads' HO143.out).2.1)
   rintro e w64 ⟨rfl, hb⟩
   refine ⟨_, rfl, ?_⟩
   have n_ := a10_ (Kd.R_below z32_ hb) (Kd.R_below z52_ hb) (Kd.R_below z31_ hb) (Kd.R_below z49_ hb) (Kd.S_below z50_ hb) (Kd.R_below z77_ hb) (Kd.S_below z78_ hb) (blk_below (g := gb101) (o := .cells #[.string a0_0, .slice A0_1 l0_1.length c0_1, .int .i64 a0_2, .slice A0_3 l0_3.length c0_3] 25 (0, 0)) z2_ hb) (blk_below (g := gb127) (o := .cells #[.string t119, .slice Ao38 t120.length co38, .int .i64 t123, .slice Ao39 t124.length co39] 35 (0, 0)) z35_ hb) (below_step z15_ hb)
   clear HO_8 HO_11 HO_12 HO_128001 HO_128003 HO139 HO143 BK101 BK127 HB
   obtain ⟨HO_8, HO_11, HO_12, HO_128001, HO_128003, HO139, HO143, BK101, BK127, HB⟩ := n_
   (try clear hb)
   (try clear hb2)
   (try clear hk)
   (try clear hi)
   refine hK.out _ _ ⟨(blk_cell BK127.out 0).trans rfl, (blk_cell BK127.out 1).trans rfl, (blk_cell BK127.out 2).trans rfl, (blk_cell BK127.out 3).trans rfl, (blk_cell BK101.out 0).trans rfl, (blk_cell BK101.out 1).trans rfl, (blk_cell BK101.out 2).trans rfl, (blk_cell BK101.out 3).trans rfl⟩ (fun hHeld => ?_)
   clear hK K
   refine norm_ (a' := ?_) ?_ ?_
   rotate_left
   ·show Act.put _ (some 61) _ = _
    simp only [Act.put, sz1_, sz2_, sz3_, i64_w, i32_w]
    rfl
   refine pure_ (i := 4) (N := some 62) (v := ?_) (a' := ?_) #[true, true, true, true, true] rfl rfl (by kernel_rfl) (fun _ _ _ h => h) (Or.inl ⟨by rfl, ?_⟩) ?_ ?_
   rotate_left
   ·intro w'
    go_simp
    with_reducible rfl
   rotate_left
   ·simp only [Act.put, sz1_, sz2_, sz3_, i64_w, i32_w]
    rfl
   refine done_ (by kernel_rfl) ?_
   go_upto_region 21 with (first | ((with_reducible refine gate_callee (f := 8) rfl ?_); refine goesL_ (some 65) rfl rfl Tryz.func8 (by kernel_rfl) rfl #[.slice A2 l2.length c2] rfl z3_ ?_; (with_reducible refine (laws_toValueS.calls kj20 _ _ l2 t145 _ ?side1 ?side2 A54.out).mono ?_); (case side1 => exact cz_ ((Kd.C_below HR2.out HB.out))); (case side2 => exact HC2.out); rintro e w65 ⟨v146, rfl, ho0, hb⟩; refine ⟨_, rfl, ?_⟩; have n_ := a11_ (Kd.R_below z32_ hb) (Kd.R_elder' z52_ (Kd.R_base ho0) hb) (Kd.R_below z31_ hb) (Kd.R_below z49_ hb) (Kd.S_below z50_ hb) (Kd.R_below z77_ hb) (Kd.S_below z78_ hb) (Kd.R_lower (Kd.R_new' ho0 (Kd.R_lt z52_)) (below_size z15_)) (blk_below (g := gb101) (o := .cells #[.string a0_0, .slice A0_1 l0_1.length c0_1, .int .i64 a0_2, .slice A0_3 l0_3.length c0_3] 25 (0, 0)) z2_ hb) (blk_below (g := gb127) (o := .cells #[.string t119, .slice Ao38 t120.length co38, .int .i64 t123, .slice Ao39 t124.length co39] 35 (0, 0)) z35_ hb) (below_step z15_ hb); clear HO_8 HO_11 HO_12 HO_128001 HO_128003 HO139 HO143 BK101 BK127 HB; obtain ⟨HO_8, HO_11, HO_12, HO_128001, HO_128003, HO139, HO143, HO147, BK101, BK127, HB⟩ := n_; (try clear hb); (try clear hb2); (try clear hk); (try clear hi); (try clear ho0); obtain ⟨Ao66, co66, eo66⟩ := Kd.R_slice HO147.out; subst eo66) | ((with_reducible refine gate_callee (f := 12) rfl ?_); refine goesL_ (some 66) rfl rfl Tryz.func12 (by kernel_rfl) rfl #[.slice Ao42 t128.length co42, .slice Ao66 t145.length co66] rfl z3_ ?_; (with_reducible refine (laws_eqValueS.calls kj20 _ _ t128 _ _ t145 true _ ?side1 ?side2 ?side3 ?side4 A55.out).mono ?_); (case side1 => exact cz_ ((Kd.R_reads' HO_11.out).2.2)); (case side2 => exact (Kd.R_reads' HO_11.out).2.1); (case side3 => exact cz_ ((Kd.R_reads' HO147.out).2.2)); (case side4 => exact (Kd.R_reads' HO147.out).2.1); rintro e w67 ⟨rfl, hb⟩; refine ⟨_, rfl, ?_⟩; have n_ := a11_ (Kd.R_below z32_ hb) (Kd.R_below z52_ hb) (Kd.R_below z31_ hb) (Kd.R_below z49_ hb) (Kd.S_below z50_ hb) (Kd.R_below z77_ hb) (Kd.S_below z78_ hb) (Kd.R_below (by (with_reducible repeat (first | apply Kd.R_alloc | apply Kd.R_drewN | apply Kd.R_drew)); exact HO147.out) hb) (blk_below (g := gb101) (o := .cells #[.string a0_0, .slice A0_1 l0_1.length c0_1, .int .i64 a0_2, .slice A0_3 l0_3.length c0_3] 25 (0, 0)) z2_ hb) (blk_below (g := gb127) (o := .cells #[.string t119, .slice Ao38 t120.length co38, .int .i64 t123, .slice Ao39 t124.length co39] 35 (0, 0)) z35_ hb) (below_step z15_ hb); clear HO_8 HO_11 HO_12 HO_128001 HO_128003 HO139 HO143 HO147 BK101 BK127 HB; obtain ⟨HO_8, HO_11, HO_12, HO_128001, HO_128003, HO139, HO143, HO147, BK101, BK127, HB⟩ := n_; (try clear hb); (try clear hb2); (try clear hk); (try clear hi); have hnb68 := NB127_101.out; have hnc68 := NB101_127.out; obtain ⟨hcz69_0, hcz69_1, hcz69_2, hcz69_3, hfz69_0, hfz69_1, hfz69_2, hfz69_3⟩ := bcf4 BK127.out) | ((with_reducible refine gate_callee (f := 13) rfl ?_); refine goesL_ (some 70) rfl rfl Tryz.func13 (by kernel_rfl) rfl #[.agg #[.string t119, .slice Ao38 t120.length co38, .int .i64 t123, .slice Ao39 t124.length co39], .int .i64 1] rfl z3_ ?_; (with_reducible refine (laws_markTable.calls kj20 t119 (fun k_ => some k_ = (.slice Ao38 t120.length co38 : Value).ownBlock) (.slice Ao38 t120.length co38) t120 t123 (fun k_ => (((((((((True ∧ some k_ ≠ (.slice Ao63 t141.length co63 : Value).ownBlock) ∧ some k_ ≠ (v116 : Value).ownBlock) ∧ some k_ ≠ (.slice Ao42 t128.length co42 : Value).ownBlock) ∧ some k_ ≠ (v132 : Value).ownBlock) ∧ some k_ ≠ (.slice Ao38 t120.length co38 : Value).ownBlock) ∧ some k_ ≠ (.slice Ao62 t137.length co62 : Value).ownBlock) ∧ some k_ ≠ (.slice Ao66 t145.length co66 : Value).ownBlock) ∧ k_ ≠ gb101) ∧ k_ ≠ gb127)) (.slice Ao39 t124.length co39) t124 1 t149 w _ ?side1 ?side2 ?side3 A57.out).mono ?_); (case side1 => repeat (first | (with_reducible first | exact HB.out | apply below_alloc | apply pw_below_drewN | apply below_drew1 | refine below_set ?_ GE101.out | refine below_set ?_ GE127.out) | exact HB.out)); (case side2 => exact Kd.R_tight rfl HO_128001.out); (case side3 => exact Kd.S_types (Kd.S_types (Kd.S_apart' (Kd.S_apart' (Kd.S_apart' (Kd.S_apart' (Kd.S_apart' (Kd.S_apart' (HO_128003.out) (Kd.R_typed HO_8.out) (by decide)) (Kd.R_typed HO_11.out) (by decide)) (Kd.R_typed HO_12.out) (by decide)) (Kd.R_typed HO_128001.out) (by decide)) (Kd.R_typed HO139.out) (by decide)) (Kd.R_typed HO147.out) (by decide)) BK101.out (by decide)) BK127.out (by decide)); rintro e w70 ⟨rfl, hb, hkp⟩; refine ⟨_, rfl, ?_⟩; have n_ := a8_ (Kd.R_mono (ok' := fun k_ => some k_ ≠ (v132 : Value).ownBlock) (Kd.R_keptB ((Kd.R_mono (ok' := fun k_ => ((some k_ ≠ (v132 : Value).ownBlock ∧ some k_ ≠ (.slice Ao38 t120.length co38 : Value).ownBlock)) ∧ ¬ ((((((((((True ∧ some k_ ≠ (.slice Ao63 t141.length co63 : Value).ownBlock) ∧ some k_ ≠ (v116 : Value).ownBlock) ∧ some k_ ≠ (.slice Ao42 t128.length co42 : Value).ownBlock) ∧ some k_ ≠ (v132 : Value).ownBlock) ∧ some k_ ≠ (.slice Ao38 t120.length co38 : Value).ownBlock) ∧ some k_ ≠ (.slice Ao62 t137.length co62 : Value).ownBlock) ∧ some k_ ≠ (.slice Ao66 t145.length co66 : Value).ownBlock) ∧ k_ ≠ gb101) ∧ k_ ≠ gb127))) (Kd.R_tight2 rfl (Kd.R_apart' HO_8.out (Kd.R_typed HO_128001.out) (by decide))) (fun k_ hk => ⟨hk.2, fun hp_ => (hp_.1.1.1.1.1.1.1.2) hk.1⟩))) hkp (fun k_ hk_ hs_ => Or.elim hs_ (fun e_ => (hk_.1.2) e_) (fun e_ => (hk_.2) e_))) (fun k_ hk_ => hk_.1.1.1)) (Kd.R_mono (ok' := fun k_ => some k_ ≠ (.slice Ao66 t145.length co66 : Value).ownBlock) (Kd.R_keptB ((Kd.R_mono (ok' := fun k_ => (((True ∧ some k_ ≠ (.slice Ao66 t145.length co66 : Value).ownBlock) ∧ some k_ ≠ (.slice Ao38 t120.length co38 : Value).ownBlock)) ∧ ¬ ((((((((((True ∧ some k_ ≠ (.slice Ao63 t141.length co63 : Value).ownBlock) ∧ some k_ ≠ (v116 : Value).ownBlock) ∧ some k_ ≠ (.slice Ao42 t128.length co42 : Value).ownBlock) ∧ some k_ ≠ (v132 : Value).ownBlock) ∧ some k_ ≠ (.slice Ao38 t120.length co38 : Value).ownBlock) ∧ some k_ ≠ (.slice Ao62 t137.length co62 : Value).ownBlock) ∧ some k_ ≠ (.slice Ao66 t145.length co66 : Value).ownBlock) ∧ k_ ≠ gb101) ∧ k_ ≠ gb127))) (Kd.R_tight2 rfl (Kd.R_apart' HO_11.out (Kd.R_typed HO_128001.out) (by decide))) (fun k_ hk => ⟨hk.2, fun hp_ => (hp_.1.1.1.1.1.1.2) hk.1⟩))) hkp (fun k_ hk_ hs_ => Or.elim hs_ (fun e_ => (hk_.1.2) e_) (fun e_ => (hk_.2) e_))) (fun k_ hk_ => hk_.1.1.1.2)) (Kd.R_mono (ok' := fun k_ => some k_ ≠ (v116 : Value).ownBlock) (Kd.R_keptB ((Kd.R_mono (ok' := fun k_ => ((some k_ ≠ (v116 : Value).ownBlock ∧ some k_ ≠ (.slice Ao38 t120.length co38 : Value).ownBlock)) ∧ ¬ ((((((((((True ∧ some k_ ≠ (.slice Ao63 t141.length co63 : Value).ownBlock) ∧ some k_ ≠ (v116 : Value).ownBlock) ∧ some k_ ≠ (.slice Ao42 t128.length co42 : Value).ownBlock) ∧ some k_ ≠ (v132 : Value).ownBlock) ∧ some k_ ≠ (.slice Ao38 t120.length co38 : Value).ownBlock) ∧ some k_ ≠ (.slice Ao62 t137.length co62 : Value).ownBlock) ∧ some k_ ≠ (.slice Ao66 t145.length co66 : Value).ownBlock) ∧ k_ ≠ gb101) ∧ k_ ≠ gb127))) (Kd.R_tight2 rfl (Kd.R_apart' HO_12.out (Kd.R_typed HO_128001.out) (by decide))) (fun k_ hk => ⟨hk.2, fun hp_ => (hp_.1.1.1.1.1.2) hk.1⟩))) hkp (fun k_ hk_ hs_ => Or.elim hs_ (fun e_ => (hk_.1.2) e_) (fun e_ => (hk_.2) e_))) (fun k_ hk_ => hk_.1.1.1)) (blk_kept z2_ hkp (fun hs_ => Or.elim hs_ (fun e_ => (fun e_ => (Kd.R_ne HO_128001.out BK101.out (by decide)) e_) e_) (fun e_ => (fun e_ => (e_.1.2) rfl) e_))) (blk_kept z35_ hkp (fun hs_ => Or.elim hs_ (fun e_ => (fun e_ => (Kd.R_ne HO_128001.out BK127.out (by decide)) e_) e_) (fun e_ => (fun e_ => (e_.2) rfl) e_))) (Kd.R_mono (ok' := fun k_ => True) (Kd.R_keptB ((Kd.R_mono (ok' := fun k_ => ((True ∧ some k_ ≠ (.slice Ao38 t120.length co38 : Value).ownBlock)) ∧ ¬ ((((((((((True ∧ some k_ ≠ (.slice Ao63 t141.length co63 : Value).ownBlock) ∧ some k_ ≠ (v116 : Value).ownBlock) ∧ some k_ ≠ (.slice Ao42 t128.length co42 : Value).ownBlock) ∧ some k_ ≠ (v132 : Value).ownBlock) ∧ some k_ ≠ (.slice Ao38 t120.length co38 : Value).ownBlock) ∧ some k_ ≠ (.slice Ao62 t137.length co62 : Value).ownBlock) ∧ some k_ ≠ (.slice Ao66 t145.length co66 : Value).ownBlock) ∧ k_ ≠ gb101) ∧ k_ ≠ gb127))) (Kd.R_tight2 rfl HO139.out) (fun k_ hk => ⟨hk.2, fun hp_ => (hp_.1.1.1.2) hk.1⟩))) hkp (fun k_ hk_ hs_ => Or.elim hs_ (fun e_ => (hk_.1.2) e_) (fun e_ => (hk_.2) e_))) (fun k_ hk_ => trivial)) (Kd.R_mono (ok' := fun k_ => some k_ ≠ (.slice Ao42 t128.length co42 : Value).ownBlock) (Kd.R_keptB ((Kd.R_mono (ok' := fun k_ => (((True ∧ some k_ ≠ (.slice Ao42 t128.length co42 : Value).ownBlock) ∧ some k_ ≠ (.slice Ao38 t120.length co38 : Value).ownBlock)) ∧ ¬ ((((((((((True ∧ some k_ ≠ (.slice Ao63 t141.length co63 : Value).ownBlock) ∧ some k_ ≠ (v116 : Value).ownBlock) ∧ some k_ ≠ (.slice Ao42 t128.length co42 : Value).ownBlock) ∧ some k_ ≠ (v132 : Value).ownBlock) ∧ some k_ ≠ (.slice Ao38 t120.length co38 : Value).ownBlock) ∧ some k_ ≠ (.slice Ao62 t137.length co62 : Value).ownBlock) ∧ some k_ ≠ (.slice Ao66 t145.length co66 : Value).ownBlock) ∧ k_ ≠ gb101) ∧ k_ ≠ gb127))) (Kd.R_tight2 rfl (Kd.R_apart' HO147.out (Kd.R_typed HO_128001.out) (by decide))) (fun k_ hk => ⟨hk.2, fun hp_ => (hp_.1.1.2) hk.1⟩))) hkp (fun k_ hk_ hs_ => Or.elim hs_ (fun e_ => (hk_.1.2) e_) (fun e_ => (hk_.2) e_))) (fun k_ hk_ => hk_.1.1.1.2)) (hb); clear HO_8 HO_11 HO_12 BK101 BK127 HO139 HO147 HB HO_128001 HO_128003 HO143; obtain ⟨HO_8, HO_11, HO_12, BK101, BK127, HO139, HO147, HB⟩ := n_; (try clear hb); (try clear hkp)) | ((with_reducible refine gate_callee (f := 14) rfl ?_); refine goesL_ (some 73) rfl rfl Tryz.func14 (by kernel_rfl) rfl #[.slice Ao42 t128.length co42, .int .i64 t149] rfl z3_ ?_; (with_reducible refine (laws_markValueS.calls kj20 (fun k_ => some k_ = (.slice Ao42 t128.length co42 : Value).ownBlock) (.slice Ao42 t128.length co42) t128 t149 t150 t151 w _ ?side1 ?side2 A58.out).mono ?_); (case side1 => repeat (first | (with_reducible first | exact HB.out | apply below_alloc | apply pw_below_drewN | apply below_drew1 | refine below_set ?_ GE101.out | refine below_set ?_ GE127.out) | exact HB.out)); (case side2 => exact Kd.R_tight rfl HO_11.out); rintro e w71 ⟨rfl, hy0, hb, hkp⟩; refine ⟨_, rfl, ?_⟩; have n_ := a8_ (Kd.R_mono (ok' := fun k_ => some k_ ≠ (v132 : Value).ownBlock) (Kd.R_keptB ((Kd.R_apart' HO_8.out (Kd.R_typed HO_11.out) (by decide))) hkp (fun k_ hk_ hs_ => (hk_.2) hs_)) (fun k_ hk_ => hk_.1.1)) (Kd.R_reok rfl hy0 (fun k_ e_ => HO_11.out.1 k_ e_)) (Kd.R_mono (ok' := fun k_ => some k_ ≠ (v116 : Value).ownBlock) (Kd.R_keptB ((Kd.R_apart' HO_12.out (Kd.R_typed HO_11.out) (by decide))) hkp (fun k_ hk_ hs_ => (hk_.2) hs_)) (fun k_ hk_ => hk_.1.1)) (blk_kept z2_ hkp (fun hs_ => (fun e_ => (Kd.R_ne HO_11.out BK101.out (by decide)) e_) hs_)) (blk_kept z35_ hkp (fun hs_ => (fun e_ => (Kd.R_ne HO_11.out BK127.out (by decide)) e_) hs_)) (Kd.R_mono (ok' := fun k_ => True) (Kd.R_keptB ((Kd.R_apart' HO139.out (Kd.R_typed HO_11.out) (by decide))) hkp (fun k_ hk_ hs_ => (hk_.2) hs_)) (fun k_ hk_ => trivial)) (Kd.R_mono (ok' := fun k_ => some k_ ≠ (.slice Ao42 t128.length co42 : Value).ownBlock) (Kd.R_keptB (HO147.out) hkp (fun k_ hk_ hs_ => (hk_) hs_)) (fun k_ hk_ => hk_.1)) (hb); clear HO_8 HO_11 HO_12 BK101 BK127 HO139 HO147 HB; obtain ⟨HO_8, HO_11, HO_12, BK101, BK127, HO139, HO147, HB⟩ := n_; (try clear hb); (try clear hkp); (try clear hy0)))
   (try simp only [Act.put, sz1_, sz2_, sz3_])
   go_cut [86] (fun v86 wc => ∃ (kq : Nat) (x86_58 : Bool), v86 = .bool x86_58 ∧ Aside0 (laws_FnExactIndexKey.j1 kq a1 l2 t115 t118 t131 x86_58 a0_0 l0_1 a0_2 l0_3 = some r) ∧ Aside0 (kq ≤ kj20) ∧ Aside0 (Kd.R (Kd.int .u8) 5 wc w.heap.size (fun k_ => some k_ ≠ (v132 : Value).ownBlock) v116 t115) ∧ Aside0 (Kd.R (Kd.int .u8) 5 wc w.heap.size (fun k_ => some k_ ≠ (v116 : Value).ownBlock) v132 t131) ∧ Aside0 (wc.heap[gb101]? = some (.cells #[.string a0_0, (.slice A0_1 l0_1.length c0_1), .int .i64 a0_2, (.slice A0_3 l0_3.length c0_3)] 25 (0, 0))) ∧ Aside0 (Below w.heap.size w wc))
   case first =>
    have H := HC59.out
    clear HC59
    by_cases c72 : t150 < 0
    ·rw [if_pos c72] at H
     have c72b0 := decide_eq_true c72
     clear c72
     (first | rw [c72b0] | (simp only [i64_w, i32_w]; rw [c72b0]) | skip)
     have H' := ak_ H
     clear H
     go_wp2
     go_meet
     case rel => exact ⟨_, (true), z8_, H', ⟨by have := HJ20.out; first | omega | exact Nat.le_refl _⟩, ⟨z32_⟩, ⟨z31_⟩, ⟨z2_⟩, ⟨z15_⟩⟩
    rw [if_neg c72] at H
    have c72b0 := decide_eq_false c72
    clear c72
    (first | rw [c72b0] | (simp only [i64_w, i32_w]; rw [c72b0]) | skip)
    replace H := Option.bind_eq_some_iff.mp H
    obtain ⟨t152, A730, H⟩ := H
    have A73 := ak_ A730
    clear A730
    by_cases c74 : t152 = true
    ·subst c74
     have H1 : (laws_FnExactIndexKey.j1 kj20 a1 l2 t115 t118 t131 (t134 != t118) a0_0 l0_1 a0_2 l0_3) = some r := by rw [if_pos rfl] at H; exact H
     clear H
     have H := H1
     clear H1
     have H' := ak_ H
     clear H
     obtain ⟨Ao75, co75, eo75⟩ := Kd.R_slice HO_12.out
     subst eo75
     obtain ⟨Ao76, co76, eo76⟩ := Kd.R_slice HO_8.out
     subst eo76
     go_wp2_with (first | (go_at_call 10; (with_reducible refine (laws_eqByteS.calls kj20 _ _ t131 _ _ t115 true _ ?side1 ?side2 ?side3 ?side4 A73.out).mono ?_); (case side1 => exact cz_ ((Kd.R_reads' HO_12.out).2.2)); (case side2 => exact (Kd.R_reads' HO_12.out).2.1); (case side3 => exact cz_ ((Kd.R_reads' HO_8.out).2.2)); (case side4 => exact (Kd.R_reads' HO_8.out).2.1); rintro e w' ⟨rfl, ⟨nd, rfl⟩⟩))
     go_meet
     case rel => exact ⟨_, ((t134 != t118)), z8_, H', ⟨by have := HJ20.out; first | omega | exact Nat.le_refl _⟩, ⟨z32_⟩, ⟨z31_⟩, ⟨z2_⟩, ⟨z15_⟩⟩
    replace c74 := Bool.eq_false_iff.mpr c74
    subst c74
    have H1 : (laws_FnExactIndexKey.j1 kj20 a1 l2 t115 t118 t131 true a0_0 l0_1 a0_2 l0_3) = some r := by rw [if_neg (show ¬ (false = true) by decide)] at H; exact H
    clear H
    have H := H1
    clear H1
    have H' := ak_ H
    clear H
    obtain ⟨Ao77, co77, eo77⟩ := Kd.R_slice HO_12.out
    subst eo77
    obtain ⟨Ao78, co78, eo78⟩ := Kd.R_slice HO_8.out
    subst eo78
    go_wp2_with (first | (go_at_call 10; (with_reducible refine (laws_eqByteS.calls kj20 _ _ t131 _ _ t115 false _ ?side1 ?side2 ?side3 ?side4 A73.out).mono ?_); (case side1 => exact cz_ ((Kd.R_reads' HO_12.out).2.2)); (case side2 => exact (Kd.R_reads' HO_12.out).2.1); (case side3 => exact cz_ ((Kd.R_reads' HO_8.out).2.2)); (case side4 => exact (Kd.R_reads' HO_8.out).2.1); rintro e w' ⟨rfl, ⟨nd, rfl⟩⟩))
    go_meet
    case rel => exact ⟨_, (true), z8_, H', ⟨by have := HJ20.out; first | omega | exact Nat.le_refl _⟩, ⟨z32_⟩, ⟨z31_⟩, ⟨z2_⟩, ⟨z15_⟩⟩
   case rest =>
    clear HC59
    try clear c1
    try clear c2
    try clear p2
    try clear c3
    try clear c4
    try clear c5
    try clear c5b0
    try clear c6
    try clear c7
    try clear c8
    try clear c9
    try clear c10
    try clear c10b0
    try clear c11
    try clear c12
    try clear c13
    try clear c14
    try clear c36
    try clear c45
    try clear c50
    try clear c53
    try clear c56
    try clear c68
    try clear c72
    try clear c72b0
    try clear c74
    try clear hcz12_0
    try clear hcz12_1
    try clear hcz12_2
    try clear hcz12_3
    try clear hcz23_0
    try clear hcz23_1
    try clear hcz23_2
    try clear hcz23_3
    try clear hcz26_0
    try clear hcz26_1
    try clear hcz26_2
    try clear hcz26_3
    try clear hcz33_0
    try clear hcz33_1
    try clear hcz33_2
    try clear hcz33_3
    try clear hcz37_0
    try clear hcz37_1
    try clear hcz37_2
    try clear hcz37_3
    try clear hcz41_0
    try clear hcz41_1
    try clear hcz41_2
    try clear hcz41_3
    try clear hcz69_0
    try clear hcz69_1
    try clear hcz69_2
    try clear hcz69_3
    try clear hcz7_0
    try clear hcz7_1
    try clear hcz7_2
    try clear hcz7_3
    try clear hfz12_0
    try clear hfz12_1
    try clear hfz12_2
    try clear hfz12_3
    try clear hfz23_0
    try clear hfz23_1
    try clear hfz23_2
    try clear hfz23_3
    try clear hfz26_0
    try clear hfz26_1
    try clear hfz26_2
    try clear hfz26_3
    try clear hfz33_0
    try clear hfz33_1
    try clear hfz33_2
    try clear hfz33_3
    try clear hfz37_0
    try clear hfz37_1
    try clear hfz37_2
    try clear hfz37_3
    try clear hfz41_0
    try clear hfz41_1
    try clear hfz41_2
    try clear hfz41_3
    try clear hfz69_0
    try clear hfz69_1
    try clear hfz69_2
    try clear hfz69_3
    try clear hfz7_0
    try clear hfz7_1
    try clear hfz7_2
    try clear hfz7_3
    try clear p2
    obtain ⟨kq, x86_58, rfl, HA, HJ58, HO_8, HO_12, BK101, HB⟩ := hcut
    cases kq with
    | zero => exact absurd HA.out (by simp [laws_FnExactIndexKey.j1])
    | succ kj58 =>
     have H := HA.out
     clear HA
     simp only [laws_FnExactIndexKey.j1] at H
     by_cases c79 : x86_58 = true
     ·subst c79
      have H1 : (none) = some r := by rw [if_pos rfl] at H; exact H
      clear H
      have H := H1
      clear H1
      exact absurd H (by simp)
     replace c79 := Bool.eq_false_iff.mpr c79
     subst c79
     have H1 : ((laws_markByteS.f kj58 t131 1).bind fun bt153 => ((laws_heldByteS.f kj58 bt153.2 1).bind fun t155 => (if t155 < 0 then (none) else (if t155 = bt153.1 then ((laws_toTable.f kj58 a0_0 l0_1 a0_2 l0_3).bind fun bt156 => ((laws_toValueS.f kj58 l2).bind fun t164 => ((impl_IndexKey.f kj58 bt156.1 bt156.2.1 bt156.2.2.1 bt156.2.2.2 a1 t164).bind fun bt167 => ((laws_eqByteS.f kj58 bt167.1 t115).bind fun t171 => (if t171 = true then (laws_FnExactIndexKey.j2 kj58 bt153.2 bt153.1 (bt167.2 != t118)) else (laws_FnExactIndexKey.j2 kj58 bt153.2 bt153.1 true)))))) else (none))))) = some r := by rw [if_neg (show ¬ (false = true) by decide)] at H; exact H
     clear H
     have H := H1
     clear H1
     replace H := Option.bind_eq_some_iff.mp H
     obtain ⟨⟨t153, t154⟩, A800, H⟩ := H
     replace H : ((laws_heldByteS.f kj58 t154 1).bind fun t155 => (if t155 < 0 then (none) else (if t155 = t153 then ((laws_toTable.f kj58 a0_0 l0_1 a0_2 l0_3).bind fun bt156 => ((laws_toValueS.f kj58 l2).bind fun t164 => ((impl_IndexKey.f kj58 bt156.1 bt156.2.1 bt156.2.2.1 bt156.2.2.2 a1 t164).bind fun bt167 => ((laws_eqByteS.f kj58 bt167.1 t115).bind fun t171 => (if t171 = true then (laws_FnExactIndexKey.j2 kj58 t154 t153 (bt167.2 != t118)) else (laws_FnExactIndexKey.j2 kj58 t154 t153 true)))))) else (none)))) = some r := H
     have A80 := ak_ A800
     clear A800
     replace H := Option.bind_eq_some_iff.mp H
     obtain ⟨t155, A810, H⟩ := H
     have A81 := ak_ A810
     clear A810
     by_cases c82 : t155 < 0
     ·rw [if_pos c82] at H
      exact absurd H (by simp)
     rw [if_neg c82] at H
     have c82b0 := decide_eq_false c82
     clear c82
     by_cases c83 : t155 = t153
     rotate_left
     ·rw [if_neg c83] at H
      exact absurd H (by simp)
     rw [if_pos c83] at H
     have c83b0 : (t155 == t153) = true := beq_iff_eq.mpr c83
     have c83b1 : (t155 != t153) = false := bne_eq_false_iff_eq.mpr c83
     clear c83
     replace H := Option.bind_eq_some_iff.mp H
     obtain ⟨⟨t156, t157, t160, t161⟩, A840, H⟩ := H
     replace H : ((laws_toValueS.f kj58 l2).bind fun t164 => ((impl_IndexKey.f kj58 t156 t157 t160 t161 a1 t164).bind fun bt167 => ((laws_eqByteS.f kj58 bt167.1 t115).bind fun t171 => (if t171 = true then (laws_FnExactIndexKey.j2 kj58 t154 t153 (bt167.2 != t118)) else (laws_FnExactIndexKey.j2 kj58 t154 t153 true))))) = some r := H
     have A84 := ak_ A840
     clear A840
     replace H := Option.bind_eq_some_iff.mp H
     obtain ⟨t164, A850, H⟩ := H
     have A85 := ak_ A850
     clear A850
     replace H := Option.bind_eq_some_iff.mp H
     obtain ⟨⟨t167, t170⟩, A860, H⟩ := H
     replace H : ((laws_eqByteS.f kj58 t167 t115).bind fun t171 => (if t171 = true then (laws_FnExactIndexKey.j2 kj58 t154 t153 (t170 != t118)) else (laws_FnExactIndexKey.j2 kj58 t154 t153 true))) = some r := H
     have A86 := ak_ A860
     clear A860
     have HC87 := ak_ H
     clear H
     obtain ⟨Ao88, co88, eo88⟩ := Kd.R_slice HO_12.out
     subst eo88
     go_upto_region 32 with (first | ((with_reducible refine gate_callee (f := 15) rfl ?_); refine goesL_ (some 89) rfl rfl Tryz.func15 (by kernel_rfl) rfl #[.slice Ao88 t131.length co88, .int .i64 1] rfl z3_ ?_; (with_reducible refine (laws_markByteS.calls kj58 (fun k_ => some k_ = (.slice Ao88 t131.length co88 : Value).ownBlock) (.slice Ao88 t131.length co88) t131 1 t153 t154 w _ ?side1 ?side2 A80.out).mono ?_); (case side1 => repeat (first | (with_reducible first | exact HB.out | apply below_alloc | apply pw_below_drewN | apply below_drew1 | refine below_set ?_ GE101.out) | exact HB.out)); (case side2 => exact Kd.R_tight rfl HO_12.out); rintro e w89 ⟨rfl, hy0, hb, hkp⟩; refine ⟨_, rfl, ?_⟩; have n_ := a4_ (Kd.R_mono (ok' := fun k_ => some k_ ≠ (.slice Ao88 t131.length co88 : Value).ownBlock) (Kd.R_keptB (HO_8.out) hkp (fun k_ hk_ hs_ => (hk_) hs_)) (fun k_ hk_ => hk_.1)) (Kd.R_reok rfl hy0 (fun k_ e_ => HO_12.out.1 k_ e_)) (blk_kept z2_ hkp (fun hs_ => (fun e_ => (Kd.R_ne HO_12.out BK101.out (by decide)) e_) hs_)) (hb); clear HO_8 HO_12 BK101 HB; obtain ⟨HO_8, HO_12, BK101, HB⟩ := n_; (try clear hb); (try clear hkp); (try clear hy0)) | ((with_reducible refine gate_callee (f := 16) rfl ?_); refine goesL_ (some 92) rfl rfl Tryz.func16 (by kernel_rfl) rfl #[.slice Ao88 t154.length co88, .int .i64 1] rfl (by (try simp only [List.map_toArray, List.map_cons, List.map_nil]); first | done | (rw [show t154.length = t131.length from (Kd.R_reads' HO_12.out).1.symm] <;> rfl) | rfl | (simp only [List.length_drop, List.length_take]; rfl)) ?_; (with_reducible refine (laws_heldByteS.calls kj58 _ _ t154 1 t155 _ ?side1 ?side2 A81.out).mono ?_); (case side1 => exact cz_ ((Kd.R_reads' HO_12.out).2.2)); (case side2 => rw [show t154.length = t131.length from (Kd.R_reads' HO_12.out).1.symm]; exact (Kd.R_reads' HO_12.out).2.1); rintro e w' ⟨rfl, ⟨nd, rfl⟩⟩; refine ⟨_, rfl, ?_⟩; obtain ⟨hcz90_0, hcz90_1, hcz90_2, hcz90_3, hfz90_0, hfz90_1, hfz90_2, hfz90_3⟩ := bcf4 BK101.out) | ((with_reducible refine gate_callee (f := 7) rfl ?_); refine goesL_ (some 100) rfl rfl Tryz.func7 (by kernel_rfl) rfl #[.agg #[.string a0_0, .slice A0_1 l0_1.length c0_1, .int .i64 a0_2, .slice A0_3 l0_3.length c0_3]] rfl z3_ ?_; (with_reducible refine (laws_toTable.calls kj58 a0_0 _ _ l0_1 a0_2 _ _ l0_3 t156 t157 t160 t161 _ ?side1 ?side2 ?side3 ?side4 A84.out).mono ?_); (case side1 => repeat (first | exact (Kd.C_below HR0_1.out z1_) | (with_reducible refine Kd.C_alloc ?_ _) | (with_reducible refine Kd.C_drewN ?_ _) | (with_reducible refine Kd.C_drew ?_))); (case side2 => exact HC0_1.out); (case side3 => repeat (first | exact (Kd.C_below HR0_3.out z1_) | (with_reducible refine Kd.C_alloc ?_ _) | (with_reducible refine Kd.C_drewN ?_ _) | (with_reducible refine Kd.C_drew ?_))); (case side4 => exact HC0_3.out); rintro e w91 ⟨v158, v162, rfl, ho0, ho1, hb⟩; refine ⟨_, rfl, ?_⟩; have n_ := a6_ (Kd.R_below z32_ hb) (Kd.R_below z31_ hb) (Kd.R_lower ho0 (below_size z1_)) (Kd.S_lower ho1 (below_size z1_)) (blk_below (g := gb101) (o := .cells #[.string a0_0, .slice A0_1 l0_1.length c0_1, .int .i64 a0_2, .slice A0_3 l0_3.length c0_3] 25 (0, 0)) z2_ hb) (below_step z1_ hb); clear HO_8 HO_12 BK101 HB; obtain ⟨HO_8, HO_12, HO159, HO163, BK101, HB⟩ := n_; (try clear hb); (try clear hb2); (try clear hk); (try clear hi); (try clear ho0); (try clear ho1)) | ((with_reducible refine gate_callee (f := 8) rfl ?_); refine goesL_ (some 103) rfl rfl Tryz.func8 (by kernel_rfl) rfl #[.slice A2 l2.length c2] rfl z3_ ?_; (with_reducible refine (laws_toValueS.calls kj58 _ _ l2 t164 _ ?side1 ?side2 A85.out).mono ?_); (case side1 => exact cz_ ((Kd.C_below HR2.out HB.out))); (case side2 => exact HC2.out); rintro e w92 ⟨v165, rfl, ho0, hb⟩; refine ⟨_, rfl, ?_⟩; have n_ := a7_ (Kd.R_below z32_ hb) (Kd.R_below z31_ hb) (Kd.R_below (by (with_reducible repeat (first | apply Kd.R_alloc | apply Kd.R_drewN | apply Kd.R_drew)); exact HO159.out) hb) (Kd.S_below (by (with_reducible repeat (first | apply Kd.S_alloc | apply Kd.S_drewN | apply Kd.S_drew)); exact HO163.out) hb) (Kd.R_lower ho0 (below_size z1_)) (blk_below (g := gb101) (o := .cells #[.string a0_0, .slice A0_1 l0_1.length c0_1, .int .i64 a0_2, .slice A0_3 l0_3.length c0_3] 25 (0, 0)) z2_ hb) (below_step z1_ hb); clear HO_8 HO_12 HO159 HO163 BK101 HB; obtain ⟨HO_8, HO_12, HO159, HO163, HO166, BK101, HB⟩ := n_; (try clear hb); (try clear hb2); (try clear hk); (try clear hi); (try clear ho0); obtain ⟨Ao93, co93, eo93⟩ := Kd.R_slice HO159.out; subst eo93; obtain ⟨Ao94, co94, eo94⟩ := Kd.S_slice HO163.out; subst eo94; obtain ⟨Ao95, co95, eo95⟩ := Kd.R_slice HO166.out; subst eo95) | ((with_reducible refine gate_callee (f := 9) rfl ?_); refine goesL_ (some 104) rfl rfl Tryz.func9 (by kernel_rfl) rfl #[.agg #[.string t156, .slice Ao93 t157.length co93, .int .i64 t160, .slice Ao94 t161.length co94], .int .i64 a1, .slice Ao95 t164.length co95] rfl z3_ ?_; (with_reducible refine (impl_IndexKey.calls kj58 t156 _ _ t157 t160 _ _ t161 a1 _ _ t164 t167 t170 _ ?side1 ?side2 ?side3 ?side4 ?side5 ?side6 A86.out).mono ?_); (case side1 => exact cz_ ((Kd.R_reads' HO159.out).2.2)); (case side2 => exact (Kd.R_reads' HO159.out).2.1); (case side3 => exact cz_ ((Kd.S_reads' HO163.out).2.2)); (case side4 => exact (Kd.S_reads' HO163.out).2.1); (case side5 => exact cz_ ((Kd.R_reads' HO166.out).2.2)); (case side6 => exact (Kd.R_reads' HO166.out).2.1); rintro e w96 ⟨v168, rfl, ho0, hb⟩; refine ⟨_, rfl, ?_⟩; have n_ := a8_ (Kd.R_elder' z32_ (Kd.R_base ho0) hb) (Kd.R_elder' z31_ (Kd.R_base ho0) hb) (Kd.R_below (by (with_reducible repeat (first | apply Kd.R_alloc | apply Kd.R_drewN | apply Kd.R_drew)); exact HO159.out) hb) (Kd.S_below (by (with_reducible repeat (first | apply Kd.S_alloc | apply Kd.S_drewN | apply Kd.S_drew)); exact HO163.out) hb) (Kd.R_below (by (with_reducible repeat (first | apply Kd.R_alloc | apply Kd.R_drewN | apply Kd.R_drew)); exact HO166.out) hb) (Kd.R_lower (Kd.R_new' (Kd.R_new' ho0 (Kd.R_lt z32_)) (Kd.R_lt z31_)) (below_size z1_)) (blk_below (g := gb101) (o := .cells #[.string a0_0, .slice A0_1 l0_1.length c0_1, .int .i64 a0_2, .slice A0_3 l0_3.length c0_3] 25 (0, 0)) z2_ hb) (below_step z1_ hb); clear HO_8 HO_12 HO159 HO163 HO166 BK101 HB; obtain ⟨HO_8, HO_12, HO159, HO163, HO166, HO169, BK101, HB⟩ := n_; (try clear hb); (try clear hb2); (try clear hk); (try clear hi); (try clear ho0)))
     (try simp only [Act.put, sz1_, sz2_, sz3_])
     go_cut [115] (fun v115 wc => ∃ (kq : Nat) (x115_86 : Bool), v115 = .bool x115_86 ∧ Aside0 (laws_FnExactIndexKey.j2 kq t154 t153 x115_86 = some r) ∧ Aside0 (kq ≤ kj58) ∧ Aside0 (Kd.R (Kd.int .u8) 5 wc w.heap.size (fun _ => True) (.slice Ao88 t131.length co88) t154) ∧ Aside0 (wc.heap[gb101]? = some (.cells #[.string a0_0, (.slice A0_1 l0_1.length c0_1), .int .i64 a0_2, (.slice A0_3 l0_3.length c0_3)] 25 (0, 0))) ∧ Aside0 (Below w.heap.size w wc))
     case first =>
      have H := HC87.out
      clear HC87
      replace H := Option.bind_eq_some_iff.mp H
      obtain ⟨t171, A970, H⟩ := H
      have A97 := ak_ A970
      clear A970
      by_cases c98 : t171 = true
      ·subst c98
       have H1 : (laws_FnExactIndexKey.j2 kj58 t154 t153 (t170 != t118)) = some r := by rw [if_pos rfl] at H; exact H
       clear H
       have H := H1
       clear H1
       have H' := ak_ H
       clear H
       obtain ⟨Ao99, co99, eo99⟩ := Kd.R_slice HO169.out
       subst eo99
       obtain ⟨Ao100, co100, eo100⟩ := Kd.R_slice HO_8.out
       subst eo100
       go_wp2_with (first | ((with_reducible refine gate_callee (f := 10) rfl ?_); refine goesL_ (some 109) rfl rfl Tryz.func10 (by kernel_rfl) rfl #[.slice Ao99 t167.length co99, .slice Ao100 t115.length co100] rfl z3_ ?_; (with_reducible refine (laws_eqByteS.calls kj58 _ _ t167 _ _ t115 true _ ?side1 ?side2 ?side3 ?side4 A97.out).mono ?_); (case side1 => exact cz_ ((Kd.R_reads' HO169.out).2.2)); (case side2 => exact (Kd.R_reads' HO169.out).2.1); (case side3 => exact cz_ ((Kd.R_reads' HO_8.out).2.2)); (case side4 => exact (Kd.R_reads' HO_8.out).2.1); rintro e w' ⟨rfl, ⟨nd, rfl⟩⟩; refine ⟨_, rfl, ?_⟩))
       go_meet
       case rel => exact ⟨_, ((t170 != t118)), z8_, H', ⟨by have := HJ20.out; have := HJ58.out; first | omega | exact Nat.le_refl _⟩, ⟨by (with_reducible repeat (first | apply Kd.R_alloc | apply Kd.R_drewN | apply Kd.R_drew)); exact Kd.R_mono HO_12.out (fun _ hk => trivial)⟩, ⟨z2_⟩, ⟨z1_⟩⟩
      replace c98 := Bool.eq_false_iff.mpr c98
      subst c98
      have H1 : (laws_FnExactIndexKey.j2 kj58 t154 t153 true) = some r := by rw [if_neg (show ¬ (false = true) by decide)] at H; exact H
      clear H
      have H := H1
      clear H1
      have H' := ak_ H
      clear H
      obtain ⟨Ao101, co101, eo101⟩ := Kd.R_slice HO169.out
      subst eo101
      obtain ⟨Ao102, co102, eo102⟩ := Kd.R_slice HO_8.out
      subst eo102
      go_wp2_with (first | ((with_reducible refine gate_callee (f := 10) rfl ?_); refine goesL_ (some 109) rfl rfl Tryz.func10 (by kernel_rfl) rfl #[.slice Ao101 t167.length co101, .slice Ao102 t115.length co102] rfl z3_ ?_; (with_reducible refine (laws_eqByteS.calls kj58 _ _ t167 _ _ t115 false _ ?side1 ?side2 ?side3 ?side4 A97.out).mono ?_); (case side1 => exact cz_ ((Kd.R_reads' HO169.out).2.2)); (case side2 => exact (Kd.R_reads' HO169.out).2.1); (case side3 => exact cz_ ((Kd.R_reads' HO_8.out).2.2)); (case side4 => exact (Kd.R_reads' HO_8.out).2.1); rintro e w' ⟨rfl, ⟨nd, rfl⟩⟩; refine ⟨_, rfl, ?_⟩))
      go_meet
      case rel => exact ⟨_, (true), z8_, H', ⟨by have := HJ20.out; have := HJ58.out; first | omega | exact Nat.le_refl _⟩, ⟨by (with_reducible repeat (first | apply Kd.R_alloc | apply Kd.R_drewN | apply Kd.R_drew)); exact Kd.R_mono HO_12.out (fun _ hk => trivial)⟩, ⟨z2_⟩, ⟨z1_⟩⟩
     case rest =>
      clear HC87
      try clear c1
      try clear c2
      try clear p2
      try clear c3
      try clear c4
      try clear c5
      try clear c5b0
      try clear c6
      try clear c7
      try clear c8
      try clear c9
      try clear c10
      try clear c10b0
      try clear c11
      try clear c12
      try clear c13
      try clear c14
      try clear c15
      try clear c16
      try clear c36
      try clear c45
      try clear c50
      try clear c53
      try clear c56
      try clear c68
      try clear c72
      try clear c72b0
      try clear c74
      try clear c79
      try clear c82
      try clear c82b0
      try clear c83
      try clear c83b0
      try clear c83b1
      try clear c98
      try clear hcz12_0
      try clear hcz12_1
      try clear hcz12_2
      try clear hcz12_3
      try clear hcz23_0
      try clear hcz23_1
      try clear hcz23_2
      try clear hcz23_3
      try clear hcz26_0
      try clear hcz26_1
      try clear hcz26_2
      try clear hcz26_3
      try clear hcz33_0
      try clear hcz33_1
      try clear hcz33_2
      try clear hcz33_3
      try clear hcz37_0
      try clear hcz37_1
      try clear hcz37_2
      try clear hcz37_3
      try clear hcz41_0
      try clear hcz41_1
      try clear hcz41_2
      try clear hcz41_3
      try clear hcz69_0
      try clear hcz69_1
      try clear hcz69_2
      try clear hcz69_3
      try clear hcz7_0
      try clear hcz7_1
      try clear hcz7_2
      try clear hcz7_3
      try clear hcz90_0
      try clear hcz90_1
      try clear hcz90_2
      try clear hcz90_3
      try clear hfz12_0
      try clear hfz12_1
      try clear hfz12_2
      try clear hfz12_3
      try clear hfz23_0
      try clear hfz23_1
      try clear hfz23_2
      try clear hfz23_3
      try clear hfz26_0
      try clear hfz26_1
      try clear hfz26_2
      try clear hfz26_3
      try clear hfz33_0
      try clear hfz33_1
      try clear hfz33_2
      try clear hfz33_3
      try clear hfz37_0
      try clear hfz37_1
      try clear hfz37_2
      try clear hfz37_3
      try clear hfz41_0
      try clear hfz41_1
      try clear hfz41_2
      try clear hfz41_3
      try clear hfz69_0
      try clear hfz69_1
      try clear hfz69_2
      try clear hfz69_3
      try clear hfz7_0
      try clear hfz7_1
      try clear hfz7_2
      try clear hfz7_3
      try clear hfz90_0
      try clear hfz90_1
      try clear hfz90_2
      try clear hfz90_3
      try clear p2
      obtain ⟨kq, x115_86, rfl, HA, HJ86, HO_12, BK101, HB⟩ := hcut
      have hl12_86 := (Kd.R_reads' HO_12.out).1
      rw [hl12_86] at HO_12
      (try simp only [hl12_86])
      (try simp only [hl12_86] at BK101)
      cases kq with
      | zero => exact absurd HA.out (by simp [laws_FnExactIndexKey.j2])
      | succ kj86 =>
       have H := HA.out
       clear HA
       simp only [laws_FnExactIndexKey.j2] at H
       by_cases c103 : x115_86 = true
       ·subst c103
        have H1 : (none) = some r := by rw [if_pos rfl] at H; exact H
        clear H
        have H := H1
        clear H1
        exact absurd H (by simp)
       replace c103 := Bool.eq_false_iff.mpr c103
       subst c103
       have H1 : ((laws_heldByteS.f kj86 t154 1).bind fun t172 => (if t172 < 0 then (none) else (if t172 = t153 then (some true) else (none)))) = some r := by rw [if_neg (show ¬ (false = true) by decide)] at H; exact H
       clear H
       have H := H1
       clear H1
       replace H := Option.bind_eq_some_iff.mp H
       obtain ⟨t172, A1040, H⟩ := H
       have A104 := ak_ A1040
       clear A1040
       by_cases c105 : t172 < 0
       ·rw [if_pos c105] at H
        exact absurd H (by simp)
       rw [if_neg c105] at H
       have c105b0 := decide_eq_false c105
       clear c105
       by_cases c106 : t172 = t153
       rotate_left
       ·rw [if_neg c106] at H
        exact absurd H (by simp)
       rw [if_pos c106] at H
       have c106b0 : (t172 == t153) = true := beq_iff_eq.mpr c106
       have c106b1 : (t172 != t153) = false := bne_eq_false_iff_eq.mpr c106
       clear c106
       obtain rfl := Option.some.inj H
       go_wp2_with (first | ((with_reducible refine gate_callee (f := 16) rfl ?_); refine goesL_ (some 118) rfl rfl Tryz.func16 (by kernel_rfl) rfl #[.slice Ao88 t154.length co88, .int .i64 1] rfl z3_ ?_; (with_reducible refine (laws_heldByteS.calls kj86 _ _ t154 1 t172 _ ?side1 ?side2 A104.out).mono ?_); (case side1 => exact cz_ ((Kd.R_reads' HO_12.out).2.2)); (case side2 => exact (Kd.R_reads' HO_12.out).2.1); rintro e w' ⟨rfl, ⟨nd, rfl⟩⟩; refine ⟨_, rfl, ?_⟩))
       go_ret
       exact ⟨z6_, z1_⟩
end Go.Proofs.YtlikagbdhjdggaaGreatDoor.X
