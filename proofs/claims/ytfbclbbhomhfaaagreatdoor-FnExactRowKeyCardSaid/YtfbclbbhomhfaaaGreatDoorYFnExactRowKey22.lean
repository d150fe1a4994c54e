/- Contracts of functions, and what is told of them. -/
import Derived.Test.YtfbclbbhomhfaaaGreatDoorYFnExactRowKey3
import Derived.Test.YtfbclbbhomhfaaaGreatDoorYFnExactRowKey5
import Derived.Test.YtfbclbbhomhfaaaGreatDoorYFnExactRowKey6
import Derived.Test.YtfbclbbhomhfaaaGreatDoorYFnExactRowKey7
import Derived.Test.YtfbclbbhomhfaaaGreatDoorYFnExactRowKey8
import Derived.Test.YtfbclbbhomhfaaaGreatDoorYFnExactRowKey14
import Derived.Test.YtfbclbbhomhfaaaGreatDoorYFnExactRowKey15
import Derived.Test.YtfbclbbhomhfaaaGreatDoorYFnExactRowKey16
import Derived.Test.YtfbclbbhomhfaaaGreatDoorYFnExactRowKey21
namespace Go.Proofs.YtfbclbbhomhfaaaGreatDoor.X
open Go.RowKit Go.Proofs.YtfbclbbhomhfaaaGreatDoorW.PrintWords Go.Proofs.YtfbclbbhomhfaaaGreatDoorW.PrintLast Go.Proofs.YtfbclbbhomhfaaaGreatDoorW.PrintMore
attribute [local go_sem] max2_int min2_int max_two min_two max_three min_three max_four min_four   -- for this text's walks alone
set_option linter.unusedVariables false
set_option linter.unusedSimpArgs false

mutual
def laws_FnExactRowKey.j0 : Nat → List (S50) → List Int → Int → List (S56) → List Int → Int → Bool → ByteArray → List (S66) → Int → List (S70) → ByteArray → List (S74) → Int → List (S76) → Option (Bool)
 | 0, _, _, _, _, _, _, _, _, _, _, _, _, _, _, _ => none
 | k + 1, x1, x6, x7, x9, x10, x11, x53, x102000, x102001, x102002, x102003, x128000, x128001, x128002, x128003 => if x53 = true then (none) else ((laws_toTable.f k x102000 x102001 x102002 x102003).bind fun bt136 => ((laws_eqTable.f k x128000 x128001 x128002 x128003 bt136.1 bt136.2.1 bt136.2.2.1 bt136.2.2.2).bind fun t144 => (if t144 = true then ((laws_toValueS.f k x1).bind fun t145 => ((laws_eqValueS.f k x9 t145).bind fun t148 => (if t148 = true then ((laws_markTable.f k x128000 x128001 x128002 x128003 1).bind fun t149 => ((laws_markValueS.f k x9 t149).bind fun bt150 => (if bt150.1 < 0 then (laws_FnExactRowKey.j1 k x1 x6 x7 x10 true x102000 x102001 x102002 x102003) else ((laws_eqByteS.f k x10 x6).bind fun t152 => (if t152 = true then (laws_FnExactRowKey.j1 k x1 x6 x7 x10 (x11 != x7) x102000 x102001 x102002 x102003) else (laws_FnExactRowKey.j1 k x1 x6 x7 x10 true x102000 x102001 x102002 x102003)))))) else (none)))) else (none))))
def laws_FnExactRowKey.j1 : Nat → List (S50) → List Int → Int → List Int → Bool → ByteArray → List (S66) → Int → List (S70) → Option (Bool)
 | 0, _, _, _, _, _, _, _, _, _ => none
 | k + 1, x1, x6, x7, x10, x82, x102000, x102001, x102002, x102003 => if x82 = true then (none) else ((laws_markByteS.f k x10 1).bind fun bt153 => ((laws_heldByteS.f k bt153.2 1).bind fun t155 => (if t155 < 0 then (none) else (if t155 = bt153.1 then ((laws_toTable.f k x102000 x102001 x102002 x102003).bind fun bt156 => ((laws_toValueS.f k x1).bind fun t164 => ((impl_RowKey.f k bt156.1 bt156.2.1 bt156.2.2.1 bt156.2.2.2 t164).bind fun bt167 => ((laws_eqByteS.f k bt167.1 x6).bind fun t171 => (if t171 = true then (laws_FnExactRowKey.j2 k bt153.2 bt153.1 (bt167.2 != x7)) else (laws_FnExactRowKey.j2 k bt153.2 bt153.1 true)))))) else (none)))))
def laws_FnExactRowKey.j2 : Nat → List Int → Int → Bool → Option (Bool)
 | 0, _, _, _ => none
 | k + 1, x10, x13, x110 => if x110 = true then (none) else ((laws_heldByteS.f k x10 1).bind fun t172 => (if t172 < 0 then (none) else (if t172 = x13 then (some true) else (none))))
end
def laws_FnExactRowKey.f (k : Nat) (a0_0 : ByteArray) (l0_1 : List (S66)) (a0_2 : Int) (l0_3 : List (S70)) (l1 : List (S50)) : Option (Bool) := (laws_szTable.f k a0_0 l0_1 a0_2 l0_3 1048576).bind fun t102 => (if t102 < 0 then (some true) else ((laws_szValueS.f k l1 t102).bind fun t103 => (if t103 < 0 then (some true) else ((laws_toTable.f k a0_0 l0_1 a0_2 l0_3).bind fun bt104 => ((laws_toValueS.f k l1).bind fun t112 => ((spec_RowKey.f k bt104.1 bt104.2.1 bt104.2.2.1 bt104.2.2.2 t112).bind fun bt115 => ((laws_toTable.f k a0_0 l0_1 a0_2 l0_3).bind fun bt119 => ((laws_toValueS.f k l1).bind fun t128 => ((impl_RowKey.f k bt119.1 bt119.2.1 bt119.2.2.1 bt119.2.2.2 t128).bind fun bt131 => ((laws_eqByteS.f k bt131.1 bt115.1).bind fun t135 => (if t135 = true then (laws_FnExactRowKey.j0 k l1 bt115.1 bt115.2 t128 bt131.1 bt131.2 (bt131.2 != bt115.2) a0_0 l0_1 a0_2 l0_3 bt119.1 bt119.2.1 bt119.2.2.1 bt119.2.2.2) else (laws_FnExactRowKey.j0 k l1 bt115.1 bt115.2 t128 bt131.1 bt131.2 true a0_0 l0_1 a0_2 l0_3 bt119.1 bt119.2.1 bt119.2.2.1 bt119.2.2.2))))))))))))
theorem laws_FnExactRowKey.mono_l : ∀ k, (∀ y0 y1 y2 y3 y4 y5 y6 y7 y8 y9 y10 y11 y12 y13 y14, LeO (laws_FnExactRowKey.j0 k y0 y1 y2 y3 y4 y5 y6 y7 y8 y9 y10 y11 y12 y13 y14) (laws_FnExactRowKey.j0 (k + 1) y0 y1 y2 y3 y4 y5 y6 y7 y8 y9 y10 y11 y12 y13 y14)) ∧ (∀ y0 y1 y2 y3 y4 y5 y6 y7 y8, LeO (laws_FnExactRowKey.j1 k y0 y1 y2 y3 y4 y5 y6 y7 y8) (laws_FnExactRowKey.j1 (k + 1) y0 y1 y2 y3 y4 y5 y6 y7 y8)) ∧ (∀ y0 y1 y2, LeO (laws_FnExactRowKey.j2 k y0 y1 y2) (laws_FnExactRowKey.j2 (k + 1) y0 y1 y2))
 | 0 => ⟨fun _ _ _ _ _ _ _ _ _ _ _ _ _ _ _ r h => by simp [laws_FnExactRowKey.j0] at h, fun _ _ _ _ _ _ _ _ _ r h => by simp [laws_FnExactRowKey.j1] at h, fun _ _ _ r h => by simp [laws_FnExactRowKey.j2] at h⟩
 | k + 1 => by
  obtain ⟨ih0, ih1, ih2⟩ := laws_FnExactRowKey.mono_l k
  refine ⟨?_, ?_, ?_⟩
  rotate_left
  ·intro y0 y1 y2 y3 y4 y5 y6 y7 y8
   unfold laws_FnExactRowKey.j1
   repeat' first
   | (with_reducible exact ih0 _ _ _ _ _ _ _ _ _ _ _ _ _ _ _)
   | (with_reducible exact ih1 _ _ _ _ _ _ _ _ _)
   | (with_reducible exact ih2 _ _ _)
   | (with_reducible exact impl_RowKey.mono _ _ _ _ _ _)
   | (with_reducible exact laws_eqByteS.mono _ _ _)
   | (with_reducible exact laws_eqTable.mono _ _ _ _ _ _ _ _ _)
   | (with_reducible exact laws_eqValueS.mono _ _ _)
   | (with_reducible exact laws_heldByteS.mono _ _ _)
   | (with_reducible exact laws_markByteS.mono _ _ _)
   | (with_reducible exact laws_markTable.mono _ _ _ _ _ _)
   | (with_reducible exact laws_markValueS.mono _ _ _)
   | (with_reducible exact laws_szTable.mono _ _ _ _ _ _)
   | (with_reducible exact laws_szValueS.mono _ _ _)
   | (with_reducible exact laws_toTable.mono _ _ _ _ _)
   | (with_reducible exact laws_toValueS.mono _ _)
   | (with_reducible exact spec_RowKey.mono _ _ _ _ _ _)
   | (with_reducible exact LeO.refl _)
   | (with_reducible exact LeO.none _)
   | (with_reducible refine LeO.ite ?_ ?_)
   | (with_reducible refine LeO.bind ?_ (fun _ => ?_))
   | exact ih0 _ _ _ _ _ _ _ _ _ _ _ _ _ _ _
   | exact ih1 _ _ _ _ _ _ _ _ _
   | exact ih2 _ _ _
   | exact impl_RowKey.mono _ _ _ _ _ _
   | exact laws_eqByteS.mono _ _ _
   | exact laws_eqTable.mono _ _ _ _ _ _ _ _ _
   | exact laws_eqValueS.mono _ _ _
   | exact laws_heldByteS.mono _ _ _
   | exact laws_markByteS.mono _ _ _
   | exact laws_markTable.mono _ _ _ _ _ _
   | exact laws_markValueS.mono _ _ _
   | exact laws_szTable.mono _ _ _ _ _ _
   | exact laws_szValueS.mono _ _ _
   | exact laws_toTable.mono _ _ _ _ _
   | exact laws_toValueS.mono _ _
   | exact spec_RowKey.mono _ _ _ _ _ _
   | exact LeO.none _
   | refine LeO.ite ?_ ?_
   | refine LeO.bind ?_ (fun _ => ?_)
  ·intro y0 y1 y2
   unfold laws_FnExactRowKey.j2
   repeat' first
   | (with_reducible exact ih0 _ _ _ _ _ _ _ _ _ _ _ _ _ _ _)
   | (with_reducible exact ih1 _ _ _ _ _ _ _ _ _)
   | (with_reducible exact ih2 _ _ _)
   | (with_reducible exact impl_RowKey.mono _ _ _ _ _ _)
   | (with_reducible exact laws_eqByteS.mono _ _ _)
   | (with_reducible exact laws_eqTable.mono _ _ _ _ _ _ _ _ _)
   | (with_reducible exact laws_eqValueS.mono _ _ _)
   | (with_reducible exact laws_heldByteS.mono _ _ _)
   | (with_reducible exact laws_markByteS.mono _ _ _)
   | (with_reducible exact laws_markTable.mono _ _ _ _ _ _)
   | (with_reducible exact laws_markValueS.mono _ _ _)
   | (with_reducible exact laws_szTable.mono _ _ _ _ _ _)
   | (with_reducible exact laws_szValueS.mono _ _ _)
   | (with_reducible exact laws_toTable.mono _ _ _ _ _)
   | (with_reducible exact laws_toValueS.mono _ _)
   | (with_reducible exact spec_RowKey.mono _ _ _ _ _ _)
   | (with_reducible exact LeO.refl _)
   | (with_reducible exact LeO.none _)
   | (with_reducible refine LeO.ite ?_ ?_)
   | (with_reducible refine LeO.bind ?_ (fun _ => ?_))
   | exact ih0 _ _ _ _ _ _ _ _ _ _ _ _ _ _ _
   | exact ih1 _ _ _ _ _ _ _ _ _
   | exact ih2 _ _ _
   | exact impl_RowKey.mono _ _ _ _ _ _
   | exact laws_eqByteS.mono _ _ _
   | exact laws_eqTable.mono _ _ _ _ _ _ _ _ _
   | exact laws_eqValueS.mono _ _ _
   | exact laws_heldByteS.mono _ _ _
   | exact laws_markByteS.mono _ _ _
   | exact laws_markTable.mono _ _ _ _ _ _
   | exact laws_markValueS.mono _ _ _
   | exact laws_szTable.mono _ _ _ _ _ _
   | exact laws_szValueS.mono _ _ _
   | exact laws_toTable.mono _ _ _ _ _
   | exact laws_toValueS.mono _ _
   | exact spec_RowKey.mono _ _ _ _ _ _
   | exact LeO.none _
   | refine LeO.ite ?_ ?_
   | refine LeO.bind ?_ (fun _ => ?_)
  intro y0 y1 y2 y3 y4 y5 y6 y7 y8 y9 y10 y11 y12 y13 y14
  unfold laws_FnExactRowKey.j0
  repeat' first
  | (with_reducible exact ih0 _ _ _ _ _ _ _ _ _ _ _ _ _ _ _)
  | (with_reducible exact ih1 _ _ _ _ _ _ _ _ _)
  | (with_reducible exact ih2 _ _ _)
  | (with_reducible exact impl_RowKey.mono _ _ _ _ _ _)
  | (with_reducible exact laws_eqByteS.mono _ _ _)
  | (with_reducible exact laws_eqTable.mono _ _ _ _ _ _ _ _ _)
  | (with_reducible exact laws_eqValueS.mono _ _ _)
  | (with_reducible exact laws_heldByteS.mono _ _ _)
  | (with_reducible exact laws_markByteS.mono _ _ _)
  | (with_reducible exact laws_markTable.mono _ _ _ _ _ _)
  | (with_reducible exact laws_markValueS.mono _ _ _)
  | (with_reducible exact laws_szTable.mono _ _ _ _ _ _)
  | (with_reducible exact laws_szValueS.mono _ _ _)
  | (with_reducible exact laws_toTable.mono _ _ _ _ _)
  | (with_reducible exact laws_toValueS.mono _ _)
  | (with_reducible exact spec_RowKey.mono _ _ _ _ _ _)
  | (with_reducible exact LeO.refl _)
  | (with_reducible exact LeO.none _)
  | (with_reducible refine LeO.ite ?_ ?_)
  | (with_reducible refine LeO.bind ?_ (fun _ => ?_))
  | exact ih0 _ _ _ _ _ _ _ _ _ _ _ _ _ _ _
  | exact ih1 _ _ _ _ _ _ _ _ _
  | exact ih2 _ _ _
  | exact impl_RowKey.mono _ _ _ _ _ _
  | exact laws_eqByteS.mono _ _ _
  | exact laws_eqTable.mono _ _ _ _ _ _ _ _ _
  | exact laws_eqValueS.mono _ _ _
  | exact laws_heldByteS.mono _ _ _
  | exact laws_markByteS.mono _ _ _
  | exact laws_markTable.mono _ _ _ _ _ _
  | exact laws_markValueS.mono _ _ _
  | exact laws_szTable.mono _ _ _ _ _ _
  | exact laws_szValueS.mono _ _ _
  | exact laws_toTable.mono _ _ _ _ _
  | exact laws_toValueS.mono _ _
  | exact spec_RowKey.mono _ _ _ _ _ _
  | exact LeO.none _
  | refine LeO.ite ?_ ?_
  | refine LeO.bind ?_ (fun _ => ?_)
theorem laws_FnExactRowKey.mono : ∀ a0 a1 a2 a3 a4 k, LeO (laws_FnExactRowKey.f k a0 a1 a2 a3 a4) (laws_FnExactRowKey.f (k + 1) a0 a1 a2 a3 a4) := by
 intro a0 a1 a2 a3 a4 k
 obtain ⟨ih0, ih1, ih2⟩ := laws_FnExactRowKey.mono_l k
 unfold laws_FnExactRowKey.f
 repeat' first
   | (with_reducible exact ih0 _ _ _ _ _ _ _ _ _ _ _ _ _ _ _)
   | (with_reducible exact ih1 _ _ _ _ _ _ _ _ _)
   | (with_reducible exact ih2 _ _ _)
   | (with_reducible exact impl_RowKey.mono _ _ _ _ _ _)
   | (with_reducible exact laws_eqByteS.mono _ _ _)
   | (with_reducible exact laws_eqTable.mono _ _ _ _ _ _ _ _ _)
   | (with_reducible exact laws_eqValueS.mono _ _ _)
   | (with_reducible exact laws_heldByteS.mono _ _ _)
   | (with_reducible exact laws_markByteS.mono _ _ _)
   | (with_reducible exact laws_markTable.mono _ _ _ _ _ _)
   | (with_reducible exact laws_markValueS.mono _ _ _)
   | (with_reducible exact laws_szTable.mono _ _ _ _ _ _)
   | (with_reducible exact laws_szValueS.mono _ _ _)
   | (with_reducible exact laws_toTable.mono _ _ _ _ _)
   | (with_reducible exact laws_toValueS.mono _ _)
   | (with_reducible exact spec_RowKey.mono _ _ _ _ _ _)
   | (with_reducible exact LeO.refl _)
   | (with_reducible exact LeO.none _)
   | (with_reducible refine LeO.ite ?_ ?_)
   | (with_reducible refine LeO.bind ?_ (fun _ => ?_))
   | exact ih0 _ _ _ _ _ _ _ _ _ _ _ _ _ _ _
   | exact ih1 _ _ _ _ _ _ _ _ _
   | exact ih2 _ _ _
   | exact impl_RowKey.mono _ _ _ _ _ _
   | exact laws_eqByteS.mono _ _ _
   | exact laws_eqTable.mono _ _ _ _ _ _ _ _ _
   | exact laws_eqValueS.mono _ _ _
   | exact laws_heldByteS.mono _ _ _
   | exact laws_markByteS.mono _ _ _
   | exact laws_markTable.mono _ _ _ _ _ _
   | exact laws_markValueS.mono _ _ _
   | exact laws_szTable.mono _ _ _ _ _ _
   | exact laws_szValueS.mono _ _ _
   | exact laws_toTable.mono _ _ _ _ _
   | exact laws_toValueS.mono _ _
   | exact spec_RowKey.mono _ _ _ _ _ _
   | exact LeO.none _
   | refine LeO.ite ?_ ?_
   | refine LeO.bind ?_ (fun _ => ?_)
set_option maxHeartbeats 8000000 in
set_option maxRecDepth 100000 in
theorem laws_FnExactRowKey.calls (k : Nat) (a0_0 : ByteArray) (A0_1 : Option Addr) (c0_1 : Nat) (l0_1 : List (S66)) (a0_2 : Int) (A0_3 : Option Addr) (c0_3 : Nat) (l0_3 : List (S70)) (A1 : Option Addr) (c1 : Nat) (l1 : List (S50)) (r : Bool) (w : World) (hr0_1 : Kd.C k66 w A0_1 l0_1.length l0_1) (hc0_1 : l0_1.length ≤ c0_1) (hr0_3 : Kd.C k70 w A0_3 l0_3.length l0_3) (hc0_3 : l0_3.length ≤ c0_3) (hr1 : Kd.C k50 w A1 l1.length l1) (hc1 : l1.length ≤ c1) (h : laws_FnExactRowKey.f k a0_0 l0_1 a0_2 l0_3 l1 = some r) :
  Calls Tryz.prog 3 #[.agg #[.string a0_0, .slice A0_1 l0_1.length c0_1, .int .i64 a0_2, .slice A0_3 l0_3.length c0_3], .slice A1 l1.length c1] w fun e w' => e = .returned (.bool r) ∧ Below w.heap.size w w' := by
 have hu25 := Tryz.underlying25
 have hu35 := Tryz.underlying35
 have HR0_1 := ak_ hr0_1
 have HC0_1 := ak_ hc0_1
 clear hr0_1 hc0_1
 have HR0_3 := ak_ hr0_3
 have HC0_3 := ak_ hc0_3
 clear hr0_3 hc0_3
 have HR1 := ak_ hr1
 have HC1 := ak_ hc1
 clear hr1 hc1
 have HB := ak_ (Below.refl w.heap.size w)
 have H : ((laws_szTable.f k a0_0 l0_1 a0_2 l0_3 1048576).bind fun t102 => (if t102 < 0 then (some true) else ((laws_szValueS.f k l1 t102).bind fun t103 => (if t103 < 0 then (some true) else ((laws_toTable.f k a0_0 l0_1 a0_2 l0_3).bind fun bt104 => ((laws_toValueS.f k l1).bind fun t112 => ((spec_RowKey.f k bt104.1 bt104.2.1 bt104.2.2.1 bt104.2.2.2 t112).bind fun bt115 => ((laws_toTable.f k a0_0 l0_1 a0_2 l0_3).bind fun bt119 => ((laws_toValueS.f k l1).bind fun t128 => ((impl_RowKey.f k bt119.1 bt119.2.1 bt119.2.2.1 bt119.2.2.2 t128).bind fun bt131 => ((laws_eqByteS.f k bt131.1 bt115.1).bind fun t135 => (if t135 = true then (laws_FnExactRowKey.j0 k l1 bt115.1 bt115.2 t128 bt131.1 bt131.2 (bt131.2 != bt115.2) a0_0 l0_1 a0_2 l0_3 bt119.1 bt119.2.1 bt119.2.2.1 bt119.2.2.2) else (laws_FnExactRowKey.j0 k l1 bt115.1 bt115.2 t128 bt131.1 bt131.2 true a0_0 l0_1 a0_2 l0_3 bt119.1 bt119.2.1 bt119.2.2.1 bt119.2.2.2))))))))))))) = some r := h
 clear h
 replace H := Option.bind_eq_some_iff.mp H
 obtain ⟨t102, A30, H⟩ := H
 have A3 := ak_ A30
 clear A30
 by_cases c4 : t102 < 0
 ·rw [if_pos c4] at H
  have c4b0 := decide_eq_true c4
  clear c4
  obtain rfl := Option.some.inj H
  go_enter Tryz.func3, Tryz.ntmps3
  go_wp2_with (first | ((with_reducible refine gate_dst (N := 2) rfl ?_); refine bx_ 2 (cs := #[.string a0_0, .slice A0_1 l0_1.length c0_1, .int .i64 a0_2, .slice A0_3 l0_3.length c0_3]) (t := 25) (h_ := ?_); intro gb101 hg w5 hbox hb; have n_ := a4_ (below_step z0_ hb) (hbox) ((gs_ w hg (below_size z0_))) ((gs_ w hg (below_size z0_))); clear HB; obtain ⟨HB, BK101, GW101, GE101⟩ := n_; clear hb hbox hg; obtain ⟨hcz6_0, hcz6_1, hcz6_2, hcz6_3, hfz6_0, hfz6_1, hfz6_2, hfz6_3⟩ := bcf4 BK101.out) | ((with_reducible refine gate_callee (f := 4) rfl ?_); refine goesL_ (some 19) rfl rfl Tryz.func4 (by kernel_rfl) rfl #[.agg #[.string a0_0, .slice A0_1 l0_1.length c0_1, .int .i64 a0_2, .slice A0_3 l0_3.length c0_3], .int .i64 1048576] rfl z3_ ?_; (with_reducible refine (laws_szTable.calls k a0_0 _ _ l0_1 a0_2 _ _ l0_3 1048576 t102 _ ?side1 ?side2 ?side3 ?side4 A3.out).mono ?_); (case side1 => repeat (first | exact (Kd.C_below HR0_1.out HB.out) | (with_reducible refine Kd.C_alloc ?_ _) | (with_reducible refine Kd.C_drewN ?_ _) | (with_reducible refine Kd.C_drew ?_))); (case side2 => exact HC0_1.out); (case side3 => repeat (first | exact (Kd.C_below HR0_3.out HB.out) | (with_reducible refine Kd.C_alloc ?_ _) | (with_reducible refine Kd.C_drewN ?_ _) | (with_reducible refine Kd.C_drew ?_))); (case side4 => exact HC0_3.out); rintro e w7 ⟨rfl, hb⟩; refine ⟨_, rfl, ?_⟩; have n_ := a2_ (blk_below (g := gb101) (o := .cells #[.string a0_0, .slice A0_1 l0_1.length c0_1, .int .i64 a0_2, .slice A0_3 l0_3.length c0_3] 25 (0, 0)) z2_ hb) (below_step z1_ hb); clear BK101 HB; obtain ⟨BK101, HB⟩ := n_; (try clear hb); (try clear hb2); (try clear hk); (try clear hi)))
  go_ret
  exact ⟨z6_, z1_⟩
 rw [if_neg c4] at H
 have c4b0 := decide_eq_false c4
 clear c4
 replace H := Option.bind_eq_some_iff.mp H
 obtain ⟨t103, A80, H⟩ := H
 have A8 := ak_ A80
 clear A80
 by_cases c9 : t103 < 0
 ·rw [if_pos c9] at H
  have c9b0 := decide_eq_true c9
  clear c9
  obtain rfl := Option.some.inj H
  go_enter Tryz.func3, Tryz.ntmps3
  go_wp2_with (first | ((with_reducible refine gate_dst (N := 2) rfl ?_); refine bx_ 2 (cs := #[.string a0_0, .slice A0_1 l0_1.length c0_1, .int .i64 a0_2, .slice A0_3 l0_3.length c0_3]) (t := 25) (h_ := ?_); intro gb101 hg w10 hbox hb; have n_ := a4_ (below_step z0_ hb) (hbox) ((gs_ w hg (below_size z0_))) ((gs_ w hg (below_size z0_))); clear HB; obtain ⟨HB, BK101, GW101, GE101⟩ := n_; clear hb hbox hg; obtain ⟨hcz11_0, hcz11_1, hcz11_2, hcz11_3, hfz11_0, hfz11_1, hfz11_2, hfz11_3⟩ := bcf4 BK101.out) | ((with_reducible refine gate_callee (f := 4) rfl ?_); refine goesL_ (some 19) rfl rfl Tryz.func4 (by kernel_rfl) rfl #[.agg #[.string a0_0, .slice A0_1 l0_1.length c0_1, .int .i64 a0_2, .slice A0_3 l0_3.length c0_3], .int .i64 1048576] rfl z3_ ?_; (with_reducible refine (laws_szTable.calls k a0_0 _ _ l0_1 a0_2 _ _ l0_3 1048576 t102 _ ?side1 ?side2 ?side3 ?side4 A3.out).mono ?_); (case side1 => repeat (first | exact (Kd.C_below HR0_1.out HB.out) | (with_reducible refine Kd.C_alloc ?_ _) | (with_reducible refine Kd.C_drewN ?_ _) | (with_reducible refine Kd.C_drew ?_))); (case side2 => exact HC0_1.out); (case side3 => repeat (first | exact (Kd.C_below HR0_3.out HB.out) | (with_reducible refine Kd.C_alloc ?_ _) | (with_reducible refine Kd.C_drewN ?_ _) | (with_reducible refine Kd.C_drew ?_))); (case side4 => exact HC0_3.out); rintro e w12 ⟨rfl, hb⟩; refine ⟨_, rfl, ?_⟩; have n_ := a2_ (blk_below (g := gb101) (o := .cells #[.string a0_0, .slice A0_1 l0_1.length c0_1, .int .i64 a0_2, .slice A0_3 l0_3.length c0_3] 25 (0, 0)) z2_ hb) (below_step z1_ hb); clear BK101 HB; obtain ⟨BK101, HB⟩ := n_; (try clear hb); (try clear hb2); (try clear hk); (try clear hi)) | ((with_reducible refine gate_callee (f := 5) rfl ?_); refine goesL_ (some 24) rfl rfl Tryz.func5 (by kernel_rfl) rfl #[.slice A1 l1.length c1, .int .i64 t102] rfl z3_ ?_; (with_reducible refine (laws_szValueS.calls k _ _ l1 t102 t103 _ ?side1 ?side2 A8.out).mono ?_); (case side1 => repeat (first | exact (Kd.C_below HR1.out HB.out) | (with_reducible refine Kd.C_alloc ?_ _) | (with_reducible refine Kd.C_drewN ?_ _) | (with_reducible refine Kd.C_drew ?_))); (case side2 => exact HC1.out); rintro e w13 ⟨rfl, hb⟩; refine ⟨_, rfl, ?_⟩; have n_ := a2_ (blk_below (g := gb101) (o := .cells #[.string a0_0, .slice A0_1 l0_1.length c0_1, .int .i64 a0_2, .slice A0_3 l0_3.length c0_3] 25 (0, 0)) z2_ hb) (below_step z1_ hb); clear BK101 HB; obtain ⟨BK101, HB⟩ := n_; (try clear hb); (try clear hb2); (try clear hk); (try clear hi)))
  go_ret
  exact ⟨z6_, z1_⟩
 rw [if_neg c9] at H
 have c9b0 := decide_eq_false c9
 clear c9
 replace H := Option.bind_eq_some_iff.mp H
 obtain ⟨⟨t104, t105, t108, t109⟩, A140, H⟩ := H
 replace H : ((laws_toValueS.f k l1).bind fun t112 => ((spec_RowKey.f k t104 t105 t108 t109 t112).bind fun bt115 => ((laws_toTable.f k a0_0 l0_1 a0_2 l0_3).bind fun bt119 => ((laws_toValueS.f k l1).bind fun t128 => ((impl_RowKey.f k bt119.1 bt119.2.1 bt119.2.2.1 bt119.2.2.2 t128).bind fun bt131 => ((laws_eqByteS.f k bt131.1 bt115.1).bind fun t135 => (if t135 = true then (laws_FnExactRowKey.j0 k l1 bt115.1 bt115.2 t128 bt131.1 bt131.2 (bt131.2 != bt115.2) a0_0 l0_1 a0_2 l0_3 bt119.1 bt119.2.1 bt119.2.2.1 bt119.2.2.2) else (laws_FnExactRowKey.j0 k l1 bt115.1 bt115.2 t128 bt131.1 bt131.2 true a0_0 l0_1 a0_2 l0_3 bt119.1 bt119.2.1 bt119.2.2.1 bt119.2.2.2)))))))) = some r := H
 have A14 := ak_ A140
 clear A140
 replace H := Option.bind_eq_some_iff.mp H
 obtain ⟨t112, A150, H⟩ := H
 have A15 := ak_ A150
 clear A150
 replace H := Option.bind_eq_some_iff.mp H
 obtain ⟨⟨t115, t118⟩, A160, H⟩ := H
 replace H : ((laws_toTable.f k a0_0 l0_1 a0_2 l0_3).bind fun bt119 => ((laws_toValueS.f k l1).bind fun t128 => ((impl_RowKey.f k bt119.1 bt119.2.1 bt119.2.2.1 bt119.2.2.2 t128).bind fun bt131 => ((laws_eqByteS.f k bt131.1 t115).bind fun t135 => (if t135 = true then (laws_FnExactRowKey.j0 k l1 t115 t118 t128 bt131.1 bt131.2 (bt131.2 != t118) a0_0 l0_1 a0_2 l0_3 bt119.1 bt119.2.1 bt119.2.2.1 bt119.2.2.2) else (laws_FnExactRowKey.j0 k l1 t115 t118 t128 bt131.1 bt131.2 true a0_0 l0_1 a0_2 l0_3 bt119.1 bt119.2.1 bt119.2.2.1 bt119.2.2.2)))))) = some r := H
 have A16 := ak_ A160
 clear A160
 replace H := Option.bind_eq_some_iff.mp H
 obtain ⟨⟨t119, t120, t123, t124⟩, A170, H⟩ := H
 replace H : ((laws_toValueS.f k l1).bind fun t128 => ((impl_RowKey.f k t119 t120 t123 t124 t128).bind fun bt131 => ((laws_eqByteS.f k bt131.1 t115).bind fun t135 => (if t135 = true then (laws_FnExactRowKey.j0 k l1 t115 t118 t128 bt131.1 bt131.2 (bt131.2 != t118) a0_0 l0_1 a0_2 l0_3 t119 t120 t123 t124) else (laws_FnExactRowKey.j0 k l1 t115 t118 t128 bt131.1 bt131.2 true a0_0 l0_1 a0_2 l0_3 t119 t120 t123 t124))))) = some r := H
 have A17 := ak_ A170
 clear A170
 replace H := Option.bind_eq_some_iff.mp H
 obtain ⟨t128, A180, H⟩ := H
 have A18 := ak_ A180
 clear A180
 replace H := Option.bind_eq_some_iff.mp H
 obtain ⟨⟨t131, t134⟩, A190, H⟩ := H
 replace H : ((laws_eqByteS.f k t131 t115).bind fun t135 => (if t135 = true then (laws_FnExactRowKey.j0 k l1 t115 t118 t128 t131 t134 (t134 != t118) a0_0 l0_1 a0_2 l0_3 t119 t120 t123 t124) else (laws_FnExactRowKey.j0 k l1 t115 t118 t128 t131 t134 true a0_0 l0_1 a0_2 l0_3 t119 t120 t123 t124))) = some r := H
 have A19 := ak_ A190
 clear A190
 have HC20 := ak_ H
 clear H
 go_enter Tryz.func3, Tryz.ntmps3
 go_upto_region 12 with (first | ((with_reducible refine gate_dst (N := 2) rfl ?_); refine bx_ 2 (cs := #[.string a0_0, .slice A0_1 l0_1.length c0_1, .int .i64 a0_2, .slice A0_3 l0_3.length c0_3]) (t := 25) (h_ := ?_); intro gb101 hg w21 hbox hb; have n_ := a4_ (below_step z0_ hb) (hbox) ((gs_ w hg (below_size z0_))) ((gs_ w hg (below_size z0_))); clear HB; obtain ⟨HB, BK101, GW101, GE101⟩ := n_; clear hb hbox hg; obtain ⟨hcz22_0, hcz22_1, hcz22_2, hcz22_3, hfz22_0, hfz22_1, hfz22_2, hfz22_3⟩ := bcf4 BK101.out) | ((with_reducible refine gate_callee (f := 4) rfl ?_); refine goesL_ (some 19) rfl rfl Tryz.func4 (by kernel_rfl) rfl #[.agg #[.string a0_0, .slice A0_1 l0_1.length c0_1, .int .i64 a0_2, .slice A0_3 l0_3.length c0_3], .int .i64 1048576] rfl z3_ ?_; (with_reducible refine (laws_szTable.calls k a0_0 _ _ l0_1 a0_2 _ _ l0_3 1048576 t102 _ ?side1 ?side2 ?side3 ?side4 A3.out).mono ?_); (case side1 => repeat (first | exact (Kd.C_below HR0_1.out HB.out) | (with_reducible refine Kd.C_alloc ?_ _) | (with_reducible refine Kd.C_drewN ?_ _) | (with_reducible refine Kd.C_drew ?_))); (case side2 => exact HC0_1.out); (case side3 => repeat (first | exact (Kd.C_below HR0_3.out HB.out) | (with_reducible refine Kd.C_alloc ?_ _) | (with_reducible refine Kd.C_drewN ?_ _) | (with_reducible refine Kd.C_drew ?_))); (case side4 => exact HC0_3.out); rintro e w23 ⟨rfl, hb⟩; refine ⟨_, rfl, ?_⟩; have n_ := a2_ (blk_below (g := gb101) (o := .cells #[.string a0_0, .slice A0_1 l0_1.length c0_1, .int .i64 a0_2, .slice A0_3 l0_3.length c0_3] 25 (0, 0)) z2_ hb) (below_step z1_ hb); clear BK101 HB; obtain ⟨BK101, HB⟩ := n_; (try clear hb); (try clear hb2); (try clear hk); (try clear hi)) | ((with_reducible refine gate_callee (f := 5) rfl ?_); refine goesL_ (some 24) rfl rfl Tryz.func5 (by kernel_rfl) rfl #[.slice A1 l1.length c1, .int .i64 t102] rfl z3_ ?_; (with_reducible refine (laws_szValueS.calls k _ _ l1 t102 t103 _ ?side1 ?side2 A8.out).mono ?_); (case side1 => repeat (first | exact (Kd.C_below HR1.out HB.out) | (with_reducible refine Kd.C_alloc ?_ _) | (with_reducible refine Kd.C_drewN ?_ _) | (with_reducible refine Kd.C_drew ?_))); (case side2 => exact HC1.out); rintro e w24 ⟨rfl, hb⟩; refine ⟨_, rfl, ?_⟩; have n_ := a2_ (blk_below (g := gb101) (o := .cells #[.string a0_0, .slice A0_1 l0_1.length c0_1, .int .i64 a0_2, .slice A0_3 l0_3.length c0_3] 25 (0, 0)) z2_ hb) (below_step z1_ hb); clear BK101 HB; obtain ⟨BK101, HB⟩ := n_; (try clear hb); (try clear hb2); (try clear hk); (try clear hi); obtain ⟨hcz25_0, hcz25_1, hcz25_2, hcz25_3, hfz25_0, hfz25_1, hfz25_2, hfz25_3⟩ := bcf4 BK101.out) | ((with_reducible refine gate_callee (f := 7) rfl ?_); refine goesL_ (some 29) rfl rfl Tryz.func7 (by kernel_rfl) rfl #[.agg #[.string a0_0, .slice A0_1 l0_1.length c0_1, .int .i64 a0_2, .slice A0_3 l0_3.length c0_3]] rfl z3_ ?_; (with_reducible refine (laws_toTable.calls k a0_0 _ _ l0_1 a0_2 _ _ l0_3 t104 t105 t108 t109 _ ?side1 ?side2 ?side3 ?side4 A14.out).mono ?_); (case side1 => repeat (first | exact (Kd.C_below HR0_1.out HB.out) | (with_reducible refine Kd.C_alloc ?_ _) | (with_reducible refine Kd.C_drewN ?_ _) | (with_reducible refine Kd.C_drew ?_))); (case side2 => exact HC0_1.out); (case side3 => repeat (first | exact (Kd.C_below HR0_3.out HB.out) | (with_reducible refine Kd.C_alloc ?_ _) | (with_reducible refine Kd.C_drewN ?_ _) | (with_reducible refine Kd.C_drew ?_))); (case side4 => exact HC0_3.out); rintro e w26 ⟨v106, v110, rfl, ho0, ho1, hb⟩; refine ⟨_, rfl, ?_⟩; have n_ := a4_ (Kd.R_lower ho0 (below_size z1_)) (Kd.S_lower ho1 (below_size z1_)) (blk_below (g := gb101) (o := .cells #[.string a0_0, .slice A0_1 l0_1.length c0_1, .int .i64 a0_2, .slice A0_3 l0_3.length c0_3] 25 (0, 0)) z2_ hb) (below_step z1_ hb); clear BK101 HB; obtain ⟨HO107, HO111, BK101, HB⟩ := n_; (try clear hb); (try clear hb2); (try clear hk); (try clear hi); (try clear ho0); (try clear ho1)) | ((with_reducible refine gate_callee (f := 8) rfl ?_); refine goesL_ (some 31) rfl rfl Tryz.func8 (by kernel_rfl) rfl #[.slice A1 l1.length c1] rfl z3_ ?_; (with_reducible refine (laws_toValueS.calls k _ _ l1 t112 _ ?side1 ?side2 A15.out).mono ?_); (case side1 => repeat (first | exact (Kd.C_below HR1.out HB.out) | (with_reducible refine Kd.C_alloc ?_ _) | (with_reducible refine Kd.C_drewN ?_ _) | (with_reducible refine Kd.C_drew ?_))); (case side2 => exact HC1.out); rintro e w27 ⟨v113, rfl, ho0, hb⟩; refine ⟨_, rfl, ?_⟩; have n_ := a5_ (Kd.R_below z44_ hb) (Kd.S_below z45_ hb) (Kd.R_lower ho0 (below_size z1_)) (blk_below (g := gb101) (o := .cells #[.string a0_0, .slice A0_1 l0_1.length c0_1, .int .i64 a0_2, .slice A0_3 l0_3.length c0_3] 25 (0, 0)) z2_ hb) (below_step z1_ hb); clear HO107 HO111 BK101 HB; obtain ⟨HO107, HO111, HO114, BK101, HB⟩ := n_; (try clear hb); (try clear hb2); (try clear hk); (try clear hi); (try clear ho0); obtain ⟨Ao28, co28, eo28⟩ := Kd.R_slice HO107.out; subst eo28; obtain ⟨Ao29, co29, eo29⟩ := Kd.S_slice HO111.out; subst eo29; obtain ⟨Ao30, co30, eo30⟩ := Kd.R_slice HO114.out; subst eo30) | ((with_reducible refine gate_callee (f := 6) rfl ?_); refine goesL_ (some 32) rfl rfl Tryz.func6 (by kernel_rfl) rfl #[.agg #[.string t104, .slice Ao28 t105.length co28, .int .i64 t108, .slice Ao29 t109.length co29], .slice Ao30 t112.length co30] rfl z3_ ?_; (with_reducible refine (spec_RowKey.calls k t104 _ _ t105 t108 _ _ t109 _ _ t112 t115 t118 _ ?side1 ?side2 ?side3 ?side4 ?side5 ?side6 A16.out).mono ?_); (case side1 => repeat (first | exact (Kd.R_reads' HO107.out).2.2 | (with_reducible refine Kd.C_alloc ?_ _) | (with_reducible refine Kd.C_drewN ?_ _) | (with_reducible refine Kd.C_drew ?_))); (case side2 => exact (Kd.R_reads' HO107.out).2.1); (case side3 => repeat (first | exact (Kd.S_reads' HO111.out).2.2 | (with_reducible refine Kd.C_alloc ?_ _) | (with_reducible refine Kd.C_drewN ?_ _) | (with_reducible refine Kd.C_drew ?_))); (case side4 => exact (Kd.S_reads' HO111.out).2.1); (case side5 => repeat (first | exact (Kd.R_reads' HO114.out).2.2 | (with_reducible refine Kd.C_alloc ?_ _) | (with_reducible refine Kd.C_drewN ?_ _) | (with_reducible refine Kd.C_drew ?_))); (case side6 => exact (Kd.R_reads' HO114.out).2.1); rintro e w31 ⟨v116, rfl, ho0, hb⟩; refine ⟨_, rfl, ?_⟩; have n_ := a6_ (Kd.R_below z44_ hb) (Kd.S_below z45_ hb) (Kd.R_below z40_ hb) (Kd.R_lower ho0 (below_size z1_)) (blk_below (g := gb101) (o := .cells #[.string a0_0, .slice A0_1 l0_1.length c0_1, .int .i64 a0_2, .slice A0_3 l0_3.length c0_3] 25 (0, 0)) z2_ hb) (below_step z1_ hb); clear HO107 HO111 HO114 BK101 HB; obtain ⟨HO107, HO111, HO114, HO117, BK101, HB⟩ := n_; (try clear hb); (try clear hb2); (try clear hk); (try clear hi); (try clear ho0); obtain ⟨hcz32_0, hcz32_1, hcz32_2, hcz32_3, hfz32_0, hfz32_1, hfz32_2, hfz32_3⟩ := bcf4 BK101.out) | ((with_reducible refine gate_callee (f := 7) rfl ?_); refine goesL_ (some 36) rfl rfl Tryz.func7 (by kernel_rfl) rfl #[.agg #[.string a0_0, .slice A0_1 l0_1.length c0_1, .int .i64 a0_2, .slice A0_3 l0_3.length c0_3]] rfl z3_ ?_; (with_reducible refine (laws_toTable.calls k a0_0 _ _ l0_1 a0_2 _ _ l0_3 t119 t120 t123 t124 _ ?side1 ?side2 ?side3 ?side4 A17.out).mono ?_); (case side1 => repeat (first | exact (Kd.C_below HR0_1.out HB.out) | (with_reducible refine Kd.C_alloc ?_ _) | (with_reducible refine Kd.C_drewN ?_ _) | (with_reducible refine Kd.C_drew ?_))); (case side2 => exact HC0_1.out); (case side3 => repeat (first | exact (Kd.C_below HR0_3.out HB.out) | (with_reducible refine Kd.C_alloc ?_ _) | (with_reducible refine Kd.C_drewN ?_ _) | (with_reducible refine Kd.C_drew ?_))); (case side4 => exact HC0_3.out); rintro e w33 ⟨v121, v125, rfl, ho0, ho1, hb⟩; refine ⟨_, rfl, ?_⟩; have n_ := a8_ (Kd.R_elder' z44_ (Kd.R_base ho0) hb) (Kd.S_elder' z45_ (Kd.S_base ho1) hb) (Kd.R_below z40_ hb) (Kd.R_below z62_ hb) (Kd.R_lower (Kd.R_new' ho0 (Kd.R_lt z44_)) (below_size z1_)) (Kd.S_lower (Kd.S_new' ho1 (Kd.S_lt z45_)) (below_size z1_)) (blk_below (g := gb101) (o := .cells #[.string a0_0, .slice A0_1 l0_1.length c0_1, .int .i64 a0_2, .slice A0_3 l0_3.length c0_3] 25 (0, 0)) z2_ hb) (below_step z1_ hb); clear HO107 HO111 HO114 HO117 BK101 HB; obtain ⟨HO107, HO111, HO114, HO117, HO122, HO126, BK101, HB⟩ := n_; (try clear hb); (try clear hb2); (try clear hk); (try clear hi); (try clear ho0); (try clear ho1)) | ((with_reducible refine gate_dst (N := 8) rfl ?_); refine bx_ 8 (cs := #[.string (⟨#[]⟩ : ByteArray), .slice none 0 0, .int .i64 0, .slice none 0 0]) (t := 35) (h_ := ?_); intro gb127 hg w34 hbox hb; have n_ := a13_ (Kd.R_below z44_ hb) (Kd.S_below z45_ hb) (Kd.R_below z40_ hb) (Kd.R_below z62_ hb) (Kd.R_below z61_ hb) (Kd.S_below (by (with_reducible repeat (first | apply Kd.S_alloc | apply Kd.S_drewN | apply Kd.S_drew)); exact HO126.out) hb) (blk_below (g := gb101) (o := .cells #[.string a0_0, .slice A0_1 l0_1.length c0_1, .int .i64 a0_2, .slice A0_3 l0_3.length c0_3] 25 (0, 0)) z2_ hb) (below_step z1_ hb) (hbox) ((gs_ w hg (below_size z1_))) ((gs_ w hg (below_size z1_))) ((z57_ : gb101 ≠ gb127)) ((z58_ : gb127 ≠ gb101)); clear HO107 HO111 HO114 HO117 HO122 HO126 BK101 HB; obtain ⟨HO107, HO111, HO114, HO117, HO122, HO126, BK101, HB, BK127, GW127, GE127, NB101_127, NB127_101⟩ := n_; clear hb hbox hg; have hnb35 := NB127_101.out; have hnc35 := NB101_127.out; obtain ⟨hcz36_0, hcz36_1, hcz36_2, hcz36_3, hfz36_0, hfz36_1, hfz36_2, hfz36_3⟩ := bcf4 BK127.out; obtain ⟨Ao37, co37, eo37⟩ := Kd.R_slice HO122.out; subst eo37; obtain ⟨Ao38, co38, eo38⟩ := Kd.S_slice HO126.out; subst eo38) | ((with_reducible refine gate_callee (f := 8) rfl ?_); refine goesL_ (some 38) rfl rfl Tryz.func8 (by kernel_rfl) rfl #[.slice A1 l1.length c1] rfl z3_ ?_; (with_reducible refine (laws_toValueS.calls k _ _ l1 t128 _ ?side1 ?side2 A18.out).mono ?_); (case side1 => exact Kd.C_below HR1.out z15_); (case side2 => exact HC1.out); rintro e w39 ⟨v129, rfl, ho0, hb⟩; refine ⟨_, rfl, ?_⟩; have n_ := a10_ (Kd.R_below (by (with_reducible repeat (first | apply Kd.R_alloc | apply Kd.R_drewN | apply Kd.R_drew)); exact (Kd.R_mono (Kd.R_far (p := ⟨gb127, 3, none⟩) (Kd.R_far (p := ⟨gb127, 2, none⟩) (Kd.R_far (p := ⟨gb127, 1, none⟩) (Kd.R_far (p := ⟨gb127, 0, none⟩) (Kd.R_types HO107.out BK127.out (by decide)) (fun _ hk => hk.2) (.string t119)) (fun _ hk => hk.2) (.slice Ao37 t120.length co37)) (fun _ hk => hk.2) (.int .i64 t123)) (fun _ hk => hk.2) (.slice Ao38 t124.length co38)) (fun _ h_ => h_.1))) hb) (Kd.S_below (by (with_reducible repeat (first | apply Kd.S_alloc | apply Kd.S_drewN | apply Kd.S_drew)); exact (Kd.S_mono (Kd.S_far (p := ⟨gb127, 3, none⟩) (Kd.S_far (p := ⟨gb127, 2, none⟩) (Kd.S_far (p := ⟨gb127, 1, none⟩) (Kd.S_far (p := ⟨gb127, 0, none⟩) (Kd.S_types HO111.out BK127.out (by decide)) (fun _ hk => hk.2) (.string t119)) (fun _ hk => hk.2) (.slice Ao37 t120.length co37)) (fun _ hk => hk.2) (.int .i64 t123)) (fun _ hk => hk.2) (.slice Ao38 t124.length co38)) (fun _ h_ => h_.1))) hb) (Kd.R_elder' z46_ (Kd.R_base ho0) hb) (Kd.R_below (by (with_reducible repeat (first | apply Kd.R_alloc | apply Kd.R_drewN | apply Kd.R_drew)); exact (Kd.R_mono (Kd.R_far (p := ⟨gb127, 3, none⟩) (Kd.R_far (p := ⟨gb127, 2, none⟩) (Kd.R_far (p := ⟨gb127, 1, none⟩) (Kd.R_far (p := ⟨gb127, 0, none⟩) (Kd.R_types HO117.out BK127.out (by decide)) (fun _ hk => hk.2) (.string t119)) (fun _ hk => hk.2) (.slice Ao37 t120.length co37)) (fun _ hk => hk.2) (.int .i64 t123)) (fun _ hk => hk.2) (.slice Ao38 t124.length co38)) (fun _ h_ => h_.1))) hb) (Kd.R_below (by (with_reducible repeat (first | apply Kd.R_alloc | apply Kd.R_drewN | apply Kd.R_drew)); exact (Kd.R_mono (Kd.R_far (p := ⟨gb127, 3, none⟩) (Kd.R_far (p := ⟨gb127, 2, none⟩) (Kd.R_far (p := ⟨gb127, 1, none⟩) (Kd.R_far (p := ⟨gb127, 0, none⟩) (Kd.R_types HO122.out BK127.out (by decide)) (fun _ hk => hk.2) (.string t119)) (fun _ hk => hk.2) (.slice Ao37 t120.length co37)) (fun _ hk => hk.2) (.int .i64 t123)) (fun _ hk => hk.2) (.slice Ao38 t124.length co38)) (fun _ h_ => h_.1))) hb) (Kd.S_below (by (with_reducible repeat (first | apply Kd.S_alloc | apply Kd.S_drewN | apply Kd.S_drew)); exact (Kd.S_mono (Kd.S_far (p := ⟨gb127, 3, none⟩) (Kd.S_far (p := ⟨gb127, 2, none⟩) (Kd.S_far (p := ⟨gb127, 1, none⟩) (Kd.S_far (p := ⟨gb127, 0, none⟩) (Kd.S_types HO126.out BK127.out (by decide)) (fun _ hk => hk.2) (.string t119)) (fun _ hk => hk.2) (.slice Ao37 t120.length co37)) (fun _ hk => hk.2) (.int .i64 t123)) (fun _ hk => hk.2) (.slice Ao38 t124.length co38)) (fun _ h_ => h_.1))) hb) (Kd.R_lower (Kd.R_new' ho0 (Kd.R_lt z46_)) (below_size z15_)) (blk_below (g := gb101) (o := .cells #[.string a0_0, .slice A0_1 l0_1.length c0_1, .int .i64 a0_2, .slice A0_3 l0_3.length c0_3] 25 (0, 0)) (by (with_reducible repeat (first | refine blk_drewN ?_ _ | refine blk_drew ?_ | refine blk_alloc ?_ _)); refine blk_far ?_ NB101_127.out _; (with_reducible repeat (first | refine blk_drewN ?_ _ | refine blk_drew ?_ | refine blk_alloc ?_ _)); refine blk_far ?_ NB101_127.out _; (with_reducible repeat (first | refine blk_drewN ?_ _ | refine blk_drew ?_ | refine blk_alloc ?_ _)); refine blk_far ?_ NB101_127.out _; (with_reducible repeat (first | refine blk_drewN ?_ _ | refine blk_drew ?_ | refine blk_alloc ?_ _)); refine blk_far ?_ NB101_127.out _; (with_reducible repeat (first | refine blk_drewN ?_ _ | refine blk_drew ?_ | refine blk_alloc ?_ _)); exact BK101.out) hb) (blk_below (g := gb127) (o := .cells #[.string t119, .slice Ao37 t120.length co37, .int .i64 t123, .slice Ao38 t124.length co38] 35 (0, 0)) (by (with_reducible repeat (first | refine blk_drewN ?_ _ | refine blk_drew ?_ | refine blk_alloc ?_ _)); refine blk_put (cs := #[.string t119, .slice Ao37 t120.length co37, .int .i64 t123, .slice none 0 0]) ?_ 3 _ rfl; (with_reducible repeat (first | refine blk_drewN ?_ _ | refine blk_drew ?_ | refine blk_alloc ?_ _)); refine blk_put (cs := #[.string t119, .slice Ao37 t120.length co37, .int .i64 0, .slice none 0 0]) ?_ 2 _ rfl; (with_reducible repeat (first | refine blk_drewN ?_ _ | refine blk_drew ?_ | refine blk_alloc ?_ _)); refine blk_put (cs := #[.string t119, .slice none 0 0, .int .i64 0, .slice none 0 0]) ?_ 1 _ rfl; (with_reducible repeat (first | refine blk_drewN ?_ _ | refine blk_drew ?_ | refine blk_alloc ?_ _)); refine blk_put (cs := #[.string (⟨#[]⟩ : ByteArray), .slice none 0 0, .int .i64 0, .slice none 0 0]) ?_ 0 _ rfl; (with_reducible repeat (first | refine blk_drewN ?_ _ | refine blk_drew ?_ | refine blk_alloc ?_ _)); exact BK127.out) hb) (below_step z15_ hb); clear HO107 HO111 HO114 HO117 HO122 HO126 BK101 BK127 HB; obtain ⟨HO107, HO111, HO114, HO117, HO122, HO126, HO130, BK101, BK127, HB⟩ := n_; (try clear hb); (try clear hb2); (try clear hk); (try clear hi); (try clear ho0); obtain ⟨hcz40_0, hcz40_1, hcz40_2, hcz40_3, hfz40_0, hfz40_1, hfz40_2, hfz40_3⟩ := bcf4 BK127.out; obtain ⟨Ao41, co41, eo41⟩ := Kd.R_slice HO130.out; subst eo41) | ((with_reducible refine gate_callee (f := 9) rfl ?_); refine goesL_ (some 42) rfl rfl Tryz.func9 (by kernel_rfl) rfl #[.agg #[.string t119, .slice Ao37 t120.length co37, .int .i64 t123, .slice Ao38 t124.length co38], .slice Ao41 t128.length co41] rfl z3_ ?_; (with_reducible refine (impl_RowKey.calls k t119 _ _ t120 t123 _ _ t124 _ _ t128 t131 t134 _ ?side1 ?side2 ?side3 ?side4 ?side5 ?side6 A19.out).mono ?_); (case side1 => repeat (first | exact (Kd.R_reads' HO122.out).2.2 | (with_reducible refine Kd.C_alloc ?_ _) | (with_reducible refine Kd.C_drewN ?_ _) | (with_reducible refine Kd.C_drew ?_))); (case side2 => exact (Kd.R_reads' HO122.out).2.1); (case side3 => repeat (first | exact (Kd.S_reads' HO126.out).2.2 | (with_reducible refine Kd.C_alloc ?_ _) | (with_reducible refine Kd.C_drewN ?_ _) | (with_reducible refine Kd.C_drew ?_))); (case side4 => exact (Kd.S_reads' HO126.out).2.1); (case side5 => repeat (first | exact (Kd.R_reads' HO130.out).2.2 | (with_reducible refine Kd.C_alloc ?_ _) | (with_reducible refine Kd.C_drewN ?_ _) | (with_reducible refine Kd.C_drew ?_))); (case side6 => exact (Kd.R_reads' HO130.out).2.1); rintro e w42 ⟨v132, rfl, ho0, hb⟩; refine ⟨_, rfl, ?_⟩; have n_ := a11_ (Kd.R_below z44_ hb) (Kd.S_below z45_ hb) (Kd.R_below z40_ hb) (Kd.R_elder' z62_ (Kd.R_base ho0) hb) (Kd.R_below z61_ hb) (Kd.S_below (by (with_reducible repeat (first | apply Kd.S_alloc | apply Kd.S_drewN | apply Kd.S_drew)); exact HO126.out) hb) (Kd.R_below (by (with_reducible repeat (first | apply Kd.R_alloc | apply Kd.R_drewN | apply Kd.R_drew)); exact HO130.out) hb) (Kd.R_lower (Kd.R_new' ho0 (Kd.R_lt z62_)) (below_size z15_)) (blk_below (g := gb101) (o := .cells #[.string a0_0, .slice A0_1 l0_1.length c0_1, .int .i64 a0_2, .slice A0_3 l0_3.length c0_3] 25 (0, 0)) z2_ hb) (blk_below (g := gb127) (o := .cells #[.string t119, .slice Ao37 t120.length co37, .int .i64 t123, .slice Ao38 t124.length co38] 35 (0, 0)) z35_ hb) (below_step z15_ hb); clear HO107 HO111 HO114 HO117 HO122 HO126 HO130 BK101 BK127 HB; obtain ⟨HO107, HO111, HO114, HO117, HO122, HO126, HO130, HO133, BK101, BK127, HB⟩ := n_; (try clear hb); (try clear hb2); (try clear hk); (try clear hi); (try clear ho0)))
 (try simp only [Act.put, List.setIfInBounds_toArray, List.set_cons_zero, List.set_cons_succ])
 go_cut [53] (fun v53 wc => ∃ (kq : Nat) (x53_19 : Bool), v53 = .bool x53_19 ∧ Aside0 (laws_FnExactRowKey.j0 kq l1 t115 t118 t128 t131 t134 x53_19 a0_0 l0_1 a0_2 l0_3 t119 t120 t123 t124 = some r) ∧ Aside0 (kq ≤ k) ∧ Aside0 (Kd.R (Kd.int .u8) 5 wc w.heap.size (fun k_ => some k_ ≠ (v132 : Value).ownBlock) v116 t115) ∧ Aside0 (Kd.R k56 56 wc w.heap.size (fun _ => True) (.slice Ao41 t128.length co41) t128) ∧ Aside0 (Kd.R (Kd.int .u8) 5 wc w.heap.size (fun k_ => some k_ ≠ (v116 : Value).ownBlock) v132 t131) ∧ Aside0 (Kd.R k74 74 wc w.heap.size (fun _ => True) (.slice Ao37 t120.length co37) t120) ∧ Aside0 (Kd.S k76 76 wc w.heap.size (fun _ => True) (.slice Ao38 t124.length co38) t124) ∧ Aside0 (wc.heap[gb101]? = some (.cells #[.string a0_0, (.slice A0_1 l0_1.length c0_1), .int .i64 a0_2, (.slice A0_3 l0_3.length c0_3)] 25 (0, 0))) ∧ Aside0 (wc.heap[gb127]? = some (.cells #[.string t119, (.slice Ao37 t120.length co37), .int .i64 t123, (.slice Ao38 t124.length co38)] 35 (0, 0))) ∧ Aside0 (Below w.heap.size w wc))
 case first =>
  have H := HC20.out
  clear HC20
  replace H := Option.bind_eq_some_iff.mp H
  obtain ⟨t135, A430, H⟩ := H
  have A43 := ak_ A430
  clear A430
  by_cases c44 : t135 = true
  ·subst c44
   have H1 : (laws_FnExactRowKey.j0 k l1 t115 t118 t128 t131 t134 (t134 != t118) a0_0 l0_1 a0_2 l0_3 t119 t120 t123 t124) = some r := by rw [if_pos rfl] at H; exact H
   clear H
   have H := H1
   clear H1
   have H' := ak_ H
   clear H
   obtain ⟨Ao45, co45, eo45⟩ := Kd.R_slice HO133.out
   subst eo45
   obtain ⟨Ao46, co46, eo46⟩ := Kd.R_slice HO117.out
   subst eo46
   go_wp2_with (first | ((with_reducible refine gate_callee (f := 10) rfl ?_); refine goesL_ (some 47) rfl rfl Tryz.func10 (by kernel_rfl) rfl #[.slice Ao45 t131.length co45, .slice Ao46 t115.length co46] rfl z3_ ?_; (with_reducible refine (laws_eqByteS.calls k _ _ t131 _ _ t115 true _ ?side1 ?side2 ?side3 ?side4 A43.out).mono ?_); (case side1 => repeat (first | exact (Kd.R_reads' HO133.out).2.2 | (with_reducible refine Kd.C_alloc ?_ _) | (with_reducible refine Kd.C_drewN ?_ _) | (with_reducible refine Kd.C_drew ?_))); (case side2 => exact (Kd.R_reads' HO133.out).2.1); (case side3 => repeat (first | exact (Kd.R_reads' HO117.out).2.2 | (with_reducible refine Kd.C_alloc ?_ _) | (with_reducible refine Kd.C_drewN ?_ _) | (with_reducible refine Kd.C_drew ?_))); (case side4 => exact (Kd.R_reads' HO117.out).2.1); rintro e w' ⟨rfl, ⟨nd, rfl⟩⟩; refine ⟨_, rfl, ?_⟩))
   go_meet
   case rel => exact ⟨_, ((t134 != t118)), z8_, H', ⟨by first | omega | exact Nat.le_refl _⟩, ⟨by (with_reducible repeat (first | apply Kd.R_alloc | apply Kd.R_drewN | apply Kd.R_drew)); exact Kd.R_mono HO117.out (fun _ hk => hk.2)⟩, ⟨by (with_reducible repeat (first | apply Kd.R_alloc | apply Kd.R_drewN | apply Kd.R_drew)); exact Kd.R_mono HO130.out (fun _ hk => trivial)⟩, ⟨by (with_reducible repeat (first | apply Kd.R_alloc | apply Kd.R_drewN | apply Kd.R_drew)); exact Kd.R_mono HO133.out (fun _ hk => hk.2)⟩, ⟨by (with_reducible repeat (first | apply Kd.R_alloc | apply Kd.R_drewN | apply Kd.R_drew)); exact Kd.R_mono HO122.out (fun _ hk => trivial)⟩, ⟨by (with_reducible repeat (first | apply Kd.S_alloc | apply Kd.S_drewN | apply Kd.S_drew)); exact Kd.S_mono HO126.out (fun _ hk => trivial)⟩, ⟨z2_⟩, ⟨z35_⟩, ⟨z15_⟩⟩
  replace c44 := Bool.eq_false_iff.mpr c44
  subst c44
  have H1 : (laws_FnExactRowKey.j0 k l1 t115 t118 t128 t131 t134 true a0_0 l0_1 a0_2 l0_3 t119 t120 t123 t124) = some r := by rw [if_neg (show ¬ (false = true) by decide)] at H; exact H
  clear H
  have H := H1
  clear H1
  have H' := ak_ H
  clear H
  obtain ⟨Ao47, co47, eo47⟩ := Kd.R_slice HO133.out
  subst eo47
  obtain ⟨Ao48, co48, eo48⟩ := Kd.R_slice HO117.out
  subst eo48
  go_wp2_with (first | ((with_reducible refine gate_callee (f := 10) rfl ?_); refine goesL_ (some 47) rfl rfl Tryz.func10 (by kernel_rfl) rfl #[.slice Ao47 t131.length co47, .slice Ao48 t115.length co48] rfl z3_ ?_; (with_reducible refine (laws_eqByteS.calls k _ _ t131 _ _ t115 false _ ?side1 ?side2 ?side3 ?side4 A43.out).mono ?_); (case side1 => repeat (first | exact (Kd.R_reads' HO133.out).2.2 | (with_reducible refine Kd.C_alloc ?_ _) | (with_reducible refine Kd.C_drewN ?_ _) | (with_reducible refine Kd.C_drew ?_))); (case side2 => exact (Kd.R_reads' HO133.out).2.1); (case side3 => repeat (first | exact (Kd.R_reads' HO117.out).2.2 | (with_reducible refine Kd.C_alloc ?_ _) | (with_reducible refine Kd.C_drewN ?_ _) | (with_reducible refine Kd.C_drew ?_))); (case side4 => exact (Kd.R_reads' HO117.out).2.1); rintro e w' ⟨rfl, ⟨nd, rfl⟩⟩; refine ⟨_, rfl, ?_⟩))
  go_meet
  case rel => exact ⟨_, (true), z8_, H', ⟨by first | omega | exact Nat.le_refl _⟩, ⟨by (with_reducible repeat (first | apply Kd.R_alloc | apply Kd.R_drewN | apply Kd.R_drew)); exact Kd.R_mono HO117.out (fun _ hk => hk.2)⟩, ⟨by (with_reducible repeat (first | apply Kd.R_alloc | apply Kd.R_drewN | apply Kd.R_drew)); exact Kd.R_mono HO130.out (fun _ hk => trivial)⟩, ⟨by (with_reducible repeat (first | apply Kd.R_alloc | apply Kd.R_drewN | apply Kd.R_drew)); exact Kd.R_mono HO133.out (fun _ hk => hk.2)⟩, ⟨by (with_reducible repeat (first | apply Kd.R_alloc | apply Kd.R_drewN | apply Kd.R_drew)); exact Kd.R_mono HO122.out (fun _ hk => trivial)⟩, ⟨by (with_reducible repeat (first | apply Kd.S_alloc | apply Kd.S_drewN | apply Kd.S_drew)); exact Kd.S_mono HO126.out (fun _ hk => trivial)⟩, ⟨z2_⟩, ⟨z35_⟩, ⟨z15_⟩⟩
 case rest =>
  clear HC20
  try clear c1
  try clear p2
  try clear c3
  try clear c4
  try clear c4b0
  try clear c5
  try clear c6
  try clear c7
  try clear c8
  try clear c9
  try clear c9b0
  try clear c10
  try clear c35
  try clear c44
  try clear hcz11_0
  try clear hcz11_1
  try clear hcz11_2
  try clear hcz11_3
  try clear hcz22_0
  try clear hcz22_1
  try clear hcz22_2
  try clear hcz22_3
  try clear hcz25_0
  try clear hcz25_1
  try clear hcz25_2
  try clear hcz25_3
  try clear hcz32_0
  try clear hcz32_1
  try clear hcz32_2
  try clear hcz32_3
  try clear hcz36_0
  try clear hcz36_1
  try clear hcz36_2
  try clear hcz36_3
  try clear hcz40_0
  try clear hcz40_1
  try clear hcz40_2
  try clear hcz40_3
  try clear hcz6_0
  try clear hcz6_1
  try clear hcz6_2
  try clear hcz6_3
  try clear hfz11_0
  try clear hfz11_1
  try clear hfz11_2
  try clear hfz11_3
  try clear hfz22_0
  try clear hfz22_1
  try clear hfz22_2
  try clear hfz22_3
  try clear hfz25_0
  try clear hfz25_1
  try clear hfz25_2
  try clear hfz25_3
  try clear hfz32_0
  try clear hfz32_1
  try clear hfz32_2
  try clear hfz32_3
  try clear hfz36_0
  try clear hfz36_1
  try clear hfz36_2
  try clear hfz36_3
  try clear hfz40_0
  try clear hfz40_1
  try clear hfz40_2
  try clear hfz40_3
  try clear hfz6_0
  try clear hfz6_1
  try clear hfz6_2
  try clear hfz6_3
  obtain ⟨kq, x53_19, rfl, HA, HJ19, HO_6, HO_9, HO_10, HO_128001, HO_128003, BK101, BK127, HB⟩ := hcut
  cases kq with
  | zero => exact absurd HA.out (by simp [laws_FnExactRowKey.j0])
  | succ kj19 =>
   have H := HA.out
   clear HA
   simp only [laws_FnExactRowKey.j0] at H
   by_cases c49 : x53_19 = true
   ·subst c49
    have H1 : (none) = some r := by rw [if_pos rfl] at H; exact H
    clear H
    have H := H1
    clear H1
    exact absurd H (by simp)
   replace c49 := Bool.eq_false_iff.mpr c49
   subst c49
   have H1 : ((laws_toTable.f kj19 a0_0 l0_1 a0_2 l0_3).bind fun bt136 => ((laws_eqTable.f kj19 t119 t120 t123 t124 bt136.1 bt136.2.1 bt136.2.2.1 bt136.2.2.2).bind fun t144 => (if t144 = true then ((laws_toValueS.f kj19 l1).bind fun t145 => ((laws_eqValueS.f kj19 t128 t145).bind fun t148 => (if t148 = true then ((laws_markTable.f kj19 t119 t120 t123 t124 1).bind fun t149 => ((laws_markValueS.f kj19 t128 t149).bind fun bt150 => (if bt150.1 < 0 then (laws_FnExactRowKey.j1 kj19 l1 t115 t118 t131 true a0_0 l0_1 a0_2 l0_3) else ((laws_eqByteS.f kj19 t131 t115).bind fun t152 => (if t152 = true then (laws_FnExactRowKey.j1 kj19 l1 t115 t118 t131 (t134 != t118) a0_0 l0_1 a0_2 l0_3) else (laws_FnExactRowKey.j1 kj19 l1 t115 t118 t131 true a0_0 l0_1 a0_2 l0_3)))))) else (none)))) else (none)))) = some r := by rw [if_neg (show ¬ (false = true) by decide)] at H; exact H
   clear H
   have H := H1
   clear H1
   replace H := Option.bind_eq_some_iff.mp H
   obtain ⟨⟨t136, t137, t140, t141⟩, A500, H⟩ := H
   replace H : ((laws_eqTable.f kj19 t119 t120 t123 t124 t136 t137 t140 t141).bind fun t144 => (if t144 = true then ((laws_toValueS.f kj19 l1).bind fun t145 => ((laws_eqValueS.f kj19 t128 t145).bind fun t148 => (if t148 = true then ((laws_markTable.f kj19 t119 t120 t123 t124 1).bind fun t149 => ((laws_markValueS.f kj19 t128 t149).bind fun bt150 => (if bt150.1 < 0 then (laws_FnExactRowKey.j1 kj19 l1 t115 t118 t131 true a0_0 l0_1 a0_2 l0_3) else ((laws_eqByteS.f kj19 t131 t115).bind fun t152 => (if t152 = true then (laws_FnExactRowKey.j1 kj19 l1 t115 t118 t131 (t134 != t118) a0_0 l0_1 a0_2 l0_3) else (laws_FnExactRowKey.j1 kj19 l1 t115 t118 t131 true a0_0 l0_1 a0_2 l0_3)))))) else (none)))) else (none))) = some r := H
   have A50 := ak_ A500
   clear A500
   replace H := Option.bind_eq_some_iff.mp H
   obtain ⟨t144, A510, H⟩ := H
   have A51 := ak_ A510
   clear A510
   by_cases c52 : t144 = true
   rotate_left
   ·replace c52 := Bool.eq_false_iff.mpr c52
    subst c52
    have H1 : (none) = some r := by rw [if_neg (show ¬ (false = true) by decide)] at H; exact H
    clear H
    have H := H1
    clear H1
    exact absurd H (by simp)

   subst c52
   have H1 : ((laws_toValueS.f kj19 l1).bind fun t145 => ((laws_eqValueS.f kj19 t128 t145).bind fun t148 => (if t148 = true then ((laws_markTable.f kj19 t119 t120 t123 t124 1).bind fun t149 => ((laws_markValueS.f kj19 t128 t149).bind fun bt150 => (if bt150.1 < 0 then (laws_FnExactRowKey.j1 kj19 l1 t115 t118 t131 true a0_0 l0_1 a0_2 l0_3) else ((laws_eqByteS.f kj19 t131 t115).bind fun t152 => (if t152 = true then (laws_FnExactRowKey.j1 kj19 l1 t115 t118 t131 (t134 != t118) a0_0 l0_1 a0_2 l0_3) else (laws_FnExactRowKey.j1 kj19 l1 t115 t118 t131 true a0_0 l0_1 a0_2 l0_3)))))) else (none)))) = some r := by rw [if_pos rfl] at H; exact H
   clear H
   have H := H1
   clear H1
   replace H := Option.bind_eq_some_iff.mp H
   obtain ⟨t145, A530, H⟩ := H
   have A53 := ak_ A530
   clear A530
   replace H := Option.bind_eq_some_iff.mp H
   obtain ⟨t148, A540, H⟩ := H
   have A54 := ak_ A540
   clear A540
   by_cases c55 : t148 = true
   rotate_left
   ·replace c55 := Bool.eq_false_iff.mpr c55
    subst c55
    have H1 : (none) = some r := by rw [if_neg (show ¬ (false = true) by decide)] at H; exact H
    clear H
    have H := H1
    clear H1
    exact absurd H (by simp)
   subst c55
   have H1 : ((laws_markTable.f kj19 t119 t120 t123 t124 1).bind fun t149 => ((laws_markValueS.f kj19 t128 t149).bind fun bt150 => (if bt150.1 < 0 then (laws_FnExactRowKey.j1 kj19 l1 t115 t118 t131 true a0_0 l0_1 a0_2 l0_3) else ((laws_eqByteS.f kj19 t131 t115).bind fun t152 => (if t152 = true then (laws_FnExactRowKey.j1 kj19 l1 t115 t118 t131 (t134 != t118) a0_0 l0_1 a0_2 l0_3) else (laws_FnExactRowKey.j1 kj19 l1 t115 t118 t131 true a0_0 l0_1 a0_2 l0_3)))))) = some r := by rw [if_pos rfl] at H; exact H
   clear H
   have H := H1
   clear H1
   replace H := Option.bind_eq_some_iff.mp H
   obtain ⟨t149, A560, H⟩ := H
   have A56 := ak_ A560
   clear A560
   replace H := Option.bind_eq_some_iff.mp H
   obtain ⟨⟨t150, t151⟩, A570, H⟩ := H
   replace H : (if t150 < 0 then (laws_FnExactRowKey.j1 kj19 l1 t115 t118 t131 true a0_0 l0_1 a0_2 l0_3) else ((laws_eqByteS.f kj19 t131 t115).bind fun t152 => (if t152 = true then (laws_FnExactRowKey.j1 kj19 l1 t115 t118 t131 (t134 != t118) a0_0 l0_1 a0_2 l0_3) else (laws_FnExactRowKey.j1 kj19 l1 t115 t118 t131 true a0_0 l0_1 a0_2 l0_3)))) = some r := H
   have A57 := ak_ A570
   clear A570
   have HC58 := ak_ H
   clear H
   try go_wp2
   have n_ := a8_ (Kd.R_drew HO_6.out) (Kd.R_drew HO_9.out) (Kd.R_drew HO_10.out) (Kd.R_drew HO_128001.out) (Kd.S_drew HO_128003.out) (blk_drew BK101.out) (blk_drew BK127.out) (below_drew1 HB.out)
   clear HO_6 HO_9 HO_10 HO_128001 HO_128003 BK101 BK127 HB
   obtain ⟨HO_6, HO_9, HO_10, HO_128001, HO_128003, BK101, BK127, HB⟩ := n_
   refine start_ (n := 5) (S := fun w' => w'.cell? ⟨gb127, 0, none⟩ = some (.string t119) ∧ w'.cell? ⟨gb127, 1, none⟩ = some (.slice Ao37 t120.length co37) ∧ w'.cell? ⟨gb127, 2, none⟩ = some (.int .i64 t123) ∧ w'.cell? ⟨gb127, 3, none⟩ = some (.slice Ao38 t124.length co38) ∧ w'.cell? ⟨gb101, 0, none⟩ = some (.string a0_0) ∧ w'.cell? ⟨gb101, 1, none⟩ = some (.slice A0_1 l0_1.length c0_1) ∧ w'.cell? ⟨gb101, 2, none⟩ = some (.int .i64 a0_2) ∧ w'.cell? ⟨gb101, 3, none⟩ = some (.slice A0_3 l0_3.length c0_3)) (ds := []) #[false, false, false, false, false] (by kernel_rfl) rfl rfl ⟨(blk_cell BK127.out 0).trans rfl, (blk_cell BK127.out 1).trans rfl, (blk_cell BK127.out 2).trans rfl, (blk_cell BK127.out 3).trans rfl, (blk_cell BK101.out 0).trans rfl, (blk_cell BK101.out 1).trans rfl, (blk_cell BK101.out 2).trans rfl, (blk_cell BK101.out 3).trans rfl⟩ (fun hHeld => ?_)
   generalize wc.drew = w59 at HO_6 HO_9 HO_10 HO_128001 HO_128003 BK101 BK127 HB hHeld ⊢
   refine take_ (i := 0) (N := some 54) (v := ?_) (a' := ?_) #[true, false, false, false, false] rfl rfl (by kernel_rfl) (fun _ _ _ h => h) (Or.inl ⟨by rfl, ?_⟩) hHeld ?_ ?_
   rotate_left
   ·rintro w' ⟨s0, s1, s2, s3, s4, s5, s6, s7⟩
    go_simp
    with_reducible rfl
   rotate_left
   ·simp only [Act.put, List.setIfInBounds_toArray, List.set_cons_zero, List.set_cons_succ, i64_w, i32_w]
    rfl
   refine take_ (i := 1) (N := some 55) (v := ?_) (a' := ?_) #[true, true, false, false, false] rfl rfl (by kernel_rfl) (fun _ _ _ h => h) (Or.inl ⟨by rfl, ?_⟩) hHeld ?_ ?_
   rotate_left
   ·rintro w' ⟨s0, s1, s2, s3, s4, s5, s6, s7⟩
    go_simp
    with_reducible rfl
   rotate_left
   ·simp only [Act.put, List.setIfInBounds_toArray, List.set_cons_zero, List.set_cons_succ, i64_w, i32_w]
    rfl
   refine one_ (i := 2) (N := some 56) #[true, true, true, false, false] rfl rfl (by kernel_rfl) (by decide) (fun K hK => ?_)
   refine goes_ Tryz.func7 (by kernel_rfl) rfl #[.agg #[.string a0_0, .slice A0_1 l0_1.length c0_1, .int .i64 a0_2, .slice A0_3 l0_3.length c0_3]] (by rfl) rfl rfl z3_ ?_
   with_reducible refine (laws_toTable.calls kj19 a0_0 _ _ l0_1 a0_2 _ _ l0_3 t136 t137 t140 t141 _ ?side1 ?side2 ?side3 ?side4 A50.out).mono ?_
   (case side1 => repeat (first | exact (Kd.C_below HR0_1.out HB.out) | (with_reducible refine Kd.C_alloc ?_ _) | (with_reducible refine Kd.C_drewN ?_ _) | (with_reducible refine Kd.C_drew ?_)))
   (case side2 => exact HC0_1.out)
   (case side3 => repeat (first | exact (Kd.C_below HR0_3.out HB.out) | (with_reducible refine Kd.C_alloc ?_ _) | (with_reducible refine Kd.C_drewN ?_ _) | (with_reducible refine Kd.C_drew ?_)))
   (case side4 => exact HC0_3.out)
   rintro e w60 ⟨v138, v142, rfl, ho0, ho1, hb⟩
   refine ⟨_, rfl, ?_⟩
   have n_ := a10_ (Kd.R_below z32_ hb) (Kd.R_below z50_ hb) (Kd.R_below z31_ hb) (Kd.R_elder' z47_ (Kd.R_base ho0) hb) (Kd.S_elder' z48_ (Kd.S_base ho1) hb) (Kd.R_lower (Kd.R_new' ho0 (Kd.R_lt z47_)) (below_size z15_)) (Kd.S_lower (Kd.S_new' ho1 (Kd.S_lt z48_)) (below_size z15_)) (blk_below (g := gb101) (o := .cells #[.string a0_0, .slice A0_1 l0_1.length c0_1, .int .i64 a0_2, .slice A0_3 l0_3.length c0_3] 25 (0, 0)) z2_ hb) (blk_below (g := gb127) (o := .cells #[.string t119, .slice Ao37 t120.length co37, .int .i64 t123, .slice Ao38 t124.length co38] 35 (0, 0)) z35_ hb) (below_step z15_ hb)
   clear HO_6 HO_9 HO_10 HO_128001 HO_128003 BK101 BK127 HB
   obtain ⟨HO_6, HO_9, HO_10, HO_128001, HO_128003, HO139, HO143, BK101, BK127, HB⟩ := n_
   (try clear hb)
   (try clear hb2)
   (try clear hk)
   (try clear hi)
   (try clear ho0)
   (try clear ho1)
   obtain ⟨Ao61, co61, eo61⟩ := Kd.R_slice HO139.out
   (first | subst eo61 | (injection eo61 with f1_ f2_ f3_; have f4_ := f1_.symm; have f5_ := f3_.symm; clear f1_ f2_ f3_; subst f4_; subst f5_))
   obtain ⟨Ao62, co62, eo62⟩ := Kd.S_slice HO143.out
   (first | subst eo62 | (injection eo62 with f1_ f2_ f3_; have f4_ := f1_.symm; have f5_ := f3_.symm; clear f1_ f2_ f3_; subst f4_; subst f5_))
   refine hK.out _ _ ⟨(blk_cell BK127.out 0).trans rfl, (blk_cell BK127.out 1).trans rfl, (blk_cell BK127.out 2).trans rfl, (blk_cell BK127.out 3).trans rfl, (blk_cell BK101.out 0).trans rfl, (blk_cell BK101.out 1).trans rfl, (blk_cell BK101.out 2).trans rfl, (blk_cell BK101.out 3).trans rfl⟩ (fun hHeld => ?_)
   clear hK K
   refine norm_ (a' := ?_) ?_ ?_
   rotate_left
   ·show Act.put _ (some 56) _ = _
    simp only [Act.put, List.setIfInBounds_toArray, List.set_cons_zero, List.set_cons_succ, i64_w, i32_w]
    rfl
   refine one_ (i := 3) (N := some 57) #[true, true, true, true, false] rfl rfl (by kernel_rfl) (by decide) (fun K hK => ?_)
   refine goes_ Tryz.func11 (by kernel_rfl) rfl #[.agg #[.string t119, .slice Ao37 t120.length co37, .int .i64 t123, .slice Ao38 t124.length co38], .agg #[.string t136, .slice Ao61 t137.length co61, .int .i64 t140, .slice Ao62 t141.length co62]] (by rfl) rfl rfl z3_ ?_
   with_reducible refine (laws_eqTable.calls kj19 t119 _ _ t120 t123 _ _ t124 t136 _ _ t137 t140 _ _ t141 true _ ?side1 ?side2 ?side3 ?side4 ?side5 ?side6 ?side7 ?side8 A51.out).mono ?_
   (case side1 => repeat (first | exact (Kd.R_reads' HO_128001.out).2.2 | (with_reducible refine Kd.C_alloc ?_ _) | (with_reducible refine Kd.C_drewN ?_ _) | (with_reducible refine Kd.C_drew ?_)))
   (case side2 => exact (Kd.R_reads' HO_128001.out).2.1)
   (case side3 => repeat (first | exact (Kd.S_reads' HO_128003.out).2.2 | (with_reducible refine Kd.C_alloc ?_ _) | (with_reducible refine Kd.C_drewN ?_ _) | (with_reducible refine Kd.C_drew ?_)))
   (case side4 => exact (Kd.S_reads' HO_128003.out).2.1)
   (case side5 => repeat (first | exact (Kd.R_reads' HO139.out).2.2 | (with_reducible refine Kd.C_alloc ?_ _) | (with_reducible refine Kd.C_drewN ?_ _) | (with_reducible refine Kd.C_drew ?_)))
   (case side6 => exact (Kd.R_reads' HO139.out).2.1)
   (case side7 => repeat (first | exact (Kd.S_reads' HO143.out).2.2 | (with_reducible refine Kd.C_alloc ?_ _) | (with_reducible refine Kd.C_drewN ?_ _) | (with_reducible refine Kd.C_drew ?_)))
   (case side8 => exact (Kd.S_reads' HO143.out).2.1)
   rintro e w63 ⟨rfl, hb⟩
   refine ⟨_, rfl, ?_⟩
   have n_ := a10_ (Kd.R_below z32_ hb) (Kd.R_below z50_ hb) (Kd.R_below z31_ hb) (Kd.R_below z47_ hb) (Kd.S_below z48_ hb) (Kd.R_below z74_ hb) (Kd.S_below z75_ hb) (blk_below (g := gb101) (o := .cells #[.string a0_0, .slice A0_1 l0_1.length c0_1, .int .i64 a0_2, .slice A0_3 l0_3.length c0_3] 25 (0, 0)) z2_ hb) (blk_below (g := gb127) (o := .cells #[.string t119, .slice Ao37 t120.length co37, .int .i64 t123, .slice Ao38 t124.length co38] 35 (0, 0)) z35_ hb) (below_step z15_ hb)
   clear HO_6 HO_9 HO_10 HO_128001 HO_128003 HO139 HO143 BK101 BK127 HB
   obtain ⟨HO_6, HO_9, HO_10, HO_128001, HO_128003, HO139, HO143, BK101, BK127, HB⟩ := n_
   (try clear hb)
   (try clear hb2)
   (try clear hk)
   (try clear hi)
   refine hK.out _ _ ⟨(blk_cell BK127.out 0).trans rfl, (blk_cell BK127.out 1).trans rfl, (blk_cell BK127.out 2).trans rfl, (blk_cell BK127.out 3).trans rfl, (blk_cell BK101.out 0).trans rfl, (blk_cell BK101.out 1).trans rfl, (blk_cell BK101.out 2).trans rfl, (blk_cell BK101.out 3).trans rfl⟩ (fun hHeld => ?_)
   clear hK K
   refine norm_ (a' := ?_) ?_ ?_
   rotate_left
   ·show Act.put _ (some 57) _ = _
    simp only [Act.put, List.setIfInBounds_toArray, List.set_cons_zero, List.set_cons_succ, i64_w, i32_w]
    rfl
   refine pure_ (i := 4) (N := some 58) (v := ?_) (a' := ?_) #[true, true, true, true, true] rfl rfl (by kernel_rfl) (fun _ _ _ h => h) (Or.inl ⟨by rfl, ?_⟩) ?_ ?_
   rotate_left
   ·intro w'
    go_simp
    with_reducible rfl
   rotate_left
   ·simp only [Act.put, List.setIfInBounds_toArray, List.set_cons_zero, List.set_cons_succ, i64_w, i32_w]
    rfl
   refine done_ (by kernel_rfl) ?_
   go_upto_region 21 with (first | ((with_reducible refine gate_callee (f := 8) rfl ?_); refine goesL_ (some 61) rfl rfl Tryz.func8 (by kernel_rfl) rfl #[.slice A1 l1.length c1] rfl z3_ ?_; (with_reducible refine (laws_toValueS.calls kj19 _ _ l1 t145 _ ?side1 ?side2 A53.out).mono ?_); (case side1 => repeat (first | exact (Kd.C_below HR1.out HB.out) | (with_reducible refine Kd.C_alloc ?_ _) | (with_reducible refine Kd.C_drewN ?_ _) | (with_reducible refine Kd.C_drew ?_))); (case side2 => exact HC1.out); rintro e w64 ⟨v146, rfl, ho0, hb⟩; refine ⟨_, rfl, ?_⟩; have n_ := a11_ (Kd.R_below z32_ hb) (Kd.R_elder' z50_ (Kd.R_base ho0) hb) (Kd.R_below z31_ hb) (Kd.R_below z47_ hb) (Kd.S_below z48_ hb) (Kd.R_below z74_ hb) (Kd.S_below z75_ hb) (Kd.R_lower (Kd.R_new' ho0 (Kd.R_lt z50_)) (below_size z15_)) (blk_below (g := gb101) (o := .cells #[.string a0_0, .slice A0_1 l0_1.length c0_1, .int .i64 a0_2, .slice A0_3 l0_3.length c0_3] 25 (0, 0)) z2_ hb) (blk_below (g := gb127) (o := .cells #[.string t119, .slice Ao37 t120.length co37, .int .i64 t123, .slice Ao38 t124.length co38] 35 (0, 0)) z35_ hb) (below_step z15_ hb); clear HO_6 HO_9 HO_10 HO_128001 HO_128003 HO139 HO143 BK101 BK127 HB; obtain ⟨HO_6, HO_9, HO_10, HO_128001, HO_128003, HO139, HO143, HO147, BK101, BK127, HB⟩ := n_; (try clear hb); (try clear hb2); (try clear hk); (try clear hi); (try clear ho0); obtain ⟨Ao65, co65, eo65⟩ := Kd.R_slice HO147.out; subst eo65) | ((with_reducible refine gate_callee (f := 12) rfl ?_); refine goesL_ (some 62) rfl rfl Tryz.func12 (by kernel_rfl) rfl #[.slice Ao41 t128.length co41, .slice Ao65 t145.length co65] rfl z3_ ?_; (with_reducible refine (laws_eqValueS.calls kj19 _ _ t128 _ _ t145 true _ ?side1 ?side2 ?side3 ?side4 A54.out).mono ?_); (case side1 => repeat (first | exact (Kd.R_reads' HO_9.out).2.2 | (with_reducible refine Kd.C_alloc ?_ _) | (with_reducible refine Kd.C_drewN ?_ _) | (with_reducible refine Kd.C_drew ?_))); (case side2 => exact (Kd.R_reads' HO_9.out).2.1); (case side3 => repeat (first | exact (Kd.R_reads' HO147.out).2.2 | (with_reducible refine Kd.C_alloc ?_ _) | (with_reducible refine Kd.C_drewN ?_ _) | (with_reducible refine Kd.C_drew ?_))); (case side4 => exact (Kd.R_reads' HO147.out).2.1); rintro e w66 ⟨rfl, hb⟩; refine ⟨_, rfl, ?_⟩; have n_ := a11_ (Kd.R_below z32_ hb) (Kd.R_below z50_ hb) (Kd.R_below z31_ hb) (Kd.R_below z47_ hb) (Kd.S_below z48_ hb) (Kd.R_below z74_ hb) (Kd.S_below z75_ hb) (Kd.R_below (by (with_reducible repeat (first | apply Kd.R_alloc | apply Kd.R_drewN | apply Kd.R_drew)); exact HO147.out) hb) (blk_below (g := gb101) (o := .cells #[.string a0_0, .slice A0_1 l0_1.length c0_1, .int .i64 a0_2, .slice A0_3 l0_3.length c0_3] 25 (0, 0)) z2_ hb) (blk_below (g := gb127) (o := .cells #[.string t119, .slice Ao37 t120.length co37, .int .i64 t123, .slice Ao38 t124.length co38] 35 (0, 0)) z35_ hb) (below_step z15_ hb); clear HO_6 HO_9 HO_10 HO_128001 HO_128003 HO139 HO143 HO147 BK101 BK127 HB; obtain ⟨HO_6, HO_9, HO_10, HO_128001, HO_128003, HO139, HO143, HO147, BK101, BK127, HB⟩ := n_; (try clear hb); (try clear hb2); (try clear hk); (try clear hi); have hnb67 := NB127_101.out; have hnc67 := NB101_127.out; obtain ⟨hcz68_0, hcz68_1, hcz68_2, hcz68_3, hfz68_0, hfz68_1, hfz68_2, hfz68_3⟩ := bcf4 BK127.out) | ((with_reducible refine gate_callee (f := 13) rfl ?_); refine goesL_ (some 66) rfl rfl Tryz.func13 (by kernel_rfl) rfl #[.agg #[.string t119, .slice Ao37 t120.length co37, .int .i64 t123, .slice Ao38 t124.length co38], .int .i64 1] rfl z3_ ?_; (with_reducible refine (laws_markTable.calls kj19 t119 (fun k_ => some k_ = (.slice Ao37 t120.length co37 : Value).ownBlock) (.slice Ao37 t120.length co37) t120 t123 (fun k_ => (((((((((True ∧ some k_ ≠ (.slice Ao62 t141.length co62 : Value).ownBlock) ∧ some k_ ≠ (v116 : Value).ownBlock) ∧ some k_ ≠ (.slice Ao41 t128.length co41 : Value).ownBlock) ∧ some k_ ≠ (v132 : Value).ownBlock) ∧ some k_ ≠ (.slice Ao37 t120.length co37 : Value).ownBlock) ∧ some k_ ≠ (.slice Ao61 t137.length co61 : Value).ownBlock) ∧ some k_ ≠ (.slice Ao65 t145.length co65 : Value).ownBlock) ∧ k_ ≠ gb101) ∧ k_ ≠ gb127)) (.slice Ao38 t124.length co38) t124 1 t149 w _ ?side1 ?side2 ?side3 A56.out).mono ?_); (case side1 => repeat (first | (with_reducible first | exact HB.out | apply below_alloc | apply pw_below_drewN | apply below_drew1 | refine below_set ?_ GE101.out | refine below_set ?_ GE127.out) | exact HB.out)); (case side2 => exact Kd.R_tight rfl HO_128001.out); (case side3 => exact Kd.S_types (Kd.S_types (Kd.S_apart' (Kd.S_apart' (Kd.S_apart' (Kd.S_apart' (Kd.S_apart' (Kd.S_apart' (HO_128003.out) (Kd.R_typed HO_6.out) (by decide)) (Kd.R_typed HO_9.out) (by decide)) (Kd.R_typed HO_10.out) (by decide)) (Kd.R_typed HO_128001.out) (by decide)) (Kd.R_typed HO139.out) (by decide)) (Kd.R_typed HO147.out) (by decide)) BK101.out (by decide)) BK127.out (by decide)); rintro e w69 ⟨rfl, hb, hkp⟩; refine ⟨_, rfl, ?_⟩; have n_ := a8_ (Kd.R_mono (ok' := fun k_ => some k_ ≠ (v132 : Value).ownBlock) (Kd.R_keptB ((Kd.R_mono (ok' := fun k_ => ((some k_ ≠ (v132 : Value).ownBlock ∧ some k_ ≠ (.slice Ao37 t120.length co37 : Value).ownBlock)) ∧ ¬ ((((((((((True ∧ some k_ ≠ (.slice Ao62 t141.length co62 : Value).ownBlock) ∧ some k_ ≠ (v116 : Value).ownBlock) ∧ some k_ ≠ (.slice Ao41 t128.length co41 : Value).ownBlock) ∧ some k_ ≠ (v132 : Value).ownBlock) ∧ some k_ ≠ (.slice Ao37 t120.length co37 : Value).ownBlock) ∧ some k_ ≠ (.slice Ao61 t137.length co61 : Value).ownBlock) ∧ some k_ ≠ (.slice Ao65 t145.length co65 : Value).ownBlock) ∧ k_ ≠ gb101) ∧ k_ ≠ gb127))) (Kd.R_tight2 rfl (Kd.R_apart' HO_6.out (Kd.R_typed HO_128001.out) (by decide))) (fun k_ hk => ⟨hk.2, fun hp_ => (hp_.1.1.1.1.1.1.1.2) hk.1⟩))) hkp (fun k_ hk_ hs_ => Or.elim hs_ (fun e_ => (hk_.1.2) e_) (fun e_ => (hk_.2) e_))) (fun k_ hk_ => hk_.1.1.1)) (Kd.R_mono (ok' := fun k_ => some k_ ≠ (.slice Ao65 t145.length co65 : Value).ownBlock) (Kd.R_keptB ((Kd.R_mono (ok' := fun k_ => (((True ∧ some k_ ≠ (.slice Ao65 t145.length co65 : Value).ownBlock) ∧ some k_ ≠ (.slice Ao37 t120.length co37 : Value).ownBlock)) ∧ ¬ ((((((((((True ∧ some k_ ≠ (.slice Ao62 t141.length co62 : Value).ownBlock) ∧ some k_ ≠ (v116 : Value).ownBlock) ∧ some k_ ≠ (.slice Ao41 t128.length co41 : Value).ownBlock) ∧ some k_ ≠ (v132 : Value).ownBlock) ∧ some k_ ≠ (.slice Ao37 t120.length co37 : Value).ownBlock) ∧ some k_ ≠ (.slice Ao61 t137.length co61 : Value).ownBlock) ∧ some k_ ≠ (.slice Ao65 t145.length co65 : Value).ownBlock) ∧ k_ ≠ gb101) ∧ k_ ≠ gb127))) (Kd.R_tight2 rfl (Kd.R_apart' HO_9.out (Kd.R_typed HO_128001.out) (by decide))) (fun k_ hk => ⟨hk.2, fun hp_ => (hp_.1.1.1.1.1.1.2) hk.1⟩))) hkp (fun k_ hk_ hs_ => Or.elim hs_ (fun e_ => (hk_.1.2) e_) (fun e_ => (hk_.2) e_))) (fun k_ hk_ => hk_.1.1.1.2)) (Kd.R_mono (ok' := fun k_ => some k_ ≠ (v116 : Value).ownBlock) (Kd.R_keptB ((Kd.R_mono (ok' := fun k_ => ((some k_ ≠ (v116 : Value).ownBlock ∧ some k_ ≠ (.slice Ao37 t120.length co37 : Value).ownBlock)) ∧ ¬ ((((((((((True ∧ some k_ ≠ (.slice Ao62 t141.length co62 : Value).ownBlock) ∧ some k_ ≠ (v116 : Value).ownBlock) ∧ some k_ ≠ (.slice Ao41 t128.length co41 : Value).ownBlock) ∧ some k_ ≠ (v132 : Value).ownBlock) ∧ some k_ ≠ (.slice Ao37 t120.length co37 : Value).ownBlock) ∧ some k_ ≠ (.slice Ao61 t137.length co61 : Value).ownBlock) ∧ some k_ ≠ (.slice Ao65 t145.length co65 : Value).ownBlock) ∧ k_ ≠ gb101) ∧ k_ ≠ gb127))) (Kd.R_tight2 rfl (Kd.R_apart' HO_10.out (Kd.R_typed HO_128001.out) (by decide))) (fun k_ hk => ⟨hk.2, fun hp_ => (hp_.1.1.1.1.1.2) hk.1⟩))) hkp (fun k_ hk_ hs_ => Or.elim hs_ (fun e_ => (hk_.1.2) e_) (fun e_ => (hk_.2) e_))) (fun k_ hk_ => hk_.1.1.1)) (blk_kept z2_ hkp (fun hs_ => Or.elim hs_ (fun e_ => (fun e_ => (Kd.R_ne HO_128001.out BK101.out (by decide)) e_) e_) (fun e_ => (fun e_ => (e_.1.2) rfl) e_))) (blk_kept z35_ hkp (fun hs_ => Or.elim hs_ (fun e_ => (fun e_ => (Kd.R_ne HO_128001.out BK127.out (by decide)) e_) e_) (fun e_ => (fun e_ => (e_.2) rfl) e_))) (Kd.R_mono (ok' := fun k_ => True) (Kd.R_keptB ((Kd.R_mono (ok' := fun k_ => ((True ∧ some k_ ≠ (.slice Ao37 t120.length co37 : Value).ownBlock)) ∧ ¬ ((((((((((True ∧ some k_ ≠ (.slice Ao62 t141.length co62 : Value).ownBlock) ∧ some k_ ≠ (v116 : Value).ownBlock) ∧ some k_ ≠ (.slice Ao41 t128.length co41 : Value).ownBlock) ∧ some k_ ≠ (v132 : Value).ownBlock) ∧ some k_ ≠ (.slice Ao37 t120.length co37 : Value).ownBlock) ∧ some k_ ≠ (.slice Ao61 t137.length co61 : Value).ownBlock) ∧ some k_ ≠ (.slice Ao65 t145.length co65 : Value).ownBlock) ∧ k_ ≠ gb101) ∧ k_ ≠ gb127))) (Kd.R_tight2 rfl HO139.out) (fun k_ hk => ⟨hk.2, fun hp_ => (hp_.1.1.1.2) hk.1⟩))) hkp (fun k_ hk_ hs_ => Or.elim hs_ (fun e_ => (hk_.1.2) e_) (fun e_ => (hk_.2) e_))) (fun k_ hk_ => trivial)) (Kd.R_mono (ok' := fun k_ => some k_ ≠ (.slice Ao41 t128.length co41 : Value).ownBlock) (Kd.R_keptB ((Kd.R_mono (ok' := fun k_ => (((True ∧ some k_ ≠ (.slice Ao41 t128.length co41 : Value).ownBlock) ∧ some k_ ≠ (.slice Ao37 t120.length co37 : Value).ownBlock)) ∧ ¬ ((((((((((True ∧ some k_ ≠ (.slice Ao62 t141.length co62 : Value).ownBlock) ∧ some k_ ≠ (v116 : Value).ownBlock) ∧ some k_ ≠ (.slice Ao41 t128.length co41 : Value).ownBlock) ∧ some k_ ≠ (v132 : Value).ownBlock) ∧ some k_ ≠ (.slice Ao37 t120.length co37 : Value).ownBlock) ∧ some k_ ≠ (.slice Ao61 t137.length co61 : Value).ownBlock) ∧ some k_ ≠ (.slice Ao65 t145.length co65 : Value).ownBlock) ∧ k_ ≠ gb101) ∧ k_ ≠ gb127))) (Kd.R_tight2 rfl (Kd.R_apart' HO147.out (Kd.R_typed HO_128001.out) (by decide))) (fun k_ hk => ⟨hk.2, fun hp_ => (hp_.1.1.2) hk.1⟩))) hkp (fun k_ hk_ hs_ => Or.elim hs_ (fun e_ => (hk_.1.2) e_) (fun e_ => (hk_.2) e_))) (fun k_ hk_ => hk_.1.1.1.2)) (hb); clear HO_6 HO_9 HO_10 BK101 BK127 HO139 HO147 HB HO_128001 HO_128003 HO143; obtain ⟨HO_6, HO_9, HO_10, BK101, BK127, HO139, HO147, HB⟩ := n_; (try clear hb); (try clear hkp)) | ((with_reducible refine gate_callee (f := 14) rfl ?_); refine goesL_ (some 69) rfl rfl Tryz.func14 (by kernel_rfl) rfl #[.slice Ao41 t128.length co41, .int .i64 t149] rfl z3_ ?_; (with_reducible refine (laws_markValueS.calls kj19 (fun k_ => some k_ = (.slice Ao41 t128.length co41 : Value).ownBlock) (.slice Ao41 t128.length co41) t128 t149 t150 t151 w _ ?side1 ?side2 A57.out).mono ?_); (case side1 => repeat (first | (with_reducible first | exact HB.out | apply below_alloc | apply pw_below_drewN | apply below_drew1 | refine below_set ?_ GE101.out | refine below_set ?_ GE127.out) | exact HB.out)); (case side2 => exact Kd.R_tight rfl HO_9.out); rintro e w70 ⟨rfl, hy0, hb, hkp⟩; refine ⟨_, rfl, ?_⟩; have n_ := a8_ (Kd.R_mono (ok' := fun k_ => some k_ ≠ (v132 : Value).ownBlock) (Kd.R_keptB ((Kd.R_apart' HO_6.out (Kd.R_typed HO_9.out) (by decide))) hkp (fun k_ hk_ hs_ => (hk_.2) hs_)) (fun k_ hk_ => hk_.1.1)) (Kd.R_reok rfl hy0 (fun k_ e_ => HO_9.out.1 k_ e_)) (Kd.R_mono (ok' := fun k_ => some k_ ≠ (v116 : Value).ownBlock) (Kd.R_keptB ((Kd.R_apart' HO_10.out (Kd.R_typed HO_9.out) (by decide))) hkp (fun k_ hk_ hs_ => (hk_.2) hs_)) (fun k_ hk_ => hk_.1.1)) (blk_kept z2_ hkp (fun hs_ => (fun e_ => (Kd.R_ne HO_9.out BK101.out (by decide)) e_) hs_)) (blk_kept z35_ hkp (fun hs_ => (fun e_ => (Kd.R_ne HO_9.out BK127.out (by decide)) e_) hs_)) (Kd.R_mono (ok' := fun k_ => True) (Kd.R_keptB ((Kd.R_apart' HO139.out (Kd.R_typed HO_9.out) (by decide))) hkp (fun k_ hk_ hs_ => (hk_.2) hs_)) (fun k_ hk_ => trivial)) (Kd.R_mono (ok' := fun k_ => some k_ ≠ (.slice Ao41 t128.length co41 : Value).ownBlock) (Kd.R_keptB (HO147.out) hkp (fun k_ hk_ hs_ => (hk_) hs_)) (fun k_ hk_ => hk_.1)) (hb); clear HO_6 HO_9 HO_10 BK101 BK127 HO139 HO147 HB; obtain ⟨HO_6, HO_9, HO_10, BK101, BK127, HO139, HO147, HB⟩ := n_; (try clear hb); (try clear hkp); (try clear hy0)))
   (try simp only [Act.put, List.setIfInBounds_toArray, List.set_cons_zero, List.set_cons_succ])
   go_cut [82] (fun v82 wc => ∃ (kq : Nat) (x82_57 : Bool), v82 = .bool x82_57 ∧ Aside0 (laws_FnExactRowKey.j1 kq l1 t115 t118 t131 x82_57 a0_0 l0_1 a0_2 l0_3 = some r) ∧ Aside0 (kq ≤ kj19) ∧ Aside0 (Kd.R (Kd.int .u8) 5 wc w.heap.size (fun k_ => some k_ ≠ (v132 : Value).ownBlock) v116 t115) ∧ Aside0 (Kd.R (Kd.int .u8) 5 wc w.heap.size (fun k_ => some k_ ≠ (v116 : Value).ownBlock) v132 t131) ∧ Aside0 (wc.heap[gb101]? = some (.cells #[.string a0_0, (.slice A0_1 l0_1.length c0_1), .int .i64 a0_2, (.slice A0_3 l0_3.length c0_3)] 25 (0, 0))) ∧ Aside0 (Below w.heap.size w wc))
   case first =>
    have H := HC58.out
    clear HC58
    by_cases c71 : t150 < 0
    ·rw [if_pos c71] at H
     have c71b0 := decide_eq_true c71
     clear c71
     (first | rw [c71b0] | (simp only [i64_w, i32_w]; rw [c71b0]) | skip)
     have H' := ak_ H
     clear H
     go_wp2
     go_meet
     case rel => exact ⟨_, (true), z8_, H', ⟨by have := HJ19.out; first | omega | exact Nat.le_refl _⟩, ⟨z32_⟩, ⟨z31_⟩, ⟨z2_⟩, ⟨z15_⟩⟩
    rw [if_neg c71] at H
    have c71b0 := decide_eq_false c71
    clear c71
    (first | rw [c71b0] | (simp only [i64_w, i32_w]; rw [c71b0]) | skip)
    replace H := Option.bind_eq_some_iff.mp H
    obtain ⟨t152, A720, H⟩ := H
    have A72 := ak_ A720
    clear A720
    by_cases c73 : t152 = true
    ·subst c73
     have H1 : (laws_FnExactRowKey.j1 kj19 l1 t115 t118 t131 (t134 != t118) a0_0 l0_1 a0_2 l0_3) = some r := by rw [if_pos rfl] at H; exact H
     clear H
     have H := H1
     clear H1
     have H' := ak_ H
     clear H
     obtain ⟨Ao74, co74, eo74⟩ := Kd.R_slice HO_10.out
     subst eo74
     obtain ⟨Ao75, co75, eo75⟩ := Kd.R_slice HO_6.out
     subst eo75
     go_wp2_with (first | (go_at_call 10; (with_reducible refine (laws_eqByteS.calls kj19 _ _ t131 _ _ t115 true _ ?side1 ?side2 ?side3 ?side4 A72.out).mono ?_); (case side1 => repeat (first | exact (Kd.R_reads' HO_10.out).2.2 | (with_reducible refine Kd.C_alloc ?_ _) | (with_reducible refine Kd.C_drewN ?_ _) | (with_reducible refine Kd.C_drew ?_))); (case side2 => exact (Kd.R_reads' HO_10.out).2.1); (case side3 => repeat (first | exact (Kd.R_reads' HO_6.out).2.2 | (with_reducible refine Kd.C_alloc ?_ _) | (with_reducible refine Kd.C_drewN ?_ _) | (with_reducible refine Kd.C_drew ?_))); (case side4 => exact (Kd.R_reads' HO_6.out).2.1); rintro e w' ⟨rfl, ⟨nd, rfl⟩⟩))
     go_meet
     case rel => exact ⟨_, ((t134 != t118)), z8_, H', ⟨by have := HJ19.out; first | omega | exact Nat.le_refl _⟩, ⟨z32_⟩, ⟨z31_⟩, ⟨z2_⟩, ⟨z15_⟩⟩
    replace c73 := Bool.eq_false_iff.mpr c73
    subst c73
    have H1 : (laws_FnExactRowKey.j1 kj19 l1 t115 t118 t131 true a0_0 l0_1 a0_2 l0_3) = some r := by rw [if_neg (show ¬ (false = true) by decide)] at H; exact H
    clear H
    have H := H1
    clear H1
    have H' := ak_ H
    clear H
    obtain ⟨Ao76, co76, eo76⟩ := Kd.R_slice HO_10.out
    subst eo76
    obtain ⟨Ao77, co77, eo77⟩ := Kd.R_slice HO_6.out
    subst eo77
    go_wp2_with (first | (go_at_call 10; (with_reducible refine (laws_eqByteS.calls kj19 _ _ t131 _ _ t115 false _ ?side1 ?side2 ?side3 ?side4 A72.out).mono ?_); (case side1 => repeat (first | exact (Kd.R_reads' HO_10.out).2.2 | (with_reducible refine Kd.C_alloc ?_ _) | (with_reducible refine Kd.C_drewN ?_ _) | (with_reducible refine Kd.C_drew ?_))); (case side2 => exact (Kd.R_reads' HO_10.out).2.1); (case side3 => repeat (first | exact (Kd.R_reads' HO_6.out).2.2 | (with_reducible refine Kd.C_alloc ?_ _) | (with_reducible refine Kd.C_drewN ?_ _) | (with_reducible refine Kd.C_drew ?_))); (case side4 => exact (Kd.R_reads' HO_6.out).2.1); rintro e w' ⟨rfl, ⟨nd, rfl⟩⟩))
    go_meet
    case rel => exact ⟨_, (true), z8_, H', ⟨by have := HJ19.out; first | omega | exact Nat.le_refl _⟩, ⟨z32_⟩, ⟨z31_⟩, ⟨z2_⟩, ⟨z15_⟩⟩
   case rest =>
    clear HC58
    try clear c1
    try clear p2
    try clear c3
    try clear c4
    try clear c4b0
    try clear c5
    try clear c6
    try clear c7
    try clear c8
    try clear c9
    try clear c9b0
    try clear c10
    try clear c11
    try clear c12
    try clear c13
    try clear c14
    try clear c35
    try clear c44
    try clear c49
    try clear c52
    try clear c55
    try clear c67
    try clear c71
    try clear c71b0
    try clear c73
    try clear hcz11_0
    try clear hcz11_1
    try clear hcz11_2
    try clear hcz11_3
    try clear hcz22_0
    try clear hcz22_1
    try clear hcz22_2
    try clear hcz22_3
    try clear hcz25_0
    try clear hcz25_1
    try clear hcz25_2
    try clear hcz25_3
    try clear hcz32_0
    try clear hcz32_1
    try clear hcz32_2
    try clear hcz32_3
    try clear hcz36_0
    try clear hcz36_1
    try clear hcz36_2
    try clear hcz36_3
    try clear hcz40_0
    try clear hcz40_1
    try clear hcz40_2
    try clear hcz40_3
    try clear hcz68_0
    try clear hcz68_1
    try clear hcz68_2
    try clear hcz68_3
    try clear hcz6_0
    try clear hcz6_1
    try clear hcz6_2
    try clear hcz6_3
    try clear hfz11_0
    try clear hfz11_1
    try clear hfz11_2
    try clear hfz11_3
    try clear hfz22_0
    try clear hfz22_1
    try clear hfz22_2
    try clear hfz22_3
    try clear hfz25_0
    try clear hfz25_1
    try clear hfz25_2
    try clear hfz25_3
    try clear hfz32_0
    try clear hfz32_1
    try clear hfz32_2
    try clear hfz32_3
    try clear hfz36_0
    try clear hfz36_1
    try clear hfz36_2
    try clear hfz36_3
    try clear hfz40_0
    try clear hfz40_1
    try clear hfz40_2
    try clear hfz40_3
    try clear hfz68_0
    try clear hfz68_1
    try clear hfz68_2
    try clear hfz68_3
    try clear hfz6_0
    try clear hfz6_1
    try clear hfz6_2
    try clear hfz6_3
    try clear p2
    obtain ⟨kq, x82_57, rfl, HA, HJ57, HO_6, HO_10, BK101, HB⟩ := hcut
    cases kq with
    | zero => exact absurd HA.out (by simp [laws_FnExactRowKey.j1])
    | succ kj57 =>
     have H := HA.out
     clear HA
     simp only [laws_FnExactRowKey.j1] at H
     by_cases c78 : x82_57 = true
     ·subst c78
      have H1 : (none) = some r := by rw [if_pos rfl] at H; exact H
      clear H
      have H := H1
      clear H1
      exact absurd H (by simp)
     replace c78 := Bool.eq_false_iff.mpr c78
     subst c78
     have H1 : ((laws_markByteS.f kj57 t131 1).bind fun bt153 => ((laws_heldByteS.f kj57 bt153.2 1).bind fun t155 => (if t155 < 0 then (none) else (if t155 = bt153.1 then ((laws_toTable.f kj57 a0_0 l0_1 a0_2 l0_3).bind fun bt156 => ((laws_toValueS.f kj57 l1).bind fun t164 => ((impl_RowKey.f kj57 bt156.1 bt156.2.1 bt156.2.2.1 bt156.2.2.2 t164).bind fun bt167 => ((laws_eqByteS.f kj57 bt167.1 t115).bind fun t171 => (if t171 = true then (laws_FnExactRowKey.j2 kj57 bt153.2 bt153.1 (bt167.2 != t118)) else (laws_FnExactRowKey.j2 kj57 bt153.2 bt153.1 true)))))) else (none))))) = some r := by rw [if_neg (show ¬ (false = true) by decide)] at H; exact H
     clear H
     have H := H1
     clear H1
     replace H := Option.bind_eq_some_iff.mp H
     obtain ⟨⟨t153, t154⟩, A790, H⟩ := H
     replace H : ((laws_heldByteS.f kj57 t154 1).bind fun t155 => (if t155 < 0 then (none) else (if t155 = t153 then ((laws_toTable.f kj57 a0_0 l0_1 a0_2 l0_3).bind fun bt156 => ((laws_toValueS.f kj57 l1).bind fun t164 => ((impl_RowKey.f kj57 bt156.1 bt156.2.1 bt156.2.2.1 bt156.2.2.2 t164).bind fun bt167 => ((laws_eqByteS.f kj57 bt167.1 t115).bind fun t171 => (if t171 = true then (laws_FnExactRowKey.j2 kj57 t154 t153 (bt167.2 != t118)) else (laws_FnExactRowKey.j2 kj57 t154 t153 true)))))) else (none)))) = some r := H
     have A79 := ak_ A790
     clear A790
     replace H := Option.bind_eq_some_iff.mp H
     obtain ⟨t155, A800, H⟩ := H
     have A80 := ak_ A800
     clear A800
     by_cases c81 : t155 < 0
     ·rw [if_pos c81] at H
      exact absurd H (by simp)
     rw [if_neg c81] at H
     have c81b0 := decide_eq_false c81
     clear c81
     by_cases c82 : t155 = t153
     rotate_left
     ·rw [if_neg c82] at H
      exact absurd H (by simp)
     rw [if_pos c82] at H
     have c82b0 : (t155 == t153) = true := beq_iff_eq.mpr c82
     have c82b1 : (t155 != t153) = false := bne_eq_false_iff_eq.mpr c82
     clear c82
     replace H := Option.bind_eq_some_iff.mp H
     obtain ⟨⟨t156, t157, t160, t161⟩, A830, H⟩ := H
     replace H : ((laws_toValueS.f kj57 l1).bind fun t164 => ((impl_RowKey.f kj57 t156 t157 t160 t161 t164).bind fun bt167 => ((laws_eqByteS.f kj57 bt167.1 t115).bind fun t171 => (if t171 = true then (laws_FnExactRowKey.j2 kj57 t154 t153 (bt167.2 != t118)) else (laws_FnExactRowKey.j2 kj57 t154 t153 true))))) = some r := H
     have A83 := ak_ A830
     clear A830
     replace H := Option.bind_eq_some_iff.mp H
     obtain ⟨t164, A840, H⟩ := H
     have A84 := ak_ A840
     clear A840
     replace H := Option.bind_eq_some_iff.mp H
     obtain ⟨⟨t167, t170⟩, A850, H⟩ := H
     replace H : ((laws_eqByteS.f kj57 t167 t115).bind fun t171 => (if t171 = true then (laws_FnExactRowKey.j2 kj57 t154 t153 (t170 != t118)) else (laws_FnExactRowKey.j2 kj57 t154 t153 true))) = some r := H
     have A85 := ak_ A850
     clear A850
     have HC86 := ak_ H
     clear H
     obtain ⟨Ao87, co87, eo87⟩ := Kd.R_slice HO_10.out
     subst eo87
     go_upto_region 32 with (first | ((with_reducible refine gate_callee (f := 15) rfl ?_); refine goesL_ (some 85) rfl rfl Tryz.func15 (by kernel_rfl) rfl #[.slice Ao87 t131.length co87, .int .i64 1] rfl z3_ ?_; (with_reducible refine (laws_markByteS.calls kj57 (fun k_ => some k_ = (.slice Ao87 t131.length co87 : Value).ownBlock) (.slice Ao87 t131.length co87) t131 1 t153 t154 w _ ?side1 ?side2 A79.out).mono ?_); (case side1 => repeat (first | (with_reducible first | exact HB.out | apply below_alloc | apply pw_below_drewN | apply below_drew1 | refine below_set ?_ GE101.out) | exact HB.out)); (case side2 => exact Kd.R_tight rfl HO_10.out); rintro e w88 ⟨rfl, hy0, hb, hkp⟩; refine ⟨_, rfl, ?_⟩; have n_ := a4_ (Kd.R_mono (ok' := fun k_ => some k_ ≠ (.slice Ao87 t131.length co87 : Value).ownBlock) (Kd.R_keptB (HO_6.out) hkp (fun k_ hk_ hs_ => (hk_) hs_)) (fun k_ hk_ => hk_.1)) (Kd.R_reok rfl hy0 (fun k_ e_ => HO_10.out.1 k_ e_)) (blk_kept z2_ hkp (fun hs_ => (fun e_ => (Kd.R_ne HO_10.out BK101.out (by decide)) e_) hs_)) (hb); clear HO_6 HO_10 BK101 HB; obtain ⟨HO_6, HO_10, BK101, HB⟩ := n_; (try clear hb); (try clear hkp); (try clear hy0)) | ((with_reducible refine gate_callee (f := 16) rfl ?_); refine goesL_ (some 88) rfl rfl Tryz.func16 (by kernel_rfl) rfl #[.slice Ao87 t154.length co87, .int .i64 1] rfl (by (try simp only [List.map_toArray, List.map_cons, List.map_nil]); first | done | (rw [show t154.length = t131.length from (Kd.R_reads' HO_10.out).1.symm] <;> rfl) | rfl | (simp only [List.length_drop, List.length_take]; rfl)) ?_; (with_reducible refine (laws_heldByteS.calls kj57 _ _ t154 1 t155 _ ?side1 ?side2 A80.out).mono ?_); (case side1 => repeat (first | exact (Kd.R_reads' HO_10.out).2.2 | (with_reducible refine Kd.C_alloc ?_ _) | (with_reducible refine Kd.C_drewN ?_ _) | (with_reducible refine Kd.C_drew ?_))); (case side2 => rw [show t154.length = t131.length from (Kd.R_reads' HO_10.out).1.symm]; exact (Kd.R_reads' HO_10.out).2.1); rintro e w' ⟨rfl, ⟨nd, rfl⟩⟩; refine ⟨_, rfl, ?_⟩; obtain ⟨hcz89_0, hcz89_1, hcz89_2, hcz89_3, hfz89_0, hfz89_1, hfz89_2, hfz89_3⟩ := bcf4 BK101.out) | ((with_reducible refine gate_callee (f := 7) rfl ?_); refine goesL_ (some 96) rfl rfl Tryz.func7 (by kernel_rfl) rfl #[.agg #[.string a0_0, .slice A0_1 l0_1.length c0_1, .int .i64 a0_2, .slice A0_3 l0_3.length c0_3]] rfl z3_ ?_; (with_reducible refine (laws_toTable.calls kj57 a0_0 _ _ l0_1 a0_2 _ _ l0_3 t156 t157 t160 t161 _ ?side1 ?side2 ?side3 ?side4 A83.out).mono ?_); (case side1 => repeat (first | exact (Kd.C_below HR0_1.out z1_) | (with_reducible refine Kd.C_alloc ?_ _) | (with_reducible refine Kd.C_drewN ?_ _) | (with_reducible refine Kd.C_drew ?_))); (case side2 => exact HC0_1.out); (case side3 => repeat (first | exact (Kd.C_below HR0_3.out z1_) | (with_reducible refine Kd.C_alloc ?_ _) | (with_reducible refine Kd.C_drewN ?_ _) | (with_reducible refine Kd.C_drew ?_))); (case side4 => exact HC0_3.out); rintro e w90 ⟨v158, v162, rfl, ho0, ho1, hb⟩; refine ⟨_, rfl, ?_⟩; have n_ := a6_ (Kd.R_below z32_ hb) (Kd.R_below z31_ hb) (Kd.R_lower ho0 (below_size z1_)) (Kd.S_lower ho1 (below_size z1_)) (blk_below (g := gb101) (o := .cells #[.string a0_0, .slice A0_1 l0_1.length c0_1, .int .i64 a0_2, .slice A0_3 l0_3.length c0_3] 25 (0, 0)) z2_ hb) (below_step z1_ hb); clear HO_6 HO_10 BK101 HB; obtain ⟨HO_6, HO_10, HO159, HO163, BK101, HB⟩ := n_; (try clear hb); (try clear hb2); (try clear hk); (try clear hi); (try clear ho0); (try clear ho1)) | ((with_reducible refine gate_callee (f := 8) rfl ?_); refine goesL_ (some 98) rfl rfl Tryz.func8 (by kernel_rfl) rfl #[.slice A1 l1.length c1] rfl z3_ ?_; (with_reducible refine (laws_toValueS.calls kj57 _ _ l1 t164 _ ?side1 ?side2 A84.out).mono ?_); (case side1 => repeat (first | exact (Kd.C_below HR1.out HB.out) | (with_reducible refine Kd.C_alloc ?_ _) | (with_reducible refine Kd.C_drewN ?_ _) | (with_reducible refine Kd.C_drew ?_))); (case side2 => exact HC1.out); rintro e w91 ⟨v165, rfl, ho0, hb⟩; refine ⟨_, rfl, ?_⟩; have n_ := a7_ (Kd.R_below z32_ hb) (Kd.R_below z31_ hb) (Kd.R_below (by (with_reducible repeat (first | apply Kd.R_alloc | apply Kd.R_drewN | apply Kd.R_drew)); exact HO159.out) hb) (Kd.S_below (by (with_reducible repeat (first | apply Kd.S_alloc | apply Kd.S_drewN | apply Kd.S_drew)); exact HO163.out) hb) (Kd.R_lower ho0 (below_size z1_)) (blk_below (g := gb101) (o := .cells #[.string a0_0, .slice A0_1 l0_1.length c0_1, .int .i64 a0_2, .slice A0_3 l0_3.length c0_3] 25 (0, 0)) z2_ hb) (below_step z1_ hb); clear HO_6 HO_10 HO159 HO163 BK101 HB; obtain ⟨HO_6, HO_10, HO159, HO163, HO166, BK101, HB⟩ := n_; (try clear hb); (try clear hb2); (try clear hk); (try clear hi); (try clear ho0); obtain ⟨Ao92, co92, eo92⟩ := Kd.R_slice HO159.out; subst eo92; obtain ⟨Ao93, co93, eo93⟩ := Kd.S_slice HO163.out; subst eo93; obtain ⟨Ao94, co94, eo94⟩ := Kd.R_slice HO166.out; subst eo94) | ((with_reducible refine gate_callee (f := 9) rfl ?_); refine goesL_ (some 99) rfl rfl Tryz.func9 (by kernel_rfl) rfl #[.agg #[.string t156, .slice Ao92 t157.length co92, .int .i64 t160, .slice Ao93 t161.length co93], .slice Ao94 t164.length co94] rfl z3_ ?_; (with_reducible refine (impl_RowKey.calls kj57 t156 _ _ t157 t160 _ _ t161 _ _ t164 t167 t170 _ ?side1 ?side2 ?side3 ?side4 ?side5 ?side6 A85.out).mono ?_); (case side1 => repeat (first | exact (Kd.R_reads' HO159.out).2.2 | (with_reducible refine Kd.C_alloc ?_ _) | (with_reducible refine Kd.C_drewN ?_ _) | (with_reducible refine Kd.C_drew ?_))); (case side2 => exact (Kd.R_reads' HO159.out).2.1); (case side3 => repeat (first | exact (Kd.S_reads' HO163.out).2.2 | (with_reducible refine Kd.C_alloc ?_ _) | (with_reducible refine Kd.C_drewN ?_ _) | (with_reducible refine Kd.C_drew ?_))); (case side4 => exact (Kd.S_reads' HO163.out).2.1); (case side5 => repeat (first | exact (Kd.R_reads' HO166.out).2.2 | (with_reducible refine Kd.C_alloc ?_ _) | (with_reducible refine Kd.C_drewN ?_ _) | (with_reducible refine Kd.C_drew ?_))); (case side6 => exact (Kd.R_reads' HO166.out).2.1); rintro e w95 ⟨v168, rfl, ho0, hb⟩; refine ⟨_, rfl, ?_⟩; have n_ := a8_ (Kd.R_elder' z32_ (Kd.R_base ho0) hb) (Kd.R_elder' z31_ (Kd.R_base ho0) hb) (Kd.R_below (by (with_reducible repeat (first | apply Kd.R_alloc | apply Kd.R_drewN | apply Kd.R_drew)); exact HO159.out) hb) (Kd.S_below (by (with_reducible repeat (first | apply Kd.S_alloc | apply Kd.S_drewN | apply Kd.S_drew)); exact HO163.out) hb) (Kd.R_below (by (with_reducible repeat (first | apply Kd.R_alloc | apply Kd.R_drewN | apply Kd.R_drew)); exact HO166.out) hb) (Kd.R_lower (Kd.R_new' (Kd.R_new' ho0 (Kd.R_lt z32_)) (Kd.R_lt z31_)) (below_size z1_)) (blk_below (g := gb101) (o := .cells #[.string a0_0, .slice A0_1 l0_1.length c0_1, .int .i64 a0_2, .slice A0_3 l0_3.length c0_3] 25 (0, 0)) z2_ hb) (below_step z1_ hb); clear HO_6 HO_10 HO159 HO163 HO166 BK101 HB; obtain ⟨HO_6, HO_10, HO159, HO163, HO166, HO169, BK101, HB⟩ := n_; (try clear hb); (try clear hb2); (try clear hk); (try clear hi); (try clear ho0)))
     (try simp only [Act.put, List.setIfInBounds_toArray, List.set_cons_zero, List.set_cons_succ])
     go_cut [110] (fun v110 wc => ∃ (kq : Nat) (x110_85 : Bool), v110 = .bool x110_85 ∧ Aside0 (laws_FnExactRowKey.j2 kq t154 t153 x110_85 = some r) ∧ Aside0 (kq ≤ kj57) ∧ Aside0 (Kd.R (Kd.int .u8) 5 wc w.heap.size (fun _ => True) (.slice Ao87 t131.length co87) t154) ∧ Aside0 (wc.heap[gb101]? = some (.cells #[.string a0_0, (.slice A0_1 l0_1.length c0_1), .int .i64 a0_2, (.slice A0_3 l0_3.length c0_3)] 25 (0, 0))) ∧ Aside0 (Below w.heap.size w wc))
     case first =>
      have H := HC86.out
      clear HC86
      replace H := Option.bind_eq_some_iff.mp H
      obtain ⟨t171, A960, H⟩ := H
      have A96 := ak_ A960
      clear A960
      by_cases c97 : t171 = true
      ·subst c97
       have H1 : (laws_FnExactRowKey.j2 kj57 t154 t153 (t170 != t118)) = some r := by rw [if_pos rfl] at H; exact H
       clear H
       have H := H1
       clear H1
       have H' := ak_ H
       clear H
       obtain ⟨Ao98, co98, eo98⟩ := Kd.R_slice HO169.out
       subst eo98
       obtain ⟨Ao99, co99, eo99⟩ := Kd.R_slice HO_6.out
       subst eo99
       go_wp2_with (first | ((with_reducible refine gate_callee (f := 10) rfl ?_); refine goesL_ (some 104) rfl rfl Tryz.func10 (by kernel_rfl) rfl #[.slice Ao98 t167.length co98, .slice Ao99 t115.length co99] rfl z3_ ?_; (with_reducible refine (laws_eqByteS.calls kj57 _ _ t167 _ _ t115 true _ ?side1 ?side2 ?side3 ?side4 A96.out).mono ?_); (case side1 => repeat (first | exact (Kd.R_reads' HO169.out).2.2 | (with_reducible refine Kd.C_alloc ?_ _) | (with_reducible refine Kd.C_drewN ?_ _) | (with_reducible refine Kd.C_drew ?_))); (case side2 => exact (Kd.R_reads' HO169.out).2.1); (case side3 => repeat (first | exact (Kd.R_reads' HO_6.out).2.2 | (with_reducible refine Kd.C_alloc ?_ _) | (with_reducible refine Kd.C_drewN ?_ _) | (with_reducible refine Kd.C_drew ?_))); (case side4 => exact (Kd.R_reads' HO_6.out).2.1); rintro e w' ⟨rfl, ⟨nd, rfl⟩⟩; refine ⟨_, rfl, ?_⟩))
       go_meet
       case rel => exact ⟨_, ((t170 != t118)), z8_, H', ⟨by have := HJ19.out; have := HJ57.out; first | omega | exact Nat.le_refl _⟩, ⟨by (with_reducible repeat (first | apply Kd.R_alloc | apply Kd.R_drewN | apply Kd.R_drew)); exact Kd.R_mono HO_10.out (fun _ hk => trivial)⟩, ⟨z2_⟩, ⟨z1_⟩⟩
      replace c97 := Bool.eq_false_iff.mpr c97
      subst c97
      have H1 : (laws_FnExactRowKey.j2 kj57 t154 t153 true) = some r := by rw [if_neg (show ¬ (false = true) by decide)] at H; exact H
      clear H
      have H := H1
      clear H1
      have H' := ak_ H
      clear H
      obtain ⟨Ao100, co100, eo100⟩ := Kd.R_slice HO169.out
      subst eo100
      obtain ⟨Ao101, co101, eo101⟩ := Kd.R_slice HO_6.out
      subst eo101
      go_wp2_with (first | ((with_reducible refine gate_callee (f := 10) rfl ?_); refine goesL_ (some 104) rfl rfl Tryz.func10 (by kernel_rfl) rfl #[.slice Ao100 t167.length co100, .slice Ao101 t115.length co101] rfl z3_ ?_; (with_reducible refine (laws_eqByteS.calls kj57 _ _ t167 _ _ t115 false _ ?side1 ?side2 ?side3 ?side4 A96.out).mono ?_); (case side1 => repeat (first | exact (Kd.R_reads' HO169.out).2.2 | (with_reducible refine Kd.C_alloc ?_ _) | (with_reducible refine Kd.C_drewN ?_ _) | (with_reducible refine Kd.C_drew ?_))); (case side2 => exact (Kd.R_reads' HO169.out).2.1); (case side3 => repeat (first | exact (Kd.R_reads' HO_6.out).2.2 | (with_reducible refine Kd.C_alloc ?_ _) | (with_reducible refine Kd.C_drewN ?_ _) | (with_reducible refine Kd.C_drew ?_))); (case side4 => exact (Kd.R_reads' HO_6.out).2.1); rintro e w' ⟨rfl, ⟨nd, rfl⟩⟩; refine ⟨_, rfl, ?_⟩))
      go_meet
      case rel => exact ⟨_, (true), z8_, H', ⟨by have := HJ19.out; have := HJ57.out; first | omega | exact Nat.le_refl _⟩, ⟨by (with_reducible repeat (first | apply Kd.R_alloc | apply Kd.R_drewN | apply Kd.R_drew)); exact Kd.R_mono HO_10.out (fun _ hk => trivial)⟩, ⟨z2_⟩, ⟨z1_⟩⟩
     case rest =>
      clear HC86
      try clear c1
      try clear p2
      try clear c3
      try clear c4
      try clear c4b0
      try clear c5
      try clear c6
      try clear c7
      try clear c8
      try clear c9
      try clear c9b0
      try clear c10
      try clear c11
      try clear c12
      try clear c13
      try clear c14
      try clear c15
      try clear c16
      try clear c35
      try clear c44
      try clear c49
      try clear c52
      try clear c55
      try clear c67
      try clear c71
      try clear c71b0
      try clear c73
      try clear c78
      try clear c81
      try clear c81b0
      try clear c82
      try clear c82b0
      try clear c82b1
      try clear c97
      try clear hcz11_0
      try clear hcz11_1
      try clear hcz11_2
      try clear hcz11_3
      try clear hcz22_0
      try clear hcz22_1
      try clear hcz22_2
      try clear hcz22_3
      try clear hcz25_0
      try clear hcz25_1
      try clear hcz25_2
      try clear hcz25_3
      try clear hcz32_0
      try clear hcz32_1
      try clear hcz32_2
      try clear hcz32_3
      try clear hcz36_0
      try clear hcz36_1
      try clear hcz36_2
      try clear hcz36_3
      try clear hcz40_0
      try clear hcz40_1
      try clear hcz40_2
      try clear hcz40_3
      try clear hcz68_0
      try clear hcz68_1
      try clear hcz68_2
      try clear hcz68_3
      try clear hcz6_0
      try clear hcz6_1
      try clear hcz6_2
      try clear hcz6_3
      try clear hcz89_0
      try clear hcz89_1
      try clear hcz89_2
      try clear hcz89_3
      try clear hfz11_0
      try clear hfz11_1
      try clear hfz11_2
      try clear hfz11_3
      try clear hfz22_0
      try clear hfz22_1
      try clear hfz22_2
      try clear hfz22_3
      try clear hfz25_0
      try clear hfz25_1
      try clear hfz25_2
      try clear hfz25_3
      try clear hfz32_0
      try clear hfz32_1
      try clear hfz32_2
      try clear hfz32_3
      try clear hfz36_0
      try clear hfz36_1
      try clear hfz36_2
      try clear hfz36_3
      try clear hfz40_0
      try clear hfz40_1
      try clear hfz40_2
      try clear hfz40_3
      try clear hfz68_0
      try clear hfz68_1
      try clear hfz68_2
      try clear hfz68_3
      try clear hfz6_0
      try clear hfz6_1
      try clear hfz6_2
      try clear hfz6_3
      try clear hfz89_0
      try clear hfz89_1
      try clear hfz89_2
      try clear hfz89_3
      try clear p2
      obtain ⟨kq, x110_85, rfl, HA, HJ85, HO_10, BK101, HB⟩ := hcut
      have hl10_85 := (Kd.R_reads' HO_10.out).1
      rw [hl10_85] at HO_10
      (try simp only [hl10_85])
      (try simp only [hl10_85] at BK101)
      cases kq with
      | zero => exact absurd HA.out (by simp [laws_FnExactRowKey.j2])
      | succ kj85 =>
       have H := HA.out
       clear HA
       simp only [laws_FnExactRowKey.j2] at H
       by_cases c102 : x110_85 = true
       ·subst c102
        have H1 : (none) = some r := by rw [if_pos rfl] at H; exact H
        clear H
        have H := H1
        clear H1
        exact absurd H (by simp)
       replace c102 := Bool.eq_false_iff.mpr c102
       subst c102
       have H1 : ((laws_heldByteS.f kj85 t154 1).bind fun t172 => (if t172 < 0 then (none) else (if t172 = t153 then (some true) else (none)))) = some r := by rw [if_neg (show ¬ (false = true) by decide)] at H; exact H
       clear H
       have H := H1
       clear H1
       replace H := Option.bind_eq_some_iff.mp H
       obtain ⟨t172, A1030, H⟩ := H
       have A103 := ak_ A1030
       clear A1030
       by_cases c104 : t172 < 0
       ·rw [if_pos c104] at H
        exact absurd H (by simp)
       rw [if_neg c104] at H
       have c104b0 := decide_eq_false c104
       clear c104
       by_cases c105 : t172 = t153
       rotate_left
       ·rw [if_neg c105] at H
        exact absurd H (by simp)
       rw [if_pos c105] at H
       have c105b0 : (t172 == t153) = true := beq_iff_eq.mpr c105
       have c105b1 : (t172 != t153) = false := bne_eq_false_iff_eq.mpr c105
       clear c105
       obtain rfl := Option.some.inj H
       go_wp2_with (first | ((with_reducible refine gate_callee (f := 16) rfl ?_); refine goesL_ (some 113) rfl rfl Tryz.func16 (by kernel_rfl) rfl #[.slice Ao87 t154.length co87, .int .i64 1] rfl z3_ ?_; (with_reducible refine (laws_heldByteS.calls kj85 _ _ t154 1 t172 _ ?side1 ?side2 A103.out).mono ?_); (case side1 => repeat (first | exact (Kd.R_reads' HO_10.out).2.2 | (with_reducible refine Kd.C_alloc ?_ _) | (with_reducible refine Kd.C_drewN ?_ _) | (with_reducible refine Kd.C_drew ?_))); (case side2 => exact (Kd.R_reads' HO_10.out).2.1); rintro e w' ⟨rfl, ⟨nd, rfl⟩⟩; refine ⟨_, rfl, ?_⟩))
       go_ret
       exact ⟨z6_, z1_⟩
end Go.Proofs.YtfbclbbhomhfaaaGreatDoor.X
