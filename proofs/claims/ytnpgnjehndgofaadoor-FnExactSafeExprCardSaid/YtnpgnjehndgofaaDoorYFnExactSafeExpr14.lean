/- Contracts of functions, and what is told of them. -/
import Derived.Test.YtnpgnjehndgofaaDoorYFnExactSafeExpr13
import Derived.OpenShut
import Derived.Laws.Strings
set_option linter.unusedSimpArgs false
set_option linter.unusedVariables false
set_option maxHeartbeats 8000000
set_option maxRecDepth 100000
section
namespace Go.Proofs.YtnpgnjehndgofaaDoor.X
open Go.RowKit Go.Proofs.YtnpgnjehndgofaaDoorW.PrintWords Go.Proofs.YtnpgnjehndgofaaDoorW.PrintLast Go.Proofs.YtnpgnjehndgofaaDoorW.PrintMore
attribute [local go_sem] max2_int min2_int max_two min_two max_three min_three max_four min_four

section
def laws_FnExactSafeExpr.j0 : Nat → Bool → Int → Int → ByteArray → ByteArray → Int → Int → ByteArray → List (S26) → Int → Int → ByteArray → ByteArray → Int → Int → ByteArray → List (S33) → Option (Bool)
 | 0, _, _, _, _, _, _, _, _, _, _, _, _, _, _, _, _, _ => none
 | k + 1, x34, x102000, x102001, x102002, x102003, x102004, x102005, x102006, x102007, x126000, x126001, x126002, x126003, x126004, x126005, x126006, x126007 => if x34 = true then (none) else ((laws_toTree.f k x102000 x102001 x102002 x102003 x102004 x102005 x102006 x102007).bind fun bt128 => ((laws_eqTree.f k x126000 x126001 x126002 x126003 x126004 x126005 x126006 x126007 bt128.1 bt128.2.1 bt128.2.2.1 bt128.2.2.2.1 bt128.2.2.2.2.1 bt128.2.2.2.2.2.1 bt128.2.2.2.2.2.2.1 bt128.2.2.2.2.2.2.2).bind fun t138 => (if t138 = true then (some true) else (none))))
def laws_FnExactSafeExpr.f (k : Nat) (a0_0 : Int) (a0_1 : Int) (a0_2 : ByteArray) (a0_3 : ByteArray) (a0_4 : Int) (a0_5 : Int) (a0_6 : ByteArray) (l0_7 : List (S26)) : Option (Bool) := (laws_szTree.f k a0_0 a0_1 a0_2 a0_3 a0_4 a0_5 a0_6 l0_7 1048576).bind fun t102 => (if t102 < 0 then (some true) else ((laws_toTree.f k a0_0 a0_1 a0_2 a0_3 a0_4 a0_5 a0_6 l0_7).bind fun bt103 => ((spec_SafeExpr.f k bt103.1 bt103.2.1 bt103.2.2.1 bt103.2.2.2.1 bt103.2.2.2.2.1 bt103.2.2.2.2.2.1 bt103.2.2.2.2.2.2.1 bt103.2.2.2.2.2.2.2).bind fun bt113 => ((laws_toTree.f k a0_0 a0_1 a0_2 a0_3 a0_4 a0_5 a0_6 l0_7).bind fun bt115 => ((impl_SafeExpr.f k bt115.1 bt115.2.1 bt115.2.2.1 bt115.2.2.2.1 bt115.2.2.2.2.1 bt115.2.2.2.2.2.1 bt115.2.2.2.2.2.2.1 bt115.2.2.2.2.2.2.2).bind fun bt126 => (if (bt126.1 != bt113.1) = true then (laws_FnExactSafeExpr.j0 k true a0_0 a0_1 a0_2 a0_3 a0_4 a0_5 a0_6 l0_7 bt115.1 bt115.2.1 bt115.2.2.1 bt115.2.2.2.1 bt115.2.2.2.2.1 bt115.2.2.2.2.2.1 bt115.2.2.2.2.2.2.1 bt115.2.2.2.2.2.2.2) else (laws_FnExactSafeExpr.j0 k (bt126.2 != bt113.2) a0_0 a0_1 a0_2 a0_3 a0_4 a0_5 a0_6 l0_7 bt115.1 bt115.2.1 bt115.2.2.1 bt115.2.2.2.1 bt115.2.2.2.2.1 bt115.2.2.2.2.2.1 bt115.2.2.2.2.2.2.1 bt115.2.2.2.2.2.2.2)))))))
theorem laws_FnExactSafeExpr.mono_l : ∀ k, (∀ y0 y1 y2 y3 y4 y5 y6 y7 y8 y9 y10 y11 y12 y13 y14 y15 y16, LeO (laws_FnExactSafeExpr.j0 k y0 y1 y2 y3 y4 y5 y6 y7 y8 y9 y10 y11 y12 y13 y14 y15 y16) (laws_FnExactSafeExpr.j0 (k + 1) y0 y1 y2 y3 y4 y5 y6 y7 y8 y9 y10 y11 y12 y13 y14 y15 y16))
 | 0 => fun _ _ _ _ _ _ _ _ _ _ _ _ _ _ _ _ _ r h => by simp [laws_FnExactSafeExpr.j0] at h
 | k + 1 => by
  have ih0 := laws_FnExactSafeExpr.mono_l k
  intro y0 y1 y2 y3 y4 y5 y6 y7 y8 y9 y10 y11 y12 y13 y14 y15 y16
  unfold laws_FnExactSafeExpr.j0
  repeat' first | with_reducible (first | exact ih0 _ _ _ _ _ _ _ _ _ _ _ _ _ _ _ _ _ | exact impl_SafeExpr.mono _ _ _ _ _ _ _ _ _ | exact laws_eqTree.mono _ _ _ _ _ _ _ _ _ _ _ _ _ _ _ _ _ | exact laws_szTree.mono _ _ _ _ _ _ _ _ _ _ | exact laws_toTree.mono _ _ _ _ _ _ _ _ _ | exact spec_SafeExpr.mono _ _ _ _ _ _ _ _ _ | exact LeO.refl _ | exact LeO.none _ | refine LeO.ite ?_ ?_ | refine LeO.bind ?_ (fun _ => ?_)) | exact ih0 _ _ _ _ _ _ _ _ _ _ _ _ _ _ _ _ _ | exact impl_SafeExpr.mono _ _ _ _ _ _ _ _ _ | exact laws_eqTree.mono _ _ _ _ _ _ _ _ _ _ _ _ _ _ _ _ _ | exact laws_szTree.mono _ _ _ _ _ _ _ _ _ _ | exact laws_toTree.mono _ _ _ _ _ _ _ _ _ | exact spec_SafeExpr.mono _ _ _ _ _ _ _ _ _ | exact LeO.none _ | refine LeO.ite ?_ ?_ | refine LeO.bind ?_ (fun _ => ?_)
theorem laws_FnExactSafeExpr.mono : ∀ a0 a1 a2 a3 a4 a5 a6 a7 k, LeO (laws_FnExactSafeExpr.f k a0 a1 a2 a3 a4 a5 a6 a7) (laws_FnExactSafeExpr.f (k + 1) a0 a1 a2 a3 a4 a5 a6 a7) := by
 intro a0 a1 a2 a3 a4 a5 a6 a7 k
 have ih0 := laws_FnExactSafeExpr.mono_l k
 unfold laws_FnExactSafeExpr.f
 repeat' first
   | (with_reducible exact ih0 _ _ _ _ _ _ _ _ _ _ _ _ _ _ _ _ _)
   | (with_reducible exact impl_SafeExpr.mono _ _ _ _ _ _ _ _ _)
   | (with_reducible exact laws_eqTree.mono _ _ _ _ _ _ _ _ _ _ _ _ _ _ _ _ _)
   | (with_reducible exact laws_szTree.mono _ _ _ _ _ _ _ _ _ _)
   | (with_reducible exact laws_toTree.mono _ _ _ _ _ _ _ _ _)
   | (with_reducible exact spec_SafeExpr.mono _ _ _ _ _ _ _ _ _)
   | (with_reducible exact LeO.refl _)
   | (with_reducible exact LeO.none _)
   | (with_reducible refine LeO.ite ?_ ?_)
   | (with_reducible refine LeO.bind ?_ (fun _ => ?_))
   | exact ih0 _ _ _ _ _ _ _ _ _ _ _ _ _ _ _ _ _
   | exact impl_SafeExpr.mono _ _ _ _ _ _ _ _ _
   | exact laws_eqTree.mono _ _ _ _ _ _ _ _ _ _ _ _ _ _ _ _ _
   | exact laws_szTree.mono _ _ _ _ _ _ _ _ _ _
   | exact laws_toTree.mono _ _ _ _ _ _ _ _ _
   | exact spec_SafeExpr.mono _ _ _ _ _ _ _ _ _
   | exact LeO.none _
   | refine LeO.ite ?_ ?_
   | refine LeO.bind ?_ (fun _ => ?_)
theorem laws_FnExactSafeExpr.calls (k : Nat) (a0_0 : Int) (a0_1 : Int) (a0_2 : ByteArray) (a0_3 : ByteArray) (a0_4 : Int) (a0_5 : Int) (a0_6 : ByteArray) (A0_7 : Option Addr) (c0_7 : Nat) (l0_7 : List (S26)) (r : Bool) (w : World) (hr0_7 : Kd.C k26 w A0_7 l0_7.length l0_7) (hc0_7 : l0_7.length ≤ c0_7) (h : laws_FnExactSafeExpr.f k a0_0 a0_1 a0_2 a0_3 a0_4 a0_5 a0_6 l0_7 = some r) :
  Calls Tryd.prog 3 #[.agg #[.int .i64 a0_0, .int .i64 a0_1, .string a0_2, .string a0_3, .int .i64 a0_4, .int .i64 a0_5, .string a0_6, .slice A0_7 l0_7.length c0_7]] w fun e w' => e = .returned (.bool r) ∧ Below w.heap.size w w' := by
 have hu26 := Tryd.underlying26
 have hu33 := Tryd.underlying33
 have HR0_7 := ak_ hr0_7
 have HC0_7 := ak_ hc0_7
 clear hr0_7 hc0_7
 have HB := ak_ (Below.refl w.heap.size w)
 have H := h
 unfold laws_FnExactSafeExpr.f at H
 clear h
 replace H := Option.bind_eq_some_iff.mp H
 obtain ⟨t102, A20, H⟩ := H
 have A2 := ak_ A20
 clear A20
 by_cases c3 : t102 < 0
 ·rw [if_pos c3] at H
  have c3b0 := decide_eq_true c3
  clear c3
  obtain rfl := Option.some.inj H
  go_enter Tryd.func3, Tryd.ntmps3
  go_wp2_with (first | ((with_reducible refine gate_dst (N := 1) rfl ?_); refine bx_ 1 (cs := #[.int .i64 a0_0, .int .i64 a0_1, .string a0_2, .string a0_3, .int .i64 a0_4, .int .i64 a0_5, .string a0_6, .slice A0_7 l0_7.length c0_7]) (t := 26) (h_ := ?_); intro gb101 hg w4 hbox hb; have n_ := a4_ (below_step z0_ hb) (hbox) ((gs_ w hg (below_size z0_))) ((gs_ w hg (below_size z0_))); clear HB; obtain ⟨HB, BK101, GW101, GE101⟩ := n_; clear hb hbox hg; obtain ⟨hcz5_0, hcz5_1, hcz5_2, hcz5_3, hcz5_4, hcz5_5, hcz5_6, hcz5_7, hfz5_0, hfz5_1, hfz5_2, hfz5_3, hfz5_4, hfz5_5, hfz5_6, hfz5_7⟩ := bcf8 BK101.out) | ((with_reducible refine gate_callee (f := 7) rfl ?_); refine goesL_ (some 11) rfl rfl Tryd.func7 (by kernel_rfl) rfl #[.agg #[.int .i64 a0_0, .int .i64 a0_1, .string a0_2, .string a0_3, .int .i64 a0_4, .int .i64 a0_5, .string a0_6, .slice A0_7 l0_7.length c0_7], .int .i64 1048576] rfl z4_ ?_; (with_reducible refine (laws_szTree.calls k a0_0 a0_1 a0_2 a0_3 a0_4 a0_5 a0_6 _ _ l0_7 1048576 t102 _ ?side1 ?side2 A2.out).mono ?_); (case side1 => exact cz_ ((Kd.C_below HR0_7.out HB.out))); (case side2 => exact HC0_7.out); rintro e w6 ⟨rfl, hb⟩; refine ⟨_, rfl, ?_⟩; have n_ := a2_ (blk_below (g := gb101) (o := .cells #[.int .i64 a0_0, .int .i64 a0_1, .string a0_2, .string a0_3, .int .i64 a0_4, .int .i64 a0_5, .string a0_6, .slice A0_7 l0_7.length c0_7] 26 (0, 0)) z2_ hb) (below_step z1_ hb); clear BK101 HB; obtain ⟨BK101, HB⟩ := n_; (try clear hb); (try clear hb2); (try clear hk); (try clear hi)))
  go_ret
  exact ⟨z5_, z1_⟩
 rw [if_neg c3] at H
 have c3b0 := decide_eq_false c3
 clear c3
 replace H := Option.bind_eq_some_iff.mp H
 obtain ⟨⟨t103, t104, t105, t106, t107, t108, t109, t110⟩, A70, H⟩ := H
 replace H : ((spec_SafeExpr.f k t103 t104 t105 t106 t107 t108 t109 t110).bind fun bt113 => ((laws_toTree.f k a0_0 a0_1 a0_2 a0_3 a0_4 a0_5 a0_6 l0_7).bind fun bt115 => ((impl_SafeExpr.f k bt115.1 bt115.2.1 bt115.2.2.1 bt115.2.2.2.1 bt115.2.2.2.2.1 bt115.2.2.2.2.2.1 bt115.2.2.2.2.2.2.1 bt115.2.2.2.2.2.2.2).bind fun bt126 => (if (bt126.1 != bt113.1) = true then (laws_FnExactSafeExpr.j0 k true a0_0 a0_1 a0_2 a0_3 a0_4 a0_5 a0_6 l0_7 bt115.1 bt115.2.1 bt115.2.2.1 bt115.2.2.2.1 bt115.2.2.2.2.1 bt115.2.2.2.2.2.1 bt115.2.2.2.2.2.2.1 bt115.2.2.2.2.2.2.2) else (laws_FnExactSafeExpr.j0 k (bt126.2 != bt113.2) a0_0 a0_1 a0_2 a0_3 a0_4 a0_5 a0_6 l0_7 bt115.1 bt115.2.1 bt115.2.2.1 bt115.2.2.2.1 bt115.2.2.2.2.1 bt115.2.2.2.2.2.1 bt115.2.2.2.2.2.2.1 bt115.2.2.2.2.2.2.2))))) = some r := H
 have A7 := ak_ A70
 clear A70
 replace H := Option.bind_eq_some_iff.mp H
 obtain ⟨⟨t113, t114⟩, A80, H⟩ := H
 replace H : ((laws_toTree.f k a0_0 a0_1 a0_2 a0_3 a0_4 a0_5 a0_6 l0_7).bind fun bt115 => ((impl_SafeExpr.f k bt115.1 bt115.2.1 bt115.2.2.1 bt115.2.2.2.1 bt115.2.2.2.2.1 bt115.2.2.2.2.2.1 bt115.2.2.2.2.2.2.1 bt115.2.2.2.2.2.2.2).bind fun bt126 => (if (bt126.1 != t113) = true then (laws_FnExactSafeExpr.j0 k true a0_0 a0_1 a0_2 a0_3 a0_4 a0_5 a0_6 l0_7 bt115.1 bt115.2.1 bt115.2.2.1 bt115.2.2.2.1 bt115.2.2.2.2.1 bt115.2.2.2.2.2.1 bt115.2.2.2.2.2.2.1 bt115.2.2.2.2.2.2.2) else (laws_FnExactSafeExpr.j0 k (bt126.2 != t114) a0_0 a0_1 a0_2 a0_3 a0_4 a0_5 a0_6 l0_7 bt115.1 bt115.2.1 bt115.2.2.1 bt115.2.2.2.1 bt115.2.2.2.2.1 bt115.2.2.2.2.2.1 bt115.2.2.2.2.2.2.1 bt115.2.2.2.2.2.2.2)))) = some r := H
 have A8 := ak_ A80
 clear A80
 replace H := Option.bind_eq_some_iff.mp H
 obtain ⟨⟨t115, t116, t117, t118, t119, t120, t121, t122⟩, A90, H⟩ := H
 replace H : ((impl_SafeExpr.f k t115 t116 t117 t118 t119 t120 t121 t122).bind fun bt126 => (if (bt126.1 != t113) = true then (laws_FnExactSafeExpr.j0 k true a0_0 a0_1 a0_2 a0_3 a0_4 a0_5 a0_6 l0_7 t115 t116 t117 t118 t119 t120 t121 t122) else (laws_FnExactSafeExpr.j0 k (bt126.2 != t114) a0_0 a0_1 a0_2 a0_3 a0_4 a0_5 a0_6 l0_7 t115 t116 t117 t118 t119 t120 t121 t122))) = some r := H
 have A9 := ak_ A90
 clear A90
 replace H := Option.bind_eq_some_iff.mp H
 obtain ⟨⟨t126, t127⟩, A100, H⟩ := H
 replace H : (if (t126 != t113) = true then (laws_FnExactSafeExpr.j0 k true a0_0 a0_1 a0_2 a0_3 a0_4 a0_5 a0_6 l0_7 t115 t116 t117 t118 t119 t120 t121 t122) else (laws_FnExactSafeExpr.j0 k (t127 != t114) a0_0 a0_1 a0_2 a0_3 a0_4 a0_5 a0_6 l0_7 t115 t116 t117 t118 t119 t120 t121 t122)) = some r := H
 have A10 := ak_ A100
 clear A100
 have HC11 := ak_ H
 clear H
 go_enter Tryd.func3, Tryd.ntmps3
 go_upto_region 8 with (first | ((with_reducible refine gate_dst (N := 1) rfl ?_); refine bx_ 1 (cs := #[.int .i64 a0_0, .int .i64 a0_1, .string a0_2, .string a0_3, .int .i64 a0_4, .int .i64 a0_5, .string a0_6, .slice A0_7 l0_7.length c0_7]) (t := 26) (h_ := ?_); intro gb101 hg w12 hbox hb; have n_ := a4_ (below_step z0_ hb) (hbox) ((gs_ w hg (below_size z0_))) ((gs_ w hg (below_size z0_))); clear HB; obtain ⟨HB, BK101, GW101, GE101⟩ := n_; clear hb hbox hg; obtain ⟨hcz13_0, hcz13_1, hcz13_2, hcz13_3, hcz13_4, hcz13_5, hcz13_6, hcz13_7, hfz13_0, hfz13_1, hfz13_2, hfz13_3, hfz13_4, hfz13_5, hfz13_6, hfz13_7⟩ := bcf8 BK101.out) | ((with_reducible refine gate_callee (f := 7) rfl ?_); refine goesL_ (some 11) rfl rfl Tryd.func7 (by kernel_rfl) rfl #[.agg #[.int .i64 a0_0, .int .i64 a0_1, .string a0_2, .string a0_3, .int .i64 a0_4, .int .i64 a0_5, .string a0_6, .slice A0_7 l0_7.length c0_7], .int .i64 1048576] rfl z4_ ?_; (with_reducible refine (laws_szTree.calls k a0_0 a0_1 a0_2 a0_3 a0_4 a0_5 a0_6 _ _ l0_7 1048576 t102 _ ?side1 ?side2 A2.out).mono ?_); (case side1 => exact cz_ ((Kd.C_below HR0_7.out HB.out))); (case side2 => exact HC0_7.out); rintro e w14 ⟨rfl, hb⟩; refine ⟨_, rfl, ?_⟩; have n_ := a2_ (blk_below (g := gb101) (o := .cells #[.int .i64 a0_0, .int .i64 a0_1, .string a0_2, .string a0_3, .int .i64 a0_4, .int .i64 a0_5, .string a0_6, .slice A0_7 l0_7.length c0_7] 26 (0, 0)) z2_ hb) (below_step z1_ hb); clear BK101 HB; obtain ⟨BK101, HB⟩ := n_; (try clear hb); (try clear hb2); (try clear hk); (try clear hi); obtain ⟨hcz15_0, hcz15_1, hcz15_2, hcz15_3, hcz15_4, hcz15_5, hcz15_6, hcz15_7, hfz15_0, hfz15_1, hfz15_2, hfz15_3, hfz15_4, hfz15_5, hfz15_6, hfz15_7⟩ := bcf8 BK101.out) | ((with_reducible refine gate_callee (f := 9) rfl ?_); refine goesL_ (some 16) rfl rfl Tryd.func9 (by kernel_rfl) rfl #[.agg #[.int .i64 a0_0, .int .i64 a0_1, .string a0_2, .string a0_3, .int .i64 a0_4, .int .i64 a0_5, .string a0_6, .slice A0_7 l0_7.length c0_7]] rfl z4_ ?_; (with_reducible refine (laws_toTree.calls k a0_0 a0_1 a0_2 a0_3 a0_4 a0_5 a0_6 _ _ l0_7 t103 t104 t105 t106 t107 t108 t109 t110 _ ?side1 ?side2 A7.out).mono ?_); (case side1 => exact cz_ ((Kd.C_below HR0_7.out HB.out))); (case side2 => exact HC0_7.out); rintro e w16 ⟨v111, rfl, ho0, hb⟩; refine ⟨_, rfl, ?_⟩; have n_ := a3_ (Kd.R_lower ho0 (below_size z1_)) (blk_below (g := gb101) (o := .cells #[.int .i64 a0_0, .int .i64 a0_1, .string a0_2, .string a0_3, .int .i64 a0_4, .int .i64 a0_5, .string a0_6, .slice A0_7 l0_7.length c0_7] 26 (0, 0)) z2_ hb) (below_step z1_ hb); clear BK101 HB; obtain ⟨HO112, BK101, HB⟩ := n_; (try clear hb); (try clear hb2); (try clear hk); (try clear hi); (try clear ho0); obtain ⟨Ao17, co17, eo17⟩ := Kd.R_slice HO112.out; subst eo17) | ((with_reducible refine gate_callee (f := 8) rfl ?_); refine goesL_ (some 17) rfl rfl Tryd.func8 (by kernel_rfl) rfl #[.agg #[.int .i64 t103, .int .i64 t104, .string t105, .string t106, .int .i64 t107, .int .i64 t108, .string t109, .slice Ao17 t110.length co17]] rfl z4_ ?_; (with_reducible refine (spec_SafeExpr.calls k t103 t104 t105 t106 t107 t108 t109 _ _ t110 t113 t114 _ ?side1 ?side2 A8.out).mono ?_); (case side1 => exact cz_ ((Kd.R_reads' HO112.out).2.2)); (case side2 => exact (Kd.R_reads' HO112.out).2.1); rintro e w18 ⟨rfl, hb⟩; refine ⟨_, rfl, ?_⟩; have n_ := a3_ (Kd.R_below z25_ hb) (blk_below (g := gb101) (o := .cells #[.int .i64 a0_0, .int .i64 a0_1, .string a0_2, .string a0_3, .int .i64 a0_4, .int .i64 a0_5, .string a0_6, .slice A0_7 l0_7.length c0_7] 26 (0, 0)) z2_ hb) (below_step z1_ hb); clear HO112 BK101 HB; obtain ⟨HO112, BK101, HB⟩ := n_; (try clear hb); (try clear hb2); (try clear hk); (try clear hi); obtain ⟨hcz19_0, hcz19_1, hcz19_2, hcz19_3, hcz19_4, hcz19_5, hcz19_6, hcz19_7, hfz19_0, hfz19_1, hfz19_2, hfz19_3, hfz19_4, hfz19_5, hfz19_6, hfz19_7⟩ := bcf8 BK101.out) | ((with_reducible refine gate_callee (f := 9) rfl ?_); refine goesL_ (some 21) rfl rfl Tryd.func9 (by kernel_rfl) rfl #[.agg #[.int .i64 a0_0, .int .i64 a0_1, .string a0_2, .string a0_3, .int .i64 a0_4, .int .i64 a0_5, .string a0_6, .slice A0_7 l0_7.length c0_7]] rfl z4_ ?_; (with_reducible refine (laws_toTree.calls k a0_0 a0_1 a0_2 a0_3 a0_4 a0_5 a0_6 _ _ l0_7 t115 t116 t117 t118 t119 t120 t121 t122 _ ?side1 ?side2 A9.out).mono ?_); (case side1 => exact cz_ ((Kd.C_below HR0_7.out HB.out))); (case side2 => exact HC0_7.out); rintro e w20 ⟨v123, rfl, ho0, hb⟩; refine ⟨_, rfl, ?_⟩; have n_ := a4_ (Kd.R_elder' z25_ (Kd.R_base ho0) hb) (Kd.R_lower (Kd.R_new' ho0 (Kd.R_lt z25_)) (below_size z1_)) (blk_below (g := gb101) (o := .cells #[.int .i64 a0_0, .int .i64 a0_1, .string a0_2, .string a0_3, .int .i64 a0_4, .int .i64 a0_5, .string a0_6, .slice A0_7 l0_7.length c0_7] 26 (0, 0)) z2_ hb) (below_step z1_ hb); clear HO112 BK101 HB; obtain ⟨HO112, HO124, BK101, HB⟩ := n_; (try clear hb); (try clear hb2); (try clear hk); (try clear hi); (try clear ho0)) | ((with_reducible refine gate_dst (N := 6) rfl ?_); refine bx_ 6 (cs := #[.int .i64 0, .int .i64 0, .string (⟨#[]⟩ : ByteArray), .string (⟨#[]⟩ : ByteArray), .int .i64 0, .int .i64 0, .string (⟨#[]⟩ : ByteArray), .slice none 0 0]) (t := 33) (h_ := ?_); intro gb125 hg w21 hbox hb; have n_ := a9_ (Kd.R_below (Kd.R_elderB z25_ gb125 (Nat.le_of_eq hg.symm)) hb) (Kd.R_below (Kd.R_elderB (by (with_reducible repeat (first | apply Kd.R_alloc | apply Kd.R_drewN | apply Kd.R_drew)); exact HO124.out) gb125 (Nat.le_of_eq hg.symm)) hb) (blk_below (g := gb101) (o := .cells #[.int .i64 a0_0, .int .i64 a0_1, .string a0_2, .string a0_3, .int .i64 a0_4, .int .i64 a0_5, .string a0_6, .slice A0_7 l0_7.length c0_7] 26 (0, 0)) z2_ hb) (below_step z1_ hb) (hbox) ((gs_ w hg (below_size z1_))) ((gs_ w hg (below_size z1_))) ((z22_ : gb101 ≠ gb125)) ((z23_ : gb125 ≠ gb101)); clear HO112 HO124 BK101 HB; obtain ⟨HO112, HO124, BK101, HB, BK125, GW125, GE125, NB101_125, NB125_101⟩ := n_; clear hb hbox hg; have hnb22 := NB125_101.out; have hnc22 := NB101_125.out; obtain ⟨hcz23_0, hcz23_1, hcz23_2, hcz23_3, hcz23_4, hcz23_5, hcz23_6, hcz23_7, hfz23_0, hfz23_1, hfz23_2, hfz23_3, hfz23_4, hfz23_5, hfz23_6, hfz23_7⟩ := bcf8 BK125.out; obtain ⟨Ao24, co24, eo24⟩ := Kd.R_slice HO124.out; subst eo24) | ((with_reducible refine gate_callee (f := 10) rfl ?_); refine goesL_ (some 24) rfl rfl Tryd.func10 (by kernel_rfl) rfl #[.agg #[.int .i64 t115, .int .i64 t116, .string t117, .string t118, .int .i64 t119, .int .i64 t120, .string t121, .slice Ao24 t122.length co24]] rfl z4_ ?_; (with_reducible refine (impl_SafeExpr.calls k t115 t116 t117 t118 t119 t120 t121 _ _ t122 t126 t127 _ ?side1 ?side2 A10.out).mono ?_); (case side1 => refine (Kd.R_reads' (e := 33) (base := w.heap.size) (ok := fun k_ => ((True ∧ some k_ ≠ (.slice Ao17 t110.length co17 : Value).ownBlock) ∧ k_ ≠ gb125)) (n := t122.length) (c := co24) ?_).2.2; exact z16_); (case side2 => exact (Kd.R_reads' HO124.out).2.1); rintro e w25 ⟨rfl, hb⟩; refine ⟨_, rfl, ?_⟩; have n_ := a5_ (Kd.R_below (by (with_reducible repeat (first | apply Kd.R_alloc | apply Kd.R_drewN | apply Kd.R_drew)); exact (Kd.R_mono (Kd.R_far (p := ⟨gb125, 7, none⟩) (Kd.R_far (p := ⟨gb125, 6, none⟩) (Kd.R_far (p := ⟨gb125, 5, none⟩) (Kd.R_far (p := ⟨gb125, 4, none⟩) (Kd.R_far (p := ⟨gb125, 3, none⟩) (Kd.R_far (p := ⟨gb125, 2, none⟩) (Kd.R_far (p := ⟨gb125, 1, none⟩) (Kd.R_far (p := ⟨gb125, 0, none⟩) (Kd.R_mono HO112.out (fun k_ hk => (⟨hk, hk.2⟩ : _ ∧ k_ ≠ gb125))) (fun _ hk => hk.2) (.int .i64 t115)) (fun _ hk => hk.2) (.int .i64 t116)) (fun _ hk => hk.2) (.string t117)) (fun _ hk => hk.2) (.string t118)) (fun _ hk => hk.2) (.int .i64 t119)) (fun _ hk => hk.2) (.int .i64 t120)) (fun _ hk => hk.2) (.string t121)) (fun _ hk => hk.2) (.slice Ao24 t122.length co24)) (fun _ h_ => h_.1))) hb) (Kd.R_below z16_ hb) (blk_below (g := gb101) (o := .cells #[.int .i64 a0_0, .int .i64 a0_1, .string a0_2, .string a0_3, .int .i64 a0_4, .int .i64 a0_5, .string a0_6, .slice A0_7 l0_7.length c0_7] 26 (0, 0)) (by (with_reducible repeat (first | refine blk_drewN ?_ _ | refine blk_drew ?_ | refine blk_alloc ?_ _)); refine blk_far ?_ NB101_125.out _; (with_reducible repeat (first | refine blk_drewN ?_ _ | refine blk_drew ?_ | refine blk_alloc ?_ _)); refine blk_far ?_ NB101_125.out _; (with_reducible repeat (first | refine blk_drewN ?_ _ | refine blk_drew ?_ | refine blk_alloc ?_ _)); refine blk_far ?_ NB101_125.out _; (with_reducible repeat (first | refine blk_drewN ?_ _ | refine blk_drew ?_ | refine blk_alloc ?_ _)); refine blk_far ?_ NB101_125.out _; (with_reducible repeat (first | refine blk_drewN ?_ _ | refine blk_drew ?_ | refine blk_alloc ?_ _)); refine blk_far ?_ NB101_125.out _; (with_reducible repeat (first | refine blk_drewN ?_ _ | refine blk_drew ?_ | refine blk_alloc ?_ _)); refine blk_far ?_ NB101_125.out _; (with_reducible repeat (first | refine blk_drewN ?_ _ | refine blk_drew ?_ | refine blk_alloc ?_ _)); refine blk_far ?_ NB101_125.out _; (with_reducible repeat (first | refine blk_drewN ?_ _ | refine blk_drew ?_ | refine blk_alloc ?_ _)); refine blk_far ?_ NB101_125.out _; (with_reducible repeat (first | refine blk_drewN ?_ _ | refine blk_drew ?_ | refine blk_alloc ?_ _)); exact BK101.out) hb) (blk_below (g := gb125) (o := .cells #[.int .i64 t115, .int .i64 t116, .string t117, .string t118, .int .i64 t119, .int .i64 t120, .string t121, .slice Ao24 t122.length co24] 33 (0, 0)) (by (with_reducible repeat (first | refine blk_drewN ?_ _ | refine blk_drew ?_ | refine blk_alloc ?_ _)); refine blk_put (cs := #[.int .i64 t115, .int .i64 t116, .string t117, .string t118, .int .i64 t119, .int .i64 t120, .string t121, .slice none 0 0]) ?_ 7 _ rfl; (with_reducible repeat (first | refine blk_drewN ?_ _ | refine blk_drew ?_ | refine blk_alloc ?_ _)); refine blk_put (cs := #[.int .i64 t115, .int .i64 t116, .string t117, .string t118, .int .i64 t119, .int .i64 t120, .string (⟨#[]⟩ : ByteArray), .slice none 0 0]) ?_ 6 _ rfl; (with_reducible repeat (first | refine blk_drewN ?_ _ | refine blk_drew ?_ | refine blk_alloc ?_ _)); refine blk_put (cs := #[.int .i64 t115, .int .i64 t116, .string t117, .string t118, .int .i64 t119, .int .i64 0, .string (⟨#[]⟩ : ByteArray), .slice none 0 0]) ?_ 5 _ rfl; (with_reducible repeat (first | refine blk_drewN ?_ _ | refine blk_drew ?_ | refine blk_alloc ?_ _)); refine blk_put (cs := #[.int .i64 t115, .int .i64 t116, .string t117, .string t118, .int .i64 0, .int .i64 0, .string (⟨#[]⟩ : ByteArray), .slice none 0 0]) ?_ 4 _ rfl; (with_reducible repeat (first | refine blk_drewN ?_ _ | refine blk_drew ?_ | refine blk_alloc ?_ _)); refine blk_put (cs := #[.int .i64 t115, .int .i64 t116, .string t117, .string (⟨#[]⟩ : ByteArray), .int .i64 0, .int .i64 0, .string (⟨#[]⟩ : ByteArray), .slice none 0 0]) ?_ 3 _ rfl; (with_reducible repeat (first | refine blk_drewN ?_ _ | refine blk_drew ?_ | refine blk_alloc ?_ _)); refine blk_put (cs := #[.int .i64 t115, .int .i64 t116, .string (⟨#[]⟩ : ByteArray), .string (⟨#[]⟩ : ByteArray), .int .i64 0, .int .i64 0, .string (⟨#[]⟩ : ByteArray), .slice none 0 0]) ?_ 2 _ rfl; (with_reducible repeat (first | refine blk_drewN ?_ _ | refine blk_drew ?_ | refine blk_alloc ?_ _)); refine blk_put (cs := #[.int .i64 t115, .int .i64 0, .string (⟨#[]⟩ : ByteArray), .string (⟨#[]⟩ : ByteArray), .int .i64 0, .int .i64 0, .string (⟨#[]⟩ : ByteArray), .slice none 0 0]) ?_ 1 _ rfl; (with_reducible repeat (first | refine blk_drewN ?_ _ | refine blk_drew ?_ | refine blk_alloc ?_ _)); refine blk_put (cs := #[.int .i64 0, .int .i64 0, .string (⟨#[]⟩ : ByteArray), .string (⟨#[]⟩ : ByteArray), .int .i64 0, .int .i64 0, .string (⟨#[]⟩ : ByteArray), .slice none 0 0]) ?_ 0 _ rfl; (with_reducible repeat (first | refine blk_drewN ?_ _ | refine blk_drew ?_ | refine blk_alloc ?_ _)); exact BK125.out) hb) (below_step z15_ hb); clear HO112 HO124 BK101 BK125 HB; obtain ⟨HO112, HO124, BK101, BK125, HB⟩ := n_; (try clear hb); (try clear hb2); (try clear hk); (try clear hi)))
 (try simp only [Act.put, sz1_, sz2_, sz3_])
 go_cut [34] (fun v34 wc => ∃ (kq : Nat) (x34_10 : Bool), v34 = .bool x34_10 ∧ Aside0 (laws_FnExactSafeExpr.j0 kq x34_10 a0_0 a0_1 a0_2 a0_3 a0_4 a0_5 a0_6 l0_7 t115 t116 t117 t118 t119 t120 t121 t122 = some r) ∧ Aside0 (kq ≤ k) ∧ Aside0 (Kd.R k33 33 wc w.heap.size (fun k_ => k_ ≠ gb125) (.slice Ao24 t122.length co24) t122) ∧ Aside0 (wc.heap[gb101]? = some (.cells #[.int .i64 a0_0, .int .i64 a0_1, .string a0_2, .string a0_3, .int .i64 a0_4, .int .i64 a0_5, .string a0_6, (.slice A0_7 l0_7.length c0_7)] 26 (0, 0))) ∧ Aside0 (wc.heap[gb125]? = some (.cells #[.int .i64 t115, .int .i64 t116, .string t117, .string t118, .int .i64 t119, .int .i64 t120, .string t121, (.slice Ao24 t122.length co24)] 33 (0, 0))) ∧ Aside0 (Below w.heap.size w wc))
 case first =>
  have H := HC11.out
  clear HC11
  by_cases c26 : (t126 != t113) = true
  rotate_left
  ·rw [if_neg c26] at H
   have c26b0 : (t126 != t113) = false := by simpa using c26
   (try (have c26b1 : decide (t126 = t113) = true := by simpa using c26))
   (try (have c26b2 : (t126 == t113) = true := by simpa using c26))
   clear c26
   (first | rw [c26b0] | (simp only [i64_w, i32_w]; rw [c26b0]) | skip)
   have H' := ak_ H
   clear H
   go_wp2
   go_meet
   case rel => exact ⟨_, ((t127 != t114)), z11_, H', ⟨by first | omega | exact Nat.le_refl _⟩, ⟨by (with_reducible repeat (first | apply Kd.R_alloc | apply Kd.R_drewN | apply Kd.R_drew)); exact Kd.R_mono HO124.out (fun _ hk => hk.2)⟩, ⟨z2_⟩, ⟨z20_⟩, ⟨z15_⟩⟩
  rw [if_pos c26] at H
  have c26b0 : (t126 != t113) = true := c26
  (try (have c26b1 : decide (t126 = t113) = false := by simpa using c26))
  (try (have c26b2 : (t126 == t113) = false := by simpa using c26))
  (try (have c26b3 : ¬ (t126 = t113) := by simpa using c26))
  clear c26
  (first | rw [c26b0] | (simp only [i64_w, i32_w]; rw [c26b0]) | skip)
  have H' := ak_ H
  clear H
  go_wp2
  go_meet
  case rel => exact ⟨_, (true), z11_, H', ⟨by first | omega | exact Nat.le_refl _⟩, ⟨by (with_reducible repeat (first | apply Kd.R_alloc | apply Kd.R_drewN | apply Kd.R_drew)); exact Kd.R_mono HO124.out (fun _ hk => hk.2)⟩, ⟨z2_⟩, ⟨z20_⟩, ⟨z15_⟩⟩
 case rest =>
  clear HC11
  try clear c1
  try clear c2
  try clear p2
  try clear c3
  try clear c3b0
  try clear c7
  try clear c8
  try clear c9
  try clear c10
  try clear c22
  try clear c26
  try clear c26b0
  try clear c26b1
  try clear c26b2
  try clear hcz13_0
  try clear hcz13_1
  try clear hcz13_2
  try clear hcz13_3
  try clear hcz13_4
  try clear hcz13_5
  try clear hcz13_6
  try clear hcz13_7
  try clear hcz15_0
  try clear hcz15_1
  try clear hcz15_2
  try clear hcz15_3
  try clear hcz15_4
  try clear hcz15_5
  try clear hcz15_6
  try clear hcz15_7
  try clear hcz19_0
  try clear hcz19_1
  try clear hcz19_2
  try clear hcz19_3
  try clear hcz19_4
  try clear hcz19_5
  try clear hcz19_6
  try clear hcz19_7
  try clear hcz23_0
  try clear hcz23_1
  try clear hcz23_2
  try clear hcz23_3
  try clear hcz23_4
  try clear hcz23_5
  try clear hcz23_6
  try clear hcz23_7
  try clear hcz5_0
  try clear hcz5_1
  try clear hcz5_2
  try clear hcz5_3
  try clear hcz5_4
  try clear hcz5_5
  try clear hcz5_6
  try clear hcz5_7
  try clear hfz13_0
  try clear hfz13_1
  try clear hfz13_2
  try clear hfz13_3
  try clear hfz13_4
  try clear hfz13_5
  try clear hfz13_6
  try clear hfz13_7
  try clear hfz15_0
  try clear hfz15_1
  try clear hfz15_2
  try clear hfz15_3
  try clear hfz15_4
  try clear hfz15_5
  try clear hfz15_6
  try clear hfz15_7
  try clear hfz19_0
  try clear hfz19_1
  try clear hfz19_2
  try clear hfz19_3
  try clear hfz19_4
  try clear hfz19_5
  try clear hfz19_6
  try clear hfz19_7
  try clear hfz23_0
  try clear hfz23_1
  try clear hfz23_2
  try clear hfz23_3
  try clear hfz23_4
  try clear hfz23_5
  try clear hfz23_6
  try clear hfz23_7
  try clear hfz5_0
  try clear hfz5_1
  try clear hfz5_2
  try clear hfz5_3
  try clear hfz5_4
  try clear hfz5_5
  try clear hfz5_6
  try clear hfz5_7
  obtain ⟨kq, x34_10, rfl, HA, HJ10, HO_126007, BK101, BK125, HB⟩ := hcut
  cases kq with
  | zero => exact absurd HA.out (by simp [laws_FnExactSafeExpr.j0])
  | succ kj10 =>
   have H := HA.out
   clear HA
   simp only [laws_FnExactSafeExpr.j0] at H
   by_cases c27 : x34_10 = true
   ·subst c27
    have H1 : (none) = some r := by rw [if_pos rfl] at H; exact H
    clear H
    have H := H1
    clear H1
    exact absurd H (by simp)
   replace c27 := Bool.eq_false_iff.mpr c27
   subst c27
   have H1 : ((laws_toTree.f kj10 a0_0 a0_1 a0_2 a0_3 a0_4 a0_5 a0_6 l0_7).bind fun bt128 => ((laws_eqTree.f kj10 t115 t116 t117 t118 t119 t120 t121 t122 bt128.1 bt128.2.1 bt128.2.2.1 bt128.2.2.2.1 bt128.2.2.2.2.1 bt128.2.2.2.2.2.1 bt128.2.2.2.2.2.2.1 bt128.2.2.2.2.2.2.2).bind fun t138 => (if t138 = true then (some true) else (none)))) = some r := by rw [if_neg (show ¬ (false = true) by decide)] at H; exact H
   clear H
   have H := H1
   clear H1
   replace H := Option.bind_eq_some_iff.mp H
   obtain ⟨⟨t128, t129, t130, t131, t132, t133, t134, t135⟩, A280, H⟩ := H
   replace H : ((laws_eqTree.f kj10 t115 t116 t117 t118 t119 t120 t121 t122 t128 t129 t130 t131 t132 t133 t134 t135).bind fun t138 => (if t138 = true then (some true) else (none))) = some r := H
   have A28 := ak_ A280
   clear A280
   replace H := Option.bind_eq_some_iff.mp H
   obtain ⟨t138, A290, H⟩ := H
   have A29 := ak_ A290
   clear A290
   by_cases c30 : t138 = true
   rotate_left
   ·replace c30 := Bool.eq_false_iff.mpr c30
    subst c30
    have H1 : (none) = some r := by rw [if_neg (show ¬ (false = true) by decide)] at H; exact H
    clear H
    have H := H1
    clear H1
    exact absurd H (by simp)

   subst c30
   have H1 : (some true) = some r := by rw [if_pos rfl] at H; exact H
   clear H
   have H := H1
   clear H1
   obtain rfl := Option.some.inj H
   try go_wp2
   have n_ := a4_ (Kd.R_drew HO_126007.out) (blk_drew BK101.out) (blk_drew BK125.out) (below_drew1 HB.out)
   clear HO_126007 BK101 BK125 HB
   obtain ⟨HO_126007, BK101, BK125, HB⟩ := n_
   refine start_ (n := 5) (S := fun w' => w'.cell? ⟨gb125, 0, none⟩ = some (.int .i64 t115) ∧ w'.cell? ⟨gb125, 1, none⟩ = some (.int .i64 t116) ∧ w'.cell? ⟨gb125, 2, none⟩ = some (.string t117) ∧ w'.cell? ⟨gb125, 3, none⟩ = some (.string t118) ∧ w'.cell? ⟨gb125, 4, none⟩ = some (.int .i64 t119) ∧ w'.cell? ⟨gb125, 5, none⟩ = some (.int .i64 t120) ∧ w'.cell? ⟨gb125, 6, none⟩ = some (.string t121) ∧ w'.cell? ⟨gb125, 7, none⟩ = some (.slice Ao24 t122.length co24) ∧ w'.cell? ⟨gb101, 0, none⟩ = some (.int .i64 a0_0) ∧ w'.cell? ⟨gb101, 1, none⟩ = some (.int .i64 a0_1) ∧ w'.cell? ⟨gb101, 2, none⟩ = some (.string a0_2) ∧ w'.cell? ⟨gb101, 3, none⟩ = some (.string a0_3) ∧ w'.cell? ⟨gb101, 4, none⟩ = some (.int .i64 a0_4) ∧ w'.cell? ⟨gb101, 5, none⟩ = some (.int .i64 a0_5) ∧ w'.cell? ⟨gb101, 6, none⟩ = some (.string a0_6) ∧ w'.cell? ⟨gb101, 7, none⟩ = some (.slice A0_7 l0_7.length c0_7)) (ds := []) #[false, false, false, false, false] (by kernel_rfl) rfl rfl ⟨(blk_cell BK125.out 0).trans rfl, (blk_cell BK125.out 1).trans rfl, (blk_cell BK125.out 2).trans rfl, (blk_cell BK125.out 3).trans rfl, (blk_cell BK125.out 4).trans rfl, (blk_cell BK125.out 5).trans rfl, (blk_cell BK125.out 6).trans rfl, (blk_cell BK125.out 7).trans rfl, (blk_cell BK101.out 0).trans rfl, (blk_cell BK101.out 1).trans rfl, (blk_cell BK101.out 2).trans rfl, (blk_cell BK101.out 3).trans rfl, (blk_cell BK101.out 4).trans rfl, (blk_cell BK101.out 5).trans rfl, (blk_cell BK101.out 6).trans rfl, (blk_cell BK101.out 7).trans rfl⟩ (fun hHeld => ?_)
   generalize wc.drew = w31 at HO_126007 BK101 BK125 HB hHeld ⊢
   refine take_ (i := 0) (N := some 35) (v := ?_) (a' := ?_) #[true, false, false, false, false] rfl rfl (by kernel_rfl) (fun _ _ _ h => h) (Or.inl ⟨by rfl, ?_⟩) hHeld ?_ ?_
   rotate_left
   ·rintro w' ⟨s0, s1, s2, s3, s4, s5, s6, s7, s8, s9, s10, s11, s12, s13, s14, s15⟩
    go_simp
    with_reducible rfl
   rotate_left
   ·simp only [Act.put, sz1_, sz2_, sz3_, i64_w, i32_w]
    rfl
   refine take_ (i := 1) (N := some 36) (v := ?_) (a' := ?_) #[true, true, false, false, false] rfl rfl (by kernel_rfl) (fun _ _ _ h => h) (Or.inl ⟨by rfl, ?_⟩) hHeld ?_ ?_
   rotate_left
   ·rintro w' ⟨s0, s1, s2, s3, s4, s5, s6, s7, s8, s9, s10, s11, s12, s13, s14, s15⟩
    go_simp
    with_reducible rfl
   rotate_left
   ·simp only [Act.put, sz1_, sz2_, sz3_, i64_w, i32_w]
    rfl
   refine one_ (i := 2) (N := some 37) #[true, true, true, false, false] rfl rfl (by kernel_rfl) (by decide) (fun K hK => ?_)
   refine goes_ Tryd.func9 (by kernel_rfl) rfl #[.agg #[.int .i64 a0_0, .int .i64 a0_1, .string a0_2, .string a0_3, .int .i64 a0_4, .int .i64 a0_5, .string a0_6, .slice A0_7 l0_7.length c0_7]] (by rfl) rfl rfl z4_ ?_
   with_reducible refine (laws_toTree.calls kj10 a0_0 a0_1 a0_2 a0_3 a0_4 a0_5 a0_6 _ _ l0_7 t128 t129 t130 t131 t132 t133 t134 t135 _ ?side1 ?side2 A28.out).mono ?_
   (case side1 => exact cz_ ((Kd.C_below HR0_7.out HB.out)))
   (case side2 => exact HC0_7.out)
   rintro e w32 ⟨v136, rfl, ho0, hb⟩
   refine ⟨_, rfl, ?_⟩
   have n_ := a5_ (Kd.R_elder' z31_ (Kd.R_base ho0) hb) (Kd.R_lower (Kd.R_newB (Kd.R_new' ho0 (Kd.R_lt z31_)) (g := gb125) (o := .cells #[.int .i64 t115, .int .i64 t116, .string t117, .string t118, .int .i64 t119, .int .i64 t120, .string t121, .slice Ao24 t122.length co24] 33 (0, 0)) z20_) (below_size z15_)) (blk_below (g := gb101) (o := .cells #[.int .i64 a0_0, .int .i64 a0_1, .string a0_2, .string a0_3, .int .i64 a0_4, .int .i64 a0_5, .string a0_6, .slice A0_7 l0_7.length c0_7] 26 (0, 0)) z2_ hb) (blk_below (g := gb125) (o := .cells #[.int .i64 t115, .int .i64 t116, .string t117, .string t118, .int .i64 t119, .int .i64 t120, .string t121, .slice Ao24 t122.length co24] 33 (0, 0)) z20_ hb) (below_step z15_ hb)
   clear HO_126007 BK101 BK125 HB
   obtain ⟨HO_126007, HO137, BK101, BK125, HB⟩ := n_
   (try clear hb)
   (try clear hb2)
   (try clear hk)
   (try clear hi)
   (try clear ho0)
   obtain ⟨Ao33, co33, eo33⟩ := Kd.R_slice HO137.out
   (first | subst eo33 | (injection eo33 with f1_ f2_ f3_; have f4_ := f1_.symm; have f5_ := f3_.symm; clear f1_ f2_ f3_; subst f4_; subst f5_))
   refine hK.out _ _ ⟨(blk_cell BK125.out 0).trans rfl, (blk_cell BK125.out 1).trans rfl, (blk_cell BK125.out 2).trans rfl, (blk_cell BK125.out 3).trans rfl, (blk_cell BK125.out 4).trans rfl, (blk_cell BK125.out 5).trans rfl, (blk_cell BK125.out 6).trans rfl, (blk_cell BK125.out 7).trans rfl, (blk_cell BK101.out 0).trans rfl, (blk_cell BK101.out 1).trans rfl, (blk_cell BK101.out 2).trans rfl, (blk_cell BK101.out 3).trans rfl, (blk_cell BK101.out 4).trans rfl, (blk_cell BK101.out 5).trans rfl, (blk_cell BK101.out 6).trans rfl, (blk_cell BK101.out 7).trans rfl⟩ (fun hHeld => ?_)
   clear hK K
   refine norm_ (a' := ?_) ?_ ?_
   rotate_left
   ·show Act.put _ (some 37) _ = _
    simp only [Act.put, sz1_, sz2_, sz3_, i64_w, i32_w]
    rfl
   refine one_ (i := 3) (N := some 38) #[true, true, true, true, false] rfl rfl (by kernel_rfl) (by decide) (fun K hK => ?_)
   refine goes_ Tryd.func11 (by kernel_rfl) rfl #[.agg #[.int .i64 t115, .int .i64 t116, .string t117, .string t118, .int .i64 t119, .int .i64 t120, .string t121, .slice Ao24 t122.length co24], .agg #[.int .i64 t128, .int .i64 t129, .string t130, .string t131, .int .i64 t132, .int .i64 t133, .string t134, .slice Ao33 t135.length co33]] (by rfl) rfl rfl z4_ ?_
   with_reducible refine (laws_eqTree.calls kj10 t115 t116 t117 t118 t119 t120 t121 _ _ t122 t128 t129 t130 t131 t132 t133 t134 _ _ t135 true _ ?side1 ?side2 ?side3 ?side4 A29.out).mono ?_
   (case side1 => exact cz_ ((Kd.R_reads' HO_126007.out).2.2))
   (case side2 => exact (Kd.R_reads' HO_126007.out).2.1)
   (case side3 => exact cz_ ((Kd.R_reads' HO137.out).2.2))
   (case side4 => exact (Kd.R_reads' HO137.out).2.1)
   rintro e w34 ⟨rfl, hb⟩
   refine ⟨_, rfl, ?_⟩
   have n_ := a5_ (Kd.R_below z31_ hb) (Kd.R_below (by (with_reducible repeat (first | apply Kd.R_alloc | apply Kd.R_drewN | apply Kd.R_drew)); exact HO137.out) hb) (blk_below (g := gb101) (o := .cells #[.int .i64 a0_0, .int .i64 a0_1, .string a0_2, .string a0_3, .int .i64 a0_4, .int .i64 a0_5, .string a0_6, .slice A0_7 l0_7.length c0_7] 26 (0, 0)) z2_ hb) (blk_below (g := gb125) (o := .cells #[.int .i64 t115, .int .i64 t116, .string t117, .string t118, .int .i64 t119, .int .i64 t120, .string t121, .slice Ao24 t122.length co24] 33 (0, 0)) z20_ hb) (below_step z15_ hb)
   clear HO_126007 HO137 BK101 BK125 HB
   obtain ⟨HO_126007, HO137, BK101, BK125, HB⟩ := n_
   (try clear hb)
   (try clear hb2)
   (try clear hk)
   (try clear hi)
   refine hK.out _ _ ⟨(blk_cell BK125.out 0).trans rfl, (blk_cell BK125.out 1).trans rfl, (blk_cell BK125.out 2).trans rfl, (blk_cell BK125.out 3).trans rfl, (blk_cell BK125.out 4).trans rfl, (blk_cell BK125.out 5).trans rfl, (blk_cell BK125.out 6).trans rfl, (blk_cell BK125.out 7).trans rfl, (blk_cell BK101.out 0).trans rfl, (blk_cell BK101.out 1).trans rfl, (blk_cell BK101.out 2).trans rfl, (blk_cell BK101.out 3).trans rfl, (blk_cell BK101.out 4).trans rfl, (blk_cell BK101.out 5).trans rfl, (blk_cell BK101.out 6).trans rfl, (blk_cell BK101.out 7).trans rfl⟩ (fun hHeld => ?_)
   clear hK K
   refine norm_ (a' := ?_) ?_ ?_
   rotate_left
   ·show Act.put _ (some 38) _ = _
    simp only [Act.put, sz1_, sz2_, sz3_, i64_w, i32_w]
    rfl
   refine pure_ (i := 4) (N := some 39) (v := ?_) (a' := ?_) #[true, true, true, true, true] rfl rfl (by kernel_rfl) (fun _ _ _ h => h) (Or.inl ⟨by rfl, ?_⟩) ?_ ?_
   rotate_left
   ·intro w'
    go_simp
    with_reducible rfl
   rotate_left
   ·simp only [Act.put, sz1_, sz2_, sz3_, i64_w, i32_w]
    rfl
   refine done_ (by kernel_rfl) ?_
   try go_wp2
   go_ret
   exact ⟨z5_, z15_⟩
end

section
def laws_FnExactSafeExpr.Need : Prop := ∀ (a0_0 : Int) (a0_1 : Int) (a0_2 : ByteArray) (a0_3 : ByteArray) (a0_4 : Int) (a0_5 : Int) (a0_6 : ByteArray) (l0_7 : List (S26)), (Lit.int .i64 a0_0).wf = true → (Lit.int .i64 a0_1).wf = true → a0_2.size ≤ maxLen → a0_3.size ≤ maxLen → (Lit.int .i64 a0_4).wf = true → (Lit.int .i64 a0_5).wf = true → a0_6.size ≤ maxLen → (l0_7.length ≤ maxLen ∧ ∀ x0_ ∈ l0_7, Q26 x0_) → ∃ k, laws_FnExactSafeExpr.f k a0_0 a0_1 a0_2 a0_3 a0_4 a0_5 a0_6 l0_7 = some true
end

end Go.Proofs.YtnpgnjehndgofaaDoor.X
end

section
/- Small facts on numbers and texts. -/
namespace Go.Proofs.YtnpgnjehndgofaaDoor.Pure
open Go.RowKit Go.Proofs.YtnpgnjehndgofaaDoor.X Go.Proofs.YtnpgnjehndgofaaDoorW.PrintWords Go.Proofs.YtnpgnjehndgofaaDoorW.PrintLast
theorem wrap_in (a : Int) (ha : -9223372036854775808 ≤ a ∧ a ≤ 9223372036854775807) : wrap64 a = a := by unfold wrap64; omega
theorem toList_eq (s : ByteArray) : s.toList = s.data.toList := ByteArray.toList_eq s
theorem toList_mk (l : List UInt8) : (⟨⟨l⟩⟩ : ByteArray).toList = l := by rw [toList_eq]
theorem length_toList (s : ByteArray) : s.toList.length = s.size := by rw [toList_eq]; rfl
theorem next64 (i n : Nat) (h : i < n) (hn : n ≤ maxLen) : wrap64 ((i : Int) + 1) = ((i + 1 : Nat) : Int) := by simp only [maxLen] at hn; unfold wrap64; omega
end Go.Proofs.YtnpgnjehndgofaaDoor.Pure
end

section
/- What Contains and Index over texts tell. -/
namespace Go.Proofs.YtnpgnjehndgofaaDoor.Pure
open Go.RowKit Go.Proofs.YtnpgnjehndgofaaDoor.X Go.Proofs.YtnpgnjehndgofaaDoorW.PrintWords Go.Proofs.YtnpgnjehndgofaaDoorW.PrintLast
theorem index_loop (l : List ByteArray) (x : ByteArray) (hl : l.length ≤ 9223372036854775807) (d : Nat) : ∀ (k i : Nat), l.length - i = d → i ≤ l.length → d < k →
    slices_Index_string_string.l0 k l x (l.length : Int) (i : Int) = some (match (l.drop i).findIdx? (fun y => x.toList == y.toList) with | some j => ((i + j : Nat) : Int) | none => -1) := by
  induction d with
  | zero =>
    intro k i hd hi hk
    obtain ⟨k, rfl⟩ : ∃ m, k = m + 1 := ⟨k - 1, by omega⟩
    simp only [slices_Index_string_string.l0]
    rw [if_neg (by omega), List.drop_of_length_le (by omega)]
    rfl
  | succ d ih =>
    intro k i hd hi hk
    obtain ⟨k, rfl⟩ : ∃ m, k = m + 1 := ⟨k - 1, by omega⟩
    have hlt : i < l.length := by omega
    simp only [slices_Index_string_string.l0]
    rw [if_pos (by omega), if_pos (by omega), if_pos (by omega), List.drop_eq_getElem_cons hlt, List.findIdx?_cons]
    have hr : rdOf ByteArray.empty l (i : Int) = l[i] := by simp [rdOf, hlt]
    rw [hr]
    by_cases c : x.toList = l[i].toList
    · have : (x.toList == l[i].toList) = true := by rw [c]; simp
      rw [if_pos c, this]; simp
    · have : (x.toList == l[i].toList) = false := by simpa using c
      rw [if_neg c, this, show wrap64 ((i : Int) + 1) = ((i + 1 : Nat) : Int) from by unfold wrap64; omega, ih k (i + 1) (by omega) (by omega) (by omega)]
      cases (l.drop (i + 1)).findIdx? (fun y => x.toList == y.toList) with
      | none => rfl
      | some j => show some (((i + 1 + j : Nat)) : Int) = some (((i + (j + 1) : Nat)) : Int); rw [show i + 1 + j = i + (j + 1) by omega]
theorem contains_is (l : List ByteArray) (x : ByteArray) (hl : l.length ≤ 9223372036854775807) (k : Nat) (hk : l.length < k) :
    slices_Contains_string_string.f k l x = some (l.any fun y => x.toList == y.toList) := by
  unfold slices_Contains_string_string.f slices_Index_string_string.f
  rw [show (0 : Int) = ((0 : Nat) : Int) from rfl, index_loop l x hl l.length k 0 (by omega) (by omega) hk, List.drop_zero]
  simp only [Option.bind_some, Option.some.injEq]
  have := fIdx_any (fun y => x.toList == y.toList) l
  unfold fIdx at this
  rw [← this]
  cases l.findIdx? (fun y => x.toList == y.toList) <;> simp
end Go.Proofs.YtnpgnjehndgofaaDoor.Pure
end

section
/- Right values: the program and the reference tell the same. -/
namespace Go.Proofs.YtnpgnjehndgofaaDoor.Pure
open Go.RowKit Go.Proofs.YtnpgnjehndgofaaDoor.X Go.Proofs.YtnpgnjehndgofaaDoorW.PrintWords Go.Proofs.YtnpgnjehndgofaaDoorW.PrintLast
def vok (a b : Int) (t : ByteArray) : Bool :=
  (decide (a = 0) && decide (b = 0) && decide (t.size = 0)) || (decide (a = 1) && decide (0 ≤ b ∧ b ≤ 1) && decide (t.size = 0)) || (decide (a = 2) && decide (t.size = 0)) ||
    (decide (a = 3 ∨ a = 4) && decide (b = 0) && decide (t.size ≤ 60))
theorem nil_iff (t : ByteArray) : (t.toList == ([] : List UInt8)) = decide (t.size = 0) := by
  rw [← length_toList]
  cases t.toList <;> simp
theorem size_le (t : ByteArray) : decide ((t.size : Int) ≤ 60) = decide (t.size ≤ 60) := by rw [decide_eq_decide]; omega
theorem spec_vok (a b : Int) (t : ByteArray) : spec_ValueOK.f a b t = some (vok a b t) := by
  unfold spec_ValueOK.f spec_l01In.f
  simp only [nil_iff, size_le]
  unfold vok
  by_cases c0 : a = 0
  · subst c0; by_cases cb : b = 0 <;> simp [cb]
  by_cases c1 : a = 1
  · subst c1; by_cases cb : 0 ≤ b <;> by_cases cc : b ≤ 1 <;> simp [cb, cc]
  by_cases c2 : a = 2
  · subst c2; simp
  by_cases c3 : a = 3
  · subst c3; by_cases cb : b = 0 <;> simp [cb]
  by_cases c4 : a = 4
  · subst c4; by_cases cb : b = 0 <;> simp [cb]
  simp [c0, c1, c2, c3, c4]
theorem impl_vok (a b : Int) (t : ByteArray) : impl_ValueOK.f a b t = some (vok a b t) := by
  unfold impl_ValueOK.f impl_within.f impl_hasText.f
  simp only [nil_iff, size_le]
  unfold vok
  by_cases c0 : a = 0
  · subst c0; by_cases cb : b = 0 <;> simp [cb]
  by_cases c1 : a = 1
  · subst c1; by_cases cb : 0 ≤ b <;> by_cases cc : b ≤ 1 <;> simp [cb, cc]
  by_cases c2 : a = 2
  · subst c2; simp
  by_cases c3 : a = 3
  · subst c3; by_cases cb : b = 0 <;> simp [cb]
  by_cases c4 : a = 4
  · subst c4; by_cases cb : b = 0 <;> simp [cb]
  simp [c0, c1, c2, c3, c4]
end Go.Proofs.YtnpgnjehndgofaaDoor.Pure
end

section
/- The level of a sign. -/
namespace Go.Proofs.YtnpgnjehndgofaaDoor.Pure
open Go.RowKit Go.Proofs.YtnpgnjehndgofaaDoor.X Go.Proofs.YtnpgnjehndgofaaDoorW.PrintWords Go.Proofs.YtnpgnjehndgofaaDoorW.PrintLast
def lvl (s : List UInt8) : Int :=
  if s = [111, 114] then 1 else if s = [97, 110, 100] then 2
  else if s = [61] ∨ s = [60, 62] ∨ s = [60] ∨ s = [60, 61] ∨ s = [62] ∨ s = [62, 61] then 4
  else if s = [43] ∨ s = [45] then 5 else if s = [42] ∨ s = [47] ∨ s = [37] then 6 else 0
theorem spec_lvl (k : Nat) (hk : 2 ≤ k) (s : ByteArray) : spec_l10Level.f k s = some (lvl s.toList) := by
  obtain ⟨k, rfl⟩ : ∃ m, k = m + 2 := ⟨k - 2, by omega⟩
  unfold spec_l10Level.f lvl
  simp only [spec_l10Level.j0, spec_l10Level.j1]
  generalize s.toList = l
  by_cases c1 : l = [111, 114]
  · subst c1; first | rfl | simp
  by_cases c2 : l = [97, 110, 100]
  · subst c2; first | rfl | simp
  by_cases c3 : l = [61]
  · subst c3; first | rfl | simp
  by_cases c4 : l = [60, 62]
  · subst c4; first | rfl | simp
  by_cases c5 : l = [60]
  · subst c5; first | rfl | simp
  by_cases c6 : l = [60, 61]
  · subst c6; first | rfl | simp
  by_cases c7 : l = [62]
  · subst c7; first | rfl | simp
  by_cases c8 : l = [62, 61]
  · subst c8; first | rfl | simp
  by_cases c9 : l = [43]
  · subst c9; first | rfl | simp
  by_cases c10 : l = [45]
  · subst c10; first | rfl | simp
  by_cases c11 : l = [42]
  · subst c11; first | rfl | simp
  by_cases c12 : l = [47]
  · subst c12; first | rfl | simp
  by_cases c13 : l = [37]
  · subst c13; first | rfl | simp
  simp [c1, c2, c3, c4, c5, c6, c7, c8, c9, c10, c11, c12, c13]
theorem impl_lvl (k : Nat) (hk : 16 ≤ k) (s : ByteArray) : impl_levelOf.f k s = some (lvl s.toList) := by
  obtain ⟨k, rfl⟩ : ∃ m, k = m + 16 := ⟨k - 16, by omega⟩
  have step : ∀ (i : Int) (m : Nat) (l : List ByteArray), i < 7 → impl_operators.f i = some l → l.length ≤ 8 → 8 < m → impl_levelOf.l0 (m + 1) s i =
      if (l.any fun y => s.toList == y.toList) = true then some i else impl_levelOf.l0 m s (wrap64 (i + 1)) := by
    intro i m l hi ho hl hm
    rw [impl_levelOf.l0, if_pos hi, ho, Option.bind_some, contains_is l s (by omega) m (by omega), Option.bind_some]
  unfold impl_levelOf.f
  have e0 : impl_operators.f 0 = some [] := rfl
  have e1 : impl_operators.f 1 = some [(⟨#[111, 114]⟩ : ByteArray)] := rfl
  have e2 : impl_operators.f 2 = some [(⟨#[97, 110, 100]⟩ : ByteArray)] := rfl
  have e3 : impl_operators.f 3 = some [] := rfl
  have e4 : impl_operators.f 4 = some [(⟨#[61]⟩ : ByteArray), (⟨#[60, 62]⟩ : ByteArray), (⟨#[60]⟩ : ByteArray), (⟨#[60, 61]⟩ : ByteArray), (⟨#[62]⟩ : ByteArray), (⟨#[62, 61]⟩ : ByteArray)] := rfl
  have e5 : impl_operators.f 5 = some [(⟨#[43]⟩ : ByteArray), (⟨#[45]⟩ : ByteArray)] := rfl
  have e6 : impl_operators.f 6 = some [(⟨#[42]⟩ : ByteArray), (⟨#[47]⟩ : ByteArray), (⟨#[37]⟩ : ByteArray)] := rfl
  rw [step 0 (k + 15) _ (by decide) e0 (by decide) (by omega), show wrap64 (0 + 1) = 1 from wrap_in _ (by omega),
    step 1 (k + 14) _ (by decide) e1 (by decide) (by omega), show wrap64 (1 + 1) = 2 from wrap_in _ (by omega),
    step 2 (k + 13) _ (by decide) e2 (by decide) (by omega), show wrap64 (2 + 1) = 3 from wrap_in _ (by omega),
    step 3 (k + 12) _ (by decide) e3 (by decide) (by omega), show wrap64 (3 + 1) = 4 from wrap_in _ (by omega),
    step 4 (k + 11) _ (by decide) e4 (by decide) (by omega), show wrap64 (4 + 1) = 5 from wrap_in _ (by omega),
    step 5 (k + 10) _ (by decide) e5 (by decide) (by omega), show wrap64 (5 + 1) = 6 from wrap_in _ (by omega),
    step 6 (k + 9) _ (by decide) e6 (by decide) (by omega), show wrap64 (6 + 1) = 7 from wrap_in _ (by omega),
    impl_levelOf.l0, if_neg (show ¬ ((7 : Int) < 7) by decide)]
  simp only [List.any_cons, List.any_nil, toList_mk, Bool.or_false, Bool.or_eq_true, beq_iff_eq, Bool.false_eq_true, if_false]
  generalize s.toList = l
  unfold lvl
  by_cases c1 : l = [111, 114]
  · subst c1; first | rfl | simp
  rw [if_neg c1, if_neg c1]
  by_cases c2 : l = [97, 110, 100]
  · subst c2; first | rfl | simp
  rw [if_neg c2, if_neg c2]
  split
  · rfl
  split
  · rfl
  split <;> rfl
end Go.Proofs.YtnpgnjehndgofaaDoor.Pure
end

section
/- A value is like itself. -/
namespace Go.Proofs.YtnpgnjehndgofaaDoor.Pure
open Go.RowKit Go.Proofs.YtnpgnjehndgofaaDoor.X Go.Proofs.YtnpgnjehndgofaaDoorW.PrintWords Go.Proofs.YtnpgnjehndgofaaDoorW.PrintLast
theorem eqv_refl (a b : Int) (t : ByteArray) : laws_eqValue.f a b t a b t = some true := by unfold laws_eqValue.f; simp
end Go.Proofs.YtnpgnjehndgofaaDoor.Pure
end

section
/- Names: the program and the reference tell the same. -/
namespace Go.Proofs.YtnpgnjehndgofaaDoor.Pure
open Go.RowKit Go.Proofs.YtnpgnjehndgofaaDoor.X Go.Proofs.YtnpgnjehndgofaaDoorW.PrintWords Go.Proofs.YtnpgnjehndgofaaDoorW.PrintLast
def letter (x : Int) : Bool := decide (97 ≤ x ∧ x ≤ 122) || (decide (65 ≤ x ∧ x ≤ 90) || x == 95)
def digit (x : Int) : Bool := decide (48 ≤ x ∧ x ≤ 57)
theorem impl_letter (x : Int) : impl_isLetter.f x = some (letter x) := by
  unfold impl_isLetter.f letter
  by_cases a : 97 ≤ x <;> by_cases b : x ≤ 122 <;> by_cases c : 65 ≤ x <;> by_cases d : x ≤ 90 <;> simp [a, b, c, d]
theorem spec_letter (x : Int) : spec_l00Letter.f x = some (letter x) := by
  unfold spec_l00Letter.f letter
  by_cases a : 97 ≤ x <;> by_cases b : x ≤ 122 <;> by_cases c : 65 ≤ x <;> by_cases d : x ≤ 90 <;> simp [a, b, c, d]
theorem impl_digit (x : Int) : impl_isDigit.f x = some (digit x) := by
  unfold impl_isDigit.f digit
  by_cases a : 48 ≤ x <;> by_cases b : x ≤ 57 <;> simp [a, b]
theorem spec_digit (x : Int) : spec_l00Digit.f x = some (digit x) := by
  unfold spec_l00Digit.f digit
  by_cases a : 48 ≤ x <;> by_cases b : x ≤ 57 <;> simp [a, b]
theorem impl_in (a b c : Int) : impl_within.f a b c = some (decide (b ≤ a) && decide (a ≤ c)) := by
  unfold impl_within.f
  by_cases h : a ≥ b
  · rw [if_pos h]; simp [show b ≤ a from h]
  · rw [if_neg h]; simp [show ¬ b ≤ a from h]
theorem spec_in (a b c : Int) : spec_l01In.f a b c = some (decide (b ≤ a) && decide (a ≤ c)) := by
  unfold spec_l01In.f
  by_cases h : a ≥ b
  · rw [if_pos h]; simp [show b ≤ a from h]
  · rw [if_neg h]; simp [show ¬ b ≤ a from h]
def okAt (x : ByteArray) (i : Nat) : Bool := letter (bt x (i : Int)) || (decide (i ≠ 0) && digit (bt x (i : Int)))
def okFrom (x : ByteArray) : Nat → Nat → Bool
  | 0, _ => true
  | d + 1, i => okAt x i && okFrom x d (i + 1)
theorem impl_name_l0 (x : ByteArray) (hx : x.size ≤ maxLen) : ∀ d k i, i + d = x.size → impl_NameOK.l0 (k + d + 1) x (x.size : Int) (i : Int) = some (okFrom x d i && (decide (1 ≤ (x.size : Int)) && decide ((x.size : Int) ≤ 40)))
  | 0, k, i, h => by
    rw [show k + 0 + 1 = k + 1 from rfl, impl_NameOK.l0, if_neg (by omega), impl_in]; rfl
  | d + 1, k, i, h => by
    rw [show k + (d + 1) + 1 = (k + d + 1) + 1 by omega, impl_NameOK.l0, if_pos (by omega), if_pos (by omega), if_pos (by omega), impl_letter, impl_digit, next64 i x.size (by omega) hx, impl_name_l0 x hx d k (i + 1) (by omega), okFrom, okAt]
    simp only [Option.bind_some]
    cases letter (bt x (i : Int)) with
    | true => rw [if_pos rfl]; simp
    | false =>
      rw [if_neg (by decide)]
      by_cases h0 : i = 0
      · subst h0; rw [if_pos (show ((0 : Nat) : Int) = 0 from rfl)]; simp
      · rw [if_neg (by omega)]
        cases digit (bt x (i : Int)) with
        | true => rw [if_pos rfl]; simp [h0]
        | false => rw [if_neg (by decide)]; simp
theorem spec_name_l0 (x : ByteArray) (hx : x.size ≤ maxLen) : ∀ d k i, i + d = x.size → 1 ≤ i → spec_l00Word.l0 (k + d + 1) x (i : Int) = some (okFrom x d i)
  | 0, k, i, h, _ => by rw [show k + 0 + 1 = k + 1 from rfl, spec_l00Word.l0, if_neg (by omega)]; rfl
  | d + 1, k, i, h, h1 => by
    rw [show k + (d + 1) + 1 = (k + d + 1) + 1 by omega, spec_l00Word.l0, if_pos (by omega), if_pos (by omega), spec_letter, spec_digit, next64 i x.size (by omega) hx, spec_name_l0 x hx d k (i + 1) (by omega) (by omega), okFrom, okAt]
    simp only [Option.bind_some]
    have h0 : i ≠ 0 := by omega
    cases letter (bt x (i : Int)) <;> cases digit (bt x (i : Int)) <;> simp [h0]
def nameok (x : ByteArray) : Bool := okFrom x x.size 0 && (decide (1 ≤ (x.size : Int)) && decide ((x.size : Int) ≤ 40))
theorem impl_name (x : ByteArray) (hx : x.size ≤ maxLen) (k : Nat) (hk : x.size < k) : impl_NameOK.f k x = some (nameok x) := by
  obtain ⟨k, rfl⟩ : ∃ m, k = m + x.size + 1 := ⟨k - x.size - 1, by omega⟩
  exact impl_name_l0 x hx x.size k 0 (by omega)
theorem spec_name (x : ByteArray) (hx : x.size ≤ maxLen) (k : Nat) (hk : x.size + 1 < k) : spec_NameOK.f k x = some (nameok x) := by
  obtain ⟨k, rfl⟩ : ∃ m, k = m + x.size + 2 := ⟨k - x.size - 2, by omega⟩
  unfold spec_NameOK.f spec_l00Word.f nameok
  by_cases h1 : (x.size : Int) < 1
  · rw [if_pos h1, show k + x.size + 2 = (k + x.size + 1) + 1 by omega, spec_l00Word.j0, if_pos rfl]
    simp [show ¬ 1 ≤ (x.size : Int) by omega]
  rw [if_neg h1]
  by_cases h2 : (x.size : Int) > 40
  · rw [if_pos h2, show k + x.size + 2 = (k + x.size + 1) + 1 by omega, spec_l00Word.j0, if_pos rfl]
    simp [show ¬ (x.size : Int) ≤ 40 by omega]
  rw [if_neg h2, if_pos (by omega), spec_letter]
  obtain ⟨d, hd⟩ : ∃ d, x.size = d + 1 := ⟨x.size - 1, by omega⟩
  have e := spec_name_l0 x hx d (k + 1) 1 (by omega) (by omega)
  simp only [Option.bind_some]
  rw [show k + x.size + 2 = (k + 1 + d + 1) + 1 by omega, spec_l00Word.j0]
  rw [show (1 : Int) = ((1 : Nat) : Int) from rfl] at *
  rw [e, hd, okFrom, okAt]
  have g1 : decide (((1 : Nat) : Int) ≤ ((d + 1 : Nat) : Int)) = true := by simp; omega
  have g2 : decide (((d + 1 : Nat) : Int) ≤ 40) = true := by simp; omega
  rw [g1, g2]
  show _ = some (((letter (bt x 0) || (decide (0 ≠ 0) && _)) && okFrom x d (0 + 1)) && _)
  cases letter (bt x 0) <;> simp
def words : List ByteArray := [(⟨#[115, 101, 108, 101, 99, 116]⟩ : ByteArray), (⟨#[102, 114, 111, 109]⟩ : ByteArray), (⟨#[106, 111, 105, 110]⟩ : ByteArray), (⟨#[111, 110]⟩ : ByteArray), (⟨#[119, 104, 101, 114, 101]⟩ : ByteArray), (⟨#[103, 114, 111, 117, 112]⟩ : ByteArray), (⟨#[98, 121]⟩ : ByteArray), (⟨#[111, 114, 100, 101, 114]⟩ : ByteArray), (⟨#[108, 105, 109, 105, 116]⟩ : ByteArray), (⟨#[100, 101, 115, 99]⟩ : ByteArray), (⟨#[105, 110, 115, 101, 114, 116]⟩ : ByteArray), (⟨#[105, 110, 116, 111]⟩ : ByteArray), (⟨#[118, 97, 108, 117, 101, 115]⟩ : ByteArray), (⟨#[117, 112, 100, 97, 116, 101]⟩ : ByteArray), (⟨#[115, 101, 116]⟩ : ByteArray), (⟨#[100, 101, 108, 101, 116, 101]⟩ : ByteArray), (⟨#[97, 110, 100]⟩ : ByteArray), (⟨#[111, 114]⟩ : ByteArray), (⟨#[110, 111, 116]⟩ : ByteArray), (⟨#[105, 115]⟩ : ByteArray), (⟨#[110, 117, 108, 108]⟩ : ByteArray), (⟨#[116, 114, 117, 101]⟩ : ByteArray), (⟨#[102, 97, 108, 115, 101]⟩ : ByteArray), (⟨#[99, 111, 117, 110, 116]⟩ : ByteArray), (⟨#[115, 117, 109]⟩ : ByteArray), (⟨#[109, 105, 110]⟩ : ByteArray), (⟨#[109, 97, 120]⟩ : ByteArray), (⟨#[97, 115]⟩ : ByteArray)]
theorem spec_words : spec_l09Words.f = some words := rfl
theorem impl_words : impl_reserved.f = some words := by kernel_rfl
def free (x : ByteArray) : Bool := nameok x && !(words.any fun y => x.toList == y.toList)
theorem impl_free (x : ByteArray) (hx : x.size ≤ maxLen) (k : Nat) (hk : x.size + 40 < k) : impl_isFree.f k x = some (free x) := by
  unfold impl_isFree.f free
  rw [impl_name x hx k (by omega), impl_words, Option.bind_some, Option.bind_some, contains_is words x (by decide) k (by have : words.length = 28 := rfl; omega), Option.bind_some]
  cases nameok x <;> simp
theorem spec_free_l0 (x : ByteArray) : ∀ d k i, i + d = words.length → spec_l09Name.l0 (k + d + 1) x (i : Int) = some (!((words.drop i).any fun y => x.toList == y.toList))
  | 0, k, i, h => by
    rw [show k + 0 + 1 = k + 1 from rfl, spec_l09Name.l0, spec_words, Option.bind_some, if_neg (by omega), List.drop_of_length_le (by omega)]; rfl
  | d + 1, k, i, h => by
    have hw : words.length = 28 := rfl
    have hlt : i < words.length := by omega
    rw [show k + (d + 1) + 1 = (k + d + 1) + 1 by omega, spec_l09Name.l0, spec_words, Option.bind_some, if_pos (by omega), Option.bind_some, if_pos (by omega), if_pos (by omega), next64 i 28 (by omega) (by simp only [maxLen]; omega), spec_free_l0 x d k (i + 1) (by omega), List.drop_eq_getElem_cons hlt, List.any_cons]
    rw [show rdOf ByteArray.empty words (i : Int) = words[i] by simp [rdOf, hlt]]
    by_cases c : words[i].toList = x.toList
    · rw [if_pos c, show (x.toList == words[i].toList) = true by rw [c]; simp]; rfl
    · rw [if_neg c, show (x.toList == words[i].toList) = false by simpa using fun e => c e.symm]; simp
theorem spec_free (x : ByteArray) (hx : x.size ≤ maxLen) (k : Nat) (hk : x.size + 40 < k) : spec_l09Name.f k x = some (free x) := by
  unfold spec_l09Name.f free
  have hw : words.length = 28 := rfl
  obtain ⟨m, rfl⟩ : ∃ m, k = m + words.length + 1 := ⟨k - 29, by omega⟩
  have e := spec_free_l0 x words.length m 0 (by omega)
  rw [show ((0 : Nat) : Int) = 0 from rfl, List.drop_zero] at e
  rw [spec_name x hx _ (by omega), Option.bind_some, e]
  cases nameok x <;> simp
end Go.Proofs.YtnpgnjehndgofaaDoor.Pure
end
