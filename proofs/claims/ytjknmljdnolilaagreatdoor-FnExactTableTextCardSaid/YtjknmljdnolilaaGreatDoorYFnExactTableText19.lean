/- Contracts of functions, and what is told of them. -/
import Derived.Test.YtjknmljdnolilaaGreatDoorYFnExactTableText3
import Derived.Test.YtjknmljdnolilaaGreatDoorYFnExactTableText4
import Derived.Test.YtjknmljdnolilaaGreatDoorYFnExactTableText10
import Derived.Test.YtjknmljdnolilaaGreatDoorYFnExactTableText11
import Derived.Test.YtjknmljdnolilaaGreatDoorYFnExactTableText17
import Derived.Test.YtjknmljdnolilaaGreatDoorYFnExactTableText18
import Derived.OpenShut
import Derived.Laws.Strings
import Derived.Test.YtjknmljdnolilaaGreatDoorYFnExactTableText5
import Derived.Test.YtjknmljdnolilaaGreatDoorYFnExactTableText12
set_option linter.unusedSimpArgs false
set_option linter.unusedVariables false
section
namespace Go.Proofs.YtjknmljdnolilaaGreatDoor.X
open Go.RowKit Go.Proofs.YtjknmljdnolilaaGreatDoorW.PrintWords Go.Proofs.YtjknmljdnolilaaGreatDoorW.PrintLast Go.Proofs.YtjknmljdnolilaaGreatDoorW.PrintMore
attribute [local go_sem] max2_int min2_int max_two min_two max_three min_three max_four min_four   -- for this text's walks alone

section
/-! ### laws_FnExactTableText: function 3 -/
def laws_FnExactTableText.j0 : Nat → Bool → ByteArray → List (S74) → Int → List (S78) → ByteArray → List (S81) → Int → List (S84) → Option (Bool)
  | 0, _, _, _, _, _, _, _, _, _ => none
  | k + 1, x34, x102000, x102001, x102002, x102003, x122000, x122001, x122002, x122003 => if x34 = true then (none) else ((laws_toTable.f k x102000 x102001 x102002 x102003).bind fun bt124 => ((laws_eqTable.f k x122000 x122001 x122002 x122003 bt124.1 bt124.2.1 bt124.2.2.1 bt124.2.2.2).bind fun t132 => (if t132 = true then (some true) else (none))))
def laws_FnExactTableText.f (k : Nat) (a0_0 : ByteArray) (l0_1 : List (S74)) (a0_2 : Int) (l0_3 : List (S78)) : Option (Bool) := (laws_szTable.f k a0_0 l0_1 a0_2 l0_3 1048576).bind fun t102 => (if t102 < 0 then (some true) else ((laws_toTable.f k a0_0 l0_1 a0_2 l0_3).bind fun bt103 => ((spec_TableText.f k bt103.1 bt103.2.1 bt103.2.2.1 bt103.2.2.2).bind fun bt111 => ((laws_toTable.f k a0_0 l0_1 a0_2 l0_3).bind fun bt113 => ((impl_TableText.f k bt113.1 bt113.2.1 bt113.2.2.1 bt113.2.2.2).bind fun bt122 => (if bt122.1.toList = bt111.1.toList then (laws_FnExactTableText.j0 k (bt122.2 != bt111.2) a0_0 l0_1 a0_2 l0_3 bt113.1 bt113.2.1 bt113.2.2.1 bt113.2.2.2) else (laws_FnExactTableText.j0 k true a0_0 l0_1 a0_2 l0_3 bt113.1 bt113.2.1 bt113.2.2.1 bt113.2.2.2)))))))
theorem laws_FnExactTableText.mono_l : ∀ k, (∀ y0 y1 y2 y3 y4 y5 y6 y7 y8, LeO (laws_FnExactTableText.j0 k y0 y1 y2 y3 y4 y5 y6 y7 y8) (laws_FnExactTableText.j0 (k + 1) y0 y1 y2 y3 y4 y5 y6 y7 y8))
  | 0 => fun _ _ _ _ _ _ _ _ _ r h => by simp [laws_FnExactTableText.j0] at h
  | k + 1 => by
    have ih0 := laws_FnExactTableText.mono_l k
    intro y0 y1 y2 y3 y4 y5 y6 y7 y8
    unfold laws_FnExactTableText.j0
    repeat' first
    | (with_reducible exact ih0 _ _ _ _ _ _ _ _ _)
    | (with_reducible exact impl_TableText.mono _ _ _ _ _)
    | (with_reducible exact laws_eqTable.mono _ _ _ _ _ _ _ _ _)
    | (with_reducible exact laws_szTable.mono _ _ _ _ _ _)
    | (with_reducible exact laws_toTable.mono _ _ _ _ _)
    | (with_reducible exact spec_TableText.mono _ _ _ _ _)
    | (with_reducible exact LeO.refl _)
    | (with_reducible exact LeO.none _)
    | (with_reducible refine LeO.ite ?_ ?_)
    | (with_reducible refine LeO.bind ?_ (fun _ => ?_))
    | exact ih0 _ _ _ _ _ _ _ _ _
    | exact impl_TableText.mono _ _ _ _ _
    | exact laws_eqTable.mono _ _ _ _ _ _ _ _ _
    | exact laws_szTable.mono _ _ _ _ _ _
    | exact laws_toTable.mono _ _ _ _ _
    | exact spec_TableText.mono _ _ _ _ _
    | exact LeO.none _
    | refine LeO.ite ?_ ?_
    | refine LeO.bind ?_ (fun _ => ?_)
theorem laws_FnExactTableText.mono : ∀ a0 a1 a2 a3 k, LeO (laws_FnExactTableText.f k a0 a1 a2 a3) (laws_FnExactTableText.f (k + 1) a0 a1 a2 a3) := by
  intro a0 a1 a2 a3 k
  have ih0 := laws_FnExactTableText.mono_l k
  unfold laws_FnExactTableText.f
  repeat' first
      | (with_reducible exact ih0 _ _ _ _ _ _ _ _ _)
      | (with_reducible exact impl_TableText.mono _ _ _ _ _)
      | (with_reducible exact laws_eqTable.mono _ _ _ _ _ _ _ _ _)
      | (with_reducible exact laws_szTable.mono _ _ _ _ _ _)
      | (with_reducible exact laws_toTable.mono _ _ _ _ _)
      | (with_reducible exact spec_TableText.mono _ _ _ _ _)
      | (with_reducible exact LeO.refl _)
      | (with_reducible exact LeO.none _)
      | (with_reducible refine LeO.ite ?_ ?_)
      | (with_reducible refine LeO.bind ?_ (fun _ => ?_))
      | exact ih0 _ _ _ _ _ _ _ _ _
      | exact impl_TableText.mono _ _ _ _ _
      | exact laws_eqTable.mono _ _ _ _ _ _ _ _ _
      | exact laws_szTable.mono _ _ _ _ _ _
      | exact laws_toTable.mono _ _ _ _ _
      | exact spec_TableText.mono _ _ _ _ _
      | exact LeO.none _
      | refine LeO.ite ?_ ?_
      | refine LeO.bind ?_ (fun _ => ?_)
set_option maxHeartbeats 8000000 in
set_option maxRecDepth 100000 in
theorem laws_FnExactTableText.calls (k : Nat) (a0_0 : ByteArray) (A0_1 : Option Addr) (c0_1 : Nat) (l0_1 : List (S74)) (a0_2 : Int) (A0_3 : Option Addr) (c0_3 : Nat) (l0_3 : List (S78)) (r : Bool) (w : World) (hr0_1 : Kd.C k74 w A0_1 l0_1.length l0_1) (hc0_1 : l0_1.length ≤ c0_1) (hr0_3 : Kd.C k78 w A0_3 l0_3.length l0_3) (hc0_3 : l0_3.length ≤ c0_3) (h : laws_FnExactTableText.f k a0_0 l0_1 a0_2 l0_3 = some r) :
    Calls Tryz.prog 3 #[.agg #[.string a0_0, .slice A0_1 l0_1.length c0_1, .int .i64 a0_2, .slice A0_3 l0_3.length c0_3]] w fun e w' => e = .returned (.bool r) ∧ Below w.heap.size w w' := by
  have hu25 := Tryz.underlying25
  have hu32 := Tryz.underlying32
  have HR0_1 := ak_ hr0_1
  have HC0_1 := ak_ hc0_1
  clear hr0_1 hc0_1
  have HR0_3 := ak_ hr0_3
  have HC0_3 := ak_ hc0_3
  clear hr0_3 hc0_3
  have HB := ak_ (Below.refl w.heap.size w)
  have H : ((laws_szTable.f k a0_0 l0_1 a0_2 l0_3 1048576).bind fun t102 => (if t102 < 0 then (some true) else ((laws_toTable.f k a0_0 l0_1 a0_2 l0_3).bind fun bt103 => ((spec_TableText.f k bt103.1 bt103.2.1 bt103.2.2.1 bt103.2.2.2).bind fun bt111 => ((laws_toTable.f k a0_0 l0_1 a0_2 l0_3).bind fun bt113 => ((impl_TableText.f k bt113.1 bt113.2.1 bt113.2.2.1 bt113.2.2.2).bind fun bt122 => (if bt122.1.toList = bt111.1.toList then (laws_FnExactTableText.j0 k (bt122.2 != bt111.2) a0_0 l0_1 a0_2 l0_3 bt113.1 bt113.2.1 bt113.2.2.1 bt113.2.2.2) else (laws_FnExactTableText.j0 k true a0_0 l0_1 a0_2 l0_3 bt113.1 bt113.2.1 bt113.2.2.1 bt113.2.2.2)))))))) = some r := h
  clear h
  replace H := Option.bind_eq_some_iff.mp H
  obtain ⟨t102, A20, H⟩ := H
  have A2 := ak_ A20
  clear A20
  by_cases c3 : t102 < 0
  · rw [if_pos c3] at H
    have c3b0 := decide_eq_true c3
    clear c3
    obtain rfl := Option.some.inj H
    go_enter Tryz.func3, Tryz.ntmps3
    go_wp2_with (first | ((with_reducible refine gate_dst (N := 1) rfl ?_); refine bx_ 1 (cs := #[.string a0_0, .slice A0_1 l0_1.length c0_1, .int .i64 a0_2, .slice A0_3 l0_3.length c0_3]) (t := 25) (h_ := ?_); intro gb101 hg w4 hbox hb; have n_ := a4_ (below_step z1_ hb) (hbox) ((gs_ w hg (below_size z1_))) ((gs_ w hg (below_size z1_))); clear HB; obtain ⟨HB, BK101, GW101, GE101⟩ := n_; clear hb hbox hg; obtain ⟨hcz5_0, hcz5_1, hcz5_2, hcz5_3, hfz5_0, hfz5_1, hfz5_2, hfz5_3⟩ := bcf4 BK101.out) | ((with_reducible refine gate_callee (f := 5) rfl ?_); refine goesL_ (some 11) rfl rfl Tryz.func5 (by kernel_rfl) rfl #[.agg #[.string a0_0, .slice A0_1 l0_1.length c0_1, .int .i64 a0_2, .slice A0_3 l0_3.length c0_3], .int .i64 1048576] rfl z3_ ?_; (with_reducible refine (laws_szTable.calls k a0_0 _ _ l0_1 a0_2 _ _ l0_3 1048576 t102 _ ?side1 ?side2 ?side3 ?side4 A2.out).mono ?_); (case side1 => repeat (first | exact (Kd.C_below HR0_1.out HB.out) | (with_reducible refine Kd.C_alloc ?_ _) | (with_reducible refine Kd.C_drewN ?_ _) | (with_reducible refine Kd.C_drew ?_))); (case side2 => exact HC0_1.out); (case side3 => repeat (first | exact (Kd.C_below HR0_3.out HB.out) | (with_reducible refine Kd.C_alloc ?_ _) | (with_reducible refine Kd.C_drewN ?_ _) | (with_reducible refine Kd.C_drew ?_))); (case side4 => exact HC0_3.out); rintro e w6 ⟨rfl, hb⟩; refine ⟨_, rfl, ?_⟩; have n_ := a2_ (blk_below (g := gb101) (o := .cells #[.string a0_0, .slice A0_1 l0_1.length c0_1, .int .i64 a0_2, .slice A0_3 l0_3.length c0_3] 25 (0, 0)) z2_ hb) (below_step z0_ hb); clear BK101 HB; obtain ⟨BK101, HB⟩ := n_; (try clear hb); (try clear hb2); (try clear hk); (try clear hi)))
    go_ret
    exact ⟨z7_, z0_⟩
  rw [if_neg c3] at H
  have c3b0 := decide_eq_false c3
  clear c3
  replace H := Option.bind_eq_some_iff.mp H
  obtain ⟨⟨t103, t104, t107, t108⟩, A70, H⟩ := H
  replace H : ((spec_TableText.f k t103 t104 t107 t108).bind fun bt111 => ((laws_toTable.f k a0_0 l0_1 a0_2 l0_3).bind fun bt113 => ((impl_TableText.f k bt113.1 bt113.2.1 bt113.2.2.1 bt113.2.2.2).bind fun bt122 => (if bt122.1.toList = bt111.1.toList then (laws_FnExactTableText.j0 k (bt122.2 != bt111.2) a0_0 l0_1 a0_2 l0_3 bt113.1 bt113.2.1 bt113.2.2.1 bt113.2.2.2) else (laws_FnExactTableText.j0 k true a0_0 l0_1 a0_2 l0_3 bt113.1 bt113.2.1 bt113.2.2.1 bt113.2.2.2))))) = some r := H
  have A7 := ak_ A70
  clear A70
  replace H := Option.bind_eq_some_iff.mp H
  obtain ⟨⟨t111, t112⟩, A80, H⟩ := H
  replace H : ((laws_toTable.f k a0_0 l0_1 a0_2 l0_3).bind fun bt113 => ((impl_TableText.f k bt113.1 bt113.2.1 bt113.2.2.1 bt113.2.2.2).bind fun bt122 => (if bt122.1.toList = t111.toList then (laws_FnExactTableText.j0 k (bt122.2 != t112) a0_0 l0_1 a0_2 l0_3 bt113.1 bt113.2.1 bt113.2.2.1 bt113.2.2.2) else (laws_FnExactTableText.j0 k true a0_0 l0_1 a0_2 l0_3 bt113.1 bt113.2.1 bt113.2.2.1 bt113.2.2.2)))) = some r := H
  have A8 := ak_ A80
  clear A80
  replace H := Option.bind_eq_some_iff.mp H
  obtain ⟨⟨t113, t114, t117, t118⟩, A90, H⟩ := H
  replace H : ((impl_TableText.f k t113 t114 t117 t118).bind fun bt122 => (if bt122.1.toList = t111.toList then (laws_FnExactTableText.j0 k (bt122.2 != t112) a0_0 l0_1 a0_2 l0_3 t113 t114 t117 t118) else (laws_FnExactTableText.j0 k true a0_0 l0_1 a0_2 l0_3 t113 t114 t117 t118))) = some r := H
  have A9 := ak_ A90
  clear A90
  replace H := Option.bind_eq_some_iff.mp H
  obtain ⟨⟨t122, t123⟩, A100, H⟩ := H
  replace H : (if t122.toList = t111.toList then (laws_FnExactTableText.j0 k (t123 != t112) a0_0 l0_1 a0_2 l0_3 t113 t114 t117 t118) else (laws_FnExactTableText.j0 k true a0_0 l0_1 a0_2 l0_3 t113 t114 t117 t118)) = some r := H
  have A10 := ak_ A100
  clear A100
  have HC11 := ak_ H
  clear H
  go_enter Tryz.func3, Tryz.ntmps3
  go_upto_region 8 with (first | ((with_reducible refine gate_dst (N := 1) rfl ?_); refine bx_ 1 (cs := #[.string a0_0, .slice A0_1 l0_1.length c0_1, .int .i64 a0_2, .slice A0_3 l0_3.length c0_3]) (t := 25) (h_ := ?_); intro gb101 hg w12 hbox hb; have n_ := a4_ (below_step z1_ hb) (hbox) ((gs_ w hg (below_size z1_))) ((gs_ w hg (below_size z1_))); clear HB; obtain ⟨HB, BK101, GW101, GE101⟩ := n_; clear hb hbox hg; obtain ⟨hcz13_0, hcz13_1, hcz13_2, hcz13_3, hfz13_0, hfz13_1, hfz13_2, hfz13_3⟩ := bcf4 BK101.out) | ((with_reducible refine gate_callee (f := 5) rfl ?_); refine goesL_ (some 11) rfl rfl Tryz.func5 (by kernel_rfl) rfl #[.agg #[.string a0_0, .slice A0_1 l0_1.length c0_1, .int .i64 a0_2, .slice A0_3 l0_3.length c0_3], .int .i64 1048576] rfl z3_ ?_; (with_reducible refine (laws_szTable.calls k a0_0 _ _ l0_1 a0_2 _ _ l0_3 1048576 t102 _ ?side1 ?side2 ?side3 ?side4 A2.out).mono ?_); (case side1 => repeat (first | exact (Kd.C_below HR0_1.out HB.out) | (with_reducible refine Kd.C_alloc ?_ _) | (with_reducible refine Kd.C_drewN ?_ _) | (with_reducible refine Kd.C_drew ?_))); (case side2 => exact HC0_1.out); (case side3 => repeat (first | exact (Kd.C_below HR0_3.out HB.out) | (with_reducible refine Kd.C_alloc ?_ _) | (with_reducible refine Kd.C_drewN ?_ _) | (with_reducible refine Kd.C_drew ?_))); (case side4 => exact HC0_3.out); rintro e w14 ⟨rfl, hb⟩; refine ⟨_, rfl, ?_⟩; have n_ := a2_ (blk_below (g := gb101) (o := .cells #[.string a0_0, .slice A0_1 l0_1.length c0_1, .int .i64 a0_2, .slice A0_3 l0_3.length c0_3] 25 (0, 0)) z2_ hb) (below_step z0_ hb); clear BK101 HB; obtain ⟨BK101, HB⟩ := n_; (try clear hb); (try clear hb2); (try clear hk); (try clear hi); obtain ⟨hcz15_0, hcz15_1, hcz15_2, hcz15_3, hfz15_0, hfz15_1, hfz15_2, hfz15_3⟩ := bcf4 BK101.out) | ((with_reducible refine gate_callee (f := 7) rfl ?_); refine goesL_ (some 16) rfl rfl Tryz.func7 (by kernel_rfl) rfl #[.agg #[.string a0_0, .slice A0_1 l0_1.length c0_1, .int .i64 a0_2, .slice A0_3 l0_3.length c0_3]] rfl z3_ ?_; (with_reducible refine (laws_toTable.calls k a0_0 _ _ l0_1 a0_2 _ _ l0_3 t103 t104 t107 t108 _ ?side1 ?side2 ?side3 ?side4 A7.out).mono ?_); (case side1 => repeat (first | exact (Kd.C_below HR0_1.out HB.out) | (with_reducible refine Kd.C_alloc ?_ _) | (with_reducible refine Kd.C_drewN ?_ _) | (with_reducible refine Kd.C_drew ?_))); (case side2 => exact HC0_1.out); (case side3 => repeat (first | exact (Kd.C_below HR0_3.out HB.out) | (with_reducible refine Kd.C_alloc ?_ _) | (with_reducible refine Kd.C_drewN ?_ _) | (with_reducible refine Kd.C_drew ?_))); (case side4 => exact HC0_3.out); rintro e w16 ⟨v105, v109, rfl, ho0, ho1, hb⟩; refine ⟨_, rfl, ?_⟩; have n_ := a4_ (Kd.R_lower ho0 (below_size z0_)) (Kd.S_lower ho1 (below_size z0_)) (blk_below (g := gb101) (o := .cells #[.string a0_0, .slice A0_1 l0_1.length c0_1, .int .i64 a0_2, .slice A0_3 l0_3.length c0_3] 25 (0, 0)) z2_ hb) (below_step z0_ hb); clear BK101 HB; obtain ⟨HO106, HO110, BK101, HB⟩ := n_; (try clear hb); (try clear hb2); (try clear hk); (try clear hi); (try clear ho0); (try clear ho1); obtain ⟨Ao17, co17, eo17⟩ := Kd.R_slice HO106.out; subst eo17; obtain ⟨Ao18, co18, eo18⟩ := Kd.S_slice HO110.out; subst eo18) | ((with_reducible refine gate_callee (f := 6) rfl ?_); refine goesL_ (some 17) rfl rfl Tryz.func6 (by kernel_rfl) rfl #[.agg #[.string t103, .slice Ao17 t104.length co17, .int .i64 t107, .slice Ao18 t108.length co18]] rfl z3_ ?_; (with_reducible refine (spec_TableText.calls k t103 _ _ t104 t107 _ _ t108 t111 t112 _ ?side1 ?side2 ?side3 ?side4 A8.out).mono ?_); (case side1 => repeat (first | exact (Kd.R_reads' HO106.out).2.2 | (with_reducible refine Kd.C_alloc ?_ _) | (with_reducible refine Kd.C_drewN ?_ _) | (with_reducible refine Kd.C_drew ?_))); (case side2 => exact (Kd.R_reads' HO106.out).2.1); (case side3 => repeat (first | exact (Kd.S_reads' HO110.out).2.2 | (with_reducible refine Kd.C_alloc ?_ _) | (with_reducible refine Kd.C_drewN ?_ _) | (with_reducible refine Kd.C_drew ?_))); (case side4 => exact (Kd.S_reads' HO110.out).2.1); rintro e w19 ⟨rfl, hb⟩; refine ⟨_, rfl, ?_⟩; have n_ := a4_ (Kd.R_below z49_ hb) (Kd.S_below z50_ hb) (blk_below (g := gb101) (o := .cells #[.string a0_0, .slice A0_1 l0_1.length c0_1, .int .i64 a0_2, .slice A0_3 l0_3.length c0_3] 25 (0, 0)) z2_ hb) (below_step z0_ hb); clear HO106 HO110 BK101 HB; obtain ⟨HO106, HO110, BK101, HB⟩ := n_; (try clear hb); (try clear hb2); (try clear hk); (try clear hi); obtain ⟨hcz20_0, hcz20_1, hcz20_2, hcz20_3, hfz20_0, hfz20_1, hfz20_2, hfz20_3⟩ := bcf4 BK101.out) | ((with_reducible refine gate_callee (f := 7) rfl ?_); refine goesL_ (some 21) rfl rfl Tryz.func7 (by kernel_rfl) rfl #[.agg #[.string a0_0, .slice A0_1 l0_1.length c0_1, .int .i64 a0_2, .slice A0_3 l0_3.length c0_3]] rfl z3_ ?_; (with_reducible refine (laws_toTable.calls k a0_0 _ _ l0_1 a0_2 _ _ l0_3 t113 t114 t117 t118 _ ?side1 ?side2 ?side3 ?side4 A9.out).mono ?_); (case side1 => repeat (first | exact (Kd.C_below HR0_1.out HB.out) | (with_reducible refine Kd.C_alloc ?_ _) | (with_reducible refine Kd.C_drewN ?_ _) | (with_reducible refine Kd.C_drew ?_))); (case side2 => exact HC0_1.out); (case side3 => repeat (first | exact (Kd.C_below HR0_3.out HB.out) | (with_reducible refine Kd.C_alloc ?_ _) | (with_reducible refine Kd.C_drewN ?_ _) | (with_reducible refine Kd.C_drew ?_))); (case side4 => exact HC0_3.out); rintro e w21 ⟨v115, v119, rfl, ho0, ho1, hb⟩; refine ⟨_, rfl, ?_⟩; have n_ := a6_ (Kd.R_elder' z49_ (Kd.R_base ho0) hb) (Kd.S_elder' z50_ (Kd.S_base ho1) hb) (Kd.R_lower (Kd.R_new' ho0 (Kd.R_lt z49_)) (below_size z0_)) (Kd.S_lower (Kd.S_new' ho1 (Kd.S_lt z50_)) (below_size z0_)) (blk_below (g := gb101) (o := .cells #[.string a0_0, .slice A0_1 l0_1.length c0_1, .int .i64 a0_2, .slice A0_3 l0_3.length c0_3] 25 (0, 0)) z2_ hb) (below_step z0_ hb); clear HO106 HO110 BK101 HB; obtain ⟨HO106, HO110, HO116, HO120, BK101, HB⟩ := n_; (try clear hb); (try clear hb2); (try clear hk); (try clear hi); (try clear ho0); (try clear ho1)) | ((with_reducible refine gate_dst (N := 6) rfl ?_); refine bx_ 6 (cs := #[.string (⟨#[]⟩ : ByteArray), .slice none 0 0, .int .i64 0, .slice none 0 0]) (t := 32) (h_ := ?_); intro gb121 hg w22 hbox hb; have n_ := a11_ (Kd.R_below z49_ hb) (Kd.S_below z50_ hb) (Kd.R_below (by (with_reducible repeat (first | apply Kd.R_alloc | apply Kd.R_drewN | apply Kd.R_drew)); exact HO116.out) hb) (Kd.S_below (by (with_reducible repeat (first | apply Kd.S_alloc | apply Kd.S_drewN | apply Kd.S_drew)); exact HO120.out) hb) (blk_below (g := gb101) (o := .cells #[.string a0_0, .slice A0_1 l0_1.length c0_1, .int .i64 a0_2, .slice A0_3 l0_3.length c0_3] 25 (0, 0)) z2_ hb) (below_step z0_ hb) (hbox) ((gs_ w hg (below_size z0_))) ((gs_ w hg (below_size z0_))) ((z44_ : gb101 ≠ gb121)) ((z45_ : gb121 ≠ gb101)); clear HO106 HO110 HO116 HO120 BK101 HB; obtain ⟨HO106, HO110, HO116, HO120, BK101, HB, BK121, GW121, GE121, NB101_121, NB121_101⟩ := n_; clear hb hbox hg; have hnb23 := NB121_101.out; have hnc23 := NB101_121.out; obtain ⟨hcz24_0, hcz24_1, hcz24_2, hcz24_3, hfz24_0, hfz24_1, hfz24_2, hfz24_3⟩ := bcf4 BK121.out; obtain ⟨Ao25, co25, eo25⟩ := Kd.R_slice HO116.out; subst eo25; obtain ⟨Ao26, co26, eo26⟩ := Kd.S_slice HO120.out; subst eo26) | ((with_reducible refine gate_callee (f := 8) rfl ?_); refine goesL_ (some 24) rfl rfl Tryz.func8 (by kernel_rfl) rfl #[.agg #[.string t113, .slice Ao25 t114.length co25, .int .i64 t117, .slice Ao26 t118.length co26]] rfl z3_ ?_; (with_reducible refine (impl_TableText.calls k t113 _ _ t114 t117 _ _ t118 t122 t123 _ ?side1 ?side2 ?side3 ?side4 A10.out).mono ?_); (case side1 => refine (Kd.R_reads' (e := 81) (base := w.heap.size) (ok := fun k_ => (True ∧ some k_ ≠ (.slice Ao17 t104.length co17 : Value).ownBlock)) (n := t114.length) (c := co25) ?_).2.2; exact z32_); (case side2 => exact (Kd.R_reads' HO116.out).2.1); (case side3 => refine (Kd.S_reads' (e := 84) (base := w.heap.size) (ok := fun k_ => (True ∧ some k_ ≠ (.slice Ao18 t108.length co18 : Value).ownBlock)) (n := t118.length) (c := co26) ?_).2.2; exact z33_); (case side4 => exact (Kd.S_reads' HO120.out).2.1); rintro e w27 ⟨rfl, hb⟩; refine ⟨_, rfl, ?_⟩; have n_ := a7_ (Kd.R_below (by (with_reducible repeat (first | apply Kd.R_alloc | apply Kd.R_drewN | apply Kd.R_drew)); exact (Kd.R_mono (Kd.R_far (p := ⟨gb121, 3, none⟩) (Kd.R_far (p := ⟨gb121, 2, none⟩) (Kd.R_far (p := ⟨gb121, 1, none⟩) (Kd.R_far (p := ⟨gb121, 0, none⟩) (Kd.R_types HO106.out BK121.out (by decide)) (fun _ hk => hk.2) (.string t113)) (fun _ hk => hk.2) (.slice Ao25 t114.length co25)) (fun _ hk => hk.2) (.int .i64 t117)) (fun _ hk => hk.2) (.slice Ao26 t118.length co26)) (fun _ h_ => h_.1))) hb) (Kd.S_below (by (with_reducible repeat (first | apply Kd.S_alloc | apply Kd.S_drewN | apply Kd.S_drew)); exact (Kd.S_mono (Kd.S_far (p := ⟨gb121, 3, none⟩) (Kd.S_far (p := ⟨gb121, 2, none⟩) (Kd.S_far (p := ⟨gb121, 1, none⟩) (Kd.S_far (p := ⟨gb121, 0, none⟩) (Kd.S_types HO110.out BK121.out (by decide)) (fun _ hk => hk.2) (.string t113)) (fun _ hk => hk.2) (.slice Ao25 t114.length co25)) (fun _ hk => hk.2) (.int .i64 t117)) (fun _ hk => hk.2) (.slice Ao26 t118.length co26)) (fun _ h_ => h_.1))) hb) (Kd.R_below z32_ hb) (Kd.S_below z33_ hb) (blk_below (g := gb101) (o := .cells #[.string a0_0, .slice A0_1 l0_1.length c0_1, .int .i64 a0_2, .slice A0_3 l0_3.length c0_3] 25 (0, 0)) (by (with_reducible repeat (first | refine blk_drewN ?_ _ | refine blk_drew ?_ | refine blk_alloc ?_ _)); refine blk_far ?_ NB101_121.out _; (with_reducible repeat (first | refine blk_drewN ?_ _ | refine blk_drew ?_ | refine blk_alloc ?_ _)); refine blk_far ?_ NB101_121.out _; (with_reducible repeat (first | refine blk_drewN ?_ _ | refine blk_drew ?_ | refine blk_alloc ?_ _)); refine blk_far ?_ NB101_121.out _; (with_reducible repeat (first | refine blk_drewN ?_ _ | refine blk_drew ?_ | refine blk_alloc ?_ _)); refine blk_far ?_ NB101_121.out _; (with_reducible repeat (first | refine blk_drewN ?_ _ | refine blk_drew ?_ | refine blk_alloc ?_ _)); exact BK101.out) hb) (blk_below (g := gb121) (o := .cells #[.string t113, .slice Ao25 t114.length co25, .int .i64 t117, .slice Ao26 t118.length co26] 32 (0, 0)) (by (with_reducible repeat (first | refine blk_drewN ?_ _ | refine blk_drew ?_ | refine blk_alloc ?_ _)); refine blk_put (cs := #[.string t113, .slice Ao25 t114.length co25, .int .i64 t117, .slice none 0 0]) ?_ 3 _ rfl; (with_reducible repeat (first | refine blk_drewN ?_ _ | refine blk_drew ?_ | refine blk_alloc ?_ _)); refine blk_put (cs := #[.string t113, .slice Ao25 t114.length co25, .int .i64 0, .slice none 0 0]) ?_ 2 _ rfl; (with_reducible repeat (first | refine blk_drewN ?_ _ | refine blk_drew ?_ | refine blk_alloc ?_ _)); refine blk_put (cs := #[.string t113, .slice none 0 0, .int .i64 0, .slice none 0 0]) ?_ 1 _ rfl; (with_reducible repeat (first | refine blk_drewN ?_ _ | refine blk_drew ?_ | refine blk_alloc ?_ _)); refine blk_put (cs := #[.string (⟨#[]⟩ : ByteArray), .slice none 0 0, .int .i64 0, .slice none 0 0]) ?_ 0 _ rfl; (with_reducible repeat (first | refine blk_drewN ?_ _ | refine blk_drew ?_ | refine blk_alloc ?_ _)); exact BK121.out) hb) (below_step z20_ hb); clear HO106 HO110 HO116 HO120 BK101 BK121 HB; obtain ⟨HO106, HO110, HO116, HO120, BK101, BK121, HB⟩ := n_; (try clear hb); (try clear hb2); (try clear hk); (try clear hi)))
  (try simp only [Act.put, List.setIfInBounds_toArray, List.set_cons_zero, List.set_cons_succ])
  go_cut [34] (fun v34 wc => ∃ (kq : Nat) (x34_10 : Bool), v34 = .bool x34_10 ∧ Aside0 (laws_FnExactTableText.j0 kq x34_10 a0_0 l0_1 a0_2 l0_3 t113 t114 t117 t118 = some r) ∧ Aside0 (kq ≤ k) ∧ Aside0 (Kd.R k81 81 wc w.heap.size (fun _ => True) (.slice Ao25 t114.length co25) t114) ∧ Aside0 (Kd.S k84 84 wc w.heap.size (fun _ => True) (.slice Ao26 t118.length co26) t118) ∧ Aside0 (wc.heap[gb101]? = some (.cells #[.string a0_0, (.slice A0_1 l0_1.length c0_1), .int .i64 a0_2, (.slice A0_3 l0_3.length c0_3)] 25 (0, 0))) ∧ Aside0 (wc.heap[gb121]? = some (.cells #[.string t113, (.slice Ao25 t114.length co25), .int .i64 t117, (.slice Ao26 t118.length co26)] 32 (0, 0))) ∧ Aside0 (Below w.heap.size w wc))
  case first =>
    have H := HC11.out
    clear HC11
    by_cases c28 : t122.toList = t111.toList
    rotate_left
    · rw [if_neg c28] at H
      have c28b0 : (t122.toList == t111.toList) = false := beq_eq_false_iff_ne.mpr c28
      have c28b1 : (t122.toList != t111.toList) = true := bne_iff_ne.mpr c28
      (first | rw [c28b0] | (simp only [i64_w, i32_w]; rw [c28b0]) | skip)
      have H' := ak_ H
      clear H
      go_wp2
      go_meet
      case rel => exact ⟨_, (true), z9_, H', ⟨by first | omega | exact Nat.le_refl _⟩, ⟨by (with_reducible repeat (first | apply Kd.R_alloc | apply Kd.R_drewN | apply Kd.R_drew)); exact Kd.R_mono HO116.out (fun _ hk => trivial)⟩, ⟨by (with_reducible repeat (first | apply Kd.S_alloc | apply Kd.S_drewN | apply Kd.S_drew)); exact Kd.S_mono HO120.out (fun _ hk => trivial)⟩, ⟨z2_⟩, ⟨z43_⟩, ⟨z20_⟩⟩
    rw [if_pos c28] at H
    have c28b0 : (t122.toList == t111.toList) = true := beq_iff_eq.mpr c28
    have c28b1 : (t122.toList != t111.toList) = false := bne_eq_false_iff_eq.mpr c28
    clear c28
    (first | rw [c28b0] | (simp only [i64_w, i32_w]; rw [c28b0]) | skip)
    have H' := ak_ H
    clear H
    go_wp2
    go_meet
    case rel => exact ⟨_, ((t123 != t112)), z9_, H', ⟨by first | omega | exact Nat.le_refl _⟩, ⟨by (with_reducible repeat (first | apply Kd.R_alloc | apply Kd.R_drewN | apply Kd.R_drew)); exact Kd.R_mono HO116.out (fun _ hk => trivial)⟩, ⟨by (with_reducible repeat (first | apply Kd.S_alloc | apply Kd.S_drewN | apply Kd.S_drew)); exact Kd.S_mono HO120.out (fun _ hk => trivial)⟩, ⟨z2_⟩, ⟨z43_⟩, ⟨z20_⟩⟩
  case rest =>
    clear HC11
    try clear c2
    try clear p2
    try clear c3
    try clear c3b0
    try clear c5
    try clear c6
    try clear c7
    try clear c8
    try clear c23
    try clear c28
    try clear c28b0
    try clear c28b1
    try clear hcz13_0
    try clear hcz13_1
    try clear hcz13_2
    try clear hcz13_3
    try clear hcz15_0
    try clear hcz15_1
    try clear hcz15_2
    try clear hcz15_3
    try clear hcz20_0
    try clear hcz20_1
    try clear hcz20_2
    try clear hcz20_3
    try clear hcz24_0
    try clear hcz24_1
    try clear hcz24_2
    try clear hcz24_3
    try clear hcz5_0
    try clear hcz5_1
    try clear hcz5_2
    try clear hcz5_3
    try clear hfz13_0
    try clear hfz13_1
    try clear hfz13_2
    try clear hfz13_3
    try clear hfz15_0
    try clear hfz15_1
    try clear hfz15_2
    try clear hfz15_3
    try clear hfz20_0
    try clear hfz20_1
    try clear hfz20_2
    try clear hfz20_3
    try clear hfz24_0
    try clear hfz24_1
    try clear hfz24_2
    try clear hfz24_3
    try clear hfz5_0
    try clear hfz5_1
    try clear hfz5_2
    try clear hfz5_3
    obtain ⟨kq, x34_10, rfl, HA, HJ10, HO_122001, HO_122003, BK101, BK121, HB⟩ := hcut
    cases kq with
    | zero => exact absurd HA.out (by simp [laws_FnExactTableText.j0])
    | succ kj10 =>
      have H := HA.out
      clear HA
      simp only [laws_FnExactTableText.j0] at H
      by_cases c29 : x34_10 = true
      · subst c29
        have H1 : (none) = some r := by rw [if_pos rfl] at H; exact H
        clear H
        have H := H1
        clear H1
        exact absurd H (by simp)
      replace c29 := Bool.eq_false_iff.mpr c29
      subst c29
      have H1 : ((laws_toTable.f kj10 a0_0 l0_1 a0_2 l0_3).bind fun bt124 => ((laws_eqTable.f kj10 t113 t114 t117 t118 bt124.1 bt124.2.1 bt124.2.2.1 bt124.2.2.2).bind fun t132 => (if t132 = true then (some true) else (none)))) = some r := by rw [if_neg (show ¬ (false = true) by decide)] at H; exact H
      clear H
      have H := H1
      clear H1
      replace H := Option.bind_eq_some_iff.mp H
      obtain ⟨⟨t124, t125, t128, t129⟩, A300, H⟩ := H
      replace H : ((laws_eqTable.f kj10 t113 t114 t117 t118 t124 t125 t128 t129).bind fun t132 => (if t132 = true then (some true) else (none))) = some r := H
      have A30 := ak_ A300
      clear A300
      replace H := Option.bind_eq_some_iff.mp H
      obtain ⟨t132, A310, H⟩ := H
      have A31 := ak_ A310
      clear A310
      by_cases c32 : t132 = true
      rotate_left
      · replace c32 := Bool.eq_false_iff.mpr c32
        subst c32
        have H1 : (none) = some r := by rw [if_neg (show ¬ (false = true) by decide)] at H; exact H
        clear H
        have H := H1
        clear H1
        exact absurd H (by simp)

      subst c32
      have H1 : (some true) = some r := by rw [if_pos rfl] at H; exact H
      clear H
      have H := H1
      clear H1
      obtain rfl := Option.some.inj H
      try go_wp2
      have n_ := a5_ (Kd.R_drew HO_122001.out) (Kd.S_drew HO_122003.out) (blk_drew BK101.out) (blk_drew BK121.out) (below_drew1 HB.out)
      clear HO_122001 HO_122003 BK101 BK121 HB
      obtain ⟨HO_122001, HO_122003, BK101, BK121, HB⟩ := n_
      refine start_ (n := 5) (S := fun w' => w'.cell? ⟨gb121, 0, none⟩ = some (.string t113) ∧ w'.cell? ⟨gb121, 1, none⟩ = some (.slice Ao25 t114.length co25) ∧ w'.cell? ⟨gb121, 2, none⟩ = some (.int .i64 t117) ∧ w'.cell? ⟨gb121, 3, none⟩ = some (.slice Ao26 t118.length co26) ∧ w'.cell? ⟨gb101, 0, none⟩ = some (.string a0_0) ∧ w'.cell? ⟨gb101, 1, none⟩ = some (.slice A0_1 l0_1.length c0_1) ∧ w'.cell? ⟨gb101, 2, none⟩ = some (.int .i64 a0_2) ∧ w'.cell? ⟨gb101, 3, none⟩ = some (.slice A0_3 l0_3.length c0_3)) (ds := []) #[false, false, false, false, false] (by kernel_rfl) rfl rfl ⟨(blk_cell BK121.out 0).trans rfl, (blk_cell BK121.out 1).trans rfl, (blk_cell BK121.out 2).trans rfl, (blk_cell BK121.out 3).trans rfl, (blk_cell BK101.out 0).trans rfl, (blk_cell BK101.out 1).trans rfl, (blk_cell BK101.out 2).trans rfl, (blk_cell BK101.out 3).trans rfl⟩ (fun hHeld => ?_)
      generalize wc.drew = w33 at HO_122001 HO_122003 BK101 BK121 HB hHeld ⊢
      refine take_ (i := 0) (N := some 35) (v := ?_) (a' := ?_) #[true, false, false, false, false] rfl rfl (by kernel_rfl) (fun _ _ _ h => h) (Or.inl ⟨by rfl, ?_⟩) hHeld ?_ ?_
      rotate_left
      · rintro w' ⟨s0, s1, s2, s3, s4, s5, s6, s7⟩
        go_simp
        with_reducible rfl
      rotate_left
      · simp only [Act.put, List.setIfInBounds_toArray, List.set_cons_zero, List.set_cons_succ, i64_w, i32_w]
        rfl
      refine take_ (i := 1) (N := some 36) (v := ?_) (a' := ?_) #[true, true, false, false, false] rfl rfl (by kernel_rfl) (fun _ _ _ h => h) (Or.inl ⟨by rfl, ?_⟩) hHeld ?_ ?_
      rotate_left
      · rintro w' ⟨s0, s1, s2, s3, s4, s5, s6, s7⟩
        go_simp
        with_reducible rfl
      rotate_left
      · simp only [Act.put, List.setIfInBounds_toArray, List.set_cons_zero, List.set_cons_succ, i64_w, i32_w]
        rfl
      refine one_ (i := 2) (N := some 37) #[true, true, true, false, false] rfl rfl (by kernel_rfl) (by decide) (fun K hK => ?_)
      refine goes_ Tryz.func7 (by kernel_rfl) rfl #[.agg #[.string a0_0, .slice A0_1 l0_1.length c0_1, .int .i64 a0_2, .slice A0_3 l0_3.length c0_3]] (by rfl) rfl rfl z3_ ?_
      with_reducible refine (laws_toTable.calls kj10 a0_0 _ _ l0_1 a0_2 _ _ l0_3 t124 t125 t128 t129 _ ?side1 ?side2 ?side3 ?side4 A30.out).mono ?_
      (case side1 => repeat (first | exact (Kd.C_below HR0_1.out HB.out) | (with_reducible refine Kd.C_alloc ?_ _) | (with_reducible refine Kd.C_drewN ?_ _) | (with_reducible refine Kd.C_drew ?_)))
      (case side2 => exact HC0_1.out)
      (case side3 => repeat (first | exact (Kd.C_below HR0_3.out HB.out) | (with_reducible refine Kd.C_alloc ?_ _) | (with_reducible refine Kd.C_drewN ?_ _) | (with_reducible refine Kd.C_drew ?_)))
      (case side4 => exact HC0_3.out)
      rintro e w34 ⟨v126, v130, rfl, ho0, ho1, hb⟩
      refine ⟨_, rfl, ?_⟩
      have n_ := a7_ (Kd.R_elder' z59_ (Kd.R_base ho0) hb) (Kd.S_elder' z60_ (Kd.S_base ho1) hb) (Kd.R_lower (Kd.R_new' ho0 (Kd.R_lt z59_)) (below_size z20_)) (Kd.S_lower (Kd.S_new' ho1 (Kd.S_lt z60_)) (below_size z20_)) (blk_below (g := gb101) (o := .cells #[.string a0_0, .slice A0_1 l0_1.length c0_1, .int .i64 a0_2, .slice A0_3 l0_3.length c0_3] 25 (0, 0)) z2_ hb) (blk_below (g := gb121) (o := .cells #[.string t113, .slice Ao25 t114.length co25, .int .i64 t117, .slice Ao26 t118.length co26] 32 (0, 0)) z43_ hb) (below_step z20_ hb)
      clear HO_122001 HO_122003 BK101 BK121 HB
      obtain ⟨HO_122001, HO_122003, HO127, HO131, BK101, BK121, HB⟩ := n_
      (try clear hb)
      (try clear hb2)
      (try clear hk)
      (try clear hi)
      (try clear ho0)
      (try clear ho1)
      obtain ⟨Ao35, co35, eo35⟩ := Kd.R_slice HO127.out
      (first | subst eo35 | (injection eo35 with f1_ f2_ f3_; have f4_ := f1_.symm; have f5_ := f3_.symm; clear f1_ f2_ f3_; subst f4_; subst f5_))
      obtain ⟨Ao36, co36, eo36⟩ := Kd.S_slice HO131.out
      (first | subst eo36 | (injection eo36 with f1_ f2_ f3_; have f4_ := f1_.symm; have f5_ := f3_.symm; clear f1_ f2_ f3_; subst f4_; subst f5_))
      refine hK.out _ _ ⟨(blk_cell BK121.out 0).trans rfl, (blk_cell BK121.out 1).trans rfl, (blk_cell BK121.out 2).trans rfl, (blk_cell BK121.out 3).trans rfl, (blk_cell BK101.out 0).trans rfl, (blk_cell BK101.out 1).trans rfl, (blk_cell BK101.out 2).trans rfl, (blk_cell BK101.out 3).trans rfl⟩ (fun hHeld => ?_)
      clear hK K
      refine norm_ (a' := ?_) ?_ ?_
      rotate_left
      · show Act.put _ (some 37) _ = _
        simp only [Act.put, List.setIfInBounds_toArray, List.set_cons_zero, List.set_cons_succ, i64_w, i32_w]
        rfl
      refine one_ (i := 3) (N := some 38) #[true, true, true, true, false] rfl rfl (by kernel_rfl) (by decide) (fun K hK => ?_)
      refine goes_ Tryz.func9 (by kernel_rfl) rfl #[.agg #[.string t113, .slice Ao25 t114.length co25, .int .i64 t117, .slice Ao26 t118.length co26], .agg #[.string t124, .slice Ao35 t125.length co35, .int .i64 t128, .slice Ao36 t129.length co36]] (by rfl) rfl rfl z3_ ?_
      with_reducible refine (laws_eqTable.calls kj10 t113 _ _ t114 t117 _ _ t118 t124 _ _ t125 t128 _ _ t129 true _ ?side1 ?side2 ?side3 ?side4 ?side5 ?side6 ?side7 ?side8 A31.out).mono ?_
      (case side1 => repeat (first | exact (Kd.R_reads' HO_122001.out).2.2 | (with_reducible refine Kd.C_alloc ?_ _) | (with_reducible refine Kd.C_drewN ?_ _) | (with_reducible refine Kd.C_drew ?_)))
      (case side2 => exact (Kd.R_reads' HO_122001.out).2.1)
      (case side3 => repeat (first | exact (Kd.S_reads' HO_122003.out).2.2 | (with_reducible refine Kd.C_alloc ?_ _) | (with_reducible refine Kd.C_drewN ?_ _) | (with_reducible refine Kd.C_drew ?_)))
      (case side4 => exact (Kd.S_reads' HO_122003.out).2.1)
      (case side5 => repeat (first | exact (Kd.R_reads' HO127.out).2.2 | (with_reducible refine Kd.C_alloc ?_ _) | (with_reducible refine Kd.C_drewN ?_ _) | (with_reducible refine Kd.C_drew ?_)))
      (case side6 => exact (Kd.R_reads' HO127.out).2.1)
      (case side7 => repeat (first | exact (Kd.S_reads' HO131.out).2.2 | (with_reducible refine Kd.C_alloc ?_ _) | (with_reducible refine Kd.C_drewN ?_ _) | (with_reducible refine Kd.C_drew ?_)))
      (case side8 => exact (Kd.S_reads' HO131.out).2.1)
      rintro e w37 ⟨rfl, hb⟩
      refine ⟨_, rfl, ?_⟩
      have n_ := a7_ (Kd.R_below z59_ hb) (Kd.S_below z60_ hb) (Kd.R_below (by (with_reducible repeat (first | apply Kd.R_alloc | apply Kd.R_drewN | apply Kd.R_drew)); exact HO127.out) hb) (Kd.S_below (by (with_reducible repeat (first | apply Kd.S_alloc | apply Kd.S_drewN | apply Kd.S_drew)); exact HO131.out) hb) (blk_below (g := gb101) (o := .cells #[.string a0_0, .slice A0_1 l0_1.length c0_1, .int .i64 a0_2, .slice A0_3 l0_3.length c0_3] 25 (0, 0)) z2_ hb) (blk_below (g := gb121) (o := .cells #[.string t113, .slice Ao25 t114.length co25, .int .i64 t117, .slice Ao26 t118.length co26] 32 (0, 0)) z43_ hb) (below_step z20_ hb)
      clear HO_122001 HO_122003 HO127 HO131 BK101 BK121 HB
      obtain ⟨HO_122001, HO_122003, HO127, HO131, BK101, BK121, HB⟩ := n_
      (try clear hb)
      (try clear hb2)
      (try clear hk)
      (try clear hi)
      refine hK.out _ _ ⟨(blk_cell BK121.out 0).trans rfl, (blk_cell BK121.out 1).trans rfl, (blk_cell BK121.out 2).trans rfl, (blk_cell BK121.out 3).trans rfl, (blk_cell BK101.out 0).trans rfl, (blk_cell BK101.out 1).trans rfl, (blk_cell BK101.out 2).trans rfl, (blk_cell BK101.out 3).trans rfl⟩ (fun hHeld => ?_)
      clear hK K
      refine norm_ (a' := ?_) ?_ ?_
      rotate_left
      · show Act.put _ (some 38) _ = _
        simp only [Act.put, List.setIfInBounds_toArray, List.set_cons_zero, List.set_cons_succ, i64_w, i32_w]
        rfl
      refine pure_ (i := 4) (N := some 39) (v := ?_) (a' := ?_) #[true, true, true, true, true] rfl rfl (by kernel_rfl) (fun _ _ _ h => h) (Or.inl ⟨by rfl, ?_⟩) ?_ ?_
      rotate_left
      · intro w'
        go_simp
        with_reducible rfl
      rotate_left
      · simp only [Act.put, List.setIfInBounds_toArray, List.set_cons_zero, List.set_cons_succ, i64_w, i32_w]
        rfl
      refine done_ (by kernel_rfl) ?_
      try go_wp2
      go_ret
      exact ⟨z7_, z20_⟩
end

section
/-- THE ONE PURE STATEMENT of laws_FnExactTableText. -/
def laws_FnExactTableText.Need : Prop := ∀ (a0_0 : ByteArray) (l0_1 : List (S74)) (a0_2 : Int) (l0_3 : List (S78)), a0_0.size ≤ maxLen → (l0_1.length ≤ maxLen ∧ ∀ x0_ ∈ l0_1, Q74 x0_) → (Lit.int .i64 a0_2).wf = true → (l0_3.length ≤ maxLen ∧ ∀ x0_ ∈ l0_3, Q78 x0_) → ∃ k, laws_FnExactTableText.f k a0_0 l0_1 a0_2 l0_3 = some true
end

end Go.Proofs.YtjknmljdnolilaaGreatDoor.X
end

section
/- Small facts on numbers and texts. -/
namespace Go.Proofs.YtjknmljdnolilaaGreatDoor.Pure
open Go.RowKit Go.Proofs.YtjknmljdnolilaaGreatDoor.X Go.Proofs.YtjknmljdnolilaaGreatDoorW.PrintWords Go.Proofs.YtjknmljdnolilaaGreatDoorW.PrintLast
theorem wrap_in (a : Int) (ha : -9223372036854775808 ≤ a ∧ a ≤ 9223372036854775807) : wrap64 a = a := by unfold wrap64; omega
theorem wrap_range (a : Int) : -9223372036854775808 ≤ wrap64 a ∧ wrap64 a ≤ 9223372036854775807 := by unfold wrap64; omega
theorem i64_of {n : Int} (h : (Lit.int .i64 n).wf = true) : -9223372036854775808 ≤ n ∧ n ≤ 9223372036854775807 := bounds_i64 h
theorem u8_of {n : Int} (h : (Lit.int .u8 n).wf = true) : 0 ≤ n ∧ n ≤ 255 := bounds_u8 h
theorem toList_eq (s : ByteArray) : s.toList = s.data.toList := ByteArray.toList_eq s
theorem toList_inj {s t : ByteArray} (h : s.toList = t.toList) : s = t := by
  rw [toList_eq, toList_eq] at h
  have := Array.ext' h
  cases s; cases t; simp_all
theorem toList_iff {s t : ByteArray} : s.toList = t.toList ↔ s = t := ⟨toList_inj, fun h => by rw [h]⟩
theorem toList_mk (l : List UInt8) : (⟨⟨l⟩⟩ : ByteArray).toList = l := by rw [toList_eq]
theorem length_toList (s : ByteArray) : s.toList.length = s.size := by rw [toList_eq]; rfl
theorem empty_iff {s : ByteArray} : s.toList = [] ↔ s = (⟨#[]⟩ : ByteArray) := by
  rw [← toList_iff, show (⟨#[]⟩ : ByteArray).toList = [] from toList_mk []]
end Go.Proofs.YtjknmljdnolilaaGreatDoor.Pure
end

section
/- What Contains and Index over texts tell. -/
namespace Go.Proofs.YtjknmljdnolilaaGreatDoor.Pure
open Go.RowKit Go.Proofs.YtjknmljdnolilaaGreatDoor.X Go.Proofs.YtjknmljdnolilaaGreatDoorW.PrintWords Go.Proofs.YtjknmljdnolilaaGreatDoorW.PrintLast
theorem index_loop (l : List ByteArray) (x : ByteArray) (hl : l.length ≤ 9223372036854775807) (d : Nat) : ∀ (k i : Nat), l.length - i = d → i ≤ l.length → d < k →
    slices_Index_string_string.l0 k l x (l.length : Int) (i : Int) = some (match (l.drop i).findIdx? (fun y => x.toList == y.toList) with | some j => ((i + j : Nat) : Int) | none => -1) := by
  induction d with
  | zero =>
    intro k i hd hi hk
    obtain ⟨k, rfl⟩ : ∃ m, k = m + 1 := ⟨k - 1, by omega⟩
    simp only [slices_Index_string_string.l0]
    rw [if_neg (by omega), List.drop_of_length_le (by omega)]
    rfl
  | succ d ih =>
    intro k i hd hi hk
    obtain ⟨k, rfl⟩ : ∃ m, k = m + 1 := ⟨k - 1, by omega⟩
    have hlt : i < l.length := by omega
    simp only [slices_Index_string_string.l0]
    rw [if_pos (by omega), if_pos (by omega), if_pos (by omega), List.drop_eq_getElem_cons hlt, List.findIdx?_cons]
    have hr : rdOf ByteArray.empty l (i : Int) = l[i] := by simp [rdOf, hlt]
    rw [hr]
    by_cases c : x.toList = l[i].toList
    · have : (x.toList == l[i].toList) = true := by rw [c]; simp
      rw [if_pos c, this]; simp
    · have : (x.toList == l[i].toList) = false := by simpa using c
      rw [if_neg c, this, show wrap64 ((i : Int) + 1) = ((i + 1 : Nat) : Int) from by unfold wrap64; omega, ih k (i + 1) (by omega) (by omega) (by omega)]
      cases (l.drop (i + 1)).findIdx? (fun y => x.toList == y.toList) with
      | none => rfl
      | some j => show some (((i + 1 + j : Nat)) : Int) = some (((i + (j + 1) : Nat)) : Int); rw [show i + 1 + j = i + (j + 1) by omega]
theorem contains_is (l : List ByteArray) (x : ByteArray) (hl : l.length ≤ 9223372036854775807) (k : Nat) (hk : l.length < k) :
    slices_Contains_string_string.f k l x = some (l.any fun y => x.toList == y.toList) := by
  unfold slices_Contains_string_string.f slices_Index_string_string.f
  rw [show (0 : Int) = ((0 : Nat) : Int) from rfl, index_loop l x hl l.length k 0 (by omega) (by omega) hk, List.drop_zero]
  simp only [Option.bind_some, Option.some.injEq]
  have := fIdx_any (fun y => x.toList == y.toList) l
  unfold fIdx at this
  rw [← this]
  cases l.findIdx? (fun y => x.toList == y.toList) <;> simp
end Go.Proofs.YtjknmljdnolilaaGreatDoor.Pure
end

section
/- Names: the program and the reference tell the same. -/
namespace Go.Proofs.YtjknmljdnolilaaGreatDoor.Pure
open Go.RowKit Go.Proofs.YtjknmljdnolilaaGreatDoor.X Go.Proofs.YtjknmljdnolilaaGreatDoorW.PrintWords Go.Proofs.YtjknmljdnolilaaGreatDoorW.PrintLast
def letter (x : Int) : Bool := decide (97 ≤ x ∧ x ≤ 122) || (decide (65 ≤ x ∧ x ≤ 90) || x == 95)
def digit (x : Int) : Bool := decide (48 ≤ x ∧ x ≤ 57)
theorem impl_letter (x : Int) : impl_isLetter.f x = some (letter x) := by
  unfold impl_isLetter.f letter
  by_cases a : 97 ≤ x <;> by_cases b : x ≤ 122 <;> by_cases c : 65 ≤ x <;> by_cases d : x ≤ 90 <;> simp [a, b, c, d]
theorem spec_letter (x : Int) : spec_l00Letter.f x = some (letter x) := by
  unfold spec_l00Letter.f letter
  by_cases a : 97 ≤ x <;> by_cases b : x ≤ 122 <;> by_cases c : 65 ≤ x <;> by_cases d : x ≤ 90 <;> simp [a, b, c, d]
theorem impl_digit (x : Int) : impl_isDigit.f x = some (digit x) := by
  unfold impl_isDigit.f digit
  by_cases a : 48 ≤ x <;> by_cases b : x ≤ 57 <;> simp [a, b]
theorem spec_digit (x : Int) : spec_l00Digit.f x = some (digit x) := by
  unfold spec_l00Digit.f digit
  by_cases a : 48 ≤ x <;> by_cases b : x ≤ 57 <;> simp [a, b]
theorem impl_in (a b c : Int) : impl_within.f a b c = some (decide (b ≤ a) && decide (a ≤ c)) := by
  unfold impl_within.f
  by_cases h : a ≥ b
  · rw [if_pos h]; simp [show b ≤ a from h]
  · rw [if_neg h]; simp [show ¬ b ≤ a from h]
theorem spec_in (a b c : Int) : spec_l01In.f a b c = some (decide (b ≤ a) && decide (a ≤ c)) := by
  unfold spec_l01In.f
  by_cases h : a ≥ b
  · rw [if_pos h]; simp [show b ≤ a from h]
  · rw [if_neg h]; simp [show ¬ b ≤ a from h]
theorem next64 (i n : Nat) (h : i < n) (hn : n ≤ maxLen) : wrap64 ((i : Int) + 1) = ((i + 1 : Nat) : Int) := by simp only [maxLen] at hn; unfold wrap64; omega
def okAt (x : ByteArray) (i : Nat) : Bool := letter (bt x (i : Int)) || (decide (i ≠ 0) && digit (bt x (i : Int)))
def okFrom (x : ByteArray) : Nat → Nat → Bool
  | 0, _ => true
  | d + 1, i => okAt x i && okFrom x d (i + 1)
theorem impl_name_l0 (x : ByteArray) (hx : x.size ≤ maxLen) : ∀ d k i, i + d = x.size → impl_NameOK.l0 (k + d + 1) x (x.size : Int) (i : Int) = some (okFrom x d i && (decide (1 ≤ (x.size : Int)) && decide ((x.size : Int) ≤ 40)))
  | 0, k, i, h => by
    rw [show k + 0 + 1 = k + 1 from rfl, impl_NameOK.l0, if_neg (by omega), impl_in]; rfl
  | d + 1, k, i, h => by
    rw [show k + (d + 1) + 1 = (k + d + 1) + 1 by omega, impl_NameOK.l0, if_pos (by omega), if_pos (by omega), if_pos (by omega), impl_letter, impl_digit, next64 i x.size (by omega) hx, impl_name_l0 x hx d k (i + 1) (by omega), okFrom, okAt]
    simp only [Option.bind_some]
    cases letter (bt x (i : Int)) with
    | true => rw [if_pos rfl]; simp
    | false =>
      rw [if_neg (by decide)]
      by_cases h0 : i = 0
      · subst h0; rw [if_pos (show ((0 : Nat) : Int) = 0 from rfl)]; simp
      · rw [if_neg (by omega)]
        cases digit (bt x (i : Int)) with
        | true => rw [if_pos rfl]; simp [h0]
        | false => rw [if_neg (by decide)]; simp
theorem spec_name_l0 (x : ByteArray) (hx : x.size ≤ maxLen) : ∀ d k i, i + d = x.size → 1 ≤ i → spec_l00Word.l0 (k + d + 1) x (i : Int) = some (okFrom x d i)
  | 0, k, i, h, _ => by rw [show k + 0 + 1 = k + 1 from rfl, spec_l00Word.l0, if_neg (by omega)]; rfl
  | d + 1, k, i, h, h1 => by
    rw [show k + (d + 1) + 1 = (k + d + 1) + 1 by omega, spec_l00Word.l0, if_pos (by omega), if_pos (by omega), spec_letter, spec_digit, next64 i x.size (by omega) hx, spec_name_l0 x hx d k (i + 1) (by omega) (by omega), okFrom, okAt]
    simp only [Option.bind_some]
    have h0 : i ≠ 0 := by omega
    cases letter (bt x (i : Int)) <;> cases digit (bt x (i : Int)) <;> simp [h0]
def nameok (x : ByteArray) : Bool := okFrom x x.size 0 && (decide (1 ≤ (x.size : Int)) && decide ((x.size : Int) ≤ 40))
theorem impl_name (x : ByteArray) (hx : x.size ≤ maxLen) (k : Nat) (hk : x.size < k) : impl_NameOK.f k x = some (nameok x) := by
  obtain ⟨k, rfl⟩ : ∃ m, k = m + x.size + 1 := ⟨k - x.size - 1, by omega⟩
  exact impl_name_l0 x hx x.size k 0 (by omega)
theorem spec_name (x : ByteArray) (hx : x.size ≤ maxLen) (k : Nat) (hk : x.size + 1 < k) : spec_NameOK.f k x = some (nameok x) := by
  obtain ⟨k, rfl⟩ : ∃ m, k = m + x.size + 2 := ⟨k - x.size - 2, by omega⟩
  unfold spec_NameOK.f spec_l00Word.f nameok
  by_cases h1 : (x.size : Int) < 1
  · rw [if_pos h1, show k + x.size + 2 = (k + x.size + 1) + 1 by omega, spec_l00Word.j0, if_pos rfl]
    simp [show ¬ 1 ≤ (x.size : Int) by omega]
  rw [if_neg h1]
  by_cases h2 : (x.size : Int) > 40
  · rw [if_pos h2, show k + x.size + 2 = (k + x.size + 1) + 1 by omega, spec_l00Word.j0, if_pos rfl]
    simp [show ¬ (x.size : Int) ≤ 40 by omega]
  rw [if_neg h2, if_pos (by omega), spec_letter]
  obtain ⟨d, hd⟩ : ∃ d, x.size = d + 1 := ⟨x.size - 1, by omega⟩
  have e := spec_name_l0 x hx d (k + 1) 1 (by omega) (by omega)
  simp only [Option.bind_some]
  rw [show k + x.size + 2 = (k + 1 + d + 1) + 1 by omega, spec_l00Word.j0]
  rw [show (1 : Int) = ((1 : Nat) : Int) from rfl] at *
  rw [e, hd, okFrom, okAt]
  have g1 : decide (((1 : Nat) : Int) ≤ ((d + 1 : Nat) : Int)) = true := by simp; omega
  have g2 : decide (((d + 1 : Nat) : Int) ≤ 40) = true := by simp; omega
  rw [g1, g2]
  show _ = some (((letter (bt x 0) || (decide (0 ≠ 0) && _)) && okFrom x d (0 + 1)) && _)
  cases letter (bt x 0) <;> simp
def words : List ByteArray := [(⟨#[115, 101, 108, 101, 99, 116]⟩ : ByteArray), (⟨#[102, 114, 111, 109]⟩ : ByteArray), (⟨#[106, 111, 105, 110]⟩ : ByteArray), (⟨#[111, 110]⟩ : ByteArray), (⟨#[119, 104, 101, 114, 101]⟩ : ByteArray), (⟨#[103, 114, 111, 117, 112]⟩ : ByteArray), (⟨#[98, 121]⟩ : ByteArray), (⟨#[111, 114, 100, 101, 114]⟩ : ByteArray), (⟨#[108, 105, 109, 105, 116]⟩ : ByteArray), (⟨#[100, 101, 115, 99]⟩ : ByteArray), (⟨#[105, 110, 115, 101, 114, 116]⟩ : ByteArray), (⟨#[105, 110, 116, 111]⟩ : ByteArray), (⟨#[118, 97, 108, 117, 101, 115]⟩ : ByteArray), (⟨#[117, 112, 100, 97, 116, 101]⟩ : ByteArray), (⟨#[115, 101, 116]⟩ : ByteArray), (⟨#[100, 101, 108, 101, 116, 101]⟩ : ByteArray), (⟨#[97, 110, 100]⟩ : ByteArray), (⟨#[111, 114]⟩ : ByteArray), (⟨#[110, 111, 116]⟩ : ByteArray), (⟨#[105, 115]⟩ : ByteArray), (⟨#[110, 117, 108, 108]⟩ : ByteArray), (⟨#[116, 114, 117, 101]⟩ : ByteArray), (⟨#[102, 97, 108, 115, 101]⟩ : ByteArray), (⟨#[99, 111, 117, 110, 116]⟩ : ByteArray), (⟨#[115, 117, 109]⟩ : ByteArray), (⟨#[109, 105, 110]⟩ : ByteArray), (⟨#[109, 97, 120]⟩ : ByteArray), (⟨#[97, 115]⟩ : ByteArray)]
theorem spec_words : spec_l09Words.f = some words := rfl
theorem impl_words : impl_reserved.f = some words := by kernel_rfl
def free (x : ByteArray) : Bool := nameok x && !(words.any fun y => x.toList == y.toList)
theorem impl_free (x : ByteArray) (hx : x.size ≤ maxLen) (k : Nat) (hk : x.size + 40 < k) : impl_isFree.f k x = some (free x) := by
  unfold impl_isFree.f free
  rw [impl_name x hx k (by omega), impl_words, Option.bind_some, Option.bind_some, contains_is words x (by decide) k (by have : words.length = 28 := rfl; omega), Option.bind_some]
  cases nameok x <;> simp
theorem spec_free_l0 (x : ByteArray) : ∀ d k i, i + d = words.length → spec_l09Name.l0 (k + d + 1) x (i : Int) = some (!((words.drop i).any fun y => x.toList == y.toList))
  | 0, k, i, h => by
    rw [show k + 0 + 1 = k + 1 from rfl, spec_l09Name.l0, spec_words, Option.bind_some, if_neg (by omega), List.drop_of_length_le (by omega)]; rfl
  | d + 1, k, i, h => by
    have hw : words.length = 28 := rfl
    have hlt : i < words.length := by omega
    rw [show k + (d + 1) + 1 = (k + d + 1) + 1 by omega, spec_l09Name.l0, spec_words, Option.bind_some, if_pos (by omega), Option.bind_some, if_pos (by omega), if_pos (by omega), next64 i 28 (by omega) (by simp only [maxLen]; omega), spec_free_l0 x d k (i + 1) (by omega), List.drop_eq_getElem_cons hlt, List.any_cons]
    rw [show rdOf ByteArray.empty words (i : Int) = words[i] by simp [rdOf, hlt]]
    by_cases c : words[i].toList = x.toList
    · rw [if_pos c, show (x.toList == words[i].toList) = true by rw [c]; simp]; rfl
    · rw [if_neg c, show (x.toList == words[i].toList) = false by simpa using fun e => c e.symm]; simp
theorem spec_free (x : ByteArray) (hx : x.size ≤ maxLen) (k : Nat) (hk : x.size + 40 < k) : spec_l09Name.f k x = some (free x) := by
  unfold spec_l09Name.f free
  have hw : words.length = 28 := rfl
  obtain ⟨m, rfl⟩ : ∃ m, k = m + words.length + 1 := ⟨k - 29, by omega⟩
  have e := spec_free_l0 x words.length m 0 (by omega)
  rw [show ((0 : Nat) : Int) = 0 from rfl, List.drop_zero] at e
  rw [spec_name x hx _ (by omega), Option.bind_some, e]
  cases nameok x <;> simp
end Go.Proofs.YtjknmljdnolilaaGreatDoor.Pure
end

section
/- Copies, likeness and sizes of columns. -/
namespace Go.Proofs.YtjknmljdnolilaaGreatDoor.Pure
open Go.RowKit Go.Proofs.YtjknmljdnolilaaGreatDoor.X Go.Proofs.YtjknmljdnolilaaGreatDoorW.PrintWords Go.Proofs.YtjknmljdnolilaaGreatDoorW.PrintLast
theorem rdlColumn_ (V : List S74) (i : Nat) (h : i < V.length) : rd_T74 V (i : Int) = V[i] := by simp [rd_T74, h]
theorem rdiColumn_ (V : List S81) (i : Nat) (h : i < V.length) : rd_T81 V (i : Int) = V[i] := by simp [rd_T81, h]
def cvColumn (x : S74) : S81 := ⟨x.f0, x.f1, x.f2⟩
theorem eqColumn_refl (x : S81) : laws_eqColumn.f x.f0 x.f1 x.f2 x.f0 x.f1 x.f2 = some true := by unfold laws_eqColumn.f; simp
theorem eqColumnS_l0 (V : List S81) (hV : V.length ≤ 1048576) (d : Nat) : ∀ k i, V.length - i = d → i ≤ V.length → laws_eqColumnS.l0 (k + d + 1) V V (i : Int) = some true := by
  induction d with
  | zero => intro k i h1 h2; rw [laws_eqColumnS.l0, if_neg (by omega)]
  | succ d ih =>
    intro k i h1 h2
    rw [show k + (d + 1) + 1 = (k + d + 1) + 1 by omega, laws_eqColumnS.l0, if_pos (by omega), if_pos (by omega), if_pos (by omega), eqColumn_refl, Option.bind_some, if_pos rfl, next64 i V.length (by omega) (by simp only [maxLen]; omega)]
    exact ih k (i + 1) (by omega) (by omega)
theorem eqColumnS_refl (V : List S81) (hV : V.length ≤ 1048576) (k : Nat) (hk : V.length < k) : laws_eqColumnS.f k V V = some true := by
  obtain ⟨k, rfl⟩ : ∃ m, k = m + V.length + 1 := ⟨k - V.length - 1, by omega⟩
  unfold laws_eqColumnS.f
  rw [if_pos rfl]
  exact eqColumnS_l0 V hV V.length k 0 (by omega) (by omega)
theorem toColumnS_l0 (L : List S74) (hV : L.length ≤ 1048576) (d : Nat) : ∀ k i (R : List S81), L.length - i = d → i ≤ L.length → R.length = L.length →
    laws_toColumnS.l0 (k + d + 1) L R (i : Int) = some (R.take i ++ (L.drop i).map cvColumn) := by
  induction d with
  | zero =>
    intro k i R h1 h2 h3
    rw [laws_toColumnS.l0, if_neg (by omega), List.take_of_length_le (by omega), List.drop_of_length_le (by omega), List.map_nil, List.append_nil]
  | succ d ih =>
    intro k i R h1 h2 h3
    have hlt : i < L.length := by omega
    rw [show k + (d + 1) + 1 = (k + d + 1) + 1 by omega, laws_toColumnS.l0, if_pos (by omega), if_pos (by omega), rdlColumn_ L i hlt]
    unfold laws_toColumn.f
    rw [Option.bind_some, if_pos (by omega), next64 i L.length (by omega) (by simp only [maxLen]; omega), ih k (i + 1) _ (by omega) (by omega) (by rw [List.length_set]; exact h3)]
    congr 1
    rw [show (i : Int).toNat = i from rfl, List.drop_eq_getElem_cons hlt, List.map_cons]
    rw [show List.take (i + 1) (R.set i (⟨L[i].f0, L[i].f1, L[i].f2⟩ : S81)) = List.take i R ++ [cvColumn L[i]] from ?_, List.append_assoc]
    · rfl
    · rw [List.take_succ_eq_append_getElem (by rw [List.length_set]; omega), List.getElem_set_self]
      congr 1
      exact List.take_set_of_le (Nat.le_refl i)
theorem toColumnS_is (L : List S74) (hV : L.length ≤ 1048576) (k : Nat) (hk : L.length < k) : laws_toColumnS.f k L = some (L.map cvColumn) := by
  obtain ⟨k, rfl⟩ : ∃ m, k = m + L.length + 1 := ⟨k - L.length - 1, by omega⟩
  unfold laws_toColumnS.f
  rw [if_pos (by omega), if_pos (by omega)]
  have := toColumnS_l0 L hV L.length k 0 (List.replicate ((L.length : Int)).toNat z81) (by omega) (by omega) (by simp)
  simpa using this
theorem szColumn_is (x : S74) (m : Int) (hm : 0 ≤ m ∧ m ≤ 1048576) (hx : x.f0.size ≤ maxLen) : ∃ n, laws_szColumn.f x.f0 x.f1 x.f2 m = some n ∧ -1 ≤ n ∧ n ≤ m := by
  simp only [maxLen] at hx
  unfold laws_szColumn.f
  rw [wrap_in (m - (x.f0.size : Int)) (by omega)]
  by_cases c0 : m - (x.f0.size : Int) < 0
  · rw [if_pos c0]; exact ⟨_, rfl, by omega⟩
  rw [if_neg c0]
  exact ⟨_, rfl, by omega⟩
theorem szColumnS_l0 (L : List S74) (hV : L.length ≤ 1048576) (hx : ∀ x ∈ L, x.f0.size ≤ maxLen) (d : Nat) : ∀ k i (m : Int), L.length - i = d → i ≤ L.length → 0 ≤ m ∧ m ≤ 1048576 → ∃ n, laws_szColumnS.l0 (k + d + 1) L m (i : Int) = some n ∧ -1 ≤ n ∧ n ≤ m := by
  induction d with
  | zero => intro k i m h1 h2 hm; exact ⟨_, by rw [laws_szColumnS.l0, if_neg (by omega)], by omega⟩
  | succ d ih =>
    intro k i m h1 h2 hm
    have hlt : i < L.length := by omega
    rw [show k + (d + 1) + 1 = (k + d + 1) + 1 by omega, laws_szColumnS.l0, if_pos (by omega), if_pos (by omega), rdlColumn_ L i hlt]
    obtain ⟨n, e, h3, h4⟩ := szColumn_is L[i] m hm (hx _ (List.getElem_mem hlt))
    rw [e, Option.bind_some]
    by_cases hn : n < 0
    · rw [if_pos hn]; exact ⟨_, rfl, by omega⟩
    · rw [if_neg hn, next64 i L.length (by omega) (by simp only [maxLen]; omega)]
      obtain ⟨n2, e2, h5, h6⟩ := ih k (i + 1) n (by omega) (by omega) (by omega)
      exact ⟨n2, e2, by omega⟩
theorem szColumnS_is (L : List S74) (hM : L.length ≤ maxLen) (hx : ∀ x ∈ L, x.f0.size ≤ maxLen) (m : Int) (hm : 0 ≤ m ∧ m ≤ 1048576) (k : Nat) (hk : L.length < k) : ∃ n, laws_szColumnS.f k L m = some n ∧ -1 ≤ n ∧ n ≤ m ∧ (n < 0 ∨ L.length ≤ 1048576) := by
  simp only [maxLen] at hM
  unfold laws_szColumnS.f
  rw [wrap_in (m - (L.length : Int)) (by omega)]
  by_cases c : m - (L.length : Int) < 0
  · rw [if_pos c]; exact ⟨_, rfl, by omega⟩
  rw [if_neg c]
  obtain ⟨k, rfl⟩ : ∃ q, k = q + L.length + 1 := ⟨k - L.length - 1, by omega⟩
  obtain ⟨n, e, h1, h2⟩ := szColumnS_l0 L (by omega) hx L.length k 0 (m - (L.length : Int)) (by omega) (by omega) (by omega)
  exact ⟨n, e, by omega, by omega, .inr (by omega)⟩
end Go.Proofs.YtjknmljdnolilaaGreatDoor.Pure
end
