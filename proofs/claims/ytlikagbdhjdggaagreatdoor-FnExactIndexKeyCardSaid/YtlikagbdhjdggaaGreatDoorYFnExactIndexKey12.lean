/- Contracts of functions, and what is told of them. -/
import Derived.Test.YtlikagbdhjdggaaGreatDoorYFnExactIndexKey10
import Derived.Test.YtlikagbdhjdggaaGreatDoorYFnExactIndexKey11
set_option linter.unusedSimpArgs false
set_option linter.unusedVariables false
set_option maxHeartbeats 8000000
set_option maxRecDepth 100000
section
namespace Go.Proofs.YtlikagbdhjdggaaGreatDoor.X
open Go.RowKit Go.Proofs.YtlikagbdhjdggaaGreatDoorW.PrintWords Go.Proofs.YtlikagbdhjdggaaGreatDoorW.PrintLast Go.Proofs.YtlikagbdhjdggaaGreatDoorW.PrintMore
attribute [local go_sem] max2_int min2_int max_two min_two max_three min_three max_four min_four

section
def spec_l09Entry.l0 : Nat → List (S61) → List (S61) → Int → ByteArray → List (S78) → Int → List (S58) → ByteArray → List Int → Option ((List (S61)))
 | 0, _, _, _, _, _, _, _, _, _ => none
 | k + 1, x2, x7, x8, x102000, x102001, x102002, x102003, x103000, x103001 => if x8 < (x103001.length : Int) then (if 0 ≤ x8 then (if 0 ≤ (rd x103001 x8) then (if (rd x103001 x8) < (x2.length : Int) then (if x7.length < 4398046511104 then (spec_l09Entry.l0 k x2 (x7 ++ [(⟨(rd_T61 x2 (rd x103001 x8)).f0, (rd_T61 x2 (rd x103001 x8)).f1, (rd_T61 x2 (rd x103001 x8)).f2⟩ : S61)]) (wrap64 (x8 + 1)) x102000 x102001 x102002 x102003 x103000 x103001) else (none)) else (none)) else (none)) else (none)) else (if 0 ≤ x102002 then (if x102002 ≤ (x2.length : Int) then ((some (x2.take (x102002 : Int).toNat : List (S61))).bind fun y111 => (if x7.length + y111.length < 4398046511104 then (some (x7 ++ y111)) else (none))) else (none)) else (none))
def spec_l09Entry.f (k : Nat) (a0_0 : ByteArray) (l0_1 : List (S78)) (a0_2 : Int) (l0_3 : List (S58)) (a1_0 : ByteArray) (l1_1 : List Int) (l2 : List (S61)) : Option ((List (S61))) := spec_l09Entry.l0 k l2 (([] : List (S61))) 0 a0_0 l0_1 a0_2 l0_3 a1_0 l1_1
theorem spec_l09Entry.mono_l : ∀ k, (∀ y0 y1 y2 y3 y4 y5 y6 y7 y8, LeO (spec_l09Entry.l0 k y0 y1 y2 y3 y4 y5 y6 y7 y8) (spec_l09Entry.l0 (k + 1) y0 y1 y2 y3 y4 y5 y6 y7 y8))
 | 0 => fun _ _ _ _ _ _ _ _ _ r h => by simp [spec_l09Entry.l0] at h
 | k + 1 => by
  have ih0 := spec_l09Entry.mono_l k
  intro y0 y1 y2 y3 y4 y5 y6 y7 y8
  unfold spec_l09Entry.l0
  repeat' first | with_reducible (first | exact ih0 _ _ _ _ _ _ _ _ _ | exact LeO.refl _ | exact LeO.none _ | refine LeO.ite ?_ ?_ | refine LeO.bind ?_ (fun _ => ?_)) | exact ih0 _ _ _ _ _ _ _ _ _ | exact LeO.none _ | refine LeO.ite ?_ ?_ | refine LeO.bind ?_ (fun _ => ?_)
theorem spec_l09Entry.mono : ∀ a0 a1 a2 a3 a4 a5 a6 k, LeO (spec_l09Entry.f k a0 a1 a2 a3 a4 a5 a6) (spec_l09Entry.f (k + 1) a0 a1 a2 a3 a4 a5 a6) := by
 intro a0 a1 a2 a3 a4 a5 a6 k
 have ih0 := spec_l09Entry.mono_l k
 unfold spec_l09Entry.f
 repeat' first
   | (with_reducible exact ih0 _ _ _ _ _ _ _ _ _)
   | (with_reducible exact LeO.refl _)
   | (with_reducible exact LeO.none _)
   | (with_reducible refine LeO.ite ?_ ?_)
   | (with_reducible refine LeO.bind ?_ (fun _ => ?_))
   | exact ih0 _ _ _ _ _ _ _ _ _
   | exact LeO.none _
   | refine LeO.ite ?_ ?_
   | refine LeO.bind ?_ (fun _ => ?_)
theorem spec_l09Entry.calls (k : Nat) (a0_0 : ByteArray) (A0_1 : Option Addr) (c0_1 : Nat) (l0_1 : List (S78)) (a0_2 : Int) (A0_3 : Option Addr) (c0_3 : Nat) (l0_3 : List (S58)) (a1_0 : ByteArray) (A1_1 : Option Addr) (c1_1 : Nat) (l1_1 : List Int) (A2 : Option Addr) (c2 : Nat) (l2 : List (S61)) (r : List (S61)) (w : World) (hr0_1 : Kd.C k78 w A0_1 l0_1.length l0_1) (hc0_1 : l0_1.length ≤ c0_1) (hr0_3 : Kd.C k58 w A0_3 l0_3.length l0_3) (hc0_3 : l0_3.length ≤ c0_3) (hr1_1 : Kd.C (Kd.int .i64) w A1_1 l1_1.length l1_1) (hc1_1 : l1_1.length ≤ c1_1) (hr2 : Kd.C k61 w A2 l2.length l2) (hc2 : l2.length ≤ c2) (h : spec_l09Entry.f k a0_0 l0_1 a0_2 l0_3 a1_0 l1_1 l2 = some r) :
  Calls Tryz.prog 23 #[.agg #[.string a0_0, .slice A0_1 l0_1.length c0_1, .int .i64 a0_2, .slice A0_3 l0_3.length c0_3], .agg #[.string a1_0, .slice A1_1 l1_1.length c1_1], .slice A2 l2.length c2] w fun e w' => ∃ v0_ : Value, e = .returned (v0_) ∧ Kd.R k61 61 w' w.heap.size (fun _ => True) v0_ r ∧ Below w.heap.size w w' := by
 have hu35 := Tryz.underlying35
 have hu58 := Tryz.underlying58
 have hu61 := Tryz.underlying61
 have HR0_1 := ak_ hr0_1
 have HC0_1 := ak_ hc0_1
 clear hr0_1 hc0_1
 have HR0_3 := ak_ hr0_3
 have HC0_3 := ak_ hc0_3
 clear hr0_3 hc0_3
 have HR1_1 := ak_ hr1_1
 have HC1_1 := ak_ hc1_1
 clear hr1_1 hc1_1
 have HR2 := ak_ hr2
 have HC2 := ak_ hc2
 clear hr2 hc2
 have HB := ak_ (Below.refl w.heap.size w)
 have H : (spec_l09Entry.l0 k l2 (([] : List (S61))) 0 a0_0 l0_1 a0_2 l0_3 a1_0 l1_1) = some r := h
 clear h
 obtain ⟨y103, hy103⟩ : ∃ y_ : List (S61), y_ = (([] : List (S61))) := ⟨_, rfl⟩
 replace H : (spec_l09Entry.l0 k l2 y103 0 a0_0 l0_1 a0_2 l0_3 a1_0 l1_1) = some r := by first | (rw [hy103]; with_reducible exact H) | (have H2_ := (Option.bind_some _ _).symm.trans H; rw [hy103]; with_reducible exact H2_) | (have H2_ := (Option.bind_some _ _).symm.trans H; with_reducible exact H2_) | with_reducible exact H | (rw [hy103]; exact H) | exact H
 have Ny103 := ak_ hy103
 clear hy103
 have H' := ak_ H
 clear H
 go_enter Tryz.func23, Tryz.ntmps23
 go_wp2_with (first | ((with_reducible refine gate_dst (N := 3) rfl ?_); refine bx_ 3 (cs := #[.string a0_0, .slice A0_1 l0_1.length c0_1, .int .i64 a0_2, .slice A0_3 l0_3.length c0_3]) (t := 35) (h_ := ?_); intro gb101 hg w4 hbox hb; have n_ := a4_ (below_step z0_ hb) (hbox) ((gs_ w hg (below_size z0_))) ((gs_ w hg (below_size z0_))); clear HB; obtain ⟨HB, BK101, GW101, GE101⟩ := n_; clear hb hbox hg) | ((with_reducible refine gate_dst (N := 4) rfl ?_); refine bx_ 4 (cs := #[.string a1_0, .slice A1_1 l1_1.length c1_1]) (t := 58) (h_ := ?_); intro gb102 hg w5 hbox hb; have n_ := a7_ (blk_below (g := gb101) (o := .cells #[.string a0_0, .slice A0_1 l0_1.length c0_1, .int .i64 a0_2, .slice A0_3 l0_3.length c0_3] 35 (0, 0)) z2_ hb) (below_step z1_ hb) (hbox) ((gs_ w hg (below_size z1_))) ((gs_ w hg (below_size z1_))) ((z26_ : gb101 ≠ gb102)) ((z27_ : gb102 ≠ gb101)); clear BK101 HB; obtain ⟨BK101, HB, BK102, GW102, GE102, NB101_102, NB102_101⟩ := n_; clear hb hbox hg) | ((with_reducible refine gate_dst (N := 9) rfl ?_); refine Kd.R_lit k61 _ 61 ?hg (N := 9) ?hd (xs := ([] : List (S61))) (inner := []) (ok := fun _ => True) (okp := fun _ => True) ?hr ?hp (fun _ hk => hk) trivial (Below.refl _ _) (Nat.le_refl _) (by simp) ?_; (case hd => rfl); (case hg => rfl); (case hr => first | (go_simp; done) | (go_simp; rfl)); (case hp => exact (Reps.none _ _)); intro v104 w6 ho7 hb hg_ hnew_; clear hg_ hnew_; (first | rw [← Ny103.out] at ho7 | (simp only [Int.reduceToNat] at ho7; rw [← Ny103.out] at ho7)); have n_ := a4_ (Kd.R_lower ho7 (below_size z4_)) (blk_below (g := gb101) (o := .cells #[.string a0_0, .slice A0_1 l0_1.length c0_1, .int .i64 a0_2, .slice A0_3 l0_3.length c0_3] 35 (0, 0)) z2_ hb) (blk_below (g := gb102) (o := .cells #[.string a1_0, .slice A1_1 l1_1.length c1_1] 58 (0, 0)) z11_ hb) (below_step z4_ hb); clear BK101 BK102 HB; obtain ⟨HO105, BK101, BK102, HB⟩ := n_; clear hb ho7))
 go_loopg [7, 8] k (fun kq v7 v8 w' => ∃ (x7_1 : List (S61)) (x8_1 : Int), v8 = .int .i64 x8_1 ∧ Aside0 (spec_l09Entry.l0 kq l2 x7_1 x8_1 a0_0 l0_1 a0_2 l0_3 a1_0 l1_1 = some r) ∧ Aside0 (kq ≤ k) ∧ Aside0 (Kd.R k61 61 w' w.heap.size (fun _ => True) v7 x7_1) ∧ Aside0 (w'.heap[gb101]? = some (.cells #[.string a0_0, (.slice A0_1 l0_1.length c0_1), .int .i64 a0_2, (.slice A0_3 l0_3.length c0_3)] 35 (0, 0))) ∧ Aside0 (w'.heap[gb102]? = some (.cells #[.string a1_0, (.slice A1_1 l1_1.length c1_1)] 58 (0, 0))) ∧ Aside0 (Below w.heap.size w w'))
 case atStart => exact ⟨(y103), (0), z8_, H', ⟨Nat.le_refl _⟩, ⟨by (with_reducible repeat (first | apply Kd.R_alloc | apply Kd.R_drewN | apply Kd.R_drew)); exact HO105.out⟩, ⟨z2_⟩, ⟨z11_⟩, ⟨z4_⟩⟩
 case round =>
  clear H'
  try clear c1
  try clear c2
  try clear p2
  obtain ⟨x7_1, x8_1, rfl, HA, HK1, HO_7, BK101, BK102, HB⟩ := hrel
  cases gk with
  | zero => exact absurd HA.out (by simp [spec_l09Entry.l0])
  | succ k1 =>
   have H := HA.out
   clear HA
   simp only [spec_l09Entry.l0] at H
   by_cases c8 : x8_1 < (l1_1.length : Int)
   rotate_left
   ·rw [if_neg c8] at H
    have c8b0 := decide_eq_false c8
    clear c8
    by_cases c16 : 0 ≤ a0_2
    ·rw [if_pos c16] at H
     have c16b0 := eq_true c16
     have c16b1 := decide_eq_true c16
     clear c16
     by_cases c17 : a0_2 ≤ (l2.length : Int)
     ·rw [if_pos c17] at H
      have c17b0 := eq_true c17
      have c17b1 := decide_eq_true c17
      clear c17
      obtain ⟨y111, hy111⟩ : ∃ y_ : List (S61), y_ = (l2.take (a0_2 : Int).toNat) := ⟨_, rfl⟩
      replace H : (if x7_1.length + y111.length < 4398046511104 then (some (x7_1 ++ y111)) else (none)) = some r := by first | (rw [hy111]; with_reducible exact H) | (have H2_ := (Option.bind_some _ _).symm.trans H; rw [hy111]; with_reducible exact H2_) | (have H2_ := (Option.bind_some _ _).symm.trans H; with_reducible exact H2_) | with_reducible exact H | (rw [hy111]; exact H) | exact H
      have Ny111 := ak_ hy111
      clear hy111
      by_cases c18 : x7_1.length + y111.length < 4398046511104
      ·rw [if_pos c18] at H
       have LMc18 := ak_ c18
       clear c18
       obtain ⟨y115, hy115⟩ : ∃ y_ : List (S61), y_ = (x7_1 ++ y111) := ⟨_, rfl⟩
       replace H : (some y115) = some r := by first | (rw [hy115]; with_reducible exact H) | (have H2_ := (Option.bind_some _ _).symm.trans H; rw [hy115]; with_reducible exact H2_) | (have H2_ := (Option.bind_some _ _).symm.trans H; with_reducible exact H2_) | with_reducible exact H | (rw [hy115]; exact H) | exact H
       have Ny115 := ak_ hy115
       clear hy115
       obtain rfl := Option.some.inj H
       have hnb19 := NB102_101.out
       have hnc19 := NB101_102.out
       obtain ⟨hcz20_0, hcz20_1, hfz20_0, hfz20_1⟩ := bcf2 BK102.out
       obtain ⟨hcz21_0, hcz21_1, hcz21_2, hcz21_3, hfz21_0, hfz21_1, hfz21_2, hfz21_3⟩ := bcf4 BK101.out
       have q22 : (a0_2 : Int) ≤ ((l2.length : Int) : Int) := of_decide_eq_true z5_
       obtain ⟨i022, hi022, _, hsz22, _⟩ := info_parts info61
       have hroom22 : l2.length ≤ c2 := HC2.out
       have hC22 : Kd.C k61 _ A2 l2.length l2 := HR2.out
       have hcut22 := cut_to (P := Tryz.prog) 37 61 .i64 Tryz.underlying37 hi022 A2 l2.length c2 a0_2 (of_decide_eq_true z5_) q22 hroom22
       have hr22 := Kd.C_take (m := (a0_2 : Int).toNat) hC22 (by omega)
       have hy22 : y111.length = (a0_2 : Int).toNat := (by rw [Ny111.out, List.length_take]; omega)
       rw [← Ny111.out] at hr22
       rw [← hy22] at hcut22
       have HR114 := ak_ hr22
       have HC114 := ak_ (show y111.length ≤ c2 from by omega)
       clear hr22 hC22 hroom22 hi022 hsz22
       have KY22 := ak_ hy22
       clear hy22
       replace q22 := eq_true q22
       go_wp2_with (first | ((with_reducible refine gate_builtin (b := .append) (xs := #[.tmp 28, .tmp 32]) rfl ?_); at_builtin; refine Kd.R_append_rows k61 (w0 := w) w.heap.size rfl (.tmp 28) (.tmp 32) 37 61 (.agg #[(.int .i64 0), (.int .i64 0), (.string ⟨#[]⟩)]) 32 rfl Tryz.underlying37 info61 rfl (by decide) (by omega) u7 x7_1 y111 _ _ _ (fun _ => True) (fun _ => False) rfl rfl ?aO ?aR (fun _ _ h => h) (fun _ h => h.elim) ?aF ?aB ?aS ?aL ?_; (case aR => exact cz_ ((Kd.C_below HR114.out HB.out))); (case aB => exact z4_); (case aF => exact (fun _ _ => trivial)); (case aO => exact z47_); (case aS => exact (below_size z4_)); (case aL => have := LMc18.out; omega); intro v116 w23 ho hb hg hat; rw [← Ny115.out] at ho; have n_ := a4_ (blk_grown (g := gb101) (o := .cells #[.string a0_0, .slice A0_1 l0_1.length c0_1, .int .i64 a0_2, .slice A0_3 l0_3.length c0_3] 35 (0, 0)) z2_ hg (Kd.R_ne HO_7.out BK101.out (by decide))) (blk_grown (g := gb102) (o := .cells #[.string a1_0, .slice A1_1 l1_1.length c1_1] 58 (0, 0)) z11_ hg (Kd.R_ne HO_7.out BK102.out (by decide))) (hb) (ho); clear BK101 BK102 HB HO_7; obtain ⟨BK101, BK102, HB, HO117⟩ := n_; clear ho hb hg hat))
       go_ret
       exact ⟨_, z6_, z44_, z4_⟩
      ·rw [if_neg c18] at H
       exact absurd H (by simp)
     ·rw [if_neg c17] at H
      exact absurd H (by simp)
    ·rw [if_neg c16] at H
     exact absurd H (by simp)

   rw [if_pos c8] at H
   have c8b0 := decide_eq_true c8
   clear c8
   by_cases c9 : 0 ≤ x8_1
   rotate_left
   ·rw [if_neg c9] at H
    exact absurd H (by simp)
   rw [if_pos c9] at H
   have c9b0 := decide_eq_true c9
   clear c9
   by_cases c10 : 0 ≤ (rd l1_1 x8_1)
   rotate_left
   ·rw [if_neg c10] at H
    exact absurd H (by simp)
   rw [if_pos c10] at H
   have c10b0 := decide_eq_true c10
   clear c10
   by_cases c11 : (rd l1_1 x8_1) < (l2.length : Int)
   rotate_left
   ·rw [if_neg c11] at H
    exact absurd H (by simp)
   rw [if_pos c11] at H
   have c11b0 := decide_eq_true c11
   clear c11
   by_cases c12 : x7_1.length < 4398046511104
   rotate_left
   ·rw [if_neg c12] at H
    exact absurd H (by simp)
   rw [if_pos c12] at H
   have LMc12 := ak_ c12
   clear c12
   obtain ⟨y108, hy108⟩ : ∃ y_ : List (S61), y_ = (x7_1 ++ [(⟨(rd_T61 l2 (rd l1_1 x8_1)).f0, (rd_T61 l2 (rd l1_1 x8_1)).f1, (rd_T61 l2 (rd l1_1 x8_1)).f2⟩ : S61)]) := ⟨_, rfl⟩
   replace H : (spec_l09Entry.l0 k1 l2 y108 (wrap64 (x8_1 + 1)) a0_0 l0_1 a0_2 l0_3 a1_0 l1_1) = some r := by first | (rw [hy108]; with_reducible exact H) | (have H2_ := (Option.bind_some _ _).symm.trans H; rw [hy108]; with_reducible exact H2_) | (have H2_ := (Option.bind_some _ _).symm.trans H; with_reducible exact H2_) | with_reducible exact H | (rw [hy108]; exact H) | exact H
   have Ny108 := ak_ hy108
   clear hy108
   have H' := ak_ H
   clear H
   have hnb13 := NB102_101.out
   have hnc13 := NB101_102.out
   obtain ⟨hcz14_0, hcz14_1, hfz14_0, hfz14_1⟩ := bcf2 BK102.out
   have p106 : 0 ≤ (x8_1 : Int) := of_decide_eq_true z5_
   have q106 : x8_1 < (l1_1.length : Int) := of_decide_eq_true z5_
   obtain ⟨ad106, e106, hx106_0⟩ := Kd.at_int HR1_1.out x8_1 p106 q106
   cases e106
   replace hx106_0 := oc_ HB.out hx106_0
   replace p106 := eq_true p106
   replace q106 := eq_true q106
   have p107 : 0 ≤ ((rd l1_1 x8_1) : Int) := of_decide_eq_true z5_
   have q107 : (rd l1_1 x8_1) < (l2.length : Int) := of_decide_eq_true z5_
   obtain ⟨ad107, e107, hx107_0, hx107_1, hx107_2⟩ := at_T61 HR2.out (rd l1_1 x8_1) p107 q107
   cases e107
   replace hx107_0 := oc_ HB.out hx107_0
   replace hx107_1 := oc_ HB.out hx107_1
   replace hx107_2 := oc_ HB.out hx107_2
   replace p107 := eq_true p107
   replace q107 := eq_true q107
   go_wp2_with (first | ((with_reducible refine gate_builtin (b := .append) (xs := #[.tmp 17, .tmp 26]) rfl ?_); at_builtin; refine Kd.R_append k61 (w0 := w) w.heap.size rfl (.tmp 17) (.tmp 26) 37 61 (.agg #[(.int .i64 0), (.int .i64 0), (.string ⟨#[]⟩)]) 32 rfl Tryz.underlying37 info61 rfl (by decide) (by omega) u7 x7_1 (⟨(rd_T61 l2 (rd l1_1 x8_1)).f0, (rd_T61 l2 (rd l1_1 x8_1)).f1, (rd_T61 l2 (rd l1_1 x8_1)).f2⟩ : S61) [.int .i64 ((rd_T61 l2 (rd l1_1 x8_1)).f0), .int .i64 ((rd_T61 l2 (rd l1_1 x8_1)).f1), .string ((rd_T61 l2 (rd l1_1 x8_1)).f2)] (fun _ => True) (fun _ => False) rfl rfl ?aP (fun _ hk => hk.elim) ?aF ?aO ?aB ?aS ?aL ?_; (case aP => exact k61_mkM _ _ _ (⟨(rd_T61 l2 (rd l1_1 x8_1)).f0, (rd_T61 l2 (rd l1_1 x8_1)).f1, (rd_T61 l2 (rd l1_1 x8_1)).f2⟩ : S61)); (case aB => exact z4_); (case aF => exact (fun _ _ => trivial)); (case aO => exact z47_); (case aS => exact (below_size z4_)); (case aL => have := LMc12.out; omega); intro v109 w15 ho hb hg hat; rw [← Ny108.out] at ho; have n_ := a4_ (blk_grown (g := gb101) (o := .cells #[.string a0_0, .slice A0_1 l0_1.length c0_1, .int .i64 a0_2, .slice A0_3 l0_3.length c0_3] 35 (0, 0)) z2_ hg (Kd.R_ne HO_7.out BK101.out (by decide))) (blk_grown (g := gb102) (o := .cells #[.string a1_0, .slice (some ad106) l1_1.length c1_1] 58 (0, 0)) z11_ hg (Kd.R_ne HO_7.out BK102.out (by decide))) (hb) (ho); clear BK101 BK102 HB HO_7; obtain ⟨BK101, BK102, HB, HO110⟩ := n_; clear ho hb hg hat))
   go_roundg k1
   case measure => have := HK1.out; omega
   case rel => exact ⟨(y108), (wrap64 (x8_1 + 1)), z8_, H', ⟨by have := HK1.out; omega⟩, ⟨by (with_reducible repeat (first | apply Kd.R_alloc | apply Kd.R_drewN | apply Kd.R_drew)); exact HO110.out⟩, ⟨z2_⟩, ⟨z11_⟩, ⟨z4_⟩⟩
end

section
def spec_IndexKey.f (k : Nat) (a0_0 : ByteArray) (l0_1 : List (S78)) (a0_2 : Int) (l0_3 : List (S58)) (a1 : Int) (l2 : List (S61)) : Option (List Int × Int) := if (l2.length : Int) > 4096 then (some ((([] : List Int)), 2)) else ((spec_CheckRow.f k a0_0 l0_1 a0_2 l0_3 l2).bind fun bt105 => (if bt105.1 = 0 then ((spec_l01In.f a1 0 (wrap64 ((l0_3.length : Int) - 1))).bind fun t110 => (if t110 = true then (if 0 ≤ a1 then (if a1 < (l0_3.length : Int) then ((spec_l09Entry.f k a0_0 l0_1 a0_2 l0_3 ((rd_T58 l0_3 a1).f0) ((rd_T58 l0_3 a1).f1) l2).bind fun t112 => ((spec_l01Key.f k t112).bind fun t115 => (some (t115, 0)))) else (none)) else (none)) else (some ((([] : List Int)), 4)))) else (some ((([] : List Int)), bt105.1))))
theorem spec_IndexKey.mono : ∀ a0 a1 a2 a3 a4 a5 k, LeO (spec_IndexKey.f k a0 a1 a2 a3 a4 a5) (spec_IndexKey.f (k + 1) a0 a1 a2 a3 a4 a5) := by
 intro a0 a1 a2 a3 a4 a5 k
 unfold spec_IndexKey.f
 repeat' first
   | (with_reducible exact spec_CheckRow.mono _ _ _ _ _ _)
   | (with_reducible exact spec_l01Key.mono _ _)
   | (with_reducible exact spec_l09Entry.mono _ _ _ _ _ _ _ _)
   | (with_reducible exact LeO.refl _)
   | (with_reducible exact LeO.none _)
   | (with_reducible refine LeO.ite ?_ ?_)
   | (with_reducible refine LeO.bind ?_ (fun _ => ?_))
   | exact spec_CheckRow.mono _ _ _ _ _ _
   | exact spec_l01Key.mono _ _
   | exact spec_l09Entry.mono _ _ _ _ _ _ _ _
   | exact LeO.none _
   | refine LeO.ite ?_ ?_
   | refine LeO.bind ?_ (fun _ => ?_)
def spec_IndexKey.T8 : Bool × List (List Nat × List Nat) := (true, [([], []), ([], []), ([1], [1]), ([], []), ([2, 3], [2, 3]), ([4], [4]), ([], []), ([0, 5, 6], [0, 5, 6]), ([7, 7], [7]), ([8, 8, 0, 1, 2, 3, 4, 5, 6, 7, 8], [8]), ([9, 0, 1, 2, 3, 4, 5, 6, 7, 8, 9], [])])
def spec_IndexKey.B8 : List Nat := [0, 0, 2, 0, 14, 30, 0, 127, 255, 511, 1023]
theorem spec_IndexKey.tab8 : rtab .any (opsOf Tryz.f6 8) = spec_IndexKey.T8 := by kernel_rfl
theorem spec_IndexKey.bits8 : waitsOk spec_IndexKey.T8.2 spec_IndexKey.B8 = true := by kernel_rfl
theorem spec_IndexKey.calls (k : Nat) (a0_0 : ByteArray) (A0_1 : Option Addr) (c0_1 : Nat) (l0_1 : List (S78)) (a0_2 : Int) (A0_3 : Option Addr) (c0_3 : Nat) (l0_3 : List (S58)) (a1 : Int) (A2 : Option Addr) (c2 : Nat) (l2 : List (S61)) (r1 : List Int) (r2 : Int) (w : World) (hr0_1 : Kd.C k78 w A0_1 l0_1.length l0_1) (hc0_1 : l0_1.length ≤ c0_1) (hr0_3 : Kd.C k58 w A0_3 l0_3.length l0_3) (hc0_3 : l0_3.length ≤ c0_3) (hr2 : Kd.C k61 w A2 l2.length l2) (hc2 : l2.length ≤ c2) (h : spec_IndexKey.f k a0_0 l0_1 a0_2 l0_3 a1 l2 = some (r1, r2)) :
  Calls Tryz.prog 6 #[.agg #[.string a0_0, .slice A0_1 l0_1.length c0_1, .int .i64 a0_2, .slice A0_3 l0_3.length c0_3], .int .i64 a1, .slice A2 l2.length c2] w fun e w' => ∃ v0_ : Value, e = .returned (.tuple #[v0_, .int .i64 r2]) ∧ Kd.R (Kd.int .u8) 5 w' w.heap.size (fun _ => True) v0_ r1 ∧ Below w.heap.size w w' := by
 have hu35 := Tryz.underlying35
 have hu58 := Tryz.underlying58
 have HR0_1 := ak_ hr0_1
 have HC0_1 := ak_ hc0_1
 clear hr0_1 hc0_1
 have HR0_3 := ak_ hr0_3
 have HC0_3 := ak_ hc0_3
 clear hr0_3 hc0_3
 have HR2 := ak_ hr2
 have HC2 := ak_ hc2
 clear hr2 hc2
 have HB := ak_ (Below.refl w.heap.size w)
 have H := h
 unfold spec_IndexKey.f at H
 clear h
 by_cases c4 : (l2.length : Int) > 4096
 ·rw [if_pos c4] at H
  have c4b0 : decide (4096 < (l2.length : Int)) = true := decide_eq_true c4
  have c4b1 : decide (4096 < l2.length) = true := decide_eq_true (by omega)
  clear c4
  obtain ⟨y102, hy102⟩ : ∃ y_ : List Int, y_ = (([] : List Int)) := ⟨_, rfl⟩
  replace H : (some (y102, 2)) = some (r1, r2) := by first | (rw [hy102]; with_reducible exact H) | (have H2_ := (Option.bind_some _ _).symm.trans H; rw [hy102]; with_reducible exact H2_) | (have H2_ := (Option.bind_some _ _).symm.trans H; with_reducible exact H2_) | with_reducible exact H | (rw [hy102]; exact H) | exact H
  have Ny102 := ak_ hy102
  clear hy102
  simp only [Option.some.injEq, Prod.mk.injEq] at H
  obtain ⟨rfl, rfl⟩ := H
  go_enter Tryz.func6, Tryz.ntmps6
  go_wp2_with (first | ((with_reducible refine gate_dst (N := 3) rfl ?_); refine bx_ 3 (cs := #[.string a0_0, .slice A0_1 l0_1.length c0_1, .int .i64 a0_2, .slice A0_3 l0_3.length c0_3]) (t := 35) (h_ := ?_); intro gb101 hg w5 hbox hb; have n_ := a4_ (below_step z0_ hb) (hbox) ((gs_ w hg (below_size z0_))) ((gs_ w hg (below_size z0_))); clear HB; obtain ⟨HB, BK101, GW101, GE101⟩ := n_; clear hb hbox hg) | ((with_reducible refine gate_dst (N := 13) rfl ?_); refine Kd.R_lit (Kd.int .u8) _ 5 ?hg (N := 13) ?hd (xs := ([] : List Int)) (inner := []) (ok := fun _ => True) (okp := fun _ => True) ?hr ?hp (fun _ hk => hk) trivial (Below.refl _ _) (Nat.le_refl _) (by simp) ?_; (case hd => rfl); (case hg => rfl); (case hr => first | (go_simp; done) | (go_simp; rfl)); (case hp => exact (Reps.none _ _)); intro v103 w6 ho7 hb hg_ hnew_; clear hg_ hnew_; (first | rw [← Ny102.out] at ho7 | (simp only [Int.reduceToNat] at ho7; rw [← Ny102.out] at ho7)); have n_ := a3_ (Kd.R_lower ho7 (below_size z1_)) (blk_below (g := gb101) (o := .cells #[.string a0_0, .slice A0_1 l0_1.length c0_1, .int .i64 a0_2, .slice A0_3 l0_3.length c0_3] 35 (0, 0)) z2_ hb) (below_step z1_ hb); clear BK101 HB; obtain ⟨HO104, BK101, HB⟩ := n_; clear hb ho7))
  go_ret2
  exact ⟨_, z6_, z51_, z1_⟩
 rw [if_neg c4] at H
 have c4b0 : decide (4096 < (l2.length : Int)) = false := decide_eq_false c4
 have c4b1 : decide (4096 < l2.length) = false := decide_eq_false (by omega)
 clear c4
 replace H := Option.bind_eq_some_iff.mp H
 obtain ⟨⟨t105, t106⟩, A80, H⟩ := H
 replace H : (if t105 = 0 then ((spec_l01In.f a1 0 (wrap64 ((l0_3.length : Int) - 1))).bind fun t110 => (if t110 = true then (if 0 ≤ a1 then (if a1 < (l0_3.length : Int) then ((spec_l09Entry.f k a0_0 l0_1 a0_2 l0_3 ((rd_T58 l0_3 a1).f0) ((rd_T58 l0_3 a1).f1) l2).bind fun t112 => ((spec_l01Key.f k t112).bind fun t115 => (some (t115, 0)))) else (none)) else (none)) else (some ((([] : List Int)), 4)))) else (some ((([] : List Int)), t105))) = some (r1, r2) := H
 have A8 := ak_ A80
 clear A80
 by_cases c9 : t105 = 0
 rotate_left
 ·rw [if_neg c9] at H
  have c9b0 : (t105 == 0) = false := beq_eq_false_iff_ne.mpr c9
  have c9b1 : (t105 != 0) = true := bne_iff_ne.mpr c9
  obtain ⟨y107, hy107⟩ : ∃ y_ : List Int, y_ = (([] : List Int)) := ⟨_, rfl⟩
  replace H : (some (y107, t105)) = some (r1, r2) := by first | (rw [hy107]; with_reducible exact H) | (have H2_ := (Option.bind_some _ _).symm.trans H; rw [hy107]; with_reducible exact H2_) | (have H2_ := (Option.bind_some _ _).symm.trans H; with_reducible exact H2_) | with_reducible exact H | (rw [hy107]; exact H) | exact H
  have Ny107 := ak_ hy107
  clear hy107
  simp only [Option.some.injEq, Prod.mk.injEq] at H
  obtain ⟨rfl, rfl⟩ := H
  go_enter Tryz.func6, Tryz.ntmps6
  go_wp2_with (first | ((with_reducible refine gate_dst (N := 3) rfl ?_); refine bx_ 3 (cs := #[.string a0_0, .slice A0_1 l0_1.length c0_1, .int .i64 a0_2, .slice A0_3 l0_3.length c0_3]) (t := 35) (h_ := ?_); intro gb101 hg w30 hbox hb; have n_ := a4_ (below_step z0_ hb) (hbox) ((gs_ w hg (below_size z0_))) ((gs_ w hg (below_size z0_))); clear HB; obtain ⟨HB, BK101, GW101, GE101⟩ := n_; clear hb hbox hg; obtain ⟨hcz31_0, hcz31_1, hcz31_2, hcz31_3, hfz31_0, hfz31_1, hfz31_2, hfz31_3⟩ := bcf4 BK101.out) | ((with_reducible refine gate_callee (f := 20) rfl ?_); refine goesL_ (some 17) rfl rfl Tryz.func20 (by kernel_rfl) rfl #[.agg #[.string a0_0, .slice A0_1 l0_1.length c0_1, .int .i64 a0_2, .slice A0_3 l0_3.length c0_3], .slice A2 l2.length c2] rfl z3_ ?_; (with_reducible refine (spec_CheckRow.calls k a0_0 _ _ l0_1 a0_2 _ _ l0_3 _ _ l2 t105 t106 _ ?side1 ?side2 ?side3 ?side4 ?side5 ?side6 A8.out).mono ?_); (case side1 => exact cz_ ((Kd.C_below HR0_1.out HB.out))); (case side2 => exact HC0_1.out); (case side3 => exact cz_ ((Kd.C_below HR0_3.out HB.out))); (case side4 => exact HC0_3.out); (case side5 => exact cz_ ((Kd.C_below HR2.out HB.out))); (case side6 => exact HC2.out); rintro e w32 ⟨rfl, hb⟩; refine ⟨_, rfl, ?_⟩; have n_ := a2_ (blk_below (g := gb101) (o := .cells #[.string a0_0, .slice A0_1 l0_1.length c0_1, .int .i64 a0_2, .slice A0_3 l0_3.length c0_3] 35 (0, 0)) z2_ hb) (below_step z1_ hb); clear BK101 HB; obtain ⟨BK101, HB⟩ := n_; (try clear hb); (try clear hb2); (try clear hk); (try clear hi)) | ((with_reducible refine gate_dst (N := 22) rfl ?_); refine Kd.R_lit (Kd.int .u8) _ 5 ?hg (N := 22) ?hd (xs := ([] : List Int)) (inner := []) (ok := fun _ => True) (okp := fun _ => True) ?hr ?hp (fun _ hk => hk) trivial (Below.refl _ _) (Nat.le_refl _) (by simp) ?_; (case hd => rfl); (case hg => rfl); (case hr => first | (go_simp; done) | (go_simp; rfl)); (case hp => exact (Reps.none _ _)); intro v108 w33 ho34 hb hg_ hnew_; clear hg_ hnew_; (first | rw [← Ny107.out] at ho34 | (simp only [Int.reduceToNat] at ho34; rw [← Ny107.out] at ho34)); have n_ := a3_ (Kd.R_lower ho34 (below_size z1_)) (blk_below (g := gb101) (o := .cells #[.string a0_0, .slice A0_1 l0_1.length c0_1, .int .i64 a0_2, .slice A0_3 l0_3.length c0_3] 35 (0, 0)) z2_ hb) (below_step z1_ hb); clear BK101 HB; obtain ⟨HO109, BK101, HB⟩ := n_; clear hb ho34))
  go_ret2
  exact ⟨_, z6_, by (with_reducible repeat (first | apply Kd.R_alloc | apply Kd.R_drewN | apply Kd.R_drew)); exact HO109.out, z1_⟩

 rw [if_pos c9] at H
 have c9b0 : (t105 == 0) = true := beq_iff_eq.mpr c9
 have c9b1 : (t105 != 0) = false := bne_eq_false_iff_eq.mpr c9
 clear c9
 replace H := Option.bind_eq_some_iff.mp H
 obtain ⟨t110, A100, H⟩ := H
 have A10 := ak_ A100
 clear A100
 by_cases c11 : t110 = true
 rotate_left
 ·replace c11 := Bool.eq_false_iff.mpr c11
  subst c11
  have H1 : (some ((([] : List Int)), 4)) = some (r1, r2) := by rw [if_neg (show ¬ (false = true) by decide)] at H; exact H
  clear H
  have H := H1
  clear H1
  obtain ⟨y118, hy118⟩ : ∃ y_ : List Int, y_ = (([] : List Int)) := ⟨_, rfl⟩
  replace H : (some (y118, 4)) = some (r1, r2) := by first | (rw [hy118]; with_reducible exact H) | (have H2_ := (Option.bind_some _ _).symm.trans H; rw [hy118]; with_reducible exact H2_) | (have H2_ := (Option.bind_some _ _).symm.trans H; with_reducible exact H2_) | with_reducible exact H | (rw [hy118]; exact H) | exact H
  have Ny118 := ak_ hy118
  clear hy118
  simp only [Option.some.injEq, Prod.mk.injEq] at H
  obtain ⟨rfl, rfl⟩ := H
  go_enter Tryz.func6, Tryz.ntmps6
  go_wp2_with (first | ((with_reducible refine gate_dst (N := 3) rfl ?_); refine bx_ 3 (cs := #[.string a0_0, .slice A0_1 l0_1.length c0_1, .int .i64 a0_2, .slice A0_3 l0_3.length c0_3]) (t := 35) (h_ := ?_); intro gb101 hg w24 hbox hb; have n_ := a4_ (below_step z0_ hb) (hbox) ((gs_ w hg (below_size z0_))) ((gs_ w hg (below_size z0_))); clear HB; obtain ⟨HB, BK101, GW101, GE101⟩ := n_; clear hb hbox hg; obtain ⟨hcz25_0, hcz25_1, hcz25_2, hcz25_3, hfz25_0, hfz25_1, hfz25_2, hfz25_3⟩ := bcf4 BK101.out) | ((with_reducible refine gate_callee (f := 20) rfl ?_); refine goesL_ (some 17) rfl rfl Tryz.func20 (by kernel_rfl) rfl #[.agg #[.string a0_0, .slice A0_1 l0_1.length c0_1, .int .i64 a0_2, .slice A0_3 l0_3.length c0_3], .slice A2 l2.length c2] rfl z3_ ?_; (with_reducible refine (spec_CheckRow.calls k a0_0 _ _ l0_1 a0_2 _ _ l0_3 _ _ l2 t105 t106 _ ?side1 ?side2 ?side3 ?side4 ?side5 ?side6 A8.out).mono ?_); (case side1 => exact cz_ ((Kd.C_below HR0_1.out HB.out))); (case side2 => exact HC0_1.out); (case side3 => exact cz_ ((Kd.C_below HR0_3.out HB.out))); (case side4 => exact HC0_3.out); (case side5 => exact cz_ ((Kd.C_below HR2.out HB.out))); (case side6 => exact HC2.out); rintro e w26 ⟨rfl, hb⟩; refine ⟨_, rfl, ?_⟩; have n_ := a2_ (blk_below (g := gb101) (o := .cells #[.string a0_0, .slice A0_1 l0_1.length c0_1, .int .i64 a0_2, .slice A0_3 l0_3.length c0_3] 35 (0, 0)) z2_ hb) (below_step z1_ hb); clear BK101 HB; obtain ⟨BK101, HB⟩ := n_; (try clear hb); (try clear hb2); (try clear hk); (try clear hi); obtain ⟨hcz27_0, hcz27_1, hcz27_2, hcz27_3, hfz27_0, hfz27_1, hfz27_2, hfz27_3⟩ := bcf4 BK101.out) | ((with_reducible refine gate_callee (f := 21) rfl ?_); refine goesL_ (some 29) rfl rfl Tryz.func21 (by kernel_rfl) rfl #[.int .i64 a1, .int .i64 0, .int .i64 (wrap64 ((l0_3.length : Int) - 1))] rfl z3_ ?_; (with_reducible refine (spec_l01In.calls a1 0 (wrap64 ((l0_3.length : Int) - 1)) false _ A10.out).mono ?_); rintro e w' ⟨rfl, ⟨nd, rfl⟩⟩; refine ⟨_, rfl, ?_⟩) | ((with_reducible refine gate_dst (N := 31) rfl ?_); refine Kd.R_lit (Kd.int .u8) _ 5 ?hg (N := 31) ?hd (xs := ([] : List Int)) (inner := []) (ok := fun _ => True) (okp := fun _ => True) ?hr ?hp (fun _ hk => hk) trivial (Below.refl _ _) (Nat.le_refl _) (by simp) ?_; (case hd => rfl); (case hg => rfl); (case hr => first | (go_simp; done) | (go_simp; rfl)); (case hp => exact (Reps.none _ _)); intro v119 w28 ho29 hb hg_ hnew_; clear hg_ hnew_; (first | rw [← Ny118.out] at ho29 | (simp only [Int.reduceToNat] at ho29; rw [← Ny118.out] at ho29)); have n_ := a3_ (Kd.R_lower ho29 (below_size z1_)) (blk_below (g := gb101) (o := .cells #[.string a0_0, .slice A0_1 l0_1.length c0_1, .int .i64 a0_2, .slice A0_3 l0_3.length c0_3] 35 (0, 0)) z2_ hb) (below_step z1_ hb); clear BK101 HB; obtain ⟨HO120, BK101, HB⟩ := n_; clear hb ho29))
  go_ret2
  exact ⟨_, z6_, z75_, z1_⟩
 subst c11
 have H1 : (if 0 ≤ a1 then (if a1 < (l0_3.length : Int) then ((spec_l09Entry.f k a0_0 l0_1 a0_2 l0_3 ((rd_T58 l0_3 a1).f0) ((rd_T58 l0_3 a1).f1) l2).bind fun t112 => ((spec_l01Key.f k t112).bind fun t115 => (some (t115, 0)))) else (none)) else (none)) = some (r1, r2) := by rw [if_pos rfl] at H; exact H
 clear H
 have H := H1
 clear H1
 by_cases c12 : 0 ≤ a1
 rotate_left
 ·rw [if_neg c12] at H
  exact absurd H (by simp)
 rw [if_pos c12] at H
 have c12b0 := decide_eq_true c12
 clear c12
 by_cases c13 : a1 < (l0_3.length : Int)
 rotate_left
 ·rw [if_neg c13] at H
  exact absurd H (by simp)
 rw [if_pos c13] at H
 have c13b0 := decide_eq_true c13
 clear c13
 replace H := Option.bind_eq_some_iff.mp H
 obtain ⟨t112, A140, H⟩ := H
 have A14 := ak_ A140
 clear A140
 replace H := Option.bind_eq_some_iff.mp H
 obtain ⟨t115, A150, H⟩ := H
 have A15 := ak_ A150
 clear A150
 simp only [Option.some.injEq, Prod.mk.injEq] at H
 obtain ⟨rfl, rfl⟩ := H
 go_enter Tryz.func6, Tryz.ntmps6
 try go_wp2_with (first | ((with_reducible refine gate_dst (N := 3) rfl ?_); refine bx_ 3 (cs := #[.string a0_0, .slice A0_1 l0_1.length c0_1, .int .i64 a0_2, .slice A0_3 l0_3.length c0_3]) (t := 35) (h_ := ?_); intro gb101 hg w16 hbox hb; have n_ := a4_ (below_step z0_ hb) (hbox) ((gs_ w hg (below_size z0_))) ((gs_ w hg (below_size z0_))); clear HB; obtain ⟨HB, BK101, GW101, GE101⟩ := n_; clear hb hbox hg; obtain ⟨hcz17_0, hcz17_1, hcz17_2, hcz17_3, hfz17_0, hfz17_1, hfz17_2, hfz17_3⟩ := bcf4 BK101.out) | ((with_reducible refine gate_callee (f := 20) rfl ?_); refine goesL_ (some 17) rfl rfl Tryz.func20 (by kernel_rfl) rfl #[.agg #[.string a0_0, .slice A0_1 l0_1.length c0_1, .int .i64 a0_2, .slice A0_3 l0_3.length c0_3], .slice A2 l2.length c2] rfl z3_ ?_; (with_reducible refine (spec_CheckRow.calls k a0_0 _ _ l0_1 a0_2 _ _ l0_3 _ _ l2 t105 t106 _ ?side1 ?side2 ?side3 ?side4 ?side5 ?side6 A8.out).mono ?_); (case side1 => exact cz_ ((Kd.C_below HR0_1.out HB.out))); (case side2 => exact HC0_1.out); (case side3 => exact cz_ ((Kd.C_below HR0_3.out HB.out))); (case side4 => exact HC0_3.out); (case side5 => exact cz_ ((Kd.C_below HR2.out HB.out))); (case side6 => exact HC2.out); rintro e w18 ⟨rfl, hb⟩; refine ⟨_, rfl, ?_⟩; have n_ := a2_ (blk_below (g := gb101) (o := .cells #[.string a0_0, .slice A0_1 l0_1.length c0_1, .int .i64 a0_2, .slice A0_3 l0_3.length c0_3] 35 (0, 0)) z2_ hb) (below_step z1_ hb); clear BK101 HB; obtain ⟨BK101, HB⟩ := n_; (try clear hb); (try clear hb2); (try clear hk); (try clear hi); obtain ⟨hcz19_0, hcz19_1, hcz19_2, hcz19_3, hfz19_0, hfz19_1, hfz19_2, hfz19_3⟩ := bcf4 BK101.out) | ((with_reducible refine gate_callee (f := 21) rfl ?_); refine goesL_ (some 29) rfl rfl Tryz.func21 (by kernel_rfl) rfl #[.int .i64 a1, .int .i64 0, .int .i64 (wrap64 ((l0_3.length : Int) - 1))] rfl z3_ ?_; (with_reducible refine (spec_l01In.calls a1 0 (wrap64 ((l0_3.length : Int) - 1)) true _ A10.out).mono ?_); rintro e w' ⟨rfl, ⟨nd, rfl⟩⟩; refine ⟨_, rfl, ?_⟩))
 (try (rw [drewN_self w18]; generalize hq_ : World.drewN w18 _ = w18; have n0_ : Aside0 (w18.heap[gb101]? = some (.cells #[.string a0_0, .slice A0_1 l0_1.length c0_1, .int .i64 a0_2, .slice A0_3 l0_3.length c0_3] 35 (0, 0))) := ⟨by rw [← hq_]; exact z2_⟩; have n1_ : Aside0 (Below w.heap.size w w18) := ⟨by rw [← hq_]; exact z1_⟩; clear BK101 HB hq_; have BK101 := n0_; have HB := n1_; clear n0_ n1_))
 have n_ := a2_ (blk_drew BK101.out) (below_drew1 HB.out)
 clear BK101 HB
 obtain ⟨BK101, HB⟩ := n_
 have p111 : 0 ≤ (a1 : Int) := of_decide_eq_true z5_
 have q111 : a1 < (l0_3.length : Int) := of_decide_eq_true z5_
 obtain ⟨ad111, A111_1, c111_1, e111, hx111_0, hx111_1, hl111_1, hi111_1⟩ := at_T58 HR0_3.out a1 p111 q111
 have hw111_1 := hx111_1
 have hw111_0 := hx111_0
 cases e111
 replace hx111_0 := oc_ HB.out hx111_0
 replace hx111_1 := oc_ HB.out hx111_1
 have HR111_1 := ak_ hi111_1
 have HC111_1 := ak_ hl111_1
 clear hi111_1 hl111_1
 replace p111 := eq_true p111
 replace q111 := eq_true q111
 refine start_ (n := 11) (S := fun w' => w'.cell? ⟨gb101, 0, none⟩ = some (.string a0_0) ∧ w'.cell? ⟨gb101, 1, none⟩ = some (.slice A0_1 l0_1.length c0_1) ∧ w'.cell? ⟨gb101, 2, none⟩ = some (.int .i64 a0_2) ∧ w'.cell? ⟨gb101, 3, none⟩ = some (.slice (some ad111) l0_3.length c0_3) ∧ w'.cell? (ad111.add ((a1).toNat * 2)) = some (.string ((rd_T58 l0_3 a1).f0)) ∧ w'.cell? ⟨(ad111.add ((a1).toNat * 2)).block, (ad111.add ((a1).toNat * 2)).off + 1, none⟩ = some (.slice A111_1 ((rd_T58 l0_3 a1).f1).length c111_1)) (ds := []) #[false, false, false, false, false, false, false, false, false, false, false] (by kernel_rfl) rfl rfl ⟨(blk_cell BK101.out 0).trans rfl, (blk_cell BK101.out 1).trans rfl, (blk_cell BK101.out 2).trans rfl, (blk_cell BK101.out 3).trans rfl, (oc_ HB.out hw111_0 :), (oc_ HB.out hw111_1 :)⟩ (fun hHeld => ?_); refine with_tabW spec_IndexKey.tab8 spec_IndexKey.bits8 (fun HT_ HW_ => ?_)
 generalize w18.drew = w20 at BK101 HB HR111_1 hx111_0 hx111_1 hHeld ⊢
 refine pu_ 1 (N := some 33) #[false, true, false, false, false, false, false, false, false, false, false] HT_.out (h_ := ?_)
 refine pu_ 3 (N := some 35) #[false, true, false, true, false, false, false, false, false, false, false] HT_.out (h_ := ?_)
 refine pu_ 6 (N := some 38) #[false, true, false, true, false, false, true, false, false, false, false] HT_.out (h_ := ?_)
 refine tk_ 0 (N := some 32) #[true, true, false, true, false, false, true, false, false, false, false] HT_.out HW_.out hHeld (hy := by rintro w' ⟨s0, s1, s2, s3, s4, s5⟩; go_simp; with_reducible rfl) (h_ := ?_)
 refine tk_ 2 (N := some 34) #[true, true, true, true, false, false, true, false, false, false, false] HT_.out HW_.out hHeld (hy := by rintro w' ⟨s0, s1, s2, s3, s4, s5⟩; go_simp; with_reducible rfl) (h_ := ?_)
 refine pu_ 4 (N := some 36) #[true, true, true, true, true, false, true, false, false, false, false] HT_.out (h_ := ?_)
 refine tk_ 5 (N := some 37) #[true, true, true, true, true, true, true, false, false, false, false] HT_.out HW_.out hHeld (hy := by rintro w' ⟨s0, s1, s2, s3, s4, s5⟩; go_simp; with_reducible rfl) (h_ := ?_)
 refine one_ (i := 7) (N := some 39) #[true, true, true, true, true, true, true, true, false, false, false] rfl rfl (one_of HT_.out (by kernel_rfl)) (by decide) (fun K hK => ?_)
 refine goes_ Tryz.func23 (by kernel_rfl) rfl #[.agg #[.string a0_0, .slice A0_1 l0_1.length c0_1, .int .i64 a0_2, .slice (some ad111) l0_3.length c0_3], .agg #[.string ((rd_T58 l0_3 a1).f0), .slice A111_1 ((rd_T58 l0_3 a1).f1).length c111_1], .slice A2 l2.length c2] (by rfl) rfl rfl z3_ ?_
 with_reducible refine (spec_l09Entry.calls k a0_0 _ _ l0_1 a0_2 _ _ l0_3 ((rd_T58 l0_3 a1).f0) _ _ ((rd_T58 l0_3 a1).f1) _ _ l2 t112 _ ?side1 ?side2 ?side3 ?side4 ?side5 ?side6 ?side7 ?side8 A14.out).mono ?_
 (case side1 => exact cz_ ((Kd.C_below HR0_1.out HB.out)))
 (case side2 => exact HC0_1.out)
 (case side3 => exact cz_ ((Kd.C_below HR0_3.out HB.out)))
 (case side4 => exact HC0_3.out)
 (case side5 => exact cz_ ((Kd.C_below HR111_1.out HB.out)))
 (case side6 => exact HC111_1.out)
 (case side7 => exact cz_ ((Kd.C_below HR2.out HB.out)))
 (case side8 => exact HC2.out)
 rintro e w21 ⟨v113, rfl, ho0, hb⟩
 refine ⟨_, rfl, ?_⟩
 have n_ := a3_ (Kd.R_lower ho0 (below_size z1_)) (blk_below (g := gb101) (o := .cells #[.string a0_0, .slice A0_1 l0_1.length c0_1, .int .i64 a0_2, .slice (some ad111) l0_3.length c0_3] 35 (0, 0)) z2_ hb) (below_step z1_ hb)
 clear BK101 HB
 obtain ⟨HO114, BK101, HB⟩ := n_
 (try clear hb)
 (try clear hb2)
 (try clear hk)
 (try clear hi)
 (try clear ho0)
 obtain ⟨Ao22, co22, eo22⟩ := Kd.R_slice HO114.out
 (first | subst eo22 | (injection eo22 with f1_ f2_ f3_; have f4_ := f1_.symm; have f5_ := f3_.symm; clear f1_ f2_ f3_; subst f4_; subst f5_))
 refine hK.out _ _ ⟨(blk_cell BK101.out 0).trans rfl, (blk_cell BK101.out 1).trans rfl, (blk_cell BK101.out 2).trans rfl, (blk_cell BK101.out 3).trans rfl, (oc_ HB.out hw111_0 :), (oc_ HB.out hw111_1 :)⟩ (fun hHeld => ?_)
 clear hK K
 refine norm_ (a' := ?_) ?_ ?_
 rotate_left
 ·show Act.put _ (some 39) _ = _
  simp only [Act.put, sz1_, sz2_, sz3_, i64_w, i32_w]
  rfl
 refine one_ (i := 8) (N := some 40) #[true, true, true, true, true, true, true, true, true, false, false] rfl rfl (one_of HT_.out (by kernel_rfl)) (by decide) (fun K hK => ?_)
 refine goes_ Tryz.func22 (by kernel_rfl) rfl #[.slice Ao22 t112.length co22] (by rfl) rfl rfl z3_ ?_
 with_reducible refine (spec_l01Key.calls k _ _ t112 t115 _ ?side1 ?side2 A15.out).mono ?_
 (case side1 => exact cz_ ((Kd.R_reads' HO114.out).2.2))
 (case side2 => exact (Kd.R_reads' HO114.out).2.1)
 rintro e w23 ⟨v116, rfl, ho0, hb⟩
 refine ⟨_, rfl, ?_⟩
 have n_ := a4_ (Kd.R_below z38_ hb) (Kd.R_lower ho0 (below_size z1_)) (blk_below (g := gb101) (o := .cells #[.string a0_0, .slice A0_1 l0_1.length c0_1, .int .i64 a0_2, .slice (some ad111) l0_3.length c0_3] 35 (0, 0)) z2_ hb) (below_step z1_ hb)
 clear HO114 BK101 HB
 obtain ⟨HO114, HO117, BK101, HB⟩ := n_
 (try clear hb)
 (try clear hb2)
 (try clear hk)
 (try clear hi)
 (try clear ho0)
 refine hK.out _ _ ⟨(blk_cell BK101.out 0).trans rfl, (blk_cell BK101.out 1).trans rfl, (blk_cell BK101.out 2).trans rfl, (blk_cell BK101.out 3).trans rfl, (oc_ HB.out hw111_0 :), (oc_ HB.out hw111_1 :)⟩ (fun hHeld => ?_)
 clear hK K
 refine norm_ (a' := ?_) ?_ ?_
 rotate_left
 ·show Act.put _ (some 40) _ = _
  simp only [Act.put, sz1_, sz2_, sz3_, i64_w, i32_w]
  rfl
 refine pu_ 9 (N := some 6) #[true, true, true, true, true, true, true, true, true, true, false] HT_.out (h_ := ?_)
 refine pu_ 10 (N := some 7) #[true, true, true, true, true, true, true, true, true, true, true] HT_.out (h_ := ?_)
 refine done_ (done_of HT_.out (by kernel_rfl)) ?_
 try go_wp2
 go_ret2
 exact ⟨_, z6_, z44_, z1_⟩
end

section
def laws_toColumn.f (a0_0 : ByteArray) (a0_1 : Int) (a0_2 : Bool) : Option (ByteArray × Int × Bool) := some (a0_0, a0_1, a0_2)
theorem laws_toColumn.calls (a0_0 : ByteArray) (a0_1 : Int) (a0_2 : Bool) (r1 : ByteArray) (r2 : Int) (r3 : Bool) (w : World) (h : laws_toColumn.f a0_0 a0_1 a0_2 = some (r1, r2, r3)) :
  Calls Tryz.prog 42 #[.agg #[.string a0_0, .int .i64 a0_1, .bool a0_2]] w fun e w' => e = .returned (.agg #[.string r1, .int .i64 r2, .bool r3]) ∧ Below w.heap.size w w' := by
 have hu72 := Tryz.underlying72
 have hu78 := Tryz.underlying78
 have HB := ak_ (Below.refl w.heap.size w)
 have H : (some (a0_0, a0_1, a0_2)) = some (r1, r2, r3) := h
 clear h
 simp only [Option.some.injEq, Prod.mk.injEq] at H
 obtain ⟨rfl, rfl, rfl⟩ := H
 go_enter Tryz.func42, Tryz.ntmps42
 go_wp2_with (first | ((with_reducible refine gate_dst (N := 1) rfl ?_); refine bx_ 1 (cs := #[.string a0_0, .int .i64 a0_1, .bool a0_2]) (t := 72) (h_ := ?_); intro gb101 hg w2 hbox hb; have n_ := a4_ (below_step z0_ hb) (hbox) ((gs_ w hg (below_size z0_))) ((gs_ w hg (below_size z0_))); clear HB; obtain ⟨HB, BK101, GW101, GE101⟩ := n_; clear hb hbox hg) | ((with_reducible refine gate_dst (N := 2) rfl ?_); refine bx_ 2 (cs := #[.string (⟨#[]⟩ : ByteArray), .int .i64 0, .bool false]) (t := 78) (h_ := ?_); intro gb102 hg w3 hbox hb; have n_ := a7_ (blk_below (g := gb101) (o := .cells #[.string a0_0, .int .i64 a0_1, .bool a0_2] 72 (0, 0)) z2_ hb) (below_step z1_ hb) (hbox) ((gs_ w hg (below_size z1_))) ((gs_ w hg (below_size z1_))) ((z92_ : gb101 ≠ gb102)) ((z93_ : gb102 ≠ gb101)); clear BK101 HB; obtain ⟨BK101, HB, BK102, GW102, GE102, NB101_102, NB102_101⟩ := n_; clear hb hbox hg) | ((with_reducible refine gate_dst (N := 3) rfl ?_); refine bx_ 3 (cs := #[.string (⟨#[]⟩ : ByteArray), .int .i64 0, .bool false]) (t := 78) (h_ := ?_); intro gb103 hg w4 hbox hb; have n_ := a10_ (blk_below (g := gb101) (o := .cells #[.string a0_0, .int .i64 a0_1, .bool a0_2] 72 (0, 0)) z2_ hb) (blk_below (g := gb102) (o := .cells #[.string (⟨#[]⟩ : ByteArray), .int .i64 0, .bool false] 78 (0, 0)) z11_ hb) (below_step z4_ hb) (hbox) ((gs_ w hg (below_size z4_))) ((gs_ w hg (below_size z4_))) ((z92_ : gb101 ≠ gb103)) ((z93_ : gb103 ≠ gb101)) ((by rw [hg]; exact Nat.ne_of_lt (blk_lt (g := gb102) (o := .cells #[.string (⟨#[]⟩ : ByteArray), .int .i64 0, .bool false] 78 (0, 0)) z11_) : gb102 ≠ gb103)) ((by rw [hg]; exact Nat.ne_of_gt (blk_lt (g := gb102) (o := .cells #[.string (⟨#[]⟩ : ByteArray), .int .i64 0, .bool false] 78 (0, 0)) z11_) : gb103 ≠ gb102)); clear BK101 BK102 HB; obtain ⟨BK101, BK102, HB, BK103, GW103, GE103, NB101_103, NB103_101, NB102_103, NB103_102⟩ := n_; clear hb hbox hg; have hnb5 := NB101_102.out; have hnc5 := NB102_101.out; have hnb6 := NB101_103.out; have hnc6 := NB103_101.out; obtain ⟨hcz7_0, hcz7_1, hcz7_2, hfz7_0, hfz7_1, hfz7_2⟩ := bcf3 BK101.out; have hnb8 := NB103_102.out; have hnc8 := NB102_103.out; obtain ⟨hcz9_0, hcz9_1, hcz9_2, hfz9_0, hfz9_1, hfz9_2⟩ := bcf3 BK103.out; obtain ⟨hcz10_0, hcz10_1, hcz10_2, hfz10_0, hfz10_1, hfz10_2⟩ := bcf3 BK102.out))
 refine bodyPost_ret (results_cell_row rfl _ _ gb102 78 #[.string a0_0, .int .i64 a0_1, .bool a0_2] (0, 0) _ rfl (by (with_reducible repeat (first | refine blk_drewN ?_ _ | refine blk_drew ?_ | refine blk_alloc ?_ _)); refine blk_put (cs := #[.string a0_0, .int .i64 a0_1, .bool false]) ?_ 2 _ rfl; (with_reducible repeat (first | refine blk_drewN ?_ _ | refine blk_drew ?_ | refine blk_alloc ?_ _)); refine blk_put (cs := #[.string a0_0, .int .i64 0, .bool false]) ?_ 1 _ rfl; (with_reducible repeat (first | refine blk_drewN ?_ _ | refine blk_drew ?_ | refine blk_alloc ?_ _)); refine blk_put (cs := #[.string (⟨#[]⟩ : ByteArray), .int .i64 0, .bool false]) ?_ 0 _ rfl; (with_reducible repeat (first | refine blk_drewN ?_ _ | refine blk_drew ?_ | refine blk_alloc ?_ _)); refine blk_far ?_ NB102_103.out _; (with_reducible repeat (first | refine blk_drewN ?_ _ | refine blk_drew ?_ | refine blk_alloc ?_ _)); refine blk_far ?_ NB102_103.out _; (with_reducible repeat (first | refine blk_drewN ?_ _ | refine blk_drew ?_ | refine blk_alloc ?_ _)); refine blk_far ?_ NB102_103.out _; (with_reducible repeat (first | refine blk_drewN ?_ _ | refine blk_drew ?_ | refine blk_alloc ?_ _)); exact BK102.out) Tryz.underlying78 rfl (by kernel_rfl)) rfl ?_
 exact ⟨z6_, z17_⟩
end

section
def laws_toColumnS.l0 : Nat → List (S72) → List (S78) → Int → Option ((List (S78)))
 | 0, _, _, _ => none
 | k + 1, x0, x3, x4 => if x4 < (x0.length : Int) then (if 0 ≤ x4 then ((laws_toColumn.f ((rd_T72 x0 x4).f0) ((rd_T72 x0 x4).f1) ((rd_T72 x0 x4).f2)).bind fun bt105 => (if x4 < (x3.length : Int) then (laws_toColumnS.l0 k x0 (x3.set (x4 : Int).toNat (⟨bt105.1, bt105.2.1, bt105.2.2⟩ : S78)) (wrap64 (x4 + 1))) else (none))) else (none)) else (some x3)
def laws_toColumnS.f (k : Nat) (l0 : List (S72)) : Option ((List (S78))) := if 0 ≤ (l0.length : Int) then (if ((l0.length : Int) : Int).toNat ≤ 8796093022208 then (laws_toColumnS.l0 k l0 (List.replicate ((l0.length : Int) : Int).toNat z78) 0) else (none)) else (none)
theorem laws_toColumnS.mono_l : ∀ k, (∀ y0 y1 y2, LeO (laws_toColumnS.l0 k y0 y1 y2) (laws_toColumnS.l0 (k + 1) y0 y1 y2))
 | 0 => fun _ _ _ r h => by simp [laws_toColumnS.l0] at h
 | k + 1 => by
  have ih0 := laws_toColumnS.mono_l k
  intro y0 y1 y2
  unfold laws_toColumnS.l0
  repeat' first | with_reducible (first | exact ih0 _ _ _ | exact LeO.refl _ | exact LeO.none _ | refine LeO.ite ?_ ?_ | refine LeO.bind ?_ (fun _ => ?_)) | exact ih0 _ _ _ | exact LeO.none _ | refine LeO.ite ?_ ?_ | refine LeO.bind ?_ (fun _ => ?_)
theorem laws_toColumnS.mono : ∀ a0 k, LeO (laws_toColumnS.f k a0) (laws_toColumnS.f (k + 1) a0) := by
 intro a0 k
 have ih0 := laws_toColumnS.mono_l k
 unfold laws_toColumnS.f
 repeat' first
   | (with_reducible exact ih0 _ _ _)
   | (with_reducible exact LeO.refl _)
   | (with_reducible exact LeO.none _)
   | (with_reducible refine LeO.ite ?_ ?_)
   | (with_reducible refine LeO.bind ?_ (fun _ => ?_))
   | exact ih0 _ _ _
   | exact LeO.none _
   | refine LeO.ite ?_ ?_
   | refine LeO.bind ?_ (fun _ => ?_)
theorem laws_toColumnS.calls (k : Nat) (A0 : Option Addr) (c0 : Nat) (l0 : List (S72)) (r : List (S78)) (w : World) (hr0 : Kd.C k72 w A0 l0.length l0) (hc0 : l0.length ≤ c0) (h : laws_toColumnS.f k l0 = some r) :
  Calls Tryz.prog 24 #[.slice A0 l0.length c0] w fun e w' => ∃ v0_ : Value, e = .returned (v0_) ∧ Kd.R k78 78 w' w.heap.size (fun _ => True) v0_ r ∧ Below w.heap.size w w' := by
 have hu72 := Tryz.underlying72
 have hu78 := Tryz.underlying78
 have HR0 := ak_ hr0
 have HC0 := ak_ hc0
 clear hr0 hc0
 have HB := ak_ (Below.refl w.heap.size w)
 have H := h
 unfold laws_toColumnS.f at H
 clear h
 by_cases c2 : 0 ≤ (l0.length : Int)
 rotate_left
 ·rw [if_neg c2] at H
  exact absurd H (by simp)

 rw [if_pos c2] at H
 have c2b0 := eq_true c2
 have c2b1 := decide_eq_true c2
 clear c2
 by_cases c3 : ((l0.length : Int) : Int).toNat ≤ 8796093022208
 rotate_left
 ·rw [if_neg c3] at H
  exact absurd H (by simp)
 rw [if_pos c3] at H
 have c3b0 := eq_true c3
 have c3b1 := decide_eq_true c3
 clear c3
 obtain ⟨y101, hy101⟩ : ∃ y_ : List (S78), y_ = (List.replicate ((l0.length : Int) : Int).toNat z78) := ⟨_, rfl⟩
 replace H : (laws_toColumnS.l0 k l0 y101 0) = some r := by first | (rw [hy101]; with_reducible exact H) | (have H2_ := (Option.bind_some _ _).symm.trans H; rw [hy101]; with_reducible exact H2_) | (have H2_ := (Option.bind_some _ _).symm.trans H; with_reducible exact H2_) | with_reducible exact H | (rw [hy101]; exact H) | exact H
 have Ny101 := ak_ hy101
 clear hy101
 have H' := ak_ H
 clear H
 go_enter Tryz.func24, Tryz.ntmps24
 go_wp2_with (first | ((with_reducible refine gate_dst (N := 7) rfl ?_); refine Kd.R_make k78 _ 78 rfl (N := 7) rfl 32 _ _ rfl (l0.length : Int) rfl rfl Tryz.underlying32 (.agg #[(.string ⟨#[]⟩), (.int .i64 0), (.bool false)]) 32 info78 rfl (by decide) (by omega) z78 (ok := fun _ => True) (okp := fun _ => True) (k78_mkM _ _ _ z78 ) (fun _ hk => hk) trivial (of_decide_eq_true z5_) (Nat.le_trans (Nat.mul_le_mul_right _ (of_decide_eq_true z5_ : (l0.length : Int).toNat ≤ 8796093022208)) (by omega)) (Below.refl _ _) (Nat.le_refl _) ?_; intro v102 w4 ho5 hb hg_ hnew_; clear hg_ hnew_; (first | rw [← Ny101.out] at ho5 | (simp only [Int.reduceToNat] at ho5; rw [← Ny101.out] at ho5)); have n_ := a2_ (Kd.R_lower ho5 (below_size z0_)) (below_step z0_ hb); clear HB; obtain ⟨HO103, HB⟩ := n_; clear hb ho5))
 go_loopg [4] k (fun kq v4 w' => ∃ (x3_1 : List (S78)) (x4_1 : Int), v4 = .int .i64 x4_1 ∧ Aside0 (laws_toColumnS.l0 kq l0 x3_1 x4_1 = some r) ∧ Aside0 (kq ≤ k) ∧ Aside0 (Kd.R k78 78 w' w.heap.size (fun _ => True) v102 x3_1) ∧ Aside0 (Below w.heap.size w w'))
 case atStart => exact ⟨(y101), (0), z8_, H', ⟨Nat.le_refl _⟩, ⟨z37_⟩, ⟨z0_⟩⟩
 case round =>
  clear H'
  try clear c2
  try clear c2b0
  try clear c2b1
  try clear p2
  try clear c3
  try clear c3b0
  try clear c3b1
  obtain ⟨x3_1, x4_1, rfl, HA, HK1, HO_3, HB⟩ := hrel
  cases gk with
  | zero => exact absurd HA.out (by simp [laws_toColumnS.l0])
  | succ k1 =>
   have H := HA.out
   clear HA
   simp only [laws_toColumnS.l0] at H
   by_cases c6 : x4_1 < (l0.length : Int)
   rotate_left
   ·rw [if_neg c6] at H
    have c6b0 := decide_eq_false c6
    clear c6
    obtain rfl := Option.some.inj H
    go_wp2
    go_ret
    exact ⟨_, z6_, z18_, z0_⟩
   rw [if_pos c6] at H
   have c6b0 := decide_eq_true c6
   clear c6
   by_cases c7 : 0 ≤ x4_1
   rotate_left
   ·rw [if_neg c7] at H
    exact absurd H (by simp)
   rw [if_pos c7] at H
   have c7b0 := decide_eq_true c7
   clear c7
   replace H := Option.bind_eq_some_iff.mp H
   obtain ⟨⟨t105, t106, t107⟩, A80, H⟩ := H
   replace H : (if x4_1 < (x3_1.length : Int) then (laws_toColumnS.l0 k1 l0 (x3_1.set (x4_1 : Int).toNat (⟨t105, t106, t107⟩ : S78)) (wrap64 (x4_1 + 1))) else (none)) = some r := H
   have A8 := ak_ A80
   clear A80
   by_cases c9 : x4_1 < (x3_1.length : Int)
   rotate_left
   ·rw [if_neg c9] at H
    exact absurd H (by simp)
   rw [if_pos c9] at H
   have c9b0 := decide_eq_true c9
   clear c9
   obtain ⟨y108, hy108⟩ : ∃ y_ : List (S78), y_ = (x3_1.set (x4_1 : Int).toNat (⟨t105, t106, t107⟩ : S78)) := ⟨_, rfl⟩
   replace H : (laws_toColumnS.l0 k1 l0 y108 (wrap64 (x4_1 + 1))) = some r := by first | (rw [hy108]; with_reducible exact H) | (have H2_ := (Option.bind_some _ _).symm.trans H; rw [hy108]; with_reducible exact H2_) | (have H2_ := (Option.bind_some _ _).symm.trans H; with_reducible exact H2_) | with_reducible exact H | (rw [hy108]; exact H) | exact H
   have Ny108 := ak_ hy108
   clear hy108
   have H' := ak_ H
   clear H
   have p104 : 0 ≤ (x4_1 : Int) := of_decide_eq_true z5_
   have q104 : x4_1 < (l0.length : Int) := of_decide_eq_true z5_
   obtain ⟨ad104, e104, hx104_0, hx104_1, hx104_2⟩ := at_T72 HR0.out x4_1 p104 q104
   cases e104
   replace hx104_0 := oc_ HB.out hx104_0
   replace hx104_1 := oc_ HB.out hx104_1
   replace hx104_2 := oc_ HB.out hx104_2
   replace p104 := eq_true p104
   replace q104 := eq_true q104
   go_wp2_with (first | ((with_reducible refine gate_callee (f := 42) rfl ?_); refine goesL_ (some 20) rfl rfl Tryz.func42 (by kernel_rfl) rfl #[.agg #[.string ((rd_T72 l0 x4_1).f0), .int .i64 ((rd_T72 l0 x4_1).f1), .bool ((rd_T72 l0 x4_1).f2)]] rfl z3_ ?_; (with_reducible refine (laws_toColumn.calls ((rd_T72 l0 x4_1).f0) ((rd_T72 l0 x4_1).f1) ((rd_T72 l0 x4_1).f2) t105 t106 t107 _ A8.out).mono ?_); rintro e w11 ⟨rfl, hb⟩; refine ⟨_, rfl, ?_⟩; have n_ := a2_ (Kd.R_below z18_ hb) (below_step z0_ hb); clear HO_3 HB; obtain ⟨HO_3, HB⟩ := n_; (try clear hb); (try clear hb2); (try clear hk); (try clear hi); have p10 : 0 ≤ (x4_1 : Int) := of_decide_eq_true z5_; have q10 : (x4_1 : Int) < ((x3_1.length : Int) : Int) := of_decide_eq_true z5_; obtain ⟨go10, co10, eo10, gb10, gl10, cl10, HG10⟩ := Kd.R_form HO_3.out (by omega); (first | cases eo10 | (injection eo10 with ea_ en_ ec_; (first | subst ea_ | (injection ea_ with ea_; subst ea_)); subst ec_; clear en_)); have GB10 := ak_ gb10; have GG10 := ak_ HG10; clear gb10 gl10 HG10; obtain ⟨ce10, hcl10, hM10, hcc10, hfr10⟩ := Kd.R_elem HO_3.out z78 (x4_1 : Int) p10 q10; obtain rfl := k78_openM hM10; have hx10_0 : w11.cell? ⟨go10, (x4_1 : Int).toNat * 3, none⟩ = some (.string ((rd_T78 x3_1 x4_1).f0)) := hcc10 0 _ rfl; have hx10_1 : w11.cell? ⟨go10, (x4_1 : Int).toNat * 3 + 1, none⟩ = some (.int .i64 ((rd_T78 x3_1 x4_1).f1)) := hcc10 1 _ rfl; have hx10_2 : w11.cell? ⟨go10, (x4_1 : Int).toNat * 3 + 2, none⟩ = some (.bool ((rd_T78 x3_1 x4_1).f2)) := hcc10 2 _ rfl; have hf10_0 : w11.frozen? ⟨go10, (x4_1 : Int).toNat * 3, none⟩ = false := hfr10 0; have hf10_1 : w11.frozen? ⟨go10, (x4_1 : Int).toNat * 3 + 1, none⟩ = false := hfr10 1; have hf10_2 : w11.frozen? ⟨go10, (x4_1 : Int).toNat * 3 + 2, none⟩ = false := hfr10 2; (clear hcl10 hcc10 hfr10; try clear hM10); replace p10 := eq_true p10; replace q10 := eq_true q10; have HX12 := ak_ (show Kd.R k78 78 w11 w.heap.size (fun _ => True) (.slice (some ⟨go10, 0, none⟩) x3_1.length co10) x3_1 from z18_); obtain ⟨ce12, hcl12, hM12, hcc12, hfr12⟩ := Kd.R_elem HX12.out z78 (x4_1 : Int) (of_decide_eq_true z5_) (by have h_ : (x4_1 : Int) < ((x3_1.length : Int) : Int) := of_decide_eq_true z5_; first | exact h_ | (have e_ := (Kd.R_reads' HO_3.out).1; omega) | simpa using h_); obtain rfl := k78_openM hM12; have HP12 := Kd.R_seg HX12.out (x4_1 : Int) (of_decide_eq_true z5_) (by have h_ : (x4_1 : Int) < ((x3_1.length : Int) : Int) := of_decide_eq_true z5_; first | exact h_ | (have e_ := (Kd.R_reads' HO_3.out).1; omega) | simpa using h_) (seg := [.string t105, .int .i64 t106, .bool t107]) (j := 0) hcl12 hcc12 (show 3 ≤ 3 from by decide) (x' := (⟨t105, t106, t107⟩ : S78)) (k78_mkM _ _ _ (⟨t105, t106, t107⟩ : S78) ) (fun _ hk => hk); have hx12_0 := hcc12 0 _ rfl; (try simp only [show (k78).sz = 3 from rfl, Nat.mul_one, Nat.add_zero] at hx12_0); have hf12_0 := hfr12 0; (try simp only [show (k78).sz = 3 from rfl, Nat.mul_one, Nat.add_zero] at hf12_0); have hx12_1 := hcc12 1 _ rfl; (try simp only [show (k78).sz = 3 from rfl, Nat.mul_one, Nat.add_zero] at hx12_1); have hf12_1 := hfr12 1; (try simp only [show (k78).sz = 3 from rfl, Nat.mul_one, Nat.add_zero] at hf12_1); have hx12_2 := hcc12 2 _ rfl; (try simp only [show (k78).sz = 3 from rfl, Nat.mul_one, Nat.add_zero] at hx12_2); have hf12_2 := hfr12 2; (try simp only [show (k78).sz = 3 from rfl, Nat.mul_one, Nat.add_zero] at hf12_2); (clear hcl12 hcc12 hfr12; try clear hM12)) | ((with_reducible refine gate_store (t := 78) (p := 21) rfl ?_); refine store_event (t := 78) (p := 21) (v := ?vo_w13) (w1 := (((w11.setCell ⟨go10, (x4_1 : Int).toNat * 3, none⟩ (.string t105)).setCell ⟨go10, (x4_1 : Int).toNat * 3 + 1, none⟩ (.int .i64 t106)).setCell ⟨go10, (x4_1 : Int).toNat * 3 + 2, none⟩ (.bool t107))) ?hg ?ho ?hn ?hr ?_; (case ho => rfl); (case hg => rfl); (case hn => rfl); (case hr => first | (go_simp; done) | (go_simp; rfl)); intro w13 hw; have hg : w11.grownBy w13 (some go10) := (by rw [hw]; exact HP12.2); have hp_ : Kd.R k78 78 w13 w.heap.size (fun _ => True) (.slice (some ⟨go10, 0, none⟩) x3_1.length co10) y108 := (by rw [hw, Ny108.out]; exact HP12.1); clear HP12; have n_ := a2_ (hp_) ((by rw [hw]; exact below_set (below_set (below_set (HB.out) GB10.out) GB10.out) GB10.out : Below w.heap.size w w13)); clear HO_3 HB; obtain ⟨HO_3, HB⟩ := n_; clear hg hw hp_))
   go_roundg k1
   case measure => have := HK1.out; omega
   case rel => exact ⟨(y108), (wrap64 (x4_1 + 1)), z8_, H', ⟨by have := HK1.out; omega⟩, ⟨z18_⟩, ⟨z0_⟩⟩
end

end Go.Proofs.YtlikagbdhjdggaaGreatDoor.X
end
