/- Contracts of functions, and what is told of them. -/
import Derived.Test.YtfbclbbhomhfaaaYFnAggs3
set_option linter.unusedSimpArgs false
set_option linter.unusedVariables false
set_option maxHeartbeats 8000000
set_option maxRecDepth 100000
section
namespace Go.Proofs.Ytfbclbbhomhfaaa.X
open Go.RowKit Go.Proofs.YtfbclbbhomhfaaaW.PrintWords Go.Proofs.YtfbclbbhomhfaaaW.PrintLast Go.Proofs.YtfbclbbhomhfaaaW.PrintMore
attribute [local go_sem] max2_int min2_int max_two min_two max_three min_three max_four min_four

section
attribute [local go_sem] str_gtr str_leq str_geq
/-! ### impl_maxValue: function 900002 -/
theorem impl_maxValue.all (x y : S24) : impl_compareValues.f 4 x.f0 x.f1 x.f2 y.f0 y.f1 y.f2 = some (cmpVal (x.f0, x.f1, x.f2) (y.f0, y.f1, y.f2)) := by
 unfold impl_compareValues.f cmp_Compare_int.f cmp_Compare_string.f cmp_isNaN_int.f cmp_isNaN_string.f
 have e1 : ∀ a : Int, (a != a) = false := fun a => by simp
 have e2 : ∀ a : ByteArray, (a.toList != a.toList) = false := fun a => by simp
 simp only [e1, e2, Option.bind_some, Bool.false_eq_true, if_false]
 have h1 : ∀ a b : Int, (if a < b then some (-1 : Int) else if a > b then some 1 else some 0) = some (cmpInt a b) := fun a b => by unfold cmpInt; split <;> first | rfl | (split <;> rfl)
 have h2 : ∀ a b : ByteArray, (if (Op.bytesLess a.toList b.toList) = true then some (-1 : Int) else if (Op.bytesLess b.toList a.toList) = true then some 1 else some 0) = some (cmpStr a b) := fun a b => by unfold cmpStr; split <;> first | rfl | (split <;> rfl)
 rw [h1, h1, h2]
 try simp only [Option.bind_some]
 unfold cmpVal
 generalize cmpInt x.f0 y.f0 = a
 generalize cmpInt x.f1 y.f1 = b
 generalize cmpStr x.f2 y.f2 = c
 have h3 : (([a, b, c] : List Int).length : Int) = 3 := rfl
 have r0 : rd [a, b, c] 0 = a := rfl
 have r1 : rd [a, b, c] 1 = b := rfl
 have r2 : rd [a, b, c] 2 = c := rfl
 have w1 : wrap64 (0 + 1) = 1 := by unfold wrap64; omega
 have w2 : wrap64 (1 + 1) = 2 := by unfold wrap64; omega
 have w3 : wrap64 (2 + 1) = 3 := by unfold wrap64; omega
 unfold cmp_Or_int.f
 rw [h3, cmp_Or_int.l0, if_pos (by decide), if_pos (by decide), h3, if_pos (by decide), r0, w1]
 by_cases ha : a = 0
 rotate_left
 ·rw [if_neg ha, if_pos ha]; rfl
 rw [if_pos ha, if_neg (by simpa using ha), cmp_Or_int.l0, if_pos (by decide), if_pos (by decide), h3, if_pos (by decide), r1, w2]
 by_cases hb : b = 0
 rotate_left
 ·rw [if_neg hb, if_pos hb]; rfl
 rw [if_pos hb, if_neg (by simpa using hb), cmp_Or_int.l0, if_pos (by decide), if_pos (by decide), h3, if_pos (by decide), r2, w3]
 by_cases hc : c = 0
 ·rw [if_pos hc, cmp_Or_int.l0, if_neg (by decide), hc]; rfl
 ·rw [if_neg hc]; rfl
def impl_maxValue.f : List S24 → Option (Int × Int × ByteArray)
 | [] => none
 | x :: xs => some ((pickO (fun x m => decide (cmpVal (x.f0, x.f1, x.f2) (m.f0, m.f1, m.f2) > 0)) x xs).f0, (pickO (fun x m => decide (cmpVal (x.f0, x.f1, x.f2) (m.f0, m.f1, m.f2) > 0)) x xs).f1, (pickO (fun x m => decide (cmpVal (x.f0, x.f1, x.f2) (m.f0, m.f1, m.f2) > 0)) x xs).f2)
theorem impl_maxValue.calls (A0 : Option Addr) (c0 : Nat) (l0 : List S24) (r1 : Int) (r2 : Int) (r3 : ByteArray) (w : World) (hr0 : Kd.C k24 w A0 l0.length l0) (hc0 : l0.length ≤ c0) (h : impl_maxValue.f l0 = some (r1, r2, r3)) :
  Calls Try.prog 59 #[.slice A0 l0.length c0, .func (.func 40) #[] #[]] w fun e w' => e = .returned (.agg #[.int .i64 r1, .int .i64 r2, .string r3]) ∧ Below w.heap.size w w' := by
 cases l0 with
 | nil => cases h
 | cons x xs =>
  simp only [impl_maxValue.f, Option.some.injEq, Prod.mk.injEq] at h
  obtain ⟨rfl, rfl, rfl⟩ := h
  refine impl_Value_59.any 40 #[] (fun x y => cmpVal (x.f0, x.f1, x.f2) (y.f0, y.f1, y.f2)) A0 c0 x xs w hr0 (fun _ _ => by kernel_rfl) ?_
  intro W x y hb
  simp only [Array.append_empty]
  exact impl_compareValues.calls 4 _ _ _ _ _ _ _ W (impl_maxValue.all x y)
end

section
/-! ### impl_aggValue: function 29 -/
mutual
def impl_aggValue.l0 : Nat → ByteArray → List (S24) → List (S24) → Int → Int → Option (Int × Int × ByteArray × Int)
 | 0, _, _, _, _, _ => none
 | k + 1, x0, x6, x15, x16, x17 => if x17 < x16 then (if 0 ≤ x17 then (if x17 < (x15.length : Int) then (if ((rd_T24 x15 x17).f0) = 0 then (impl_aggValue.l0 k x0 x6 x15 x16 (wrap64 (x17 + 1))) else (if x6.length < 4398046511104 then (impl_aggValue.l0 k x0 (x6 ++ [(⟨(rd_T24 x15 x17).f0, (rd_T24 x15 x17).f1, (rd_T24 x15 x17).f2⟩ : S24)]) x15 x16 (wrap64 (x17 + 1))) else (none))) else (none)) else (none)) else (if x0.toList = ([99, 111, 117, 110, 116] : List UInt8) then (some (2, (x6.length : Int), (⟨#[]⟩ : ByteArray), 0)) else (if x0.toList = ([115, 117, 109] : List UInt8) then ((impl_aggValue_1_any.f x6).bind fun t110 => (impl_aggValue.j1 k x0 x6 t110)) else (impl_aggValue.j1 k x0 x6 false)))
def impl_aggValue.j1 : Nat → ByteArray → List (S24) → Bool → Option (Int × Int × ByteArray × Int)
 | 0, _, _, _ => none
 | k + 1, x0, x6, x35 => if x35 = true then (some (0, 0, (⟨#[]⟩ : ByteArray), 10)) else (if (x6.length : Int) = 0 then (some (0, 0, (⟨#[]⟩ : ByteArray), 0)) else (if x0.toList = ([109, 105, 110] : List UInt8) then ((impl_minValue.f x6).bind fun bt111 => (some (bt111.1, bt111.2.1, bt111.2.2, 0))) else (if x0.toList = ([109, 97, 120] : List UInt8) then ((impl_maxValue.f x6).bind fun bt114 => (some (bt114.1, bt114.2.1, bt114.2.2, 0))) else (impl_aggValue.l1 k 0 x6 (x6.length : Int) 0))))
def impl_aggValue.l1 : Nat → Int → List (S24) → Int → Int → Option (Int × Int × ByteArray × Int)
 | 0, _, _, _, _ => none
 | k + 1, x9, x58, x59, x60 => if x60 < x59 then (if 0 ≤ x60 then (if x60 < (x58.length : Int) then ((impl_AddInts.f x9 ((rd_T24 x58 x60).f1)).bind fun bt119 => (if bt119.2 = 0 then (impl_aggValue.l1 k bt119.1 x58 x59 (wrap64 (x60 + 1))) else (some (0, 0, (⟨#[]⟩ : ByteArray), bt119.2)))) else (none)) else (none)) else (some (2, x9, (⟨#[]⟩ : ByteArray), 0))
end
def impl_aggValue.f (k : Nat) (a0 : ByteArray) (l1 : List (S24)) : Option (Int × Int × ByteArray × Int) := impl_aggValue.l0 k a0 (([] : List (S24))) l1 (l1.length : Int) 0
theorem impl_aggValue.mono_l : ∀ k, (∀ y0 y1 y2 y3 y4, LeO (impl_aggValue.l0 k y0 y1 y2 y3 y4) (impl_aggValue.l0 (k + 1) y0 y1 y2 y3 y4)) ∧ (∀ y0 y1 y2, LeO (impl_aggValue.j1 k y0 y1 y2) (impl_aggValue.j1 (k + 1) y0 y1 y2)) ∧ (∀ y0 y1 y2 y3, LeO (impl_aggValue.l1 k y0 y1 y2 y3) (impl_aggValue.l1 (k + 1) y0 y1 y2 y3))
 | 0 => ⟨fun _ _ _ _ _ r h => by simp [impl_aggValue.l0] at h, fun _ _ _ r h => by simp [impl_aggValue.j1] at h, fun _ _ _ _ r h => by simp [impl_aggValue.l1] at h⟩
 | k + 1 => by
  obtain ⟨ih0, ih1, ih2⟩ := impl_aggValue.mono_l k
  refine ⟨?_, ?_, ?_⟩
  rotate_left
  ·intro y0 y1 y2
   unfold impl_aggValue.j1
   repeat' first | with_reducible (first | exact ih0 _ _ _ _ _ | exact ih1 _ _ _ | exact ih2 _ _ _ _ | exact LeO.refl _ | exact LeO.none _ | refine LeO.ite ?_ ?_ | refine LeO.bind ?_ (fun _ => ?_)) | exact ih0 _ _ _ _ _ | exact ih1 _ _ _ | exact ih2 _ _ _ _ | exact LeO.none _ | refine LeO.ite ?_ ?_ | refine LeO.bind ?_ (fun _ => ?_)
  ·intro y0 y1 y2 y3
   unfold impl_aggValue.l1
   repeat' first | with_reducible (first | exact ih0 _ _ _ _ _ | exact ih1 _ _ _ | exact ih2 _ _ _ _ | exact LeO.refl _ | exact LeO.none _ | refine LeO.ite ?_ ?_ | refine LeO.bind ?_ (fun _ => ?_)) | exact ih0 _ _ _ _ _ | exact ih1 _ _ _ | exact ih2 _ _ _ _ | exact LeO.none _ | refine LeO.ite ?_ ?_ | refine LeO.bind ?_ (fun _ => ?_)
  intro y0 y1 y2 y3 y4
  unfold impl_aggValue.l0
  repeat' first | with_reducible (first | exact ih0 _ _ _ _ _ | exact ih1 _ _ _ | exact ih2 _ _ _ _ | exact LeO.refl _ | exact LeO.none _ | refine LeO.ite ?_ ?_ | refine LeO.bind ?_ (fun _ => ?_)) | exact ih0 _ _ _ _ _ | exact ih1 _ _ _ | exact ih2 _ _ _ _ | exact LeO.none _ | refine LeO.ite ?_ ?_ | refine LeO.bind ?_ (fun _ => ?_)
theorem impl_aggValue.mono : ∀ a0 a1 k, LeO (impl_aggValue.f k a0 a1) (impl_aggValue.f (k + 1) a0 a1) := by
 intro a0 a1 k
 obtain ⟨ih0, ih1, ih2⟩ := impl_aggValue.mono_l k
 unfold impl_aggValue.f
 repeat' first
   | (with_reducible exact ih0 _ _ _ _ _)
   | (with_reducible exact ih1 _ _ _)
   | (with_reducible exact ih2 _ _ _ _)
   | (with_reducible exact LeO.refl _)
   | (with_reducible exact LeO.none _)
   | (with_reducible refine LeO.ite ?_ ?_)
   | (with_reducible refine LeO.bind ?_ (fun _ => ?_))
   | exact ih0 _ _ _ _ _
   | exact ih1 _ _ _
   | exact ih2 _ _ _ _
   | exact LeO.none _
   | refine LeO.ite ?_ ?_
   | refine LeO.bind ?_ (fun _ => ?_)
theorem impl_aggValue.calls (k : Nat) (a0 : ByteArray) (A1 : Option Addr) (c1 : Nat) (l1 : List (S24)) (r1 : Int) (r2 : Int) (r3 : ByteArray) (r4 : Int) (w : World) (hr1 : Kd.C k24 w A1 l1.length l1) (hc1 : l1.length ≤ c1) (h : impl_aggValue.f k a0 l1 = some (r1, r2, r3, r4)) :
  Calls Try.prog 29 #[.string a0, .slice A1 l1.length c1] w fun e w' => e = .returned (.tuple #[.agg #[.int .i64 r1, .int .i64 r2, .string r3], .int .i64 r4]) ∧ Below w.heap.size w w' := by
 have hu24 := Try.underlying24
 have HR1 := ak_ hr1
 have HC1 := ak_ hc1
 clear hr1 hc1
 have HB := ak_ (Below.refl w.heap.size w)
 have H : (impl_aggValue.l0 k a0 (([] : List (S24))) l1 (l1.length : Int) 0) = some (r1, r2, r3, r4) := h
 clear h
 obtain ⟨y102, hy102⟩ : ∃ y_ : List (S24), y_ = (([] : List (S24))) := ⟨_, rfl⟩
 replace H : (impl_aggValue.l0 k a0 y102 l1 (l1.length : Int) 0) = some (r1, r2, r3, r4) := by first | (rw [hy102]; with_reducible exact H) | (have H2_ := (Option.bind_some _ _).symm.trans H; rw [hy102]; with_reducible exact H2_) | (have H2_ := (Option.bind_some _ _).symm.trans H; with_reducible exact H2_) | with_reducible exact H | (rw [hy102]; exact H) | exact H
 have Ny102 := ak_ hy102
 clear hy102
 have H' := ak_ H
 clear H
 go_enter Try.func29, Try.ntmps29
 go_wp2_with (first | ((with_reducible refine gate_dst (N := 4) rfl ?_); refine bx_ 4 (cs := #[.int .i64 0, .int .i64 0, .string (⟨#[]⟩ : ByteArray)]) (t := 24) (h_ := ?_); intro gb101 hg w3 hbox hb; have n_ := a4_ (below_step z0_ hb) (hbox) ((gs_ w hg (below_size z0_))) ((gs_ w hg (below_size z0_))); clear HB; obtain ⟨HB, BK101, GW101, GE101⟩ := n_; clear hb hbox hg) | ((with_reducible refine gate_dst (N := 14) rfl ?_); refine Kd.R_lit k24 _ 24 ?hg (N := 14) ?hd (xs := ([] : List (S24))) (inner := []) (ok := fun _ => True) (okp := fun _ => True) ?hr ?hp (fun _ hk => hk) trivial (Below.refl _ _) (Nat.le_refl _) (by simp) ?_; (case hd => rfl); (case hg => rfl); (case hr => first | (go_simp; done) | (go_simp; rfl)); (case hp => exact (Reps.none _ _)); intro v103 w4 ho5 hb hg_ hnew_; clear hg_ hnew_; (first | rw [← Ny102.out] at ho5 | (simp only [Int.reduceToNat] at ho5; rw [← Ny102.out] at ho5)); have n_ := a3_ (Kd.R_lower (Kd.R_newB ho5 (g := gb101) (o := .cells #[.int .i64 0, .int .i64 0, .string (⟨#[]⟩ : ByteArray)] 24 (0, 0)) z2_) (below_size z1_)) (blk_below (g := gb101) (o := .cells #[.int .i64 0, .int .i64 0, .string (⟨#[]⟩ : ByteArray)] 24 (0, 0)) z2_ hb) (below_step z1_ hb); clear BK101 HB; obtain ⟨HO104, BK101, HB⟩ := n_; clear hb ho5))
 go_loopg [6, 17] k (fun kq v6 v17 w' => ∃ (x6_1 : List (S24)) (x17_1 : Int), v17 = .int .i64 x17_1 ∧ Aside0 (impl_aggValue.l0 kq a0 x6_1 l1 (l1.length : Int) x17_1 = some (r1, r2, r3, r4)) ∧ Aside0 (kq ≤ k) ∧ Aside0 (Kd.R k24 24 w' w.heap.size (fun k_ => k_ ≠ gb101) v6 x6_1) ∧ Aside0 (w'.heap[gb101]? = some (.cells #[.int .i64 0, .int .i64 0, .string (⟨#[]⟩ : ByteArray)] 24 (0, 0))) ∧ Aside0 (Below w.heap.size w w'))
 case atStart => exact ⟨(y102), (0), z12_, H', ⟨Nat.le_refl _⟩, ⟨by (with_reducible repeat (first | apply Kd.R_alloc | apply Kd.R_drewN | apply Kd.R_drew)); exact Kd.R_mono HO104.out (fun _ hk => hk.2)⟩, ⟨z2_⟩, ⟨z1_⟩⟩
 case round =>
  clear H'
  try clear c1
  try clear c2
  try clear p2
  obtain ⟨x6_1, x17_1, rfl, HA, HK1, HO_6, BK101, HB⟩ := hrel
  cases gk with
  | zero => exact absurd HA.out (by simp [impl_aggValue.l0])
  | succ k1 =>
   have H := HA.out
   clear HA
   simp only [impl_aggValue.l0] at H
   by_cases c6 : x17_1 < (l1.length : Int)
   ·rw [if_pos c6] at H
    have c6b0 := decide_eq_true c6
    clear c6
    by_cases c7 : 0 ≤ x17_1
    ·rw [if_pos c7] at H
     have c7b0 := decide_eq_true c7
     clear c7
     by_cases c8 : x17_1 < (l1.length : Int)
     ·rw [if_pos c8] at H
      have c8b0 := decide_eq_true c8
      clear c8
      by_cases c9 : ((rd_T24 l1 x17_1).f0) = 0
      ·rw [if_pos c9] at H
       have c9b0 : (((rd_T24 l1 x17_1).f0) == 0) = true := beq_iff_eq.mpr c9
       have c9b1 : (((rd_T24 l1 x17_1).f0) != 0) = false := bne_eq_false_iff_eq.mpr c9
       clear c9
       have H' := ak_ H
       clear H
       have p105 : 0 ≤ (x17_1 : Int) := of_decide_eq_true z11_
       have q105 : x17_1 < (l1.length : Int) := of_decide_eq_true z11_
       obtain ⟨ad105, e105, hx105_0, hx105_1, hx105_2⟩ := at_T24 HR1.out x17_1 p105 q105
       cases e105
       replace hx105_0 := oc_ HB.out hx105_0
       replace hx105_1 := oc_ HB.out hx105_1
       replace hx105_2 := oc_ HB.out hx105_2
       replace p105 := eq_true p105
       replace q105 := eq_true q105
       go_wp2_with (first | ((with_reducible refine gate_dst (N := 8) rfl ?_); refine bx_ 8 (cs := #[.int .i64 0, .int .i64 0, .string (⟨#[]⟩ : ByteArray)]) (t := 24) (h_ := ?_); intro gb106 hg w10 hbox hb; have n_ := a8_ (Kd.R_below (Kd.R_elderB z22_ gb106 (Nat.le_of_eq hg.symm)) hb) (blk_below (g := gb101) (o := .cells #[.int .i64 0, .int .i64 0, .string (⟨#[]⟩ : ByteArray)] 24 (0, 0)) z2_ hb) (below_step z1_ hb) (hbox) ((gs_ w hg (below_size z1_))) ((gs_ w hg (below_size z1_))) ((z82_ : gb101 ≠ gb106)) ((z83_ : gb106 ≠ gb101)); clear HO_6 BK101 HB; obtain ⟨HO_6, BK101, HB, BK106, GW106, GE106, NB101_106, NB106_101⟩ := n_; clear hb hbox hg; have hnb11 := NB106_101.out; have hnc11 := NB101_106.out; obtain ⟨hcz12_0, hcz12_1, hcz12_2, hfz12_0, hfz12_1, hfz12_2⟩ := bcf3 BK106.out))
       go_roundg k1
       case measure => have := HK1.out; omega
       case rel => exact ⟨(x6_1), (wrap64 (x17_1 + 1)), z12_, H', ⟨by have := HK1.out; omega⟩, ⟨by (with_reducible repeat (first | apply Kd.R_alloc | apply Kd.R_drewN | apply Kd.R_drew)); exact Kd.R_mono (Kd.R_far (p := ⟨gb106, 2, none⟩) (Kd.R_far (p := ⟨gb106, 1, none⟩) (Kd.R_far (p := ⟨gb106, 0, none⟩) (Kd.R_mono HO_6.out (fun k_ hk => (⟨hk, hk.2⟩ : _ ∧ k_ ≠ gb106))) (fun _ hk => hk.2) (.int .i64 ((rd_T24 l1 x17_1).f0))) (fun _ hk => hk.2) (.int .i64 ((rd_T24 l1 x17_1).f1))) (fun _ hk => hk.2) (.string ((rd_T24 l1 x17_1).f2))) (fun _ hk => hk.1.1)⟩, ⟨z46_⟩, ⟨z55_⟩⟩
      ·rw [if_neg c9] at H
       have c9b0 : (((rd_T24 l1 x17_1).f0) == 0) = false := beq_eq_false_iff_ne.mpr c9
       have c9b1 : (((rd_T24 l1 x17_1).f0) != 0) = true := bne_iff_ne.mpr c9
       by_cases c13 : x6_1.length < 4398046511104
       ·rw [if_pos c13] at H
        have LMc13 := ak_ c13
        clear c13
        obtain ⟨y107, hy107⟩ : ∃ y_ : List (S24), y_ = (x6_1 ++ [(⟨(rd_T24 l1 x17_1).f0, (rd_T24 l1 x17_1).f1, (rd_T24 l1 x17_1).f2⟩ : S24)]) := ⟨_, rfl⟩
        replace H : (impl_aggValue.l0 k1 a0 y107 l1 (l1.length : Int) (wrap64 (x17_1 + 1))) = some (r1, r2, r3, r4) := by first | (rw [hy107]; with_reducible exact H) | (have H2_ := (Option.bind_some _ _).symm.trans H; rw [hy107]; with_reducible exact H2_) | (have H2_ := (Option.bind_some _ _).symm.trans H; with_reducible exact H2_) | with_reducible exact H | (rw [hy107]; exact H) | exact H
        have Ny107 := ak_ hy107
        clear hy107
        have H' := ak_ H
        clear H
        have p105 : 0 ≤ (x17_1 : Int) := of_decide_eq_true z11_
        have q105 : x17_1 < (l1.length : Int) := of_decide_eq_true z11_
        obtain ⟨ad105, e105, hx105_0, hx105_1, hx105_2⟩ := at_T24 HR1.out x17_1 p105 q105
        cases e105
        replace hx105_0 := oc_ HB.out hx105_0
        replace hx105_1 := oc_ HB.out hx105_1
        replace hx105_2 := oc_ HB.out hx105_2
        replace p105 := eq_true p105
        replace q105 := eq_true q105
        go_wp2_with (first | ((with_reducible refine gate_dst (N := 8) rfl ?_); refine bx_ 8 (cs := #[.int .i64 0, .int .i64 0, .string (⟨#[]⟩ : ByteArray)]) (t := 24) (h_ := ?_); intro gb106 hg w14 hbox hb; have n_ := a8_ (Kd.R_below (Kd.R_elderB z22_ gb106 (Nat.le_of_eq hg.symm)) hb) (blk_below (g := gb101) (o := .cells #[.int .i64 0, .int .i64 0, .string (⟨#[]⟩ : ByteArray)] 24 (0, 0)) z2_ hb) (below_step z1_ hb) (hbox) ((gs_ w hg (below_size z1_))) ((gs_ w hg (below_size z1_))) ((z82_ : gb101 ≠ gb106)) ((z83_ : gb106 ≠ gb101)); clear HO_6 BK101 HB; obtain ⟨HO_6, BK101, HB, BK106, GW106, GE106, NB101_106, NB106_101⟩ := n_; clear hb hbox hg; have hnb15 := NB106_101.out; have hnc15 := NB101_106.out; obtain ⟨hcz16_0, hcz16_1, hcz16_2, hfz16_0, hfz16_1, hfz16_2⟩ := bcf3 BK106.out) | ((with_reducible refine gate_builtin (b := .append) (xs := #[.tmp 24, .tmp 26]) rfl ?_); at_builtin; refine Kd.R_append k24 (w0 := w) w.heap.size rfl (.tmp 24) (.tmp 26) 25 24 (.agg #[(.int .i64 0), (.int .i64 0), (.string ⟨#[]⟩)]) 32 rfl Try.underlying25 info24 rfl (by decide) (by omega) u6 x6_1 (⟨(rd_T24 l1 x17_1).f0, (rd_T24 l1 x17_1).f1, (rd_T24 l1 x17_1).f2⟩ : S24) [.int .i64 ((rd_T24 l1 x17_1).f0), .int .i64 ((rd_T24 l1 x17_1).f1), .string ((rd_T24 l1 x17_1).f2)] (fun k_ => k_ ≠ gb101 ∧ k_ ≠ gb106) (fun _ => False) rfl z84_ ?aP (fun _ hk => hk.elim) ?aF ?aO ?aB ?aS ?aL ?_; (case aP => exact k24_mkM _ _ _ (⟨(rd_T24 l1 x17_1).f0, (rd_T24 l1 x17_1).f1, (rd_T24 l1 x17_1).f2⟩ : S24)); (case aB => exact z55_); (case aF => exact (fun k_ hk => ⟨Kd.freshB (g := gb101) (o := .cells #[.int .i64 0, .int .i64 0, .string (⟨#[]⟩ : ByteArray)] 24 (0, 0)) z46_ k_ hk, Kd.freshB (g := gb106) (o := .cells #[.int .i64 ((rd_T24 l1 x17_1).f0), .int .i64 ((rd_T24 l1 x17_1).f1), .string ((rd_T24 l1 x17_1).f2)] 24 (0, 0)) z51_ k_ hk⟩)); (case aO => exact (by (with_reducible repeat (first | apply Kd.R_alloc | apply Kd.R_drewN | apply Kd.R_drew)); exact Kd.R_mono (Kd.R_far (p := ⟨gb106, 2, none⟩) (Kd.R_far (p := ⟨gb106, 1, none⟩) (Kd.R_far (p := ⟨gb106, 0, none⟩) (Kd.R_mono HO_6.out (fun k_ hk => (⟨hk, hk.2⟩ : _ ∧ k_ ≠ gb106))) (fun _ hk => hk.2) (.int .i64 ((rd_T24 l1 x17_1).f0))) (fun _ hk => hk.2) (.int .i64 ((rd_T24 l1 x17_1).f1))) (fun _ hk => hk.2) (.string ((rd_T24 l1 x17_1).f2))) (fun _ hk => ⟨hk.1.1, hk.1.2⟩))); (case aS => exact (below_size z55_)); (case aL => have := LMc13.out; omega); intro v108 w17 ho hb hg hat; rw [← Ny107.out] at ho; have n_ := a4_ (blk_grown (g := gb101) (o := .cells #[.int .i64 0, .int .i64 0, .string (⟨#[]⟩ : ByteArray)] 24 (0, 0)) z46_ hg (Kd.R_away HO_6.out (fun _ hk => hk.1))) (blk_grown (g := gb106) (o := .cells #[.int .i64 ((rd_T24 l1 x17_1).f0), .int .i64 ((rd_T24 l1 x17_1).f1), .string ((rd_T24 l1 x17_1).f2)] 24 (0, 0)) z51_ hg (Kd.R_away HO_6.out (fun _ hk => hk.2))) (hb) (ho); clear BK101 BK106 HB HO_6; obtain ⟨BK101, BK106, HB, HO109⟩ := n_; clear ho hb hg hat))
        go_roundg k1
        case measure => have := HK1.out; omega
        case rel => exact ⟨(y107), (wrap64 (x17_1 + 1)), z12_, H', ⟨by have := HK1.out; omega⟩, ⟨by (with_reducible repeat (first | apply Kd.R_alloc | apply Kd.R_drewN | apply Kd.R_drew)); exact Kd.R_mono HO109.out (fun _ hk => hk.1)⟩, ⟨z2_⟩, ⟨z55_⟩⟩
       ·rw [if_neg c13] at H
        exact absurd H (by simp)
     ·rw [if_neg c8] at H
      exact absurd H (by simp)
    ·rw [if_neg c7] at H
     exact absurd H (by simp)
   rw [if_neg c6] at H
   have c6b0 := decide_eq_false c6
   clear c6
   by_cases c18 : a0.toList = ([99, 111, 117, 110, 116] : List UInt8)
   ·rw [if_pos c18] at H
    have c18b0 : (a0.toList == ([99, 111, 117, 110, 116] : List UInt8)) = true := beq_iff_eq.mpr c18
    have c18b1 : (a0.toList != ([99, 111, 117, 110, 116] : List UInt8)) = false := bne_eq_false_iff_eq.mpr c18
    clear c18
    simp only [Option.some.injEq, Prod.mk.injEq] at H
    obtain ⟨rfl, rfl, rfl, rfl⟩ := H
    obtain ⟨Ao19, co19, eo19⟩ := Kd.R_slice HO_6.out
    subst eo19
    obtain ⟨hcz20_0, hcz20_1, hcz20_2, hfz20_0, hfz20_1, hfz20_2⟩ := bcf3 BK101.out
    go_wp2
    refine bodyPost_ret (results_ct rfl _ _ gb101 24 #[.int .i64 2, .int .i64 (x6_1.length : Int), .string (⟨#[]⟩ : ByteArray)] (0, 0) _ rfl (by (with_reducible repeat (first | refine blk_drewN ?_ _ | refine blk_drew ?_ | refine blk_alloc ?_ _)); refine blk_put (cs := #[.int .i64 2, .int .i64 (x6_1.length : Int), .string (⟨#[]⟩ : ByteArray)]) ?_ 2 _ rfl; (with_reducible repeat (first | refine blk_drewN ?_ _ | refine blk_drew ?_ | refine blk_alloc ?_ _)); refine blk_put (cs := #[.int .i64 2, .int .i64 0, .string (⟨#[]⟩ : ByteArray)]) ?_ 1 _ rfl; (with_reducible repeat (first | refine blk_drewN ?_ _ | refine blk_drew ?_ | refine blk_alloc ?_ _)); refine blk_put (cs := #[.int .i64 0, .int .i64 0, .string (⟨#[]⟩ : ByteArray)]) ?_ 0 _ rfl; (with_reducible repeat (first | refine blk_drewN ?_ _ | refine blk_drew ?_ | refine blk_alloc ?_ _)); exact BK101.out) Try.underlying24 rfl (by kernel_rfl)) rfl ?_
    exact ⟨z10_, z1_⟩
   rw [if_neg c18] at H
   have c18b0 : (a0.toList == ([99, 111, 117, 110, 116] : List UInt8)) = false := beq_eq_false_iff_ne.mpr c18
   have c18b1 : (a0.toList != ([99, 111, 117, 110, 116] : List UInt8)) = true := bne_iff_ne.mpr c18
   have HC21 := ak_ H
   clear H
   go_upto_region 10 with (fail)
   go_cut [35] (fun v35 wc => ∃ (kq : Nat) (x35_20 : Bool), v35 = .bool x35_20 ∧ Aside0 (impl_aggValue.j1 kq a0 x6_1 x35_20 = some (r1, r2, r3, r4)) ∧ Aside0 (kq ≤ k1) ∧ Aside0 (Kd.R k24 24 wc w.heap.size (fun k_ => k_ ≠ gb101) u6 x6_1) ∧ Aside0 (wc.heap[gb101]? = some (.cells #[.int .i64 0, .int .i64 0, .string (⟨#[]⟩ : ByteArray)] 24 (0, 0))) ∧ Aside0 (Below w.heap.size w wc))
   case first =>
    have H := HC21.out
    clear HC21
    by_cases c22 : a0.toList = ([115, 117, 109] : List UInt8)
    rotate_left
    ·rw [if_neg c22] at H
     have c22b0 : (a0.toList == ([115, 117, 109] : List UInt8)) = false := beq_eq_false_iff_ne.mpr c22
     have c22b1 : (a0.toList != ([115, 117, 109] : List UInt8)) = true := bne_iff_ne.mpr c22
     (first | rw [c22b0] | (simp only [i64_w, i32_w]; rw [c22b0]) | skip)
     have H' := ak_ H
     clear H
     go_wp2
     go_meet
     case rel => exact ⟨_, (false), z12_, H', ⟨by have := HK1.out; first | omega | exact Nat.le_refl _⟩, ⟨z22_⟩, ⟨z2_⟩, ⟨z1_⟩⟩
    rw [if_pos c22] at H
    have c22b0 : (a0.toList == ([115, 117, 109] : List UInt8)) = true := beq_iff_eq.mpr c22
    have c22b1 : (a0.toList != ([115, 117, 109] : List UInt8)) = false := bne_eq_false_iff_eq.mpr c22
    clear c22
    (first | rw [c22b0] | (simp only [i64_w, i32_w]; rw [c22b0]) | skip)
    replace H := Option.bind_eq_some_iff.mp H
    obtain ⟨t110, A230, H⟩ := H
    have A23 := ak_ A230
    clear A230
    have H' := ak_ H
    clear H
    obtain ⟨Ao24, co24, eo24⟩ := Kd.R_slice HO_6.out
    subst eo24
    go_wp2_with (first | (go_at_call 27; (with_reducible refine (impl_aggValue_1_any.calls _ _ x6_1 t110 _ ?side1 ?side2 A23.out).mono ?_); (case side1 => exact cz_ ((Kd.R_reads' HO_6.out).2.2)); (case side2 => exact (Kd.R_reads' HO_6.out).2.1); rintro e w25 ⟨rfl, hb⟩; have n_ := a3_ (Kd.R_below z22_ hb) (blk_below (g := gb101) (o := .cells #[.int .i64 0, .int .i64 0, .string (⟨#[]⟩ : ByteArray)] 24 (0, 0)) z2_ hb) (below_step z1_ hb); clear HO_6 BK101 HB; obtain ⟨HO_6, BK101, HB⟩ := n_; (try clear hb); (try clear hb2); (try clear hk); (try clear hi)))
    go_meet
    case rel => exact ⟨_, (t110), z12_, H', ⟨by have := HK1.out; first | omega | exact Nat.le_refl _⟩, ⟨z22_⟩, ⟨z2_⟩, ⟨z1_⟩⟩
   case rest =>
    clear HC21
    try clear c1
    try clear p1
    try clear q1
    try clear hx1
    try clear c2
    try clear p2
    try clear c6
    try clear c6b0
    try clear p6
    try clear c7
    try clear c7b0
    try clear c8
    try clear c8b0
    try clear c9
    try clear c9b0
    try clear c9b1
    try clear p10
    try clear q10
    try clear hx10
    try clear c11
    try clear c13
    try clear c15
    try clear c18
    try clear c18b0
    try clear c18b1
    try clear c22
    try clear c22b0
    try clear c22b1
    try clear hcz12_0
    try clear hcz12_1
    try clear hcz12_2
    try clear hcz16_0
    try clear hcz16_1
    try clear hcz16_2
    try clear hcz20_0
    try clear hcz20_1
    try clear hcz20_2
    try clear hfz12_0
    try clear hfz12_1
    try clear hfz12_2
    try clear hfz16_0
    try clear hfz16_1
    try clear hfz16_2
    try clear hfz20_0
    try clear hfz20_1
    try clear hfz20_2
    try clear hx105_0
    try clear hx105_1
    try clear hx105_2
    try clear p105
    try clear p2
    try clear q105
    obtain ⟨kq, x35_20, rfl, HA, HJ20, HO_6, BK101, HB⟩ := hcut
    cases kq with
    | zero => exact absurd HA.out (by simp [impl_aggValue.j1])
    | succ kj20 =>
     have H := HA.out
     clear HA
     simp only [impl_aggValue.j1] at H
     by_cases c26 : x35_20 = true
     ·subst c26
      have H1 : (some (0, 0, (⟨#[]⟩ : ByteArray), 10)) = some (r1, r2, r3, r4) := by rw [if_pos rfl] at H; exact H
      clear H
      have H := H1
      clear H1
      simp only [Option.some.injEq, Prod.mk.injEq] at H
      obtain ⟨rfl, rfl, rfl, rfl⟩ := H
      obtain ⟨hcz27_0, hcz27_1, hcz27_2, hfz27_0, hfz27_1, hfz27_2⟩ := bcf3 BK101.out
      go_wp2
      refine bodyPost_ret (results_ct rfl _ _ gb101 24 #[.int .i64 0, .int .i64 0, .string (⟨#[]⟩ : ByteArray)] (0, 0) _ rfl z9_ Try.underlying24 rfl (by kernel_rfl)) rfl ?_
      exact ⟨z10_, z1_⟩
     replace c26 := Bool.eq_false_iff.mpr c26
     subst c26
     have H1 : (if (x6_1.length : Int) = 0 then (some (0, 0, (⟨#[]⟩ : ByteArray), 0)) else (if a0.toList = ([109, 105, 110] : List UInt8) then ((impl_minValue.f x6_1).bind fun bt111 => (some (bt111.1, bt111.2.1, bt111.2.2, 0))) else (if a0.toList = ([109, 97, 120] : List UInt8) then ((impl_maxValue.f x6_1).bind fun bt114 => (some (bt114.1, bt114.2.1, bt114.2.2, 0))) else (impl_aggValue.l1 kj20 0 x6_1 (x6_1.length : Int) 0)))) = some (r1, r2, r3, r4) := by rw [if_neg (show ¬ (false = true) by decide)] at H; exact H
     clear H
     have H := H1
     clear H1
     by_cases c28 : (x6_1.length : Int) = 0
     ·rw [if_pos c28] at H
      have c28b0 : ((x6_1.length : Int) == 0) = true := beq_iff_eq.mpr c28
      have c28b1 : ((x6_1.length : Int) != 0) = false := bne_eq_false_iff_eq.mpr c28
      clear c28
      simp only [Option.some.injEq, Prod.mk.injEq] at H
      obtain ⟨rfl, rfl, rfl, rfl⟩ := H
      obtain ⟨Ao29, co29, eo29⟩ := Kd.R_slice HO_6.out
      subst eo29
      obtain ⟨hcz30_0, hcz30_1, hcz30_2, hfz30_0, hfz30_1, hfz30_2⟩ := bcf3 BK101.out
      go_wp2
      refine bodyPost_ret (results_ct rfl _ _ gb101 24 #[.int .i64 0, .int .i64 0, .string (⟨#[]⟩ : ByteArray)] (0, 0) _ rfl z9_ Try.underlying24 rfl (by kernel_rfl)) rfl ?_
      exact ⟨z10_, z1_⟩
     rw [if_neg c28] at H
     have c28b0 : ((x6_1.length : Int) == 0) = false := beq_eq_false_iff_ne.mpr c28
     have c28b1 : ((x6_1.length : Int) != 0) = true := bne_iff_ne.mpr c28
     have c28b2 : ¬ (x6_1 = []) := fun h_ => c28 (by rw [h_]; rfl)
     by_cases c31 : a0.toList = ([109, 105, 110] : List UInt8)
     ·rw [if_pos c31] at H
      have c31b0 : (a0.toList == ([109, 105, 110] : List UInt8)) = true := beq_iff_eq.mpr c31
      have c31b1 : (a0.toList != ([109, 105, 110] : List UInt8)) = false := bne_eq_false_iff_eq.mpr c31
      clear c31
      replace H := Option.bind_eq_some_iff.mp H
      obtain ⟨⟨t111, t112, t113⟩, A320, H⟩ := H
      replace H : (some (t111, t112, t113, 0)) = some (r1, r2, r3, r4) := H
      have A32 := ak_ A320
      clear A320
      simp only [Option.some.injEq, Prod.mk.injEq] at H
      obtain ⟨rfl, rfl, rfl, rfl⟩ := H
      obtain ⟨Ao33, co33, eo33⟩ := Kd.R_slice HO_6.out
      subst eo33
      go_wp2_with (first | ((with_reducible refine gate_callee (f := 58) rfl ?_); refine goesL_ (some 52) rfl rfl Try.func58 (by kernel_rfl) rfl #[.slice Ao33 x6_1.length co33, .func (.func 40) #[] #[]] rfl z3_ ?_; (with_reducible refine (impl_minValue.calls _ _ x6_1 t111 t112 t113 _ ?side1 ?side2 A32.out).mono ?_); (case side1 => exact cz_ ((Kd.R_reads' HO_6.out).2.2)); (case side2 => exact (Kd.R_reads' HO_6.out).2.1); rintro e w34 ⟨rfl, hb⟩; refine ⟨_, rfl, ?_⟩; have n_ := a3_ (Kd.R_below z22_ hb) (blk_below (g := gb101) (o := .cells #[.int .i64 0, .int .i64 0, .string (⟨#[]⟩ : ByteArray)] 24 (0, 0)) z2_ hb) (below_step z1_ hb); clear HO_6 BK101 HB; obtain ⟨HO_6, BK101, HB⟩ := n_; (try clear hb); (try clear hb2); (try clear hk); (try clear hi); obtain ⟨hcz35_0, hcz35_1, hcz35_2, hfz35_0, hfz35_1, hfz35_2⟩ := bcf3 BK101.out))
      refine bodyPost_ret (results_ct rfl _ _ gb101 24 #[.int .i64 t111, .int .i64 t112, .string t113] (0, 0) _ rfl z54_ Try.underlying24 rfl (by kernel_rfl)) rfl ?_
      exact ⟨z10_, z1_⟩
     rw [if_neg c31] at H
     have c31b0 : (a0.toList == ([109, 105, 110] : List UInt8)) = false := beq_eq_false_iff_ne.mpr c31
     have c31b1 : (a0.toList != ([109, 105, 110] : List UInt8)) = true := bne_iff_ne.mpr c31
     by_cases c36 : a0.toList = ([109, 97, 120] : List UInt8)
     ·rw [if_pos c36] at H
      have c36b0 : (a0.toList == ([109, 97, 120] : List UInt8)) = true := beq_iff_eq.mpr c36
      have c36b1 : (a0.toList != ([109, 97, 120] : List UInt8)) = false := bne_eq_false_iff_eq.mpr c36
      clear c36
      replace H := Option.bind_eq_some_iff.mp H
      obtain ⟨⟨t114, t115, t116⟩, A370, H⟩ := H
      replace H : (some (t114, t115, t116, 0)) = some (r1, r2, r3, r4) := H
      have A37 := ak_ A370
      clear A370
      simp only [Option.some.injEq, Prod.mk.injEq] at H
      obtain ⟨rfl, rfl, rfl, rfl⟩ := H
      obtain ⟨Ao38, co38, eo38⟩ := Kd.R_slice HO_6.out
      subst eo38
      go_wp2_with (first | ((with_reducible refine gate_callee (f := 59) rfl ?_); refine goesL_ (some 57) rfl rfl Try.func59 (by kernel_rfl) rfl #[.slice Ao38 x6_1.length co38, .func (.func 40) #[] #[]] rfl z3_ ?_; (with_reducible refine (impl_maxValue.calls _ _ x6_1 t114 t115 t116 _ ?side1 ?side2 A37.out).mono ?_); (case side1 => exact cz_ ((Kd.R_reads' HO_6.out).2.2)); (case side2 => exact (Kd.R_reads' HO_6.out).2.1); rintro e w39 ⟨rfl, hb⟩; refine ⟨_, rfl, ?_⟩; have n_ := a3_ (Kd.R_below z22_ hb) (blk_below (g := gb101) (o := .cells #[.int .i64 0, .int .i64 0, .string (⟨#[]⟩ : ByteArray)] 24 (0, 0)) z2_ hb) (below_step z1_ hb); clear HO_6 BK101 HB; obtain ⟨HO_6, BK101, HB⟩ := n_; (try clear hb); (try clear hb2); (try clear hk); (try clear hi); obtain ⟨hcz40_0, hcz40_1, hcz40_2, hfz40_0, hfz40_1, hfz40_2⟩ := bcf3 BK101.out))
      refine bodyPost_ret (results_ct rfl _ _ gb101 24 #[.int .i64 t114, .int .i64 t115, .string t116] (0, 0) _ rfl (by (with_reducible repeat (first | refine blk_drewN ?_ _ | refine blk_drew ?_ | refine blk_alloc ?_ _)); refine blk_put (cs := #[.int .i64 t114, .int .i64 t115, .string (⟨#[]⟩ : ByteArray)]) ?_ 2 _ rfl; (with_reducible repeat (first | refine blk_drewN ?_ _ | refine blk_drew ?_ | refine blk_alloc ?_ _)); refine blk_put (cs := #[.int .i64 t114, .int .i64 0, .string (⟨#[]⟩ : ByteArray)]) ?_ 1 _ rfl; (with_reducible repeat (first | refine blk_drewN ?_ _ | refine blk_drew ?_ | refine blk_alloc ?_ _)); refine blk_put (cs := #[.int .i64 0, .int .i64 0, .string (⟨#[]⟩ : ByteArray)]) ?_ 0 _ rfl; (with_reducible repeat (first | refine blk_drewN ?_ _ | refine blk_drew ?_ | refine blk_alloc ?_ _)); exact BK101.out) Try.underlying24 rfl (by kernel_rfl)) rfl ?_
      exact ⟨z10_, z1_⟩
     rw [if_neg c36] at H
     have c36b0 : (a0.toList == ([109, 97, 120] : List UInt8)) = false := beq_eq_false_iff_ne.mpr c36
     have c36b1 : (a0.toList != ([109, 97, 120] : List UInt8)) = true := bne_iff_ne.mpr c36
     have H' := ak_ H
     clear H
     obtain ⟨Ao41, co41, eo41⟩ := Kd.R_slice HO_6.out
     subst eo41
     go_wp2
     go_loopg [9, 60] kj20 (fun kq v9 v60 w' => ∃ (x9_3 : Int) (x60_3 : Int) (x102000_3 : Int) (x102001_3 : Int) (x102002_3 : ByteArray), v9 = .int .i64 x9_3 ∧ v60 = .int .i64 x60_3 ∧ Aside0 (impl_aggValue.l1 kq x9_3 x6_1 (x6_1.length : Int) x60_3 = some (r1, r2, r3, r4)) ∧ Aside0 (kq ≤ kj20) ∧ Aside0 (Kd.R k24 24 w' w.heap.size (fun k_ => k_ ≠ gb101) (.slice Ao41 x6_1.length co41) x6_1) ∧ Aside0 (w'.heap[gb101]? = some (.cells #[.int .i64 x102000_3, .int .i64 x102001_3, .string x102002_3] 24 (0, 0))) ∧ Aside0 (Below w.heap.size w w'))
     case atStart => exact ⟨(0), (0), (0), (0), ((⟨#[]⟩ : ByteArray)), z12_, z12_, H', ⟨Nat.le_refl _⟩, ⟨z22_⟩, ⟨z2_⟩, ⟨z1_⟩⟩
     case round =>
      clear H'
      try clear c1
      try clear p1
      try clear q1
      try clear hx1
      try clear c2
      try clear p2
      try clear c3
      try clear c6
      try clear c6b0
      try clear p6
      try clear c7
      try clear c7b0
      try clear c8
      try clear c8b0
      try clear c9
      try clear c9b0
      try clear c9b1
      try clear p10
      try clear q10
      try clear hx10
      try clear c11
      try clear c13
      try clear c15
      try clear c18
      try clear c18b0
      try clear c18b1
      try clear c22
      try clear c22b0
      try clear c22b1
      try clear c26
      try clear c28
      try clear c28b0
      try clear c28b1
      try clear c28b2
      try clear c29
      try clear c31
      try clear c31b0
      try clear c31b1
      try clear c36
      try clear c36b0
      try clear c36b1
      try clear hcz12_0
      try clear hcz12_1
      try clear hcz12_2
      try clear hcz16_0
      try clear hcz16_1
      try clear hcz16_2
      try clear hcz20_0
      try clear hcz20_1
      try clear hcz20_2
      try clear hcz27_0
      try clear hcz27_1
      try clear hcz27_2
      try clear hcz30_0
      try clear hcz30_1
      try clear hcz30_2
      try clear hcz35_0
      try clear hcz35_1
      try clear hcz35_2
      try clear hcz40_0
      try clear hcz40_1
      try clear hcz40_2
      try clear hfz12_0
      try clear hfz12_1
      try clear hfz12_2
      try clear hfz16_0
      try clear hfz16_1
      try clear hfz16_2
      try clear hfz20_0
      try clear hfz20_1
      try clear hfz20_2
      try clear hfz27_0
      try clear hfz27_1
      try clear hfz27_2
      try clear hfz30_0
      try clear hfz30_1
      try clear hfz30_2
      try clear hfz35_0
      try clear hfz35_1
      try clear hfz35_2
      try clear hfz40_0
      try clear hfz40_1
      try clear hfz40_2
      try clear hx105_0
      try clear hx105_1
      try clear hx105_2
      try clear p1
      try clear p10
      try clear p105
      try clear p2
      try clear p6
      try clear q1
      try clear q10
      try clear q105
      obtain ⟨x9_3, x60_3, x102000_3, x102001_3, x102002_3, rfl, rfl, HA, HK3, HO_58, BK101, HB⟩ := hrel
      cases gk with
      | zero => exact absurd HA.out (by simp [impl_aggValue.l1])
      | succ k3 =>
       have H := HA.out
       clear HA
       simp only [impl_aggValue.l1] at H
       by_cases c42 : x60_3 < (x6_1.length : Int)
       rotate_left
       ·rw [if_neg c42] at H
        have c42b0 := decide_eq_false c42
        clear c42
        simp only [Option.some.injEq, Prod.mk.injEq] at H
        obtain ⟨rfl, rfl, rfl, rfl⟩ := H
        obtain ⟨hcz54_0, hcz54_1, hcz54_2, hfz54_0, hfz54_1, hfz54_2⟩ := bcf3 BK101.out
        go_wp2
        refine bodyPost_ret (results_ct rfl _ _ gb101 24 #[.int .i64 2, .int .i64 x9_3, .string (⟨#[]⟩ : ByteArray)] (0, 0) _ rfl (by (with_reducible repeat (first | refine blk_drewN ?_ _ | refine blk_drew ?_ | refine blk_alloc ?_ _)); refine blk_put (cs := #[.int .i64 2, .int .i64 x9_3, .string x102002_3]) ?_ 2 _ rfl; (with_reducible repeat (first | refine blk_drewN ?_ _ | refine blk_drew ?_ | refine blk_alloc ?_ _)); refine blk_put (cs := #[.int .i64 2, .int .i64 x102001_3, .string x102002_3]) ?_ 1 _ rfl; (with_reducible repeat (first | refine blk_drewN ?_ _ | refine blk_drew ?_ | refine blk_alloc ?_ _)); refine blk_put (cs := #[.int .i64 x102000_3, .int .i64 x102001_3, .string x102002_3]) ?_ 0 _ rfl; (with_reducible repeat (first | refine blk_drewN ?_ _ | refine blk_drew ?_ | refine blk_alloc ?_ _)); exact BK101.out) Try.underlying24 rfl (by kernel_rfl)) rfl ?_
        exact ⟨z10_, z1_⟩

       rw [if_pos c42] at H
       have c42b0 := decide_eq_true c42
       clear c42
       by_cases c43 : 0 ≤ x60_3
       rotate_left
       ·rw [if_neg c43] at H
        exact absurd H (by simp)
       rw [if_pos c43] at H
       have c43b0 := decide_eq_true c43
       clear c43
       by_cases c44 : x60_3 < (x6_1.length : Int)
       rotate_left
       ·rw [if_neg c44] at H
        exact absurd H (by simp)
       rw [if_pos c44] at H
       have c44b0 := decide_eq_true c44
       clear c44
       replace H := Option.bind_eq_some_iff.mp H
       obtain ⟨⟨t119, t120⟩, A450, H⟩ := H
       replace H : (if t120 = 0 then (impl_aggValue.l1 k3 t119 x6_1 (x6_1.length : Int) (wrap64 (x60_3 + 1))) else (some (0, 0, (⟨#[]⟩ : ByteArray), t120))) = some (r1, r2, r3, r4) := H
       have A45 := ak_ A450
       clear A450
       by_cases c46 : t120 = 0
       rotate_left
       ·rw [if_neg c46] at H
        have c46b0 : (t120 == 0) = false := beq_eq_false_iff_ne.mpr c46
        have c46b1 : (t120 != 0) = true := bne_iff_ne.mpr c46
        simp only [Option.some.injEq, Prod.mk.injEq] at H
        obtain ⟨rfl, rfl, rfl, rfl⟩ := H
        have p117 : 0 ≤ (x60_3 : Int) := of_decide_eq_true z11_
        have q117 : x60_3 < (x6_1.length : Int) := of_decide_eq_true z11_
        obtain ⟨ad117, e117, hx117_0, hx117_1, hx117_2⟩ := at_T24 (Kd.R_reads' HO_58.out).2.2 x60_3 p117 q117
        cases e117
        replace p117 := eq_true p117
        replace q117 := eq_true q117
        go_wp2_with (first | ((with_reducible refine gate_dst (N := 11) rfl ?_); refine bx_ 11 (cs := #[.int .i64 0, .int .i64 0, .string (⟨#[]⟩ : ByteArray)]) (t := 24) (h_ := ?_); intro gb118 hg w50 hbox hb; have n_ := a8_ (Kd.R_below (Kd.R_elderB (by (with_reducible repeat (first | apply Kd.R_alloc | apply Kd.R_drewN | apply Kd.R_drew)); exact HO_58.out) gb118 (Nat.le_of_eq hg.symm)) hb) (blk_below (g := gb101) (o := .cells #[.int .i64 x102000_3, .int .i64 x102001_3, .string x102002_3] 24 (0, 0)) z2_ hb) (below_step z1_ hb) (hbox) ((gs_ w hg (below_size z1_))) ((gs_ w hg (below_size z1_))) ((by rw [hg]; exact Nat.ne_of_lt (blk_lt (g := gb101) (o := .cells #[.int .i64 x102000_3, .int .i64 x102001_3, .string x102002_3] 24 (0, 0)) z2_) : gb101 ≠ gb118)) ((by rw [hg]; exact Nat.ne_of_gt (blk_lt (g := gb101) (o := .cells #[.int .i64 x102000_3, .int .i64 x102001_3, .string x102002_3] 24 (0, 0)) z2_) : gb118 ≠ gb101)); clear HO_58 BK101 HB; obtain ⟨HO_58, BK101, HB, BK118, GW118, GE118, NB101_118, NB118_101⟩ := n_; clear hb hbox hg; have hnb51 := NB118_101.out; have hnc51 := NB101_118.out; obtain ⟨hcz52_0, hcz52_1, hcz52_2, hfz52_0, hfz52_1, hfz52_2⟩ := bcf3 BK118.out) | ((with_reducible refine gate_callee (f := 60) rfl ?_); refine goesL_ (some 68) rfl rfl Try.func60 (by kernel_rfl) rfl #[.int .i64 x9_3, .int .i64 ((rd_T24 x6_1 x60_3).f1)] rfl z3_ ?_; (with_reducible refine (impl_AddInts.calls x9_3 ((rd_T24 x6_1 x60_3).f1) t119 t120 _ A45.out).mono ?_); rintro e w' ⟨rfl, ⟨nd, rfl⟩⟩; refine ⟨_, rfl, ?_⟩; obtain ⟨hcz53_0, hcz53_1, hcz53_2, hfz53_0, hfz53_1, hfz53_2⟩ := bcf3 BK101.out))
        refine bodyPost_ret (results_ct rfl _ _ gb101 24 #[.int .i64 0, .int .i64 0, .string (⟨#[]⟩ : ByteArray)] (0, 0) _ rfl (by (with_reducible repeat (first | refine blk_drewN ?_ _ | refine blk_drew ?_ | refine blk_alloc ?_ _)); refine blk_put (cs := #[.int .i64 0, .int .i64 0, .string x102002_3]) ?_ 2 _ rfl; (with_reducible repeat (first | refine blk_drewN ?_ _ | refine blk_drew ?_ | refine blk_alloc ?_ _)); refine blk_put (cs := #[.int .i64 0, .int .i64 x102001_3, .string x102002_3]) ?_ 1 _ rfl; (with_reducible repeat (first | refine blk_drewN ?_ _ | refine blk_drew ?_ | refine blk_alloc ?_ _)); refine blk_put (cs := #[.int .i64 x102000_3, .int .i64 x102001_3, .string x102002_3]) ?_ 0 _ rfl; (with_reducible repeat (first | refine blk_drewN ?_ _ | refine blk_drew ?_ | refine blk_alloc ?_ _)); refine blk_far ?_ NB101_118.out _; (with_reducible repeat (first | refine blk_drewN ?_ _ | refine blk_drew ?_ | refine blk_alloc ?_ _)); refine blk_far ?_ NB101_118.out _; (with_reducible repeat (first | refine blk_drewN ?_ _ | refine blk_drew ?_ | refine blk_alloc ?_ _)); refine blk_far ?_ NB101_118.out _; (with_reducible repeat (first | refine blk_drewN ?_ _ | refine blk_drew ?_ | refine blk_alloc ?_ _)); exact BK101.out) Try.underlying24 rfl (by kernel_rfl)) rfl ?_
        exact ⟨z10_, z91_⟩
       rw [if_pos c46] at H
       have c46b0 : (t120 == 0) = true := beq_iff_eq.mpr c46
       have c46b1 : (t120 != 0) = false := bne_eq_false_iff_eq.mpr c46
       clear c46
       have H' := ak_ H
       clear H
       have p117 : 0 ≤ (x60_3 : Int) := of_decide_eq_true z11_
       have q117 : x60_3 < (x6_1.length : Int) := of_decide_eq_true z11_
       obtain ⟨ad117, e117, hx117_0, hx117_1, hx117_2⟩ := at_T24 (Kd.R_reads' HO_58.out).2.2 x60_3 p117 q117
       cases e117
       replace p117 := eq_true p117
       replace q117 := eq_true q117
       go_wp2_with (first | ((with_reducible refine gate_dst (N := 11) rfl ?_); refine bx_ 11 (cs := #[.int .i64 0, .int .i64 0, .string (⟨#[]⟩ : ByteArray)]) (t := 24) (h_ := ?_); intro gb118 hg w47 hbox hb; have n_ := a8_ (Kd.R_below (Kd.R_elderB (by (with_reducible repeat (first | apply Kd.R_alloc | apply Kd.R_drewN | apply Kd.R_drew)); exact HO_58.out) gb118 (Nat.le_of_eq hg.symm)) hb) (blk_below (g := gb101) (o := .cells #[.int .i64 x102000_3, .int .i64 x102001_3, .string x102002_3] 24 (0, 0)) z2_ hb) (below_step z1_ hb) (hbox) ((gs_ w hg (below_size z1_))) ((gs_ w hg (below_size z1_))) ((by rw [hg]; exact Nat.ne_of_lt (blk_lt (g := gb101) (o := .cells #[.int .i64 x102000_3, .int .i64 x102001_3, .string x102002_3] 24 (0, 0)) z2_) : gb101 ≠ gb118)) ((by rw [hg]; exact Nat.ne_of_gt (blk_lt (g := gb101) (o := .cells #[.int .i64 x102000_3, .int .i64 x102001_3, .string x102002_3] 24 (0, 0)) z2_) : gb118 ≠ gb101)); clear HO_58 BK101 HB; obtain ⟨HO_58, BK101, HB, BK118, GW118, GE118, NB101_118, NB118_101⟩ := n_; clear hb hbox hg; have hnb48 := NB118_101.out; have hnc48 := NB101_118.out; obtain ⟨hcz49_0, hcz49_1, hcz49_2, hfz49_0, hfz49_1, hfz49_2⟩ := bcf3 BK118.out) | ((with_reducible refine gate_callee (f := 60) rfl ?_); refine goesL_ (some 68) rfl rfl Try.func60 (by kernel_rfl) rfl #[.int .i64 x9_3, .int .i64 ((rd_T24 x6_1 x60_3).f1)] rfl z3_ ?_; (with_reducible refine (impl_AddInts.calls x9_3 ((rd_T24 x6_1 x60_3).f1) t119 t120 _ A45.out).mono ?_); rintro e w' ⟨rfl, ⟨nd, rfl⟩⟩; refine ⟨_, rfl, ?_⟩))
       go_roundg k3
       case measure => have := HK1.out; have := HJ20.out; have := HK3.out; omega
       case rel => exact ⟨(t119), (wrap64 (x60_3 + 1)), (x102000_3), (x102001_3), (x102002_3), z12_, z12_, H', ⟨by have := HK1.out; have := HJ20.out; have := HK3.out; omega⟩, ⟨by (with_reducible repeat (first | apply Kd.R_alloc | apply Kd.R_drewN | apply Kd.R_drew)); exact Kd.R_mono (Kd.R_far (p := ⟨gb118, 2, none⟩) (Kd.R_far (p := ⟨gb118, 1, none⟩) (Kd.R_far (p := ⟨gb118, 0, none⟩) (Kd.R_mono HO_58.out (fun k_ hk => (⟨hk, hk.2⟩ : _ ∧ k_ ≠ gb118))) (fun _ hk => hk.2) (.int .i64 ((rd_T24 x6_1 x60_3).f0))) (fun _ hk => hk.2) (.int .i64 ((rd_T24 x6_1 x60_3).f1))) (fun _ hk => hk.2) (.string ((rd_T24 x6_1 x60_3).f2))) (fun _ hk => hk.1.1)⟩, ⟨by (with_reducible repeat (first | refine blk_drewN ?_ _ | refine blk_drew ?_ | refine blk_alloc ?_ _)); refine blk_far ?_ NB101_118.out _; (with_reducible repeat (first | refine blk_drewN ?_ _ | refine blk_drew ?_ | refine blk_alloc ?_ _)); refine blk_far ?_ NB101_118.out _; (with_reducible repeat (first | refine blk_drewN ?_ _ | refine blk_drew ?_ | refine blk_alloc ?_ _)); refine blk_far ?_ NB101_118.out _; (with_reducible repeat (first | refine blk_drewN ?_ _ | refine blk_drew ?_ | refine blk_alloc ?_ _)); exact BK101.out⟩, ⟨z91_⟩⟩
end

section
/-! ### impl_within: function 33 -/
def impl_within.f (a0 : Int) (a1 : Int) (a2 : Int) : Option (Bool) := if a0 ≥ a1 then (some (decide (a0 ≤ a2))) else (some false)
theorem impl_within.calls (a0 : Int) (a1 : Int) (a2 : Int) (r : Bool) (w : World) (h : impl_within.f a0 a1 a2 = some r) :
  Calls Try.prog 33 #[.int .i64 a0, .int .i64 a1, .int .i64 a2] w fun e w' => e = .returned (.bool r) ∧ Drawn0 w w' := by
 have H : (if a0 ≥ a1 then (some (decide (a0 ≤ a2))) else (some false)) = some r := h
 clear h
 by_cases c4 : a0 ≥ a1
 ·rw [if_pos c4] at H
  have c4b0 : decide (a1 ≤ a0) = true := decide_eq_true c4
  clear c4
  obtain rfl := Option.some.inj H
  go_enter Try.func33, Try.ntmps33
  go_wp2
  go_ret
  exact ⟨z12_, z26_⟩
 rw [if_neg c4] at H
 have c4b0 : decide (a1 ≤ a0) = false := decide_eq_false c4
 clear c4
 obtain rfl := Option.some.inj H
 go_enter Try.func33, Try.ntmps33
 go_wp2
 go_ret
 exact ⟨z12_, z26_⟩
end

section
/-! ### impl_hasText: function 34 -/
def impl_hasText.f (a0 : Int) : Option (Bool) := if a0 = 3 then (some true) else (some (a0 == 4))
theorem impl_hasText.calls (a0 : Int) (r : Bool) (w : World) (h : impl_hasText.f a0 = some r) :
  Calls Try.prog 34 #[.int .i64 a0] w fun e w' => e = .returned (.bool r) ∧ Drawn0 w w' := by
 have H : (if a0 = 3 then (some true) else (some (a0 == 4))) = some r := h
 clear h
 by_cases c2 : a0 = 3
 rotate_left
 ·rw [if_neg c2] at H
  have c2b0 : (a0 == 3) = false := beq_eq_false_iff_ne.mpr c2
  have c2b1 : (a0 != 3) = true := bne_iff_ne.mpr c2
  obtain rfl := Option.some.inj H
  go_enter Try.func34, Try.ntmps34
  go_wp2
  go_ret
  exact ⟨z12_, z26_⟩

 rw [if_pos c2] at H
 have c2b0 : (a0 == 3) = true := beq_iff_eq.mpr c2
 have c2b1 : (a0 != 3) = false := bne_eq_false_iff_eq.mpr c2
 clear c2
 obtain rfl := Option.some.inj H
 go_enter Try.func34, Try.ntmps34
 go_wp2
 go_ret
 exact ⟨z12_, z26_⟩
end

section
/-! ### impl_ValueOK: function 14 -/
def impl_ValueOK.f (a0_0 : Int) (a0_1 : Int) (a0_2 : ByteArray) : Option (Bool) := if a0_0 = 0 then (if a0_1 = 0 then (some (a0_2.toList == ([] : List UInt8))) else (some false)) else (if a0_0 = 1 then ((impl_within.f a0_1 0 1).bind fun t102 => (if t102 = true then (some (a0_2.toList == ([] : List UInt8))) else (some false))) else (if a0_0 = 2 then (some (a0_2.toList == ([] : List UInt8))) else ((impl_hasText.f a0_0).bind fun t103 => (if t103 = true then (if a0_1 = 0 then (some (decide ((a0_2.size : Int) ≤ 60))) else (some false)) else (some false)))))
theorem impl_ValueOK.calls (a0_0 : Int) (a0_1 : Int) (a0_2 : ByteArray) (r : Bool) (w : World) (h : impl_ValueOK.f a0_0 a0_1 a0_2 = some r) :
  Calls Try.prog 14 #[.agg #[.int .i64 a0_0, .int .i64 a0_1, .string a0_2]] w fun e w' => e = .returned (.bool r) ∧ Below w.heap.size w w' := by
 have hu24 := Try.underlying24
 have HB := ak_ (Below.refl w.heap.size w)
 have H := h
 unfold impl_ValueOK.f at H
 clear h
 by_cases c2 : a0_0 = 0
 ·rw [if_pos c2] at H
  have c2b0 : (a0_0 == 0) = true := beq_iff_eq.mpr c2
  have c2b1 : (a0_0 != 0) = false := bne_eq_false_iff_eq.mpr c2
  clear c2
  by_cases c3 : a0_1 = 0
  ·rw [if_pos c3] at H
   have c3b0 : (a0_1 == 0) = true := beq_iff_eq.mpr c3
   have c3b1 : (a0_1 != 0) = false := bne_eq_false_iff_eq.mpr c3
   clear c3
   obtain rfl := Option.some.inj H
   go_enter Try.func14, Try.ntmps14
   go_wp2_with (first | ((with_reducible refine gate_dst (N := 1) rfl ?_); (try (refine gate_guard (by rfl) ?_; dsimp only)); refine bx_ 1 (cs := #[.int .i64 a0_0, .int .i64 a0_1, .string a0_2]) (t := 24) (h_ := ?_); intro gb101 hg w4 hbox hb; have n_ := a4_ (below_step z0_ hb) (hbox) ((gs_ w hg (below_size z0_))) ((gs_ w hg (below_size z0_))); clear HB; obtain ⟨HB, BK101, GW101, GE101⟩ := n_; clear hb hbox hg; obtain ⟨hcz5_0, hcz5_1, hcz5_2, hfz5_0, hfz5_1, hfz5_2⟩ := bcf3 BK101.out))
   go_ret
   exact ⟨z10_, z1_⟩
  ·rw [if_neg c3] at H
   have c3b0 : (a0_1 == 0) = false := beq_eq_false_iff_ne.mpr c3
   have c3b1 : (a0_1 != 0) = true := bne_iff_ne.mpr c3
   obtain rfl := Option.some.inj H
   go_enter Try.func14, Try.ntmps14
   go_wp2_with (first | ((with_reducible refine gate_dst (N := 1) rfl ?_); (try (refine gate_guard (by rfl) ?_; dsimp only)); refine bx_ 1 (cs := #[.int .i64 a0_0, .int .i64 a0_1, .string a0_2]) (t := 24) (h_ := ?_); intro gb101 hg w6 hbox hb; have n_ := a4_ (below_step z0_ hb) (hbox) ((gs_ w hg (below_size z0_))) ((gs_ w hg (below_size z0_))); clear HB; obtain ⟨HB, BK101, GW101, GE101⟩ := n_; clear hb hbox hg; obtain ⟨hcz7_0, hcz7_1, hcz7_2, hfz7_0, hfz7_1, hfz7_2⟩ := bcf3 BK101.out))
   go_ret
   exact ⟨z10_, z1_⟩
 rw [if_neg c2] at H
 have c2b0 : (a0_0 == 0) = false := beq_eq_false_iff_ne.mpr c2
 have c2b1 : (a0_0 != 0) = true := bne_iff_ne.mpr c2
 by_cases c8 : a0_0 = 1
 ·rw [if_pos c8] at H
  have c8b0 : (a0_0 == 1) = true := beq_iff_eq.mpr c8
  have c8b1 : (a0_0 != 1) = false := bne_eq_false_iff_eq.mpr c8
  clear c8
  replace H := Option.bind_eq_some_iff.mp H
  obtain ⟨t102, A90, H⟩ := H
  have A9 := ak_ A90
  clear A90
  by_cases c10 : t102 = true
  ·subst c10
   have H1 : (some (a0_2.toList == ([] : List UInt8))) = some r := by rw [if_pos rfl] at H; exact H
   clear H
   have H := H1
   clear H1
   obtain rfl := Option.some.inj H
   go_enter Try.func14, Try.ntmps14
   go_wp2_with (first | ((with_reducible refine gate_dst (N := 1) rfl ?_); (try (refine gate_guard (by rfl) ?_; dsimp only)); refine bx_ 1 (cs := #[.int .i64 a0_0, .int .i64 a0_1, .string a0_2]) (t := 24) (h_ := ?_); intro gb101 hg w11 hbox hb; have n_ := a4_ (below_step z0_ hb) (hbox) ((gs_ w hg (below_size z0_))) ((gs_ w hg (below_size z0_))); clear HB; obtain ⟨HB, BK101, GW101, GE101⟩ := n_; clear hb hbox hg; obtain ⟨hcz12_0, hcz12_1, hcz12_2, hfz12_0, hfz12_1, hfz12_2⟩ := bcf3 BK101.out) | ((with_reducible refine gate_callee (f := 33) rfl ?_); refine goesL_ (some 21) rfl rfl Try.func33 (by kernel_rfl) rfl #[.int .i64 a0_1, .int .i64 0, .int .i64 1] rfl z3_ ?_; (with_reducible refine (impl_within.calls a0_1 0 1 true _ A9.out).mono ?_); rintro e w' ⟨rfl, ⟨nd, rfl⟩⟩; refine ⟨_, rfl, ?_⟩))
   go_ret
   exact ⟨z10_, z1_⟩
  ·replace c10 := Bool.eq_false_iff.mpr c10
   subst c10
   have H1 : (some false) = some r := by rw [if_neg (show ¬ (false = true) by decide)] at H; exact H
   clear H
   have H := H1
   clear H1
   obtain rfl := Option.some.inj H
   go_enter Try.func14, Try.ntmps14
   go_wp2_with (first | ((with_reducible refine gate_dst (N := 1) rfl ?_); (try (refine gate_guard (by rfl) ?_; dsimp only)); refine bx_ 1 (cs := #[.int .i64 a0_0, .int .i64 a0_1, .string a0_2]) (t := 24) (h_ := ?_); intro gb101 hg w13 hbox hb; have n_ := a4_ (below_step z0_ hb) (hbox) ((gs_ w hg (below_size z0_))) ((gs_ w hg (below_size z0_))); clear HB; obtain ⟨HB, BK101, GW101, GE101⟩ := n_; clear hb hbox hg; obtain ⟨hcz14_0, hcz14_1, hcz14_2, hfz14_0, hfz14_1, hfz14_2⟩ := bcf3 BK101.out) | ((with_reducible refine gate_callee (f := 33) rfl ?_); refine goesL_ (some 21) rfl rfl Try.func33 (by kernel_rfl) rfl #[.int .i64 a0_1, .int .i64 0, .int .i64 1] rfl z3_ ?_; (with_reducible refine (impl_within.calls a0_1 0 1 false _ A9.out).mono ?_); rintro e w' ⟨rfl, ⟨nd, rfl⟩⟩; refine ⟨_, rfl, ?_⟩))
   go_ret
   exact ⟨z10_, z1_⟩
 rw [if_neg c8] at H
 have c8b0 : (a0_0 == 1) = false := beq_eq_false_iff_ne.mpr c8
 have c8b1 : (a0_0 != 1) = true := bne_iff_ne.mpr c8
 by_cases c15 : a0_0 = 2
 ·rw [if_pos c15] at H
  have c15b0 : (a0_0 == 2) = true := beq_iff_eq.mpr c15
  have c15b1 : (a0_0 != 2) = false := bne_eq_false_iff_eq.mpr c15
  clear c15
  obtain rfl := Option.some.inj H
  go_enter Try.func14, Try.ntmps14
  go_wp2_with (first | ((with_reducible refine gate_dst (N := 1) rfl ?_); (try (refine gate_guard (by rfl) ?_; dsimp only)); refine bx_ 1 (cs := #[.int .i64 a0_0, .int .i64 a0_1, .string a0_2]) (t := 24) (h_ := ?_); intro gb101 hg w16 hbox hb; have n_ := a4_ (below_step z0_ hb) (hbox) ((gs_ w hg (below_size z0_))) ((gs_ w hg (below_size z0_))); clear HB; obtain ⟨HB, BK101, GW101, GE101⟩ := n_; clear hb hbox hg; obtain ⟨hcz17_0, hcz17_1, hcz17_2, hfz17_0, hfz17_1, hfz17_2⟩ := bcf3 BK101.out))
  go_ret
  exact ⟨z10_, z1_⟩
 rw [if_neg c15] at H
 have c15b0 : (a0_0 == 2) = false := beq_eq_false_iff_ne.mpr c15
 have c15b1 : (a0_0 != 2) = true := bne_iff_ne.mpr c15
 replace H := Option.bind_eq_some_iff.mp H
 obtain ⟨t103, A180, H⟩ := H
 have A18 := ak_ A180
 clear A180
 by_cases c19 : t103 = true
 rotate_left
 ·replace c19 := Bool.eq_false_iff.mpr c19
  subst c19
  have H1 : (some false) = some r := by rw [if_neg (show ¬ (false = true) by decide)] at H; exact H
  clear H
  have H := H1
  clear H1
  obtain rfl := Option.some.inj H
  go_enter Try.func14, Try.ntmps14
  go_wp2_with (first | ((with_reducible refine gate_dst (N := 1) rfl ?_); (try (refine gate_guard (by rfl) ?_; dsimp only)); refine bx_ 1 (cs := #[.int .i64 a0_0, .int .i64 a0_1, .string a0_2]) (t := 24) (h_ := ?_); intro gb101 hg w25 hbox hb; have n_ := a4_ (below_step z0_ hb) (hbox) ((gs_ w hg (below_size z0_))) ((gs_ w hg (below_size z0_))); clear HB; obtain ⟨HB, BK101, GW101, GE101⟩ := n_; clear hb hbox hg; obtain ⟨hcz26_0, hcz26_1, hcz26_2, hfz26_0, hfz26_1, hfz26_2⟩ := bcf3 BK101.out) | ((with_reducible refine gate_callee (f := 34) rfl ?_); refine goesL_ (some 36) rfl rfl Try.func34 (by kernel_rfl) rfl #[.int .i64 a0_0] rfl z3_ ?_; (with_reducible refine (impl_hasText.calls a0_0 false _ A18.out).mono ?_); rintro e w' ⟨rfl, ⟨nd, rfl⟩⟩; refine ⟨_, rfl, ?_⟩))
  go_ret
  exact ⟨z10_, z1_⟩

 subst c19
 have H1 : (if a0_1 = 0 then (some (decide ((a0_2.size : Int) ≤ 60))) else (some false)) = some r := by rw [if_pos rfl] at H; exact H
 clear H
 have H := H1
 clear H1
 by_cases c20 : a0_1 = 0
 rotate_left
 ·rw [if_neg c20] at H
  have c20b0 : (a0_1 == 0) = false := beq_eq_false_iff_ne.mpr c20
  have c20b1 : (a0_1 != 0) = true := bne_iff_ne.mpr c20
  obtain rfl := Option.some.inj H
  go_enter Try.func14, Try.ntmps14
  go_wp2_with (first | ((with_reducible refine gate_dst (N := 1) rfl ?_); (try (refine gate_guard (by rfl) ?_; dsimp only)); refine bx_ 1 (cs := #[.int .i64 a0_0, .int .i64 a0_1, .string a0_2]) (t := 24) (h_ := ?_); intro gb101 hg w23 hbox hb; have n_ := a4_ (below_step z0_ hb) (hbox) ((gs_ w hg (below_size z0_))) ((gs_ w hg (below_size z0_))); clear HB; obtain ⟨HB, BK101, GW101, GE101⟩ := n_; clear hb hbox hg; obtain ⟨hcz24_0, hcz24_1, hcz24_2, hfz24_0, hfz24_1, hfz24_2⟩ := bcf3 BK101.out) | ((with_reducible refine gate_callee (f := 34) rfl ?_); refine goesL_ (some 36) rfl rfl Try.func34 (by kernel_rfl) rfl #[.int .i64 a0_0] rfl z3_ ?_; (with_reducible refine (impl_hasText.calls a0_0 true _ A18.out).mono ?_); rintro e w' ⟨rfl, ⟨nd, rfl⟩⟩; refine ⟨_, rfl, ?_⟩))
  go_ret
  exact ⟨z10_, z1_⟩
 rw [if_pos c20] at H
 have c20b0 : (a0_1 == 0) = true := beq_iff_eq.mpr c20
 have c20b1 : (a0_1 != 0) = false := bne_eq_false_iff_eq.mpr c20
 clear c20
 obtain rfl := Option.some.inj H
 go_enter Try.func14, Try.ntmps14
 go_wp2_with (first | ((with_reducible refine gate_dst (N := 1) rfl ?_); (try (refine gate_guard (by rfl) ?_; dsimp only)); refine bx_ 1 (cs := #[.int .i64 a0_0, .int .i64 a0_1, .string a0_2]) (t := 24) (h_ := ?_); intro gb101 hg w21 hbox hb; have n_ := a4_ (below_step z0_ hb) (hbox) ((gs_ w hg (below_size z0_))) ((gs_ w hg (below_size z0_))); clear HB; obtain ⟨HB, BK101, GW101, GE101⟩ := n_; clear hb hbox hg; obtain ⟨hcz22_0, hcz22_1, hcz22_2, hfz22_0, hfz22_1, hfz22_2⟩ := bcf3 BK101.out) | ((with_reducible refine gate_callee (f := 34) rfl ?_); refine goesL_ (some 36) rfl rfl Try.func34 (by kernel_rfl) rfl #[.int .i64 a0_0] rfl z3_ ?_; (with_reducible refine (impl_hasText.calls a0_0 true _ A18.out).mono ?_); rintro e w' ⟨rfl, ⟨nd, rfl⟩⟩; refine ⟨_, rfl, ?_⟩))
 go_ret
 exact ⟨z10_, z1_⟩
end

end Go.Proofs.Ytfbclbbhomhfaaa.X
end
